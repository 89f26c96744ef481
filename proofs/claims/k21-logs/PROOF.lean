import PyProof.Rows.All
import Wide.All
import OpenK.AllK
import Wide.FinOn
import HandS.ForMost
import HandS.Deep
import HandS.TupAny
import KE.DataEq
import KE.KDictKeyed
import KE.KDictLaw
import PySem.Challenge.RW_mustercall_k21_whole_logs_are_prefixes
set_option Elab.async false
set_option linter.all false
set_option maxRecDepth 100000
set_option maxHeartbeats 4000000
/-! The plain law of k21: logs, letters, events, rounds. No program in sight. -/
namespace K21
section
variable {P : Type}

/-- sender (its place among the members), index, payload -/
abbrev Msg (P : Type) := Nat × Nat × P
/-- the index of the last message of k in the log, or 0 -/
def lastIx (log : List (Msg P)) (k : Nat) : Nat := log.foldl (fun a m => if m.1 = k then m.2.1 else a) 0
theorem lastIx_nil (k : Nat) : lastIx ([] : List (Msg P)) k = 0 := rfl
theorem lastIx_snoc (log : List (Msg P)) (m : Msg P) (k : Nat) : lastIx (log ++ [m]) k = if m.1 = k then m.2.1 else lastIx log k := by
  unfold lastIx
  rw [List.foldl_append]
  rfl
inductive Let (P : Type) where
  | cast (k idx : Nat) (p : P)
  | ord (place : Nat) (m : Msg P)
abbrev Pkt (P : Type) := Nat × Let P

def fu {α : Type} (f : Nat → α) (k : Nat) (v : α) : Nat → α := fun j => if j = k then v else f j
theorem fu_same {α : Type} (f : Nat → α) (k : Nat) (v : α) : fu f k v k = v := if_pos rfl
theorem fu_ne {α : Type} (f : Nat → α) {k j : Nat} (v : α) (h : j ≠ k) : fu f k v j = f j := if_neg h

structure St (P : Type) where
  log : Nat → List (Msg P)
  own : Nat → List P
  cau : Nat → Nat → Nat
  cnt : Nat → Nat

/-- what a log of the law must keep -/
def Sound (n : Nat) (own : Nat → List P) (cau : Nat → Nat → Nat) (L : List (Msg P)) : Prop :=
  ∀ (i : Nat) (m : Msg P), L[i]? = some m → m.1 < n ∧ m.2.1 = lastIx (L.take i) m.1 + 1 ∧ (own m.1)[m.2.1 - 1]? = some m.2.2 ∧ cau m.1 m.2.1 ≤ i

theorem take_of_prefix {α : Type} {l L : List α} (h : l <+: L) {i : Nat} (hi : i ≤ l.length) : l.take i = L.take i := by
  obtain ⟨r, rfl⟩ := h
  rw [List.take_append_of_le_length hi]
theorem get_of_prefix {α : Type} {l L : List α} (h : l <+: L) {i : Nat} {x : α} (e : l[i]? = some x) : L[i]? = some x := by
  obtain ⟨r, rfl⟩ := h
  obtain ⟨hi, _⟩ := List.getElem?_eq_some_iff.mp e
  rw [List.getElem?_append_left hi]
  exact e
theorem Sound.prefix {n : Nat} {own : Nat → List P} {cau : Nat → Nat → Nat} {l L : List (Msg P)} (S : Sound n own cau L) (h : l <+: L) : Sound n own cau l := by
  intro i m e
  obtain ⟨hi, _⟩ := List.getElem?_eq_some_iff.mp e
  have q := S i m (get_of_prefix h e)
  rw [take_of_prefix h (Nat.le_of_lt hi)]
  exact q
theorem Sound.own_mono {n : Nat} {own own' : Nat → List P} {cau cau' : Nat → Nat → Nat} {L : List (Msg P)} (S : Sound n own cau L) (h : ∀ k, own k <+: own' k)
    (hc : ∀ k i, 1 ≤ i → i ≤ (own k).length → cau' k i = cau k i) : Sound n own' cau' L := by
  intro i m e
  obtain ⟨h1, h2, h3, h4⟩ := S i m e
  obtain ⟨h5, _⟩ := List.getElem?_eq_some_iff.mp h3
  refine ⟨h1, h2, get_of_prefix (h m.1) h3, ?_⟩
  rw [hc m.1 m.2.1 (by omega) (by omega)]
  exact h4
theorem Sound.snoc {n : Nat} {own : Nat → List P} {cau : Nat → Nat → Nat} {L : List (Msg P)} (S : Sound n own cau L) {m : Msg P} (h1 : m.1 < n) (h2 : m.2.1 = lastIx L m.1 + 1)
    (h3 : (own m.1)[m.2.1 - 1]? = some m.2.2) (h4 : cau m.1 m.2.1 ≤ L.length) : Sound n own cau (L ++ [m]) := by
  intro i x e
  by_cases hi : i < L.length
  · rw [List.getElem?_append_left hi] at e
    rw [List.take_append_of_le_length (Nat.le_of_lt hi)]
    exact S i x e
  · have hl : i < (L ++ [m]).length := (List.getElem?_eq_some_iff.mp e).1
    rw [List.length_append, List.length_singleton] at hl
    have ei : i = L.length := by omega
    subst ei
    rw [List.getElem?_append_right (Nat.le_refl _), Nat.sub_self] at e
    have ex : m = x := Option.some.inj e
    subst ex
    rw [List.take_left]
    exact ⟨h1, h2, h3, h4⟩
/-- induction from the right -/
theorem snoc_ind {α : Type} {Q : List α → Prop} (h0 : Q []) (hs : ∀ l x, Q l → Q (l ++ [x])) (l : List α) : Q l := by
  have : ∀ k (l : List α), l.length = k → Q l := by
    intro k
    induction k with
    | zero => intro l h; rw [List.length_eq_zero_iff.mp h]; exact h0
    | succ k ih =>
      intro l h
      have hne : l ≠ [] := fun e => by rw [e] at h; cases h
      rw [← List.dropLast_concat_getLast hne]
      exact hs _ _ (ih _ (by rw [List.length_dropLast, h]; rfl))
  exact this _ l rfl
theorem Sound.last_le {n : Nat} {own : Nat → List P} {cau : Nat → Nat → Nat} : ∀ {L : List (Msg P)}, Sound n own cau L → ∀ k, lastIx L k ≤ (own k).length := by
  intro L
  induction L using snoc_ind with
  | h0 => intro _ k; exact Nat.zero_le _
  | hs l x ih =>
    intro S k
    rw [lastIx_snoc]
    split
    · rename_i e
      have q := S l.length x (by rw [List.getElem?_append_right (Nat.le_refl _), Nat.sub_self]; rfl)
      obtain ⟨h5, _⟩ := List.getElem?_eq_some_iff.mp q.2.2.1
      rw [e] at h5
      omega
    · exact ih (S.prefix ⟨[x], rfl⟩) k
theorem Sound.last_mono {n : Nat} {own : Nat → List P} {cau : Nat → Nat → Nat} : ∀ {L : List (Msg P)}, Sound n own cau L → ∀ {l : List (Msg P)}, l <+: L → ∀ k, lastIx l k ≤ lastIx L k := by
  intro L
  induction L using snoc_ind with
  | h0 => intro _ l h k; rw [List.prefix_nil.mp h]; exact Nat.le_refl _
  | hs L x ih =>
    intro S l h k
    rcases List.prefix_concat_iff.mp h with e | h
    · rw [e]
      exact Nat.le_refl _
    · refine Nat.le_trans (ih (S.prefix ⟨[x], rfl⟩) h k) ?_
      rw [lastIx_snoc]
      split
      · rename_i e
        have q := S L.length x (by rw [List.getElem?_append_right (Nat.le_refl _), Nat.sub_self]; rfl)
        rw [List.take_left, e] at q
        omega
      · exact Nat.le_refl _

/-! ### sums over the members -/
def tot (n : Nat) (f : Nat → Nat) : Nat := ((List.range n).map f).sum
theorem tot_zero (f : Nat → Nat) : tot 0 f = 0 := rfl
theorem tot_succ (n : Nat) (f : Nat → Nat) : tot (n + 1) f = tot n f + f n := by
  unfold tot
  rw [List.range_succ, List.map_append, List.sum_append]
  simp
theorem tot_congr {n : Nat} {f g : Nat → Nat} (h : ∀ k, k < n → f k = g k) : tot n f = tot n g := by
  induction n with
  | zero => rfl
  | succ n ih => rw [tot_succ, tot_succ, ih fun k hk => h k (by omega), h n (by omega)]
theorem tot_bump {n : Nat} {f g : Nat → Nat} {a : Nat} (ha : a < n) (h1 : g a = f a + 1) (h2 : ∀ k, k ≠ a → g k = f k) : tot n g = tot n f + 1 := by
  induction n with
  | zero => omega
  | succ n ih =>
    rw [tot_succ, tot_succ]
    by_cases e : a = n
    · subst e
      rw [h1, tot_congr fun k hk => h2 k (by omega)]
      omega
    · rw [ih (by omega), h2 n (fun q => e q.symm)]
      omega
theorem tot_le {n : Nat} {f : Nat → Nat} {c : Nat} (h : ∀ k, k < n → f k ≤ c) : tot n f ≤ n * c := by
  induction n with
  | zero => exact Nat.zero_le _
  | succ n ih =>
    rw [tot_succ, Nat.succ_mul]
    exact Nat.add_le_add (ih fun k hk => h k (by omega)) (h n (by omega))
theorem tot_mono {n : Nat} {f g : Nat → Nat} (h : ∀ k, k < n → f k ≤ g k) : tot n f ≤ tot n g := by
  induction n with
  | zero => exact Nat.le_refl _
  | succ n ih =>
    rw [tot_succ, tot_succ]
    exact Nat.add_le_add (ih fun k hk => h k (by omega)) (h n (by omega))
theorem Sound.len {n : Nat} {own : Nat → List P} {cau : Nat → Nat → Nat} : ∀ {L : List (Msg P)}, Sound n own cau L → L.length = tot n (lastIx L) := by
  intro L
  induction L using snoc_ind with
  | h0 =>
    intro _
    have : tot n (lastIx ([] : List (Msg P))) ≤ n * 0 := tot_le fun k _ => Nat.le_refl _
    simp at this
    rw [this]
    rfl
  | hs l x ih =>
    intro S
    have q := S l.length x (by rw [List.getElem?_append_right (Nat.le_refl _), Nat.sub_self]; rfl)
    rw [List.take_left] at q
    rw [List.length_append, List.length_singleton, ih (S.prefix ⟨[x], rfl⟩)]
    refine (tot_bump q.1 ?_ fun k hk => ?_).symm
    · rw [lastIx_snoc, if_pos rfl]
      exact q.2.1
    · rw [lastIx_snoc, if_neg fun e => hk e.symm]

/-! ### the invariant -/
structure Ok (n : Nat) (s : St P) : Prop where
  pre : ∀ k, k < n → s.log k <+: s.log 0
  snd : Sound n s.own s.cau (s.log 0)
  cau : ∀ k i, k < n → lastIx (s.log 0) k < i → i ≤ (s.own k).length → s.cau k i ≤ (s.log 0).length
  own0 : lastIx (s.log 0) 0 = (s.own 0).length
  own8 : ∀ k, (s.own k).length ≤ 8
  cnt : ∀ k, k < n → s.cnt k ≤ (s.log k).length
/-- what may be in flight -/
def Good (n : Nat) (s : St P) : Pkt P → Prop
  | (to, .cast k i p) => to = 0 ∧ 1 ≤ k ∧ k < n ∧ 1 ≤ i ∧ (s.own k)[i - 1]? = some p
  | (to, .ord place m) => 1 ≤ to ∧ to < n ∧ 1 ≤ place ∧ (s.log 0)[place - 1]? = some m
/-- logs and casts only grow -/
structure Grow (s t : St P) : Prop where
  log : ∀ k, s.log k <+: t.log k
  own : ∀ k, s.own k <+: t.own k
theorem Grow.refl (s : St P) : Grow s s := ⟨fun _ => List.prefix_refl _, fun _ => List.prefix_refl _⟩
theorem Grow.trans {s t u : St P} (a : Grow s t) (b : Grow t u) : Grow s u := ⟨fun k => (a.log k).trans (b.log k), fun k => (a.own k).trans (b.own k)⟩
theorem Good.grow {n : Nat} {s t : St P} (g : Grow s t) : ∀ {q : Pkt P}, Good n s q → Good n t q
  | (_, .cast k _ _), h => ⟨h.1, h.2.1, h.2.2.1, h.2.2.2.1, get_of_prefix (g.own k) h.2.2.2.2⟩
  | (_, .ord _ _), h => ⟨h.1, h.2.1, h.2.2.1, get_of_prefix (g.log 0) h.2.2.2⟩
theorem Ok.sound {n : Nat} {s : St P} (h : Ok n s) {k : Nat} (hk : k < n) : Sound n s.own s.cau (s.log k) := h.snd.prefix (h.pre k hk)
theorem Ok.len {n : Nat} {s : St P} (h : Ok n s) : (s.log 0).length ≤ n * 8 := by
  rw [h.snd.len]
  exact tot_le fun k _ => Nat.le_trans (h.snd.last_le k) (h.own8 k)
theorem Ok.lenk {n : Nat} {s : St P} (h : Ok n s) {k : Nat} (hk : k < n) : (s.log k).length ≤ n * 8 := Nat.le_trans (h.pre k hk).length_le h.len

/-- the start -/
def st0 : St P := ⟨fun _ => [], fun _ => [], fun _ _ => 0, fun _ => 0⟩
theorem ok0 (n : Nat) : Ok n (st0 : St P) :=
  ⟨fun _ _ => List.prefix_refl _, fun i m e => by simp [st0] at e, fun _ _ _ _ _ => Nat.zero_le _, rfl, fun _ => Nat.zero_le _, fun _ _ => Nat.zero_le _⟩

/-- a message is appended to the founder's log -/
def St.app (s : St P) (m : Msg P) : St P := { s with log := fu s.log 0 (s.log 0 ++ [m]) }
/-- k's log has become l -/
def St.setLog (s : St P) (k : Nat) (l : List (Msg P)) : St P := { s with log := fu s.log k l }
/-- k casts p -/
def St.cast (s : St P) (k : Nat) (p : P) : St P :=
  { s with own := fu s.own k (s.own k ++ [p]), cau := fun j i => if j = k ∧ i = (s.own k).length + 1 then (s.log k).length else s.cau j i }
def St.heard (s : St P) (k c : Nat) : St P := { s with cnt := fu s.cnt k (max c (s.cnt k)) }

theorem pre_snoc {α : Type} (l : List α) (x : α) : l <+: l ++ [x] := ⟨[x], rfl⟩
theorem fu_pre {α : Type} (f : Nat → List α) (k : Nat) (v : List α) (h : f k <+: v) (j : Nat) : f j <+: fu f k v j := by
  by_cases e : j = k
  · subst e; rw [fu_same]; exact h
  · rw [fu_ne _ _ e]; exact List.prefix_refl _
theorem grow_app (s : St P) (m : Msg P) : Grow s (s.app m) := ⟨fu_pre _ _ _ (pre_snoc _ _), fun _ => List.prefix_refl _⟩
theorem grow_setLog (s : St P) (k : Nat) (l : List (Msg P)) (h : s.log k <+: l) : Grow s (s.setLog k l) := ⟨fu_pre _ _ _ h, fun _ => List.prefix_refl _⟩
theorem grow_cast (s : St P) (k : Nat) (p : P) : Grow s (s.cast k p) := ⟨fun _ => List.prefix_refl _, fu_pre _ _ _ (pre_snoc _ _)⟩
theorem grow_heard (s : St P) (k c : Nat) : Grow s (s.heard k c) := ⟨fun _ => List.prefix_refl _, fun _ => List.prefix_refl _⟩

/-- what Ok says but own0 -/
structure Ok' (n : Nat) (s : St P) : Prop where
  pre : ∀ k, k < n → s.log k <+: s.log 0
  snd : Sound n s.own s.cau (s.log 0)
  cau : ∀ k i, k < n → lastIx (s.log 0) k < i → i ≤ (s.own k).length → s.cau k i ≤ (s.log 0).length
  own8 : ∀ k, (s.own k).length ≤ 8
  cnt : ∀ k, k < n → s.cnt k ≤ (s.log k).length
theorem Ok.weak {n : Nat} {s : St P} (h : Ok n s) : Ok' n s := ⟨h.pre, h.snd, h.cau, h.own8, h.cnt⟩
theorem Ok'.cast {n : Nat} {s : St P} (h : Ok' n s) {k : Nat} (hk : k < n) {p : P} (h8 : (s.own k).length < 8) : Ok' n (s.cast k p) := by
  refine ⟨h.pre, h.snd.own_mono (fun j => (grow_cast s k p).own j) fun j i h1 h2 => ?_, fun j i hj h1 h2 => ?_, fun j => ?_, h.cnt⟩
  · show (if j = k ∧ i = (s.own k).length + 1 then (s.log k).length else s.cau j i) = _
    rw [if_neg]
    rintro ⟨rfl, rfl⟩
    omega
  · show (if j = k ∧ i = (s.own k).length + 1 then (s.log k).length else s.cau j i) ≤ _
    split
    · exact (h.pre k hk).length_le
    · rename_i hn
      refine h.cau j i hj h1 ?_
      by_cases e : j = k
      · subst e
        have h2' : i ≤ (fu s.own j (s.own j ++ [p]) j).length := h2
        rw [fu_same, List.length_append, List.length_singleton] at h2'
        have : i ≠ (s.own j).length + 1 := fun q => hn ⟨rfl, q⟩
        omega
      · have h2' : i ≤ (fu s.own k (s.own k ++ [p]) j).length := h2
        rw [fu_ne _ _ e] at h2'
        exact h2'
  · show (fu s.own k (s.own k ++ [p]) j).length ≤ 8
    by_cases e : j = k
    · subst e
      rw [fu_same, List.length_append, List.length_singleton]
      omega
    · rw [fu_ne _ _ e]
      exact h.own8 j
theorem Ok'.app {n : Nat} {s : St P} (h : Ok' n s) {k i : Nat} {p : P} (hk : k < n) (hi : i = lastIx (s.log 0) k + 1) (hp : (s.own k)[i - 1]? = some p) : Ok' n (s.app (k, i, p)) := by
  have hl : i - 1 < (s.own k).length := (List.getElem?_eq_some_iff.mp hp).1
  have e0 : (s.app (k, i, p)).log 0 = s.log 0 ++ [(k, i, p)] := fu_same s.log 0 (s.log 0 ++ [(k, i, p)])
  refine ⟨fun j hj => ?_, ?_, fun j x hj h1 h2 => ?_, h.own8, fun j hj => ?_⟩
  · rw [e0]
    by_cases e : j = 0
    · subst e; rw [e0]; exact List.prefix_refl _
    · show fu s.log 0 _ j <+: _
      rw [fu_ne _ _ e]
      exact (h.pre j hj).trans (pre_snoc _ _)
  · rw [e0]
    exact h.snd.snoc hk hi hp (h.cau k i hk (by omega) (by omega))
  · rw [e0] at h1 ⊢
    rw [List.length_append, List.length_singleton]
    refine Nat.le_trans (h.cau j x hj ?_ h2) (by omega)
    rw [lastIx_snoc] at h1
    split at h1
    · rename_i e
      simp only at e
      subst e
      simp only at h1
      omega
    · exact h1
  · exact Nat.le_trans (h.cnt j hj) ((grow_app s _).log j).length_le
/-- the founder casts -/
theorem Ok.cast0 {n : Nat} {s : St P} (h : Ok n s) (hn : 0 < n) {p : P} (h8 : (s.own 0).length < 8) : Ok n ((s.cast 0 p).app (0, (s.own 0).length + 1, p)) := by
  have a := h.weak.cast hn (p := p) h8
  have eo : (s.cast 0 p).own 0 = s.own 0 ++ [p] := fu_same s.own 0 (s.own 0 ++ [p])
  have b := a.app (k := 0) (i := (s.own 0).length + 1) (p := p) hn (by show _ = lastIx (s.log 0) 0 + 1; rw [h.own0]) (by rw [eo]; simp)
  refine ⟨b.pre, b.snd, b.cau, ?_, b.own8, b.cnt⟩
  show lastIx (fu s.log 0 (s.log 0 ++ [(0, (s.own 0).length + 1, p)]) 0) 0 = ((s.cast 0 p).own 0).length
  rw [fu_same, lastIx_snoc, eo, List.length_append]
  simp
/-- another member casts -/
theorem Ok.castK {n : Nat} {s : St P} (h : Ok n s) {k : Nat} (hk : k < n) (h0 : k ≠ 0) {p : P} (h8 : (s.own k).length < 8) : Ok n (s.cast k p) := by
  have a := h.weak.cast hk (p := p) h8
  refine ⟨a.pre, a.snd, a.cau, ?_, a.own8, a.cnt⟩
  show lastIx (s.log 0) 0 = (fu s.own k (s.own k ++ [p]) 0).length
  rw [fu_ne _ _ (fun e => h0 e.symm)]
  exact h.own0
/-- the founder takes a cast -/
theorem Ok.takeCast {n : Nat} {s : St P} (h : Ok n s) {k i : Nat} {p : P} (hk : k < n) (h0 : k ≠ 0) (hi : i = lastIx (s.log 0) k + 1) (hp : (s.own k)[i - 1]? = some p) : Ok n (s.app (k, i, p)) := by
  have b := h.weak.app hk hi hp
  refine ⟨b.pre, b.snd, b.cau, ?_, b.own8, b.cnt⟩
  show lastIx (fu s.log 0 (s.log 0 ++ [(k, i, p)]) 0) 0 = (s.own 0).length
  rw [fu_same, lastIx_snoc, if_neg (by simpa using h0)]
  exact h.own0
/-- another member's log grows -/
theorem Ok.setLog {n : Nat} {s : St P} (h : Ok n s) {k : Nat} {l : List (Msg P)} (h0 : k ≠ 0) (h1 : s.log k <+: l) (h2 : l <+: s.log 0) : Ok n (s.setLog k l) := by
  have e0 : (s.setLog k l).log 0 = s.log 0 := fu_ne _ _ (fun e => h0 e.symm)
  refine ⟨fun j hj => ?_, by rw [e0]; exact h.snd, by rw [e0]; exact h.cau, by rw [e0]; exact h.own0, h.own8, fun j hj => Nat.le_trans (h.cnt j hj) ((grow_setLog s k l h1).log j).length_le⟩
  rw [e0]
  by_cases e : j = k
  · subst e
    show fu s.log j l j <+: _
    rw [fu_same]
    exact h2
  · show fu s.log k l j <+: _
    rw [fu_ne _ _ e]
    exact h.pre j hj
theorem Ok.heard {n : Nat} {s : St P} (h : Ok n s) {k c : Nat} (hc : c ≤ (s.log k).length) : Ok n (s.heard k c) := by
  refine ⟨h.pre, h.snd, h.cau, h.own0, h.own8, fun j hj => ?_⟩
  show fu s.cnt k (max c (s.cnt k)) j ≤ (s.log j).length
  by_cases e : j = k
  · subst e
    rw [fu_same]
    exact Nat.max_le.mpr ⟨hc, h.cnt j hj⟩
  · rw [fu_ne _ _ e]
    exact h.cnt j hj

/-! ### the rounds at the end -/
/-- the letter has been taken and had its effect -/
def Done (s : St P) : Pkt P → Prop
  | (_, .cast k i _) => i ≤ lastIx (s.log 0) k
  | (to, .ord place _) => place ≤ (s.log to).length
/-- the letter would have its effect -/
def Ripe (s : St P) : Pkt P → Prop
  | (_, .cast k i _) => i ≤ lastIx (s.log 0) k + 1
  | (to, .ord place _) => place ≤ (s.log to).length + 1
theorem Done.grow {n : Nat} {s t : St P} (g : Grow s t) (h : Sound n t.own t.cau (t.log 0)) : ∀ {q : Pkt P}, Done s q → Done t q
  | (_, .cast k _ _), d => Nat.le_trans d (h.last_mono (g.log 0) k)
  | (to, .ord _ _), d => Nat.le_trans d (g.log to).length_le
theorem Ripe.grow {n : Nat} {s t : St P} (g : Grow s t) (h : Sound n t.own t.cau (t.log 0)) : ∀ {q : Pkt P}, Ripe s q → Ripe t q
  | (_, .cast k _ _), d => Nat.le_trans d (Nat.succ_le_succ (h.last_mono (g.log 0) k))
  | (to, .ord _ _), d => Nat.le_trans d (Nat.succ_le_succ (g.log to).length_le)
/-- one letter is taken: from s to t -/
structure Took (n : Nat) (s t : St P) (q : Pkt P) : Prop where
  ok : Ok n t
  grow : Grow s t
  own : t.own = s.own
  done : Ripe s q → Done t q
/-- the letter that must have been taken ahead -/
def Prev : Pkt P → Pkt P → Prop
  | (_, .cast k i _), q => ∃ to p, q = (to, .cast k (i - 1) p)
  | (to, .ord place _), q => ∃ m, q = (to, .ord (place - 1) m)
/-- each letter of the bag is ripe at s, or its forerunner stands ahead of it -/
def Lined (s : St P) (bag : List (Pkt P)) : Prop := ∀ (i : Nat) (q : Pkt P), bag[i]? = some q → Ripe s q ∨ ∃ (j : Nat) (q' : Pkt P), j < i ∧ bag[j]? = some q' ∧ Prev q q'
theorem Prev.ripe {s : St P} : ∀ {q q' : Pkt P}, Prev q q' → Done s q' → Ripe s q
  | (_, .cast k i _), _, ⟨to, p, e⟩, d => by
    subst e
    have d' : i - 1 ≤ lastIx (s.log 0) k := d
    show i ≤ lastIx (s.log 0) k + 1
    omega
  | (to, .ord place _), _, ⟨m, e⟩, d => by
    subst e
    have d' : place - 1 ≤ (s.log to).length := d
    show place ≤ (s.log to).length + 1
    omega
/-- behind the first i letters of the bag -/
structure Mid (n : Nat) (s t : St P) (bag : List (Pkt P)) (i : Nat) : Prop where
  ok : Ok n t
  grow : Grow s t
  own : t.own = s.own
  done : ∀ (j : Nat) (q : Pkt P), j < i → bag[j]? = some q → Done t q
theorem Mid.start {n : Nat} {s : St P} (h : Ok n s) (bag : List (Pkt P)) : Mid n s s bag 0 := ⟨h, Grow.refl s, rfl, fun _ _ hj => absurd hj (Nat.not_lt_zero _)⟩
theorem Mid.step {n : Nat} {s t u : St P} {bag : List (Pkt P)} {i : Nat} {q : Pkt P} (M : Mid n s t bag i) (L : Lined s bag) (e : bag[i]? = some q) (T : Took n t u q) : Mid n s u bag (i + 1) := by
  refine ⟨T.ok, M.grow.trans T.grow, T.own.trans M.own, fun j q' hj ej => ?_⟩
  by_cases hji : j < i
  · exact (M.done j q' hji ej).grow T.grow T.ok.snd
  · have : j = i := by omega
    subst this
    have eq : q = q' := Option.some.inj (e.symm.trans ej)
    subst eq
    refine T.done ?_
    rcases L j q e with h | ⟨j', q', hj', e', hp⟩
    · exact h.grow M.grow M.ok.snd
    · exact hp.ripe (M.done j' q' hj' e')

/-- how far the rounds have come -/
structure Far (n : Nat) (s : St P) (r : Nat) : Prop where
  all : 1 ≤ r → ∀ k, k < n → lastIx (s.log 0) k = (s.own k).length
  far : ∀ k, k < n → min (s.log 0).length (16 * (r - 1)) ≤ (s.log k).length
theorem far0 (n : Nat) (s : St P) : Far n s 0 := ⟨fun h => absurd h (by decide), fun k _ => by simp⟩
/-- what the bag of a round holds: the missing places of each member's log (16 of them), its pending casts -/
structure Full (n : Nat) (s : St P) (bag : List (Pkt P)) : Prop where
  ord : ∀ k place, 1 ≤ k → k < n → (s.log k).length < place → place ≤ (s.log k).length + 16 → place ≤ (s.log 0).length → ∃ (j : Nat) (m : Msg P), bag[j]? = some (k, .ord place m)
  cast : ∀ k i, 1 ≤ k → k < n → lastIx (s.log k) k < i → i ≤ (s.own k).length → ∃ (j : Nat) (p : P), bag[j]? = some (0, .cast k i p)
theorem Far.round {n : Nat} {s t : St P} {bag : List (Pkt P)} {r : Nat} (h : Ok n s) (F : Far n s r) (B : Full n s bag) (M : Mid n s t bag bag.length) : Far n t (r + 1) := by
  have lt_of : ∀ {j : Nat} {q : Pkt P}, bag[j]? = some q → Done t q := fun {j q} e => M.done j q (List.getElem?_eq_some_iff.mp e).1 e
  have hall : ∀ k, k < n → lastIx (t.log 0) k = (t.own k).length := by
    intro k hk
    refine Nat.le_antisymm (M.ok.snd.last_le k) ?_
    by_cases k0 : k = 0
    · subst k0
      rw [M.ok.own0]
      exact Nat.le_refl _
    · by_cases hp : lastIx (s.log k) k < (s.own k).length
      · obtain ⟨j, p, e⟩ := B.cast k (s.own k).length (by omega) hk hp (Nat.le_refl _)
        rw [M.own]
        exact lt_of e
      · rw [M.own]
        refine Nat.le_trans (Nat.le_of_not_lt hp) ?_
        exact M.ok.snd.last_mono ((h.pre k hk).trans (M.grow.log 0)) k
  refine ⟨fun _ => hall, fun k hk => ?_⟩
  rw [Nat.add_sub_cancel]
  by_cases r0 : r = 0
  · subst r0
    simp
  · -- the founder's log was whole ahead of this round
    have elen : (t.log 0).length = (s.log 0).length := by
      rw [M.ok.snd.len, h.snd.len]
      refine tot_congr fun k hk => ?_
      rw [hall k hk, M.own, F.all (by omega) k hk]
    by_cases k0 : k = 0
    · subst k0
      exact Nat.min_le_left _ _
    · have f := F.far k hk
      have g := (M.grow.log k).length_le
      by_cases hp : (s.log k).length < min (s.log 0).length (16 * r)
      · obtain ⟨j, m, e⟩ := B.ord k (min (s.log 0).length (16 * r)) (by omega) hk hp (by omega) (Nat.min_le_left _ _)
        rw [elen]
        exact lt_of e
      · rw [elen]
        omega
/-- behind seven rounds all logs are whole -/
theorem Far.end {n : Nat} {s : St P} (h : Ok n s) (F : Far n s 7) (hn : n ≤ 12) {k : Nat} (hk : k < n) : (s.log k).length = tot n fun k => (s.own k).length := by
  have a : (s.log 0).length = tot n fun k => (s.own k).length := by
    rw [h.snd.len]
    exact tot_congr fun k hk => F.all (by decide) k hk
  have b := F.far k hk
  have c := (h.pre k hk).length_le
  have d := h.len
  rw [← a]
  omega
end
end K21

/-! The data of k21 over the abstract heap: members, messages, letters; tables; the dict with nested keys; == and in of data. -/
namespace KW
open PySem L2
open K21 (Msg Let Pkt lastIx fu)

/-! ### what stays -/
def TM (H H' : Hp) : Prop := ∀ a xs, H a = some (.tup xs) → H' a = some (.tup xs)
theorem TM.refl (H : Hp) : TM H H := fun _ _ h => h
theorem TM.trans {H H1 H2 : Hp} (a : TM H H1) (b : TM H1 H2) : TM H H2 := fun x xs h => b x xs (a x xs h)
theorem TM.of {H H' : Hp} (s : Same H H') : TM H H' := fun a _ h => s a _ h
theorem TM.upd {H : Hp} {a : Addr} {u o : HO} (h : H a = some u) (hu : ∀ xs, u ≠ .tup xs) : TM H (upd H a o) := fun b xs e => by
  rw [upd_ne (ne_of e h (fun z => hu xs z.symm))]
  exact e
theorem Same.new {H : Hp} {a : Addr} {o : HO} (h : H a = none) : Same H (L2.upd H a o) := fun b u e => by
  rw [upd_ne (ne_of_none e h)]
  exact e
/-- all but what stands at l is as it was -/
def Keep (l : List Addr) (H H' : Hp) : Prop := ∀ b o, H b = some o → ¬ b ∈ l → H' b = some o
theorem Keep.of {l : List Addr} {H H' : Hp} (s : Same H H') : Keep l H H' := fun b o e _ => s b o e
theorem Keep.trans {l : List Addr} {H H1 H2 : Hp} (a : Keep l H H1) (b : Keep l H1 H2) : Keep l H H2 := fun c o e h => b c o (a c o e h) h
theorem Keep.mono {l l' : List Addr} {H H' : Hp} (a : Keep l H H') (s : ∀ x, x ∈ l → x ∈ l') : Keep l' H H' := fun c o e h => a c o e fun z => h (s c z)
theorem Keep.upd {l : List Addr} {H : Hp} {a : Addr} {o : HO} (h : a ∈ l) : Keep l H (L2.upd H a o) := fun b u e hb => by
  rw [upd_ne (fun z => hb (by rw [z]; exact h))]
  exact e
theorem Keep.nil {H H' : Hp} (a : Keep [] H H') : Same H H' := fun b o e => a b o e (by simp)
/-- what Keep keeps free -/
theorem Keep.free {l : List Addr} {H H' : Hp} (a : Keep l H H') {x : Addr} (hx : ¬ x ∈ l) (h : H' x = none) : H x = none := by
  cases q : H x with
  | none => rfl
  | some o =>
    rw [a x o q hx] at h
    cases h

/-! ### members, messages, letters -/
section
variable (lf : Nat → Int)
def mk (k : Nat) : List Key := [Sum.inl (k : Int), Sum.inl (lf k)]
theorem mk_inj {j k : Nat} (h : mk lf j = mk lf k) : j = k := by
  have h1 : (Sum.inl (j : Int) : Key) = Sum.inl (k : Int) := (List.cons.inj h).1
  have h2 : (j : Int) = (k : Int) := Sum.inl.inj h1
  omega
def memV (k : Nat) : List V := [.int (k : Int), .int (lf k)]
theorem mk_kV (k : Nat) : (mk lf k).map kV = memV lf k := rfl
def IsMem (H : Hp) (v : V) (k : Nat) : Prop := ∃ a, v = .ref a ∧ H a = some (.tup (memV lf k))
def IsVid (H : Hp) (v : V) : Prop := ∃ a mv, v = .ref a ∧ H a = some (.tup [.int 7, mv]) ∧ IsMem lf H mv 0
def IsMsg (H : Hp) (v : V) (m : Msg Str) : Prop := ∃ a mv, v = .ref a ∧ H a = some (.tup [mv, .int (m.2.1 : Int), .str m.2.2]) ∧ IsMem lf H mv m.1
def IsLet (H : Hp) (v : V) : Let Str → Prop
  | .cast k i p => ∃ a mv iv, v = .ref a ∧ H a = some (.tup [.str "cast", mv, iv, .int (i : Int), .str p]) ∧ IsMem lf H mv k ∧ IsVid lf H iv
  | .ord place m => ∃ a mv iv xv, v = .ref a ∧ H a = some (.tup [.str "order", mv, iv, .int (place : Int), xv]) ∧ IsMem lf H mv 0 ∧ IsVid lf H iv ∧ IsMsg lf H xv m
def IsPkt (H : Hp) (v : V) (q : Pkt Str) : Prop := ∃ a lv, v = .ref a ∧ H a = some (.tup [.int (q.1 : Int), lv]) ∧ IsLet lf H lv q.2
def IsPair (H : Hp) (v : V) (q : Nat × Str) : Prop := ∃ a, v = .ref a ∧ H a = some (.tup [.int (q.1 : Int), .str q.2])
/-- the members, in order -/
def Mems (n : Nat) (H : Hp) (vs : List V) : Prop := vs.length = n ∧ ∀ k, k < n → ∃ v, vs[k]? = some v ∧ IsMem lf H v k
variable {lf}
variable {H H' : Hp} {v : V}
theorem IsMem.mono {k : Nat} (t : TM H H') (h : IsMem lf H v k) : IsMem lf H' v k := let ⟨a, e, q⟩ := h; ⟨a, e, t _ _ q⟩
theorem IsVid.mono (t : TM H H') (h : IsVid lf H v) : IsVid lf H' v := let ⟨a, mv, e, q, m⟩ := h; ⟨a, mv, e, t _ _ q, m.mono t⟩
theorem IsMsg.mono {m : Msg Str} (t : TM H H') (h : IsMsg lf H v m) : IsMsg lf H' v m := let ⟨a, mv, e, q, m⟩ := h; ⟨a, mv, e, t _ _ q, m.mono t⟩
theorem IsLet.mono (t : TM H H') : ∀ {l : Let Str}, IsLet lf H v l → IsLet lf H' v l
  | .cast _ _ _, ⟨a, mv, iv, e, q, m, i⟩ => ⟨a, mv, iv, e, t _ _ q, m.mono t, i.mono t⟩
  | .ord _ _, ⟨a, mv, iv, xv, e, q, m, i, x⟩ => ⟨a, mv, iv, xv, e, t _ _ q, m.mono t, i.mono t, x.mono t⟩
theorem IsPkt.mono {q : Pkt Str} (t : TM H H') (h : IsPkt lf H v q) : IsPkt lf H' v q := let ⟨a, lv, e, q, l⟩ := h; ⟨a, lv, e, t _ _ q, l.mono t⟩
theorem IsPair.mono {q : Nat × Str} (t : TM H H') (h : IsPair H v q) : IsPair H' v q := let ⟨a, e, q⟩ := h; ⟨a, e, t _ _ q⟩
theorem Mems.mono {n : Nat} {vs : List V} (t : TM H H') (h : Mems lf n H vs) : Mems lf n H' vs := ⟨h.1, fun k hk => let ⟨v, e, m⟩ := h.2 k hk; ⟨v, e, m.mono t⟩⟩
theorem all_mono {α : Type} {R : Hp → V → α → Prop} (hR : ∀ v x, R H v x → R H' v x) {vs : List V} {xs : List α} (h : Paired (R H) vs xs) : Paired (R H') vs xs := Paired.mono (fun a b => hR a b) h
end

/-! ### lists in step -/
section
variable {α β : Type} {F : α → β → Prop}
theorem pr_get : ∀ {xs : List α} {ys : List β}, Paired F xs ys → ∀ {i : Nat} {x : α}, xs[i]? = some x → ∃ y, ys[i]? = some y ∧ F x y
  | _, _, .nil, _, _, h => by simp at h
  | _, _, .cons r t, 0, x, h => ⟨_, rfl, by have e := Option.some.inj h; subst e; exact r⟩
  | _, _, .cons r t, i + 1, x, h => by simpa using pr_get t (i := i) (x := x) (by simpa using h)
theorem pr_get' : ∀ {xs : List α} {ys : List β}, Paired F xs ys → ∀ {i : Nat} {y : β}, ys[i]? = some y → ∃ x, xs[i]? = some x ∧ F x y
  | _, _, .nil, _, _, h => by simp at h
  | _, _, .cons r t, 0, x, h => ⟨_, rfl, by have e := Option.some.inj h; subst e; exact r⟩
  | _, _, .cons r t, i + 1, x, h => by simpa using pr_get' t (i := i) (y := x) (by simpa using h)
theorem pr_app : ∀ {xs xs' : List α} {ys ys' : List β}, Paired F xs ys → Paired F xs' ys' → Paired F (xs ++ xs') (ys ++ ys')
  | _, _, _, _, .nil, s => s
  | _, _, _, _, .cons r t, s => .cons r (pr_app t s)
theorem pr_take (n : Nat) : ∀ {xs : List α} {ys : List β}, Paired F xs ys → Paired F (xs.take n) (ys.take n) := by
  induction n with
  | zero => intro xs ys _; rw [List.take_zero, List.take_zero]; exact .nil
  | succ n ih =>
    intro xs ys h
    cases h with
    | nil => exact .nil
    | cons r t => exact .cons r (ih t)
theorem pr_drop (n : Nat) : ∀ {xs : List α} {ys : List β}, Paired F xs ys → Paired F (xs.drop n) (ys.drop n) := by
  induction n with
  | zero => intro xs ys h; exact h
  | succ n ih =>
    intro xs ys h
    cases h with
    | nil => exact .nil
    | cons r t => exact ih t
theorem pr_erase (n : Nat) : ∀ {xs : List α} {ys : List β}, Paired F xs ys → Paired F (xs.eraseIdx n) (ys.eraseIdx n) := by
  induction n with
  | zero =>
    intro xs ys h
    cases h with
    | nil => exact .nil
    | cons r t => exact t
  | succ n ih =>
    intro xs ys h
    cases h with
    | nil => exact .nil
    | cons r t => exact .cons r (ih t)
end

/-! ### tables by a number -/
section
variable {κ : Type} [DecidableEq κ]
theorem nodup_len {α : Type} [DecidableEq α] : ∀ {xs ys : List α}, xs.Nodup → (∀ x, x ∈ xs → x ∈ ys) → xs.length ≤ ys.length
  | [], _, _, _ => Nat.zero_le _
  | x :: xs, ys, h, s => by
    obtain ⟨h1, h2⟩ := List.nodup_cons.mp h
    have hx : x ∈ ys := s x List.mem_cons_self
    have a := nodup_len (xs := xs) (ys := ys.erase x) h2 fun z hz => by
      have hne : z ≠ x := fun e => h1 (e ▸ hz)
      exact (List.mem_erase_of_ne hne).mpr (s z (List.mem_cons_of_mem _ hz))
    rw [List.length_erase_of_mem hx] at a
    have b : 0 < ys.length := List.length_pos_of_mem hx
    rw [List.length_cons]
    omega
structure Tab (kvs : List (κ × V)) (key : Nat → κ) (f : Nat → Option V) (N : Nat) : Prop where
  nd : (kvs.map (·.1)).Nodup
  ks : ∀ x, x ∈ kvs.map (·.1) → ∃ k, k < N ∧ x = key k
  at_ : ∀ k, valV kvs (key k) = f k
theorem Tab.empty (key : Nat → κ) (N : Nat) : Tab ([] : List (κ × V)) key (fun _ => none) N := ⟨List.nodup_nil, fun x h => by simp at h, fun _ => rfl⟩
theorem Tab.len {kvs : List (κ × V)} {key : Nat → κ} {f : Nat → Option V} {N : Nat} (T : Tab kvs key f N) : kvs.length ≤ N := by
  have a := nodup_len (xs := kvs.map (·.1)) (ys := (List.range N).map key) T.nd fun x hx => by
    obtain ⟨k, hk, e⟩ := T.ks x hx
    rw [e]
    exact List.mem_map.mpr ⟨k, List.mem_range.mpr hk, rfl⟩
  rw [List.length_map, List.length_map, List.length_range] at a
  exact a
theorem putK_keys (kvs : List (κ × V)) (k : κ) (v : V) : (putK kvs k v).map (·.1) = if (valV kvs k).isSome = true then kvs.map (·.1) else kvs.map (·.1) ++ [k] := by
  unfold putK
  rw [valV_any]
  split
  · rw [List.map_map]
    refine List.map_congr_left fun x _ => ?_
    by_cases h : x.1 = k <;> simp [h]
  · simp
theorem Tab.put {kvs : List (κ × V)} {key : Nat → κ} {f : Nat → Option V} {N : Nat} (T : Tab kvs key f N) (hi : ∀ j k, key j = key k → j = k) {k : Nat} (hk : k < N) (v : V) : Tab (putK kvs (key k) v) key (fu f k (some v)) N := by
  refine ⟨?_, fun x hx => ?_, fun j => ?_⟩
  · rw [putK_keys]
    split
    · exact T.nd
    · rename_i h
      refine nd_snoc T.nd (valV_not ?_)
      cases q : valV kvs (key k) with
      | none => rfl
      | some w => exact absurd (by rw [q]; rfl) h
  · rw [putK_keys] at hx
    split at hx
    · exact T.ks x hx
    · rcases List.mem_append.mp hx with h | h
      · exact T.ks x h
      · exact ⟨k, hk, List.mem_singleton.mp h⟩
  · rw [valV_put]
    by_cases e : j = k
    · subst e
      rw [if_pos rfl, K21.fu_same]
    · rw [if_neg (fun z => e (hi _ _ z)), K21.fu_ne _ _ e]
      exact T.at_ j
theorem valV_drop (kvs : List (κ × V)) (k j : κ) : valV (dropK kvs k) j = if j = k then none else valV kvs j := by
  induction kvs with
  | nil => split <;> rfl
  | cons p r ih =>
    by_cases e : p.1 = k
    · rw [dropK_pos e, ih]
      by_cases h : j = k
      · rw [if_pos h, if_pos h]
      · rw [if_neg h, if_neg h, valV_neg (fun z => h (z.symm.trans e))]
    · rw [dropK_neg e]
      by_cases h : p.1 = j
      · rw [valV_pos h, if_neg (fun z => e (h.trans z)), valV_pos h]
      · rw [valV_neg h, valV_neg h]
        exact ih
theorem Tab.drop {kvs : List (κ × V)} {key : Nat → κ} {f : Nat → Option V} {N : Nat} (T : Tab kvs key f N) (hi : ∀ j k, key j = key k → j = k) (k : Nat) : Tab (dropK kvs (key k)) key (fu f k none) N := by
  refine ⟨nd_dropK T.nd, fun x hx => ?_, fun j => ?_⟩
  · obtain ⟨p, hp, e⟩ := List.mem_map.mp hx
    exact T.ks x (List.mem_map.mpr ⟨p, dropK_mem hp, e⟩)
  · rw [valV_drop]
    by_cases e : j = k
    · subst e
      rw [if_pos rfl, K21.fu_same]
    · rw [if_neg (fun z => e (hi _ _ z)), K21.fu_ne _ _ e]
      exact T.at_ j
end
theorem inl_inj : ∀ j k : Nat, (Sum.inl (j : Int) : Key) = Sum.inl (k : Int) → j = k := fun j k h => by
  have h2 : (j : Int) = (k : Int) := Sum.inl.inj h
  omega

/-! ### == and in of data -/
section
variable (lf : Nat → Int)
def memD (k : Nat) : PyData := .tuple [.int (k : Int), .int (lf k)]
def vidD : PyData := .tuple [.int 7, memD lf 0]
def msgD (m : Msg Str) : PyData := .tuple [memD lf m.1, .int (m.2.1 : Int), .str m.2.2]
variable {lf} {K : PySem.W.Frag} {H : Hp} {v : V}
theorem IsMem.dp {k : Nat} (h : IsMem lf H v k) : Dp K H v (memD lf k) := by
  obtain ⟨a, rfl, e⟩ := h
  exact .tup (SqT.of e) (.cons (.int _) (.cons (.int _) .nil))
theorem IsVid.dp (h : IsVid lf H v) : Dp K H v (vidD lf) := by
  obtain ⟨a, mv, rfl, e, m⟩ := h
  exact .tup (SqT.of e) (.cons (.int _) (.cons m.dp .nil))
theorem IsMsg.dp {m : Msg Str} (h : IsMsg lf H v m) : Dp K H v (msgD lf m) := by
  obtain ⟨a, mv, rfl, e, m⟩ := h
  exact .tup (SqT.of e) (.cons m.dp (.cons (.int _) (.cons (.str _) .nil)))
theorem dps_of {α : Type} {R : V → α → Prop} {d : α → PyData} (hR : ∀ v x, R v x → Dp K H v (d x)) : ∀ {vs : List V} {xs : List α}, Paired R vs xs → DpAll K H vs (xs.map d)
  | _, _, .nil => .nil
  | _, _, .cons r t => .cons (hR _ _ r) (dps_of hR t)
theorem memD_plain (k : Nat) : (memD lf k).plain = true := by simp [memD, PyData.plain, PyData.plainAll]
theorem memD_depth (k : Nat) : (memD lf k).depth = 1 := by simp [memD, PyData.depth, PyData.depthAll]
theorem vidD_plain : (vidD lf).plain = true := by simp [vidD, memD, PyData.plain, PyData.plainAll]
theorem vidD_depth : (vidD lf).depth = 2 := by simp [vidD, memD, PyData.depth, PyData.depthAll]
theorem msgD_plain (m : Msg Str) : (msgD lf m).plain = true := by simp [msgD, memD, PyData.plain, PyData.plainAll]
theorem msgD_depth (m : Msg Str) : (msgD lf m).depth = 2 := by simp [msgD, memD, PyData.depth, PyData.depthAll]
theorem plains {α : Type} {d : α → PyData} (h : ∀ x, (d x).plain = true) : ∀ xs : List α, PyData.plainAll (xs.map d) = true
  | [] => rfl
  | x :: xs => by rw [List.map_cons, PyData.plainAll, h x, plains h xs]; rfl
theorem depths {α : Type} {d : α → PyData} {c : Nat} (h : ∀ x, (d x).depth ≤ c) : ∀ xs : List α, PyData.depthAll (xs.map d) ≤ c
  | [] => by simp [PyData.depthAll]
  | x :: xs => by
    rw [List.map_cons, PyData.depthAll]
    exact Nat.max_le.mpr ⟨h x, depths h xs⟩
theorem memD_eqv (j k : Nat) : PyData.eqv (memD lf j) (memD lf k) = decide (j = k) := by
  have e : PyData.eqv (memD lf j) (memD lf k) = (((j : Int) == (k : Int)) && ((lf j == lf k) && true)) := by simp only [memD, PyData.eqv, PyData.eqvAll]
  rw [e]
  by_cases h : j = k
  · subst h
    simp
  · rw [decide_eq_false h, beq_eq_false_iff_ne.mpr (show (j : Int) ≠ (k : Int) by omega), Bool.false_and]
end
section
variable {X : Cx}
def rEqP (K : PySem.W.Frag) : R2 := fun x y H Q => ∃ d e, Dp K H x d ∧ Dp K H y e ∧ d.plain = true ∧ e.plain = true ∧ d.depth ≤ 8 ∧ Q (.bl (PyData.eqv d e)) H
def rNeP (K : PySem.W.Frag) : R2 := fun x y H Q => ∃ d e, Dp K H x d ∧ Dp K H y e ∧ d.plain = true ∧ e.plain = true ∧ d.depth ≤ 8 ∧ Q (.bl (!PyData.eqv d e)) H
theorem op_eqP (hu : X.A.units + 64 < cLine) : OpR X (compareOp .Eq) (rEqP X.K) := by
  intro pins s σ H x y v u Q I rx ry h
  obtain ⟨d, e, hd, he, sd, se, dd, q⟩ := h
  obtain ⟨as, r1⟩ := Dp.reads I d x v hd rx
  obtain ⟨bs, r2⟩ := Dp.reads I e y u he ry
  exact SeqAt.eq_plain r1 r2 sd se (by have := Nat.min_le_left d.depth e.depth; omega) ⟨.bl _, H, I, rfl, q⟩
theorem op_neP (hu : X.A.units + 64 < cLine) : OpR X (compareOp .NotEq) (rNeP X.K) := by
  intro pins s σ H x y v u Q I rx ry h
  obtain ⟨d, e, hd, he, sd, se, dd, q⟩ := h
  obtain ⟨as, r1⟩ := Dp.reads I d x v hd rx
  obtain ⟨bs, r2⟩ := Dp.reads I e y u he ry
  exact SeqAt.ne_plain r1 r2 sd se (by have := Nat.min_le_left d.depth e.depth; omega) ⟨.bl _, H, I, rfl, q⟩
def rInT (K : PySem.W.Frag) : R2 := fun x y H Q => ∃ d ds, Dp K H x d ∧ Dp K H y (.tuple ds) ∧ d.plain = true ∧ PyData.plainAll ds = true ∧ d.depth ≤ 8 ∧ Q (.bl (ds.any fun z => PyData.eqv z d)) H
def rNotInT (K : PySem.W.Frag) : R2 := fun x y H Q => ∃ d ds, Dp K H x d ∧ Dp K H y (.tuple ds) ∧ d.plain = true ∧ PyData.plainAll ds = true ∧ d.depth ≤ 8 ∧ Q (.bl (!ds.any fun z => PyData.eqv z d)) H
theorem op_inT (hu : X.A.units + 64 < cLine) : OpR X (compareOp .In) (rInT X.K) := by
  intro pins s σ H x y v u Q I rx ry h
  obtain ⟨d, ds, hd, he, sd, se, dd, q⟩ := h
  obtain ⟨as, r1⟩ := Dp.reads I d x v hd rx
  obtain ⟨bs, r2⟩ := Dp.reads I (.tuple ds) y u he ry
  exact SeqAt.in_tuple_data r2 r1 se sd (by have := Nat.min_le_right (PyData.depthAll ds) d.depth; omega) ⟨.bl _, H, I, rfl, q⟩
theorem op_notInT (hu : X.A.units + 64 < cLine) : OpR X (compareOp .NotIn) (rNotInT X.K) := by
  intro pins s σ H x y v u Q I rx ry h
  obtain ⟨d, ds, hd, he, sd, se, dd, q⟩ := h
  obtain ⟨as, r1⟩ := Dp.reads I d x v hd rx
  obtain ⟨bs, r2⟩ := Dp.reads I (.tuple ds) y u he ry
  exact SeqAt.notIn_tuple_data r2 r1 se sd (by have := Nat.min_le_right (PyData.depthAll ds) d.depth; omega) ⟨.bl _, H, I, rfl, q⟩
end
section
variable {lf : Nat → Int} {K : PySem.W.Frag} {H : Hp} {n : Nat} {vs : List V}
theorem Mems.paired (h : Mems lf n H vs) : Paired (fun v k => IsMem lf H v k) vs (List.range n) := by
  obtain ⟨hl, h⟩ := h
  have key : ∀ (m : Nat) (vs : List V) (b : Nat), vs.length = m → (∀ k, k < m → ∃ v, vs[k]? = some v ∧ IsMem lf H v (b + k)) → Paired (fun v k => IsMem lf H v k) vs (List.range' b m) := by
    intro m
    induction m with
    | zero => intro vs b hl _; rw [List.length_eq_zero_iff.mp hl]; exact .nil
    | succ m ih =>
      intro vs b hl h
      cases vs with
      | nil => simp at hl
      | cons v vs =>
        rw [List.range'_succ]
        obtain ⟨v', e, q⟩ := h 0 (Nat.succ_pos _)
        have e' : v = v' := Option.some.inj e
        subst e'
        refine .cons (by simpa using q) (ih vs (b + 1) (by simpa using hl) fun k hk => ?_)
        obtain ⟨w, e, q⟩ := h (k + 1) (by omega)
        exact ⟨w, by simpa using e, by rw [show b + 1 + k = b + (k + 1) by omega]; exact q⟩
  rw [List.range_eq_range']
  exact key n vs 0 hl fun k hk => by rw [Nat.zero_add]; exact h k hk
/-- «x in members» -/
theorem Mems.dp (h : Mems lf n H vs) : DpAll K H vs ((List.range n).map (memD lf)) := dps_of (fun v k q => q.dp) h.paired
theorem mem_any (n k : Nat) : ((List.range n).map (memD lf)).any (fun z => PyData.eqv z (memD lf k)) = decide (k < n) := by
  rw [Bool.eq_iff_iff, List.any_map, List.any_eq_true]
  simp [memD_eqv]
end

/-! ### the dict with keys (member, index) -/
section
variable (P : Program) (w : World)
def rawN (xs : List (NestedKey × Addr × Value)) (a : Addr) (h : Heap) : Prop :=
  ∃ o es ep, h.get? a = some o ∧ o.ExactDict ∧ o.data = .dict es ep ∧ es.toList = xs.map (entryOfKey (nestedKind P w)) ∧ (xs.map (·.1)).Nodup
end
def nk (lf : Nat → Int) (k : Nat) (i : Int) : NestedKey := .tup [.tup [.num (k : Int), .num (lf k)], .num i]
theorem nk_inj {lf : Nat → Int} {j k : Nat} {i i' : Int} (h : nk lf j i = nk lf k i') : j = k ∧ i = i' := by
  have h1 := NestedKey.tup.inj h
  have h2 := (List.cons.inj h1).1
  have h3 := NestedKey.num.inj (List.cons.inj (NestedKey.tup.inj h2)).1
  have h4 := NestedKey.num.inj (List.cons.inj (List.cons.inj h1).2).1
  exact ⟨by omega, h4⟩
/-- at b stands the key (member k, i) -/
def CKey (lf : Nat → Int) (H : Hp) (b : Addr) (k : Nat) (i : Int) : Prop := ∃ mv, H b = some (.tup [mv, .int i]) ∧ IsMem lf H mv k
theorem CKey.mono {lf : Nat → Int} {H H' : Hp} {b : Addr} {k : Nat} {i : Int} (t : TM H H') (h : CKey lf H b k i) : CKey lf H' b k i := let ⟨mv, e, m⟩ := h; ⟨mv, t _ _ e, m.mono t⟩
/-- the dict at a holds f, in at most c entries -/
def DN (P : Program) (w : World) (lf : Nat → Int) (H : Hp) (a : Addr) (c : Nat) (f : Nat → Int → Option Int) : Prop :=
  ∃ xs : List (NestedKey × Addr × Value), H a = some (.ext (rawN P w xs a)) ∧ (a == sysModules) = false ∧ xs.length ≤ c ∧ (∀ x, x ∈ xs → ∃ k i, x.1 = nk lf k i ∧ CKey lf H x.2.1 k i) ∧
    ∀ k i, match f k i with
      | none => valueAt (pairsH xs) (nk lf k i) = none
      | some z => ∃ t, valueAt (pairsH xs) (nk lf k i) = some (.int z t)
section
variable {X : Cx} {pins : List (Addr × Obj)} {σ : L2.St} {H : Hp} {s : Shared} {lf : Nat → Int}
theorem nest_mem (I : Inv X pins σ H s) {v : V} {u : Value} {k : Nat} (h : IsMem lf H v k) (r : RelV v u) : NestedIs s.heap (.tup [.num (k : Int), .num (lf k)]) u := by
  obtain ⟨a, rfl, e⟩ := h
  cases r
  obtain ⟨_, its, rv, o, h1, h2, n, h3⟩ := (show ObjOk X.prog X.w H s.heap a (.tup _) from I.hok a _ e)
  refine .tup h1 h2 h3 ?_
  rw [List.toList_toArray]
  cases rv with
  | cons r1 rv =>
    cases rv with
    | cons r2 rv =>
      cases rv
      obtain ⟨t1, rfl⟩ := r1
      obtain ⟨t2, rfl⟩ := r2
      exact .cons (.int _ _) (.cons (.int _ _) .nil)
theorem nest_key (I : Inv X pins σ H s) {b : Addr} {k : Nat} {i : Int} (h : CKey lf H b k i) : (nestedKind X.prog X.w).is s.heap (nk lf k i) b := by
  obtain ⟨mv, e, m⟩ := h
  refine ⟨?_, by simp [nk, NestedKey.depth, NestedKey.depthAll]⟩
  obtain ⟨_, its, rv, o, h1, h2, n, h3⟩ := (show ObjOk X.prog X.w H s.heap b (.tup _) from I.hok b _ e)
  refine .tup h1 h2 h3 ?_
  rw [List.toList_toArray]
  cases rv with
  | cons r1 rv =>
    cases rv with
    | cons r2 rv =>
      cases rv
      obtain ⟨t2, rfl⟩ := r2
      exact .cons (nest_mem I m r1) (.cons (.int _ _) .nil)
theorem DN.mono {P : Program} {w : World} {H H' : Hp} {a : Addr} {c : Nat} {f : Nat → Int → Option Int} (t : TM H H') (he : ∀ o, H a = some o → H' a = some o) (h : DN P w lf H a c f) : DN P w lf H' a c f := by
  obtain ⟨xs, e, ns, l, ks, q⟩ := h
  exact ⟨xs, he _ e, ns, l, fun x hx => let ⟨k, i, e, m⟩ := ks x hx; ⟨k, i, e, m.mono t⟩, q⟩
theorem DN.keyed (I : Inv X pins σ H s) {a : Addr} {xs : List (NestedKey × Addr × Value)} (e : H a = some (.ext (rawN X.prog X.w xs a))) (ks : ∀ x, x ∈ xs → ∃ k i, x.1 = nk lf k i ∧ CKey lf H x.2.1 k i) :
    s.heap.DictOfH (nestedKind X.prog X.w) a xs := by
  obtain ⟨⟨o, es, ep, h1, h2, h3, h4, h5⟩, _, _⟩ := (show ObjOk X.prog X.w H s.heap a (.ext (rawN X.prog X.w xs a)) from I.hok a _ e)
  refine ⟨o, es, ep, h1, h2, h3, h4, fun x hx => ?_, h5⟩
  obtain ⟨k, i, e, m⟩ := ks x hx
  rw [e]
  exact nest_key I m
theorem raw_ok {P : Program} {w : World} {H : Hp} {h : Heap} {a : Addr} {xs : List (NestedKey × Addr × Value)} (r : rawN P w xs a h) : ObjOk P w H h a (.ext (rawN P w xs a)) := by
  refine ⟨r, let ⟨o, _, _, e, _⟩ := r; ⟨o, e⟩, fun h1 h2 r k => ?_⟩
  obtain ⟨o, es, ep, e, q⟩ := r
  exact ⟨o, es, ep, k o e, q⟩
/-- {}, to be a dict of such keys -/
def tDNewN (P : Program) (w : World) : TE := fun _ H Q => ∀ p, H p = none → (p == sysModules) = false → Q (.ref p) (upd H p (.ext (rawN P w [] p)))
theorem pe_dnewN {pos : Pos} : PE X (.Dict [] [] pos) (tDNewN X.prog X.w) := ⟨fun pins s σ H Q I h =>
  wpAny_Dict_empty ⟨.ref s.heap.objs.size, _, I.laid (a := s.heap.objs.size) (o := .ext (rawN X.prog X.w [] s.heap.objs.size)) (t' := s.toks) (fun _ _ q => Heap.get?_push_of_some _ q) (Nat.le_refl _)
    (raw_ok ⟨_, #[], 0, Heap.get?_push_size _ rfl, ⟨rfl, rfl, rfl⟩, rfl, rfl, List.nodup_nil⟩), rfl, h _ (I.hok.fresh (Nat.le_refl _)) (beq_eq_false_iff_ne.mpr (Ne.symm (Nat.ne_of_lt I.big)))⟩⟩
theorem DN.new {P : Program} {w : World} {H : Hp} {p : Addr} (e : H p = some (.ext (rawN P w [] p))) (ns : (p == sysModules) = false) : DN P w lf H p 0 (fun _ _ => none) :=
  ⟨[], e, ns, Nat.le_refl _, fun x hx => by simp at hx, fun k i => rfl⟩
/-- d[(m, i)] -/
def rIxN (P : Program) (w : World) : R2 := fun x y H Q => ∃ (lf : Nat → Int) (a b : Addr) (c : Nat) (f : Nat → Int → Option Int) (k : Nat) (i z : Int), x = .ref a ∧ y = .ref b ∧ DN P w lf H a c f ∧ CKey lf H b k i ∧ f k i = some z ∧ Q (.int z) H
theorem ix_N (hu : X.A.units + 64 < cLine) : IxR X (rIxN X.prog X.w) := by
  intro value slice pins s σ H x y v u Q I rx ry h hs
  obtain ⟨lf, a, b, c, f, k, i, z, rfl, rfl, ⟨xs, e, ns, l, ks, q1⟩, kb, hf, q⟩ := h
  cases rx
  cases ry
  have q2 := q1 k i
  rw [hf] at q2
  obtain ⟨t, q2⟩ := q2
  have hm := DN.keyed I e ks
  refine PyProof.Rows.subscriptTail_builtinR (x := .int z t) hm.typeIs slot_dict_getitem.lookup ?_ hs
  refine getItem_keyed (kvs := pairsH xs) (v := .int z t) (by show X.A.units + 1 + 8 < cLine; omega) (nest_key I kb) ⟨xs, hm, rfl⟩ q2 ⟨rfl, ?_⟩
  exact ⟨.int z, H, I.tok _, ⟨t, rfl⟩, q⟩
/-- d[(m, i)] = z -/
def rSetN (P : Program) (w : World) : TSet := fun x y v H Q => ∃ (lf : Nat → Int) (a b : Addr) (c : Nat) (f : Nat → Int → Option Int) (k : Nat) (i z : Int), x = .ref a ∧ y = .ref b ∧ v = .int z ∧ DN P w lf H a c f ∧ c < 1000 ∧ CKey lf H b k i ∧
  ∀ H', DN P w lf H' a (c + 1) (fun k' i' => if k' = k ∧ i' = i then some z else f k' i') → Keep [a] H H' → TM H H' → Q H'
theorem set_N (hu : X.A.units + 64 < cLine) : PSet X (rSetN X.prog X.w) := by
  intro pins s σ H o i' v ov iv u Q I ro ri rv h
  obtain ⟨lf, a, b, c, f, k, i, z, rfl, rfl, rfl, ⟨xs, e, ns, l, ks, q1⟩, hc, kb, q⟩ := h
  cases ro
  cases ri
  obtain ⟨t, rfl⟩ := rv
  have hm := DN.keyed I e ks
  have hz : xs.length ≤ sizeLine := Nat.le_trans l (Nat.le_trans (Nat.le_of_lt hc) (by decide))
  refine wpAny_setItem_heap (hsz := hz) (by show X.A.units + 1 + 8 < cLine; omega) (nest_key I kb) hm fun h' hm' hs => ?_
  obtain ⟨oo, es, ep, g1, g2, g3, g4, g5, g6⟩ := hm'
  refine ⟨upd H a (.ext (rawN X.prog X.w (storedH xs (nk lf k i) b (.int z t)) a)), d_write I (by rw [e]; exact True.intro) hs ⟨oo, g1⟩ (raw_ok ⟨oo, es, ep, g1, g2, g3, g4, g6⟩), ?_⟩
  have tm : TM H (upd H a (.ext (rawN X.prog X.w (storedH xs (nk lf k i) b (.int z t)) a))) := TM.upd e fun xs z => by cases z
  refine q _ ⟨_, upd_same, ns, ?_, fun x hx => ?_, fun k' i' => ?_⟩ (Keep.upd (by simp)) tm
  · have el := length_stored (pairsH xs) (nk lf k i) (.int z t)
    rw [← pairsH_storedH xs (nk lf k i) b, pairsH_length, pairsH_length] at el
    rw [el]
    split <;> omega
  · unfold storedH at hx
    split at hx
    · obtain ⟨y, hy, ey⟩ := List.mem_map.mp hx
      obtain ⟨k', i', e', m'⟩ := ks y hy
      refine ⟨k', i', ?_, ?_⟩
      · rw [← ey]
        unfold putAt
        split <;> exact e'
      · rw [← ey]
        unfold putAt
        split <;> exact m'.mono tm
    · rcases List.mem_append.mp hx with hx | hx
      · obtain ⟨k', i', e', m'⟩ := ks x hx
        exact ⟨k', i', e', m'.mono tm⟩
      · rw [List.mem_singleton.mp hx]
        exact ⟨k, i, rfl, kb.mono tm⟩
  · rw [pairsH_storedH, valueAt_stored]
    dsimp only
    by_cases hk : k' = k ∧ i' = i
    · rw [if_pos hk, if_pos (by rw [hk.1, hk.2])]
      exact ⟨t, rfl⟩
    · rw [if_neg hk, if_neg (fun z => hk (nk_inj z))]
      exact q1 k' i'
end
end KW

/-! An Order object over the abstract heap; the promises of its methods. -/
namespace KW
open PySem L2
open K21 (Msg Let Pkt lastIx fu)
/-! ### the text by places -/
def top (i : Nat) : Stmt := PySem.Challenge.pw_mustercall_k21_whole_logs_are_prefixes.main.body.getD i (.Pass ⟨0, 0, 0, 0⟩)
abbrev sInit : Stmt := inClass (top 5) 0
abbrev sCast : Stmt := inClass (top 5) 1
abbrev sTake : Stmt := inClass (top 5) 2
abbrev sHeard : Stmt := inClass (top 5) 3
abbrev sAgain : Stmt := inClass (top 5) 4
abbrev sLog : Stmt := inClass (top 5) 5
abbrev sPending : Stmt := inClass (top 5) 6
abbrev sFounder : Stmt := inClass (top 5) 7
abbrev sLeads : Stmt := inClass (top 5) 8
abbrev sCastL : Stmt := inClass (top 5) 9
abbrev sOrdL : Stmt := inClass (top 5) 10
abbrev sDeliver : Stmt := inClass (top 5) 11
abbrev sAppend : Stmt := inClass (top 5) 12
abbrev sTakeCast : Stmt := inClass (top 5) 13
abbrev sTakeOrd : Stmt := inClass (top 5) 14
abbrev sCell : Stmt := top 7
abbrev sPayload : Stmt := top 8
abbrev sPrefixes : Stmt := top 9
abbrev sSound : Stmt := top 10
abbrev sPost : Stmt := top 11
abbrev sHand : Stmt := top 12
abbrev sTold : Stmt := top 13
abbrev sLaw : Stmt := top 14
/-! ### the object -/
structure OAd where
  p : Addr
  dx : Addr
  me : Addr
  vid : Addr
  mems : Addr
  log : Addr
  early : Addr
  own : Addr
  last : Addr
  counts : Addr
def OAd.muts (a : OAd) : List Addr := [a.log, a.early, a.own, a.last, a.counts]
def flds (a : OAd) : List (Str × V) := [("_me", .ref a.me), ("_id", .ref a.vid), ("_members", .ref a.mems), ("_log", .ref a.log), ("_early", .ref a.early), ("_own", .ref a.own), ("_last", .ref a.last), ("_counts", .ref a.counts)]
def fnames : List Str := ["_me", "_id", "_members", "_log", "_early", "_own", "_last", "_counts"]
theorem lk_ix : ∀ {fs : List (Str × V)} {names : List Str} {f : Str} {i : Nat} {v : V}, fs.map (·.1) = names → names.findIdx? (· == f) = some i → fs[i]? = some (f, v) → fs.lookup f = some v
  | [], names, f, i, v, _, _, h => by simp at h
  | (g, x) :: r, names, f, i, v, hn, hi, h => by
    subst hn
    rw [List.map_cons, List.findIdx?_cons] at hi
    by_cases e : g = f
    · subst e
      simp at hi
      subst hi
      have e2 : (g, x) = (g, v) := Option.some.inj h
      cases e2
      simp [List.lookup]
    · have hb : (g == f) = false := beq_eq_false_iff_ne.mpr e
      have hb' : (f == g) = false := beq_eq_false_iff_ne.mpr fun z => e z.symm
      simp only [hb] at hi
      cases q : (r.map (·.1)).findIdx? (· == f) with
      | none => rw [q] at hi; simp at hi
      | some j =>
        rw [q] at hi
        have ei : j + 1 = i := by simpa using hi
        subst ei
        simp only [List.lookup, hb']
        exact lk_ix rfl q (by simpa using h)
theorem lk_no : ∀ {fs : List (Str × V)} {names : List Str} {f : Str}, fs.map (·.1) = names → names.findIdx? (· == f) = none → fs.lookup f = none
  | [], names, f, _, _ => rfl
  | (g, x) :: r, names, f, hn, hi => by
    subst hn
    rw [List.map_cons, List.findIdx?_cons] at hi
    by_cases e : g = f
    · subst e
      simp at hi
    · have hb : (g == f) = false := beq_eq_false_iff_ne.mpr e
      have hb' : (f == g) = false := beq_eq_false_iff_ne.mpr fun z => e z.symm
      simp only [hb] at hi
      simp only [List.lookup, hb']
      refine lk_no rfl ?_
      cases q : (r.map (·.1)).findIdx? (· == f) with
      | none => rfl
      | some j => rw [q] at hi; simp at hi
section
variable (a : OAd)
theorem lk_me : (flds a).lookup ("_me" : Str) = some (.ref a.me) := lk_ix (names := fnames) (i := 0) rfl (by decide +kernel) rfl
theorem lk_id : (flds a).lookup ("_id" : Str) = some (.ref a.vid) := lk_ix (names := fnames) (i := 1) rfl (by decide +kernel) rfl
theorem lk_mems : (flds a).lookup ("_members" : Str) = some (.ref a.mems) := lk_ix (names := fnames) (i := 2) rfl (by decide +kernel) rfl
theorem lk_log : (flds a).lookup ("_log" : Str) = some (.ref a.log) := lk_ix (names := fnames) (i := 3) rfl (by decide +kernel) rfl
theorem lk_early : (flds a).lookup ("_early" : Str) = some (.ref a.early) := lk_ix (names := fnames) (i := 4) rfl (by decide +kernel) rfl
theorem lk_own : (flds a).lookup ("_own" : Str) = some (.ref a.own) := lk_ix (names := fnames) (i := 5) rfl (by decide +kernel) rfl
theorem lk_last : (flds a).lookup ("_last" : Str) = some (.ref a.last) := lk_ix (names := fnames) (i := 6) rfl (by decide +kernel) rfl
theorem lk_counts : (flds a).lookup ("_counts" : Str) = some (.ref a.counts) := lk_ix (names := fnames) (i := 7) rfl (by decide +kernel) rfl
theorem no_of {m : Str} (h : fnames.findIdx? (· == m) = none) : (flds a).lookup m = none := lk_no (names := fnames) rfl h
end
/-- member k's order at a: its log, its casts, what the founder was told; its early letters are of L -/
structure OrderAt (lf : Nat → Int) (n : Nat) (C : Addr) (H : Hp) (a : OAd) (k : Nat) (L log : List (Msg Str)) (own : List Str) (cnt : Nat → Nat) : Prop where
  kn : k < n
  ob : H a.p = some (.ins C a.dx (flds a))
  me : H a.me = some (.tup (memV lf k))
  vid : IsVid lf H (.ref a.vid)
  mems : ∃ vs, H a.mems = some (.tup vs) ∧ Mems lf n H vs
  lg : ∃ vs, H a.log = some (.lst vs) ∧ Paired (IsMsg lf H) vs log
  ea : ∃ kvs f, H a.early = some (.dK kvs) ∧ Tab kvs (fun p : Nat => (Sum.inl (p : Int) : Key)) f 100 ∧ ∀ p v, f p = some v → ∃ m, 1 ≤ p ∧ L[p - 1]? = some m ∧ IsMsg lf H v m
  ow : H a.own = some (.lst (own.map .str))
  la : ∃ kvs f, H a.last = some (.dT kvs) ∧ Tab kvs (mk lf) f n ∧ ∀ j, j < n → (f j).getD (.int 0) = .int (lastIx log j : Nat)
  co : ∃ kvs f, H a.counts = some (.dT kvs) ∧ Tab kvs (mk lf) f n ∧ ∀ j, j < n → (f j).getD (.int 0) = .int (cnt j : Nat)
  nd : a.muts.Nodup
section
variable {lf : Nat → Int} {n : Nat} {C : Addr} {H H' : Hp} {a : OAd} {k : Nat} {L L' log : List (Msg Str)} {own : List Str} {cnt : Nat → Nat}
theorem OrderAt.isMe (O : OrderAt lf n C H a k L log own cnt) : IsMem lf H (.ref a.me) k := ⟨_, rfl, O.me⟩
theorem OrderAt.grow (O : OrderAt lf n C H a k L log own cnt) (h : L <+: L') : OrderAt lf n C H a k L' log own cnt :=
  { O with ea := let ⟨kvs, f, e, T, q⟩ := O.ea; ⟨kvs, f, e, T, fun p v hv => let ⟨m, h1, h2, h3⟩ := q p v hv; ⟨m, h1, K21.get_of_prefix h h2, h3⟩⟩ }
/-- it stays where its parts stay -/
theorem OrderAt.stay (O : OrderAt lf n C H a k L log own cnt) (t : TM H H') (hp : ∀ o, H a.p = some o → H' a.p = some o) (hm : ∀ x o, x ∈ a.muts → H x = some o → H' x = some o) : OrderAt lf n C H' a k L log own cnt where
  kn := O.kn
  ob := hp _ O.ob
  me := t _ _ O.me
  vid := O.vid.mono t
  mems := let ⟨vs, e, m⟩ := O.mems; ⟨vs, t _ _ e, m.mono t⟩
  lg := let ⟨vs, e, m⟩ := O.lg; ⟨vs, hm _ _ (by simp [OAd.muts]) e, all_mono (fun _ _ q => q.mono t) m⟩
  ea := let ⟨kvs, f, e, T, q⟩ := O.ea; ⟨kvs, f, hm _ _ (by simp [OAd.muts]) e, T, fun p v hv => let ⟨m, h1, h2, h3⟩ := q p v hv; ⟨m, h1, h2, h3.mono t⟩⟩
  ow := hm _ _ (by simp [OAd.muts]) O.ow
  la := let ⟨kvs, f, e, q⟩ := O.la; ⟨kvs, f, hm _ _ (by simp [OAd.muts]) e, q⟩
  co := let ⟨kvs, f, e, q⟩ := O.co; ⟨kvs, f, hm _ _ (by simp [OAd.muts]) e, q⟩
  nd := O.nd
theorem OrderAt.same (O : OrderAt lf n C H a k L log own cnt) (s : Same H H') : OrderAt lf n C H' a k L log own cnt := O.stay (TM.of s) (fun o e => s _ o e) fun x o _ e => s x o e
/-- what is tracked at a mutable part is no tuple -/
theorem OrderAt.mut (O : OrderAt lf n C H a k L log own cnt) {x : Addr} (hx : x ∈ a.muts) : ∃ u, H x = some u ∧ ∀ xs, u ≠ .tup xs := by
  obtain ⟨v1, e1, _⟩ := O.lg
  obtain ⟨v2, f2, e2, _⟩ := O.ea
  obtain ⟨v4, f4, e4, _⟩ := O.la
  obtain ⟨v5, f5, e5, _⟩ := O.co
  simp only [OAd.muts, List.mem_cons, List.not_mem_nil, or_false] at hx
  rcases hx with rfl | rfl | rfl | rfl | rfl
  · exact ⟨_, e1, fun _ z => by cases z⟩
  · exact ⟨_, e2, fun _ z => by cases z⟩
  · exact ⟨_, O.ow, fun _ z => by cases z⟩
  · exact ⟨_, e4, fun _ z => by cases z⟩
  · exact ⟨_, e5, fun _ z => by cases z⟩
theorem OrderAt.pNot (O : OrderAt lf n C H a k L log own cnt) : ¬ a.p ∈ a.muts := fun hx => by
  obtain ⟨v1, e1, _⟩ := O.lg
  obtain ⟨v2, f2, e2, _⟩ := O.ea
  obtain ⟨v4, f4, e4, _⟩ := O.la
  obtain ⟨v5, f5, e5, _⟩ := O.co
  have hob := O.ob
  simp only [OAd.muts, List.mem_cons, List.not_mem_nil, or_false] at hx
  rcases hx with e | e | e | e | e
  · exact ne_of hob e1 (fun z => by cases z) e
  · exact ne_of hob e2 (fun z => by cases z) e
  · exact ne_of hob O.ow (fun z => by cases z) e
  · exact ne_of hob e4 (fun z => by cases z) e
  · exact ne_of hob e5 (fun z => by cases z) e
/-- tuples outlive a change of mutable parts -/
theorem OrderAt.tm (O : OrderAt lf n C H a k L log own cnt) (s : Keep a.muts H H') : TM H H' := fun b xs e => s b _ e fun hb => by
  obtain ⟨u, e', nu⟩ := O.mut hb
  rw [e] at e'
  cases e'
  exact nu xs rfl
end
/-! ### what the promises speak of -/
/-- a new list of packets -/
def NewPk (lf : Nat → Int) (H H' : Hp) (v : V) (qs : List (Pkt Str)) : Prop := ∃ p vs, v = .ref p ∧ H p = none ∧ H' p = some (.lst vs) ∧ Paired (IsPkt lf H') vs qs
def IsLog (lf : Nat → Int) (H : Hp) (v : V) (l : List (Msg Str)) : Prop := ∃ p vs, v = .ref p ∧ H p = some (.tup vs) ∧ Paired (IsMsg lf H) vs l
def IsPend (H : Hp) (v : V) (l : List (Nat × Str)) : Prop := ∃ p vs, v = .ref p ∧ H p = some (.tup vs) ∧ Paired (IsPair H) vs l
/-- the letters of a place to all other members -/
def ordAll (n place : Nat) (m : Msg Str) : List (Pkt Str) := (List.range (n - 1)).map fun j => (j + 1, Let.ord place m)
/-- the casts of own behind the first c -/
def pendOf (c : Nat) : List Str → List (Nat × Str)
  | [] => []
  | p :: ps => (c + 1, p) :: pendOf (c + 1) ps
/-- what the class and the module are, as the top has made them -/
structure Txt (K : PySem.W.Frag) (mg : Str → Option Value) (C : Addr) : Prop where
  cl : Cls K C
  nMe : NoAttr K C "_me"
  nId : NoAttr K C "_id"
  nMems : NoAttr K C "_members"
  nLog : NoAttr K C "_log"
  nEarly : NoAttr K C "_early"
  nOwn : NoAttr K C "_own"
  nLast : NoAttr K C "_last"
  nCounts : NoAttr K C "_counts"
  mgC : mg "Order" = some (.ref C)
  win : ∃ t, mg "WINDOW" = some (.int 16 t)
  len : mg "len" = none
  max : mg "max" = none
  min : mg "min" = none
  range : mg "range" = none
  tuple : mg "tuple" = none
  abs : mg "abs" = none
  int : mg "int" = none
  sum : mg "sum" = none
/-- a method as it stands -/
structure Mt (K : PySem.W.Frag) (C : Addr) (st : Stmt) (x qual : Str) (ps : List Str) (f : Addr) (fd : FuncData) : Prop where
  F : Fun K x qual st f fd
  b : Binds K fd ps []
  m : Meth K C x f
section
variable {K : PySem.W.Frag} {mg : Str → Option Value} {lf : Nat → Int} {n : Nat} {C : Addr} {H : Hp} {a : OAd} {k : Nat} {L log : List (Msg Str)} {own : List Str} {cnt : Nat → Nat} {σ : L2.St} {Q : VK}
theorem fld_at {f : Str} {v : V} (T : Txt K mg C) (O : OrderAt lf n C H a k L log own cnt) (nf : NoAttr K C f) (lk : (flds a).lookup f = some v) (hσ : σ[0]? = some (some (.ref a.p))) (q : Q v H) : tFld K (tVar 0) f σ H Q :=
  ⟨_, hσ, _, C, _, _, _, rfl, O.ob, T.cl, nf, lk, q⟩
theorem f_me (T : Txt K mg C) (O : OrderAt lf n C H a k L log own cnt) (hσ : σ[0]? = some (some (.ref a.p))) (q : Q (.ref a.me) H) : tFld K (tVar 0) "_me" σ H Q := fld_at T O T.nMe (lk_me a) hσ q
theorem f_id (T : Txt K mg C) (O : OrderAt lf n C H a k L log own cnt) (hσ : σ[0]? = some (some (.ref a.p))) (q : Q (.ref a.vid) H) : tFld K (tVar 0) "_id" σ H Q := fld_at T O T.nId (lk_id a) hσ q
theorem f_mems (T : Txt K mg C) (O : OrderAt lf n C H a k L log own cnt) (hσ : σ[0]? = some (some (.ref a.p))) (q : Q (.ref a.mems) H) : tFld K (tVar 0) "_members" σ H Q := fld_at T O T.nMems (lk_mems a) hσ q
theorem f_log (T : Txt K mg C) (O : OrderAt lf n C H a k L log own cnt) (hσ : σ[0]? = some (some (.ref a.p))) (q : Q (.ref a.log) H) : tFld K (tVar 0) "_log" σ H Q := fld_at T O T.nLog (lk_log a) hσ q
theorem f_early (T : Txt K mg C) (O : OrderAt lf n C H a k L log own cnt) (hσ : σ[0]? = some (some (.ref a.p))) (q : Q (.ref a.early) H) : tFld K (tVar 0) "_early" σ H Q := fld_at T O T.nEarly (lk_early a) hσ q
theorem f_own (T : Txt K mg C) (O : OrderAt lf n C H a k L log own cnt) (hσ : σ[0]? = some (some (.ref a.p))) (q : Q (.ref a.own) H) : tFld K (tVar 0) "_own" σ H Q := fld_at T O T.nOwn (lk_own a) hσ q
theorem f_last (T : Txt K mg C) (O : OrderAt lf n C H a k L log own cnt) (hσ : σ[0]? = some (some (.ref a.p))) (q : Q (.ref a.last) H) : tFld K (tVar 0) "_last" σ H Q := fld_at T O T.nLast (lk_last a) hσ q
theorem f_counts (T : Txt K mg C) (O : OrderAt lf n C H a k L log own cnt) (hσ : σ[0]? = some (some (.ref a.p))) (q : Q (.ref a.counts) H) : tFld K (tVar 0) "_counts" σ H Q := fld_at T O T.nCounts (lk_counts a) hσ q
end
/-! ### the promises -/
section
variable (lf : Nat → Int) (n : Nat) (C : Addr)
def spLeads : Sp := fun vs H Q _ => ∃ (a : OAd) (k : Nat) (L log : List (Msg Str)) (own : List Str) (cnt : Nat → Nat), vs = [.ref a.p] ∧ OrderAt lf n C H a k L log own cnt ∧ Q (.bl (decide (k = 0))) H
def spFounder : Sp := fun vs H Q _ => ∃ (a : OAd) (k : Nat) (L log : List (Msg Str)) (own : List Str) (cnt : Nat → Nat), vs = [.ref a.p] ∧ OrderAt lf n C H a k L log own cnt ∧ ∀ v, IsMem lf H v 0 → Q v H
def spCastL : Sp := fun vs H Q _ => ∃ (a : OAd) (k : Nat) (L log : List (Msg Str)) (own : List Str) (cnt : Nat → Nat) (i : Nat) (p : Str), vs = [.ref a.p, .int (i : Int)] ∧ OrderAt lf n C H a k L log own cnt ∧ 1 ≤ i ∧ own[i - 1]? = some p ∧
  ∀ v H', Same H H' → IsLet lf H' v (.cast k i p) → Q v H'
def spOrdL : Sp := fun vs H Q _ => ∃ (a : OAd) (L log : List (Msg Str)) (own : List Str) (cnt : Nat → Nat) (i : Nat) (m : Msg Str), vs = [.ref a.p, .int (i : Int)] ∧ OrderAt lf n C H a 0 L log own cnt ∧ 1 ≤ i ∧ log[i - 1]? = some m ∧
  ∀ v H', Same H H' → IsLet lf H' v (.ord i m) → Q v H'
def spDeliver : Sp := fun vs H Q _ => ∃ (a : OAd) (k : Nat) (L log : List (Msg Str)) (own : List Str) (cnt : Nat → Nat) (v : V) (m : Msg Str), vs = [.ref a.p, v] ∧ OrderAt lf n C H a k L log own cnt ∧ IsMsg lf H v m ∧ m.1 < n ∧ log.length < 1000 ∧ n < 100 ∧
  ∀ H', Keep [a.log, a.last] H H' → OrderAt lf n C H' a k L (log ++ [m]) own cnt → Q .non H'
def spLog : Sp := fun vs H Q _ => ∃ (a : OAd) (k : Nat) (L log : List (Msg Str)) (own : List Str) (cnt : Nat → Nat), vs = [.ref a.p] ∧ OrderAt lf n C H a k L log own cnt ∧ ∀ v H', Same H H' → IsLog lf H' v log → Q v H'
def spPending : Sp := fun vs H Q _ => ∃ (a : OAd) (k : Nat) (L log : List (Msg Str)) (own : List Str) (cnt : Nat → Nat), vs = [.ref a.p] ∧ OrderAt lf n C H a k L log own cnt ∧ own.length ≤ 1000 ∧ lastIx log k ≤ own.length ∧
  ∀ v H', Same H H' → IsPend H' v (pendOf (lastIx log k) (own.drop (lastIx log k))) → Q v H'
def spAppend : Sp := fun vs H Q _ => ∃ (a : OAd) (L log : List (Msg Str)) (own : List Str) (cnt : Nat → Nat) (v : V) (m : Msg Str), vs = [.ref a.p, v] ∧ OrderAt lf n C H a 0 L log own cnt ∧ IsMsg lf H v m ∧ m.1 < n ∧ log.length < 1000 ∧ n < 100 ∧
  ∀ H' u, Keep [a.log, a.last] H H' → OrderAt lf n C H' a 0 L (log ++ [m]) own cnt → NewPk lf H H' u (ordAll n (log.length + 1) m) → Q u H'
def spCast : Sp := fun vs H Q _ => ∃ (a : OAd) (k : Nat) (L log : List (Msg Str)) (own : List Str) (cnt : Nat → Nat) (p : Str), vs = [.ref a.p, .str p] ∧ OrderAt lf n C H a k L log own cnt ∧ log.length < 1000 ∧ own.length < 1000 ∧ n < 100 ∧
  ∀ H' t dv u, Keep a.muts H H' → H' t = some (.tup [.int ((own.length + 1 : Nat) : Int), dv, u]) →
    OrderAt lf n C H' a k L (if k = 0 then log ++ [(0, own.length + 1, p)] else log) (own ++ [p]) cnt →
    NewPk lf H H' u (if k = 0 then ordAll n (log.length + 1) (0, own.length + 1, p) else [(0, .cast k (own.length + 1) p)]) → Q (.ref t) H'
/-- take: the founder takes a cast of another member; another member takes an order letter of L -/
inductive TakeWay (n k : Nat) (L log : List (Msg Str)) : Let Str → List (Msg Str) → List (Pkt Str) → Prop
  | yes {j i : Nat} {p : Str} : k = 0 → i = lastIx log j + 1 → TakeWay n k L log (.cast j i p) (log ++ [(j, i, p)]) (ordAll n (log.length + 1) (j, i, p))
  | no {j i : Nat} {p : Str} : k = 0 → i ≠ lastIx log j + 1 → TakeWay n k L log (.cast j i p) log []
  | ord {place : Nat} {m : Msg Str} {log' : List (Msg Str)} : k ≠ 0 → log <+: log' → log' <+: L → (place = log.length + 1 → place ≤ log'.length) → TakeWay n k L log (.ord place m) log' []
/-- the letters that take is asked for -/
def Takes (n k : Nat) (L log : List (Msg Str)) : Let Str → Prop
  | .cast j _ _ => k = 0 ∧ j ≠ 0 ∧ j < n
  | .ord place m => k ≠ 0 ∧ 1 ≤ place ∧ L[place - 1]? = some m ∧ log <+: L
def spTake : Sp := fun vs H Q _ => ∃ (a : OAd) (k : Nat) (L log : List (Msg Str)) (own : List Str) (cnt : Nat → Nat) (v : V) (l : Let Str), vs = [.ref a.p, v] ∧ OrderAt lf n C H a k L log own cnt ∧ IsLet lf H v l ∧ Takes n k L log l ∧
  L.length < 99 ∧ log.length < 99 ∧ n < 100 ∧ (∀ m, m ∈ L → m.1 < n) ∧
  ∀ H' t dv u log' qs, TakeWay n k L log l log' qs → Keep a.muts H H' → H' t = some (.tup [dv, u]) → OrderAt lf n C H' a k L log' own cnt → NewPk lf H H' u qs → Q (.ref t) H'
def spTakeCast : Sp := fun vs H Q _ => ∃ (a : OAd) (L log : List (Msg Str)) (own : List Str) (cnt : Nat → Nat) (v : V) (j i : Nat) (p : Str), vs = [.ref a.p, v, .int (i : Int), .str p] ∧ OrderAt lf n C H a 0 L log own cnt ∧ IsMem lf H v j ∧ j ≠ 0 ∧ j < n ∧
  log.length < 99 ∧ n < 100 ∧
  ∀ H' t dv u log' qs, TakeWay n 0 L log (.cast j i p) log' qs → Keep a.muts H H' → H' t = some (.tup [dv, u]) → OrderAt lf n C H' a 0 L log' own cnt → NewPk lf H H' u qs → Q (.ref t) H'
def spTakeOrd : Sp := fun vs H Q _ => ∃ (a : OAd) (k : Nat) (L log : List (Msg Str)) (own : List Str) (cnt : Nat → Nat) (v x : V) (place : Nat) (m : Msg Str), vs = [.ref a.p, v, .int (place : Int), x] ∧ OrderAt lf n C H a k L log own cnt ∧ IsMem lf H v 0 ∧ IsMsg lf H x m ∧
  k ≠ 0 ∧ 1 ≤ place ∧ L[place - 1]? = some m ∧ log <+: L ∧ L.length < 99 ∧ n < 100 ∧ (∀ m, m ∈ L → m.1 < n) ∧
  ∀ H' t dv u log', TakeWay n k L log (.ord place m) log' [] → Keep a.muts H H' → H' t = some (.tup [dv, u]) → OrderAt lf n C H' a k L log' own cnt → NewPk lf H H' u [] → Q (.ref t) H'
def spHeard : Sp := fun vs H Q _ => ∃ (a : OAd) (k : Nat) (L log : List (Msg Str)) (own : List Str) (cnt : Nat → Nat) (v : V) (j c : Nat), vs = [.ref a.p, v, .int (c : Int)] ∧ OrderAt lf n C H a k L log own cnt ∧ IsMem lf H v j ∧ j < n ∧ n < 100 ∧
  ∀ H', Keep [a.counts] H H' → OrderAt lf n C H' a k L log own (fu cnt j (max c (cnt j))) → Q .non H'
/-- the founder's letters for one member -/
def missing (L : List (Msg Str)) (c k : Nat) : List (Pkt Str) := (pendM c ((L.drop c).take 16)).map fun q => (k, Let.ord q.1 q.2)
where pendM (c : Nat) : List (Msg Str) → List (Nat × Msg Str)
  | [] => []
  | p :: ps => (c + 1, p) :: pendM (c + 1) ps
def againOf (n k : Nat) (log : List (Msg Str)) (own : List Str) (cnt : Nat → Nat) : List (Pkt Str) :=
  if k = 0 then (List.range (n - 1)).flatMap fun j => missing log (cnt (j + 1)) (j + 1)
  else (pendOf (lastIx log k) (own.drop (lastIx log k))).map fun q => (0, Let.cast k q.1 q.2)
def spAgain : Sp := fun vs H Q _ => ∃ (a : OAd) (k : Nat) (L log : List (Msg Str)) (own : List Str) (cnt : Nat → Nat), vs = [.ref a.p] ∧ OrderAt lf n C H a k L log own cnt ∧ own.length ≤ 16 ∧ lastIx log k ≤ own.length ∧ log.length < 1000 ∧ n < 100 ∧ (∀ j, j < n → cnt j < 1000) ∧
  ∀ H' u, Same H H' → NewPk lf H H' u (againOf n k log own cnt) → Q u H'
def spInit : Sp := fun vs H Q _ => ∃ (p dx : Addr) (me vid mems : Addr) (k : Nat) (ms : List V), vs = [.ref p, .ref me, .ref vid, .ref mems] ∧ H p = some (.ins C dx []) ∧ H me = some (.tup (memV lf k)) ∧ k < n ∧ IsVid lf H (.ref vid) ∧ H mems = some (.tup ms) ∧ Mems lf n H ms ∧
  ∀ H' a, a.p = p → (∀ x, x ∈ a.muts → H x = none) → Keep [p] H H' → OrderAt lf n C H' a k [] [] [] (fun _ => 0) → Q .non H'
end
end KW

/-! The small methods of Order. -/
namespace KW
open PySem L2
open K21 (Msg Let Pkt lastIx fu)
section
variable {P : Program} {w : World} {K : PySem.W.Frag} {mg : Str → Option Value} {base : Heap} {lf : Nat → Int} {n : Nat} {C : Addr}
theorem lt1000 {k : Nat} (h : k ≤ 1000) : k ≤ sizeLine := Nat.le_trans h (by decide)

theorem scLeads : FnScope ["self"] ["self"] (defScope sLeads) := ⟨rfl, rfl, rfl, by decide +kernel, rfl, by decide +kernel, by decide +kernel⟩
theorem ok_leads {f : Addr} {fd : FuncData} (F : Fun K "_leads" "Order._leads" sLeads f fd) (T : Txt K mg C) : FnOk P w K mg base CX0 1 f fd ["self"] (spLeads lf n C) := by
  refine F.ok scLeads (fun vs H Q E h => ?_) (fun cdv A outer s H vs Q E hr h => ?_)
  · obtain ⟨a, k, L, log, own, cnt, rfl, _⟩ := h
    rfl
  · obtain ⟨a, k, L, log, own, cnt, rfl, O, q⟩ := h
    refine ⟨_, pss_one (ps_ret (pe_cmpR (op_eqP hr.units) (pe_fld (pv 0) rfl) (pe_ix ix_tup (pe_fld (pv 0) rfl) pe_int (fun _ _ => rfl)) (nomark _))), ?_⟩
    obtain ⟨ms, em, hm⟩ := O.mems
    obtain ⟨v0, e0, i0⟩ := hm.2 0 (Nat.lt_of_le_of_lt (Nat.zero_le _) O.kn)
    refine ⟨_, rfl, _, C, _, _, _, rfl, O.ob, T.cl, T.nMe, lk_me _, _, rfl, _, C, _, _, _, rfl, O.ob, T.cl, T.nMems, lk_mems _, _, _, _, _, rfl, rfl, SqT.of em, atI_nat (j := 0) e0, memD lf k, memD lf 0, O.isMe.dp, i0.dp, memD_plain _, memD_plain _, by rw [memD_depth]; decide, ?_⟩
    rw [memD_eqv]
    exact q

theorem scFounder : FnScope ["self"] ["self"] (defScope sFounder) := ⟨rfl, rfl, rfl, by decide +kernel, rfl, by decide +kernel, by decide +kernel⟩
theorem ok_founder {f : Addr} {fd : FuncData} (F : Fun K "_founder" "Order._founder" sFounder f fd) (T : Txt K mg C) : FnOk P w K mg base CX0 1 f fd ["self"] (spFounder lf n C) := by
  refine F.ok scFounder (fun vs H Q E h => ?_) (fun cdv A outer s H vs Q E hr h => ?_)
  · obtain ⟨a, k, L, log, own, cnt, rfl, _⟩ := h
    rfl
  · obtain ⟨a, k, L, log, own, cnt, rfl, O, q⟩ := h
    refine ⟨_, pss_one (ps_ret (pe_ix ix_tup (pe_fld (pv 0) rfl) pe_int (fun _ _ => rfl))), ?_⟩
    obtain ⟨ms, em, hm⟩ := O.mems
    obtain ⟨v0, e0, i0⟩ := hm.2 0 (Nat.lt_of_le_of_lt (Nat.zero_le _) O.kn)
    exact ⟨_, rfl, _, C, _, _, _, rfl, O.ob, T.cl, T.nMems, lk_mems _, _, _, _, _, rfl, rfl, SqT.of em, atI_nat (j := 0) e0, q _ i0⟩

theorem scCastL : FnScope ["self", "index"] ["self", "index"] (defScope sCastL) := ⟨rfl, rfl, rfl, by decide +kernel, rfl, by decide +kernel, by decide +kernel⟩
theorem ok_castL {f : Addr} {fd : FuncData} (F : Fun K "_cast_letter" "Order._cast_letter" sCastL f fd) (T : Txt K mg C) : FnOk P w K mg base CX0 1 f fd ["self", "index"] (spCastL lf n C) := by
  refine F.ok scCastL (fun vs H Q E h => ?_) (fun cdv A outer s H vs Q E hr h => ?_)
  · obtain ⟨a, k, L, log, own, cnt, i, p, rfl, _⟩ := h
    rfl
  · obtain ⟨a, k, L, log, own, cnt, i, p, rfl, O, hi, hp, q⟩ := h
    refine ⟨_, pss_one (ps_ret (pe_tup (pa_cons pe_str (pa_cons (pe_fld (pv 0) rfl) (pa_cons (pe_fld (pv 0) rfl) (pa_cons (pv 1) (pa_cons (pe_ix ix_list (pe_fld (pv 0) rfl) (pe_op op_sub (pv 1) pe_int) (fun _ _ => rfl)) pa_nil))))))), ?_⟩
    refine ⟨_, rfl, _, C, _, _, _, rfl, O.ob, T.cl, T.nMe, lk_me _, _, rfl, _, C, _, _, _, rfl, O.ob, T.cl, T.nId, lk_id _, _, rfl, _, rfl, _, C, _, _, _, rfl, O.ob, T.cl, T.nOwn, lk_own _, _, rfl, _, _, rfl, rfl, _, _, _, _, rfl, rfl, SqL.of O.ow, at_of (j := i - 1) (by omega) (by rw [List.getElem?_map, hp]; rfl), ?_⟩
    refine ⟨by show 5 ≤ sizeLine; decide, fun t ht => ?_⟩
    have sm : ∀ o, Same H (upd H t o) := fun o => Same.new ht
    exact q _ _ (sm _) ⟨t, _, _, rfl, upd_same, O.isMe.mono (TM.of (sm _)), O.vid.mono (TM.of (sm _))⟩

theorem scOrdL : FnScope ["self", "place"] ["self", "place"] (defScope sOrdL) := ⟨rfl, rfl, rfl, by decide +kernel, rfl, by decide +kernel, by decide +kernel⟩
theorem ok_ordL {f : Addr} {fd : FuncData} (F : Fun K "_order_letter" "Order._order_letter" sOrdL f fd) (T : Txt K mg C) : FnOk P w K mg base CX0 1 f fd ["self", "place"] (spOrdL lf n C) := by
  refine F.ok scOrdL (fun vs H Q E h => ?_) (fun cdv A outer s H vs Q E hr h => ?_)
  · obtain ⟨a, L, log, own, cnt, i, m, rfl, _⟩ := h
    rfl
  · obtain ⟨a, L, log, own, cnt, i, m, rfl, O, hi, hp, q⟩ := h
    refine ⟨_, pss_one (ps_ret (pe_tup (pa_cons pe_str (pa_cons (pe_fld (pv 0) rfl) (pa_cons (pe_fld (pv 0) rfl) (pa_cons (pv 1) (pa_cons (pe_ix ix_list (pe_fld (pv 0) rfl) (pe_op op_sub (pv 1) pe_int) (fun _ _ => rfl)) pa_nil))))))), ?_⟩
    obtain ⟨vs, ev, pv⟩ := O.lg
    obtain ⟨x, ex, ix⟩ := pr_get' pv hp
    refine ⟨_, rfl, _, C, _, _, _, rfl, O.ob, T.cl, T.nMe, lk_me _, _, rfl, _, C, _, _, _, rfl, O.ob, T.cl, T.nId, lk_id _, _, rfl, _, rfl, _, C, _, _, _, rfl, O.ob, T.cl, T.nLog, lk_log _, _, rfl, _, _, rfl, rfl, _, _, _, _, rfl, rfl, SqL.of ev, at_of (j := i - 1) (by omega) ex, ?_⟩
    refine ⟨by show 5 ≤ sizeLine; decide, fun t ht => ?_⟩
    have sm : ∀ o, Same H (upd H t o) := fun o => Same.new ht
    exact q _ _ (sm _) ⟨t, _, _, _, rfl, upd_same, O.isMe.mono (TM.of (sm _)), O.vid.mono (TM.of (sm _)), ix.mono (TM.of (sm _))⟩

theorem scLog : FnScope ["self"] ["self"] (defScope sLog) := ⟨rfl, rfl, rfl, by decide +kernel, rfl, by decide +kernel, by decide +kernel⟩
theorem ok_log {f : Addr} {fd : FuncData} (F : Fun K "log" "Order.log" sLog f fd) (T : Txt K mg C) : FnOk P w K mg base CX0 1 f fd ["self"] (spLog lf n C) := by
  refine F.ok scLog (fun vs H Q E h => ?_) (fun cdv A outer s H vs Q E hr h => ?_)
  · obtain ⟨a, k, L, log, own, cnt, rfl, _⟩ := h
    rfl
  · obtain ⟨a, k, L, log, own, cnt, rfl, O, q⟩ := h
    refine ⟨_, pss_one (ps_ret (pe_callTy call_tuple_of (by rfl) T.tuple (by decide +kernel) (pa_cons (pe_fld (pv 0) rfl) pa_nil))), ?_⟩
    obtain ⟨vs, ev, pv⟩ := O.lg
    refine ⟨_, rfl, _, C, _, _, _, rfl, O.ob, T.cl, T.nLog, lk_log _, _, _, rfl, .inl ⟨SqL.of ev, fun t ht => ?_⟩⟩
    have sm : Same H (upd H t (.tup vs)) := Same.new ht
    exact q _ _ sm ⟨t, vs, rfl, upd_same, all_mono (fun _ _ z => z.mono (TM.of sm)) pv⟩

theorem scDeliver : FnScope ["self", "message"] ["self", "message"] (defScope sDeliver) := ⟨rfl, rfl, rfl, by decide +kernel, rfl, by decide +kernel, by decide +kernel⟩
theorem ok_deliver {f : Addr} {fd : FuncData} (F : Fun K "_deliver" "Order._deliver" sDeliver f fd) (T : Txt K mg C) : FnOk P w K mg base CX0 1 f fd ["self", "message"] (spDeliver lf n C) := by
  refine F.ok scDeliver (fun vs H Q E h => ?_) (fun cdv A outer s H vs Q E hr h => ?_)
  · obtain ⟨a, k, L, log, own, cnt, v, m, rfl, _⟩ := h
    rfl
  · obtain ⟨a, k, L, log, own, cnt, v, m, rfl, O, im, hmn, hl, hn, q⟩ := h
    have hu := hu_of hr
    refine ⟨_, pss_cons (ps_expr (pe_bm PySem.F.plainAttrs_list PySem.F.slot_list_append PySem.F.type_list_append mt_append (pe_fld (pv 0) rfl) (pa_cons (pv 1) pa_nil)))
      (pss_one (ps_dput hu (pe_fld (pv 0) rfl) (pe_ix ix_tup (pv 1) pe_int (fun _ _ => rfl)) (pe_ix ix_tup (pv 1) pe_int (fun _ _ => rfl)) rfl)), ?_⟩
    obtain ⟨lv, ev, pv⟩ := O.lg
    have hlen : lv.length < sizeLine := by
      have := Paired.length pv
      exact Nat.lt_of_le_of_lt (by omega : lv.length ≤ 1000) (by decide)
    refine ⟨_, rfl, _, C, _, _, _, rfl, O.ob, T.cl, T.nLog, lk_log _, .inl ⟨rfl, _, SqL.of ev⟩, _, rfl, a.log, _, _, rfl, rfl, ev, hlen, ?_⟩
    -- self._last[message[0]] = message[1]
    have hnd := O.nd
    simp only [OAd.muts, List.nodup_cons, List.mem_cons, List.not_mem_nil, or_false, not_or, not_false_eq_true, List.nodup_nil, and_true] at hnd
    obtain ⟨⟨n1, n2, n3, n4⟩, ⟨n5, n6, n7⟩, ⟨n8, n9⟩, n10⟩ := hnd
    obtain ⟨mp, mv, rfl, em, imv⟩ := im
    obtain ⟨ma, rfl, ema⟩ := imv
    generalize hH1 : upd H a.log (.lst (lv ++ [.ref mp])) = H1
    have t1 : TM H H1 := by rw [← hH1]; exact TM.upd ev fun _ z => by cases z
    have g1 : ∀ b, b ≠ a.log → H1 b = H b := fun b hb => by rw [← hH1]; exact upd_ne hb
    obtain ⟨kl, fl, el, Tl, ql⟩ := O.la
    have el1 : H1 a.last = some (.dT kl) := by rw [g1 _ (Ne.symm n3)]; exact el
    have ep1 : H1 a.p = some (.ins C a.dx (flds a)) := by rw [g1 _ (ne_of O.ob ev (by intro z; cases z))]; exact O.ob
    have hkl : kl.length < sizeLine := Nat.lt_of_le_of_lt (Nat.le_trans Tl.len (by omega : n ≤ 1000)) (by decide)
    refine ⟨_, rfl, mp, _, _, _, rfl, rfl, SqT.of (t1 _ _ em), atI_nat (j := 1) rfl, ⟨_, rfl, a.p, C, _, _, _, rfl, ep1, T.cl, T.nLast, lk_last a, _, rfl, mp, _, _, _, rfl, rfl, SqT.of (t1 _ _ em), atI_nat (j := 0) rfl, a.last, _, rfl, DPut.t (k := mk lf m.1) el1 (t1 _ _ ema) hkl, ?_⟩⟩
    generalize hH2 : upd H1 a.last (.dT (putK kl (mk lf m.1) (.int (m.2.1 : Int)))) = H2
    have g2 : ∀ b, b ≠ a.last → H2 b = H1 b := fun b hb => by rw [← hH2]; exact upd_ne hb
    have e2 : H2 a.last = some (.dT (putK kl (mk lf m.1) (.int (m.2.1 : Int)))) := by rw [← hH2]; exact upd_same
    have el2 : H2 a.log = some (.lst (lv ++ [.ref mp])) := by rw [g2 _ n3, ← hH1]; exact upd_same
    have t2 : TM H H2 := t1.trans (by rw [← hH2]; exact TM.upd el1 fun _ z => by cases z)
    have g : ∀ b, b ≠ a.log → b ≠ a.last → H2 b = H b := fun b h1 h2 => (g2 b h2).trans (g1 b h1)
    refine q H2 (fun b o e hb => ?_) ?_
    · simp only [List.mem_cons, List.not_mem_nil, or_false, not_or] at hb
      rw [g b hb.1 hb.2]
      exact e
    · obtain ⟨ke, fe, ee, Te, qe⟩ := O.ea
      obtain ⟨kc, fc, ec, Tc, qc⟩ := O.co
      obtain ⟨ms, ems, hms⟩ := O.mems
      refine ⟨O.kn, ?_, t2 _ _ O.me, O.vid.mono t2, ⟨ms, t2 _ _ ems, hms.mono t2⟩, ⟨_, el2, ?_⟩, ⟨ke, fe, ?_, Te, fun p v hv => ?_⟩, ?_, ⟨_, _, e2, Tl.put (fun j k h => mk_inj lf h) hmn _, fun j hj => ?_⟩, ⟨kc, fc, ?_, Tc, qc⟩, O.nd⟩
      · rw [g _ (ne_of O.ob ev (by intro z; cases z)) (ne_of O.ob el (by intro z; cases z))]
        exact O.ob
      · exact Paired.snoc (all_mono (fun _ _ z => z.mono t2) pv) ⟨mp, _, rfl, t2 _ _ em, ma, rfl, t2 _ _ ema⟩
      · rw [g _ (Ne.symm n1) n6]
        exact ee
      · obtain ⟨x, h1, h2, h3⟩ := qe p v hv
        exact ⟨x, h1, h2, h3.mono t2⟩
      · rw [g _ (Ne.symm n2) n8]
        exact O.ow
      · rw [K21.lastIx_snoc]
        by_cases ej : j = m.1
        · subst ej
          rw [K21.fu_same, if_pos rfl]
          rfl
        · rw [K21.fu_ne _ _ ej, if_neg (fun z => ej z.symm)]
          exact ql j hj
      · rw [g _ (Ne.symm n4) (Ne.symm n10)]
        exact ec
end
end KW

/-! Order.pending, Order._append. -/
namespace KW
open PySem L2
open K21 (Msg Let Pkt lastIx fu)
theorem pendOf_get : ∀ (l : List Str) (c i : Nat), (pendOf c l)[i]? = (l[i]?).map fun p => (c + i + 1, p)
  | [], c, i => by simp [pendOf]
  | p :: ps, c, 0 => by simp [pendOf]
  | p :: ps, c, i + 1 => by
    have e : (pendOf c (p :: ps))[i + 1]? = (pendOf (c + 1) ps)[i]? := by simp [pendOf]
    rw [e, pendOf_get ps (c + 1) i]
    have e2 : c + 1 + i + 1 = c + (i + 1) + 1 := by omega
    simp [e2]
theorem pendOf_len : ∀ (l : List Str) (c : Nat), (pendOf c l).length = l.length
  | [], c => rfl
  | p :: ps, c => by simp [pendOf, pendOf_len ps (c + 1)]
theorem take_snoc {α : Type} {l : List α} {i : Nat} {x : α} (h : l[i]? = some x) : l.take (i + 1) = l.take i ++ [x] := by
  rw [List.take_add_one, h]
  rfl
theorem cut1 {n : Nat} {xs : List V} (hl : xs.length = n) (h : 0 < n) : cutV xs (some 1) none = xs.drop 1 := by
  have e1 : HT.sIx xs.length 0 (some 1) = 1 := by
    have e := HT.sIx_nat xs.length 0 1
    have e' : HT.sIx xs.length 0 (some 1) = min 1 xs.length := e
    omega
  have e2 : HT.sIx xs.length xs.length none = xs.length := rfl
  unfold cutV
  rw [e1, e2]
  exact List.take_of_length_le (by rw [List.length_drop]; exact Nat.le_refl _)
/-! the rules that name the written part, for a comprehension's block -/
section
variable {X : Cx} {K : PySem.W.Frag} {o : Expr} {f : Str} {pos : Pos} {ta : TE}
theorem pe_fldK (hK : X.K = K) (he : PE X o ta) (hb : attributeBase o f X.env (eval o X.env) = eval o X.env) : PE X (.Attribute o f pos) (tFld K ta f) := by
  subst hK
  exact pe_fld he hb
theorem ix_listK (hK : X.K = K) : IxR X (rIxL K) := by
  subst hK
  exact ix_list
theorem ix_tupK (hK : X.K = K) : IxR X (rIxT K) := by
  subst hK
  exact ix_tup
def rLenK (K : PySem.W.Frag) : List V → Hp → VK → Prop := fun xs H Q => ∃ p ys, xs = [.ref p] ∧ (SqL K H p ys ∨ SqT K H p ys) ∧ Q (.int ys.length) H
theorem call_lenK (hK : X.K = K) : CallR X (.builtin "len") (rLenK K) := by
  subst hK
  exact call_len_seq
end
section
variable {P : Program} {w : World} {K : PySem.W.Frag} {mg : Str → Option Value} {base : Heap} {lf : Nat → Int} {n : Nat} {C : Addr}
theorem scPending : FnScope ["self", "last", "index"] ["self"] (defScope sPending) := ⟨rfl, rfl, rfl, by decide +kernel, rfl, by decide +kernel, by decide +kernel⟩
theorem ok_pending {f : Addr} {fd : FuncData} (F : Fun K "pending" "Order.pending" sPending f fd) (T : Txt K mg C) : FnOk P w K mg base CX0 1 f fd ["self"] (spPending lf n C) := by
  refine F.ok scPending (fun vs H Q E h => ?_) (fun cdv A outer s H vs Q E hr h => ?_)
  · obtain ⟨a, k, L, log, own, cnt, rfl, _⟩ := h
    rfl
  · obtain ⟨a, k, L, log, own, cnt, rfl, O, ho, hle, q⟩ := h
    have hu := hu_of hr
    refine ⟨_, pss_cons (ps_set (i := 1) scPending.nd rfl (Or.inl rfl) (pe_dget2 hu (pe_fld (pv 0) rfl) (pe_fld (pv 0) rfl) pe_int ⟨by rfl, by rfl, by rfl, by rfl⟩))
      (pss_one (ps_ret (pe_callTy call_tuple_of (by rfl) T.tuple (by decide +kernel) (pa_cons
        (pe_lc (own := [("index", 2)]) (g := gName 2) (tt := tYes) rfl scPending.nd
          (pi_range2 rfl T.range (pa_cons (pv 1) (pa_cons (pe_callB call_len_seq (by rfl) T.len PySem.boot_len (pa_cons (pe_fld (pv 0) rfl) pa_nil)) pa_nil)))
          (blkOk_by (own := [("index", 2)]) (N := ["self", "last", "index"]) (sc := defScope sPending) (by decide +kernel))
          (fun _ _ _ _ _ => pg_name (i := 2) scPending.nd rfl (Or.inl rfl)) (fun _ _ _ _ _ => pts_nil)
          (fun _ _ _ _ _ => pe_tup (pa_cons (pe_op op_add (pv 2) pe_int) (pa_cons (pe_ix (ix_listK (K := K) (by rfl)) (pe_fldK (K := K) (by rfl) (pv 0) (by rfl)) (pv 2) (fun _ _ => rfl)) pa_nil)))) pa_nil)))), ?_⟩
    obtain ⟨kl, fl, el, Tl, ql⟩ := O.la
    have e0 : (valV kl (mk lf k)).getD (.int 0) = .int ((lastIx log k : Nat) : Int) := by
      rw [Tl.at_ k]
      exact ql k O.kn
    generalize lastIx log k = c at e0 hle q
    refine ⟨_, rfl, _, C, _, _, _, rfl, O.ob, T.cl, T.nLast, lk_last _, a.last, rfl, Or.inr ⟨kl, Or.inl el⟩, _, rfl, _, C, _, _, _, rfl, O.ob, T.cl, T.nMe, lk_me _, _, DGet.t (k := mk lf k) el O.me, ?_⟩
    rw [e0]
    refine ⟨_, rfl, _, rfl, _, C, _, _, _, rfl, O.ob, T.cl, T.nOwn, lk_own _, a.own, _, rfl, .inl (SqL.of O.ow), _, _, rfl, ⟨by omega, by omega, by rw [List.length_map]; omega, by rw [List.length_map]; omega⟩, fun D hD => ?_⟩
    refine lc_range (lo := (c : Int)) (n := (((own.map V.str).length : Int) - (c : Int)).toNat) (fun i H' => Same H H' ∧ ∃ vs, H' D = some (.lst vs) ∧ Paired (IsPair H') vs ((pendOf c (own.drop c)).take i))
      ⟨Same.new hD, [], upd_same, .nil⟩ ?_ ?_
    · rintro i H' hi ⟨sm, vs, eD, pv⟩
      rw [List.length_map] at hi
      have O' := O.same sm
      have hlt : c + i < own.length := by omega
      obtain ⟨p, hp⟩ : ∃ p, own[c + i]? = some p := ⟨own[c + i], List.getElem?_eq_getElem hlt⟩
      have hx : (pendOf c (own.drop c))[i]? = some (c + i + 1, p) := by
        rw [pendOf_get, List.getElem?_drop, hp]
        rfl
      refine ⟨rfl, _, rfl, _, _, rfl, rfl, _, rfl, _, C, _, _, _, rfl, O'.ob, T.cl, T.nOwn, lk_own _, _, rfl, _, _, _, _, rfl, rfl, SqL.of O'.ow, at_of (j := c + i) (by omega) (by rw [List.getElem?_map, hp]; rfl), ?_⟩
      refine ⟨by show 2 ≤ sizeLine; decide, fun t ht => ?_⟩
      have sm2 : ∀ o, Same H' (upd H' t o) := fun o => Same.new ht
      have nDt : D ≠ t := ne_of_none eD ht
      refine ⟨vs, by rw [upd_ne nDt]; exact eD, ?_, ?_⟩
      · have e1 := Paired.length pv
        rw [List.length_take] at e1
        exact Nat.lt_of_le_of_lt (by omega : vs.length ≤ 1000) (by decide)
      · refine ⟨fun b o e => ?_, _, upd_same, ?_⟩
        · rw [upd_ne (ne_of_none e hD)]
          exact sm2 _ b o (sm b o e)
        · rw [take_snoc hx]
          have t3 : ∀ o u, TM H' (upd (upd H' t o) D u) := fun o u => (TM.of (sm2 o)).trans (TM.upd (u := .lst vs) (by rw [upd_ne nDt]; exact eD) fun _ z => by cases z)
          refine Paired.snoc (all_mono (fun _ _ z => z.mono (t3 _ _)) pv) ⟨t, rfl, ?_⟩
          rw [upd_ne nDt.symm, upd_same]
          show some (HO.tup [V.int ((c : Int) + (i : Int) + 1), V.str p]) = some (HO.tup [V.int ((c + i + 1 : Nat) : Int), V.str p])
          have e3 : ((c : Int) + (i : Int) + 1) = ((c + i + 1 : Nat) : Int) := by omega
          rw [e3]
    · rintro H' ⟨sm, vs, eD, pv⟩
      rw [List.length_map, List.take_of_length_le (by rw [pendOf_len, List.length_drop]; omega)] at pv
      refine ⟨_, _, rfl, .inl ⟨SqL.of eD, fun t ht => ?_⟩⟩
      have sm2 : Same H' (upd H' t (.tup vs)) := Same.new ht
      exact q _ _ (sm.trans sm2) ⟨t, vs, rfl, upd_same, all_mono (fun _ _ z => z.mono (TM.of sm2)) pv⟩

theorem scAppend : FnScope ["self", "message", "member"] ["self", "message"] (defScope sAppend) := ⟨rfl, rfl, rfl, by decide +kernel, rfl, by decide +kernel, by decide +kernel⟩
theorem ok_append {f fD fO : Addr} {fd fdD fdO : FuncData} (F : Fun K "_append" "Order._append" sAppend f fd) (T : Txt K mg C) (D : Mt K C sDeliver "_deliver" "Order._deliver" ["self", "message"] fD fdD) (R : Mt K C sOrdL "_order_letter" "Order._order_letter" ["self", "place"] fO fdO) :
    FnOk P w K mg base CX0 2 f fd ["self", "message"] (spAppend lf n C) := by
  have GD : FnOk P w K mg base CX0 1 fD fdD ["self", "message"] (spDeliver lf n C) := ok_deliver D.F T
  have GR : FnOk P w K mg base CX0 1 fO fdO ["self", "place"] (spOrdL lf n C) := ok_ordL R.F T
  refine F.ok scAppend (fun vs H Q E h => ?_) (fun cdv A outer s H vs Q E hr h => ?_)
  · obtain ⟨a, L, log, own, cnt, v, m, rfl, _⟩ := h
    rfl
  · obtain ⟨a, L, log, own, cnt, v, m, rfl, O, im, hmn, hl, hn, q⟩ := h
    refine ⟨_, pss_cons (ps_expr (pe_meth (pv 0) T.cl D.m GD hr D.b .nil pass0 (pa_cons (pv 1) pa_nil)))
      (pss_one (ps_ret (pe_lc (own := [("member", 2)]) (g := gName 2) (tt := tYes) rfl scAppend.nd
          (pi_tup (pe_slice sl_tup (pe_fld (pv 0) rfl) (po_some pe_int) po_none))
          (blkOk_by (own := [("member", 2)]) (N := ["self", "message", "member"]) (sc := defScope sAppend) (by decide +kernel))
          (fun _ _ _ _ _ => pg_name (i := 2) scAppend.nd rfl (Or.inl rfl)) (fun _ _ _ _ _ => pts_nil)
          (fun _ _ _ _ _ => pe_tup (pa_cons (pe_ix (ix_tupK (K := K) (by rfl)) (pv 2) pe_int (fun _ _ => rfl)) (pa_cons
            (pe_meth (pv 0) T.cl R.m GR hr R.b .nil pass0 (pa_cons (pe_callB (call_lenK (K := K) (by rfl)) (by rfl) T.len PySem.boot_len (pa_cons (pe_fldK (K := K) (by rfl) (pv 0) (by rfl)) pa_nil)) pa_nil)) pa_nil)))))), ?_⟩
    refine ⟨_, rfl, a.p, a.dx, _, rfl, O.ob, no_of _ (by decide +kernel), _, rfl, a, 0, L, log, own, cnt, v, m, rfl, O, im, hmn, hl, hn, fun H1 k1 O1 => ?_⟩
    obtain ⟨ms, ems, hms⟩ := O1.mems
    have hn0 : 0 < n := O.kn
    refine ⟨_, rfl, _, C, _, _, _, rfl, O1.ob, T.cl, T.nMems, lk_mems _, _, rfl, a.mems, ms, rfl, SqT.of ems, ?_, fun q1 hq1 => ?_⟩
    · rw [hms.1]
      have e1 : HT.sIx n 0 (some 1) = min 1 n := HT.sIx_nat n 0 1
      rw [e1]
      omega
    rw [cut1 hms.1 hn0]
    have s1 : Same H1 (upd H1 q1 (.tup (ms.drop 1))) := Same.new hq1
    refine ⟨q1, rfl, ⟨_, SqT.of upd_same⟩, fun D0 hD => ?_⟩
    have nq : q1 ≠ D0 := ne_of_none upd_same hD
    have hD1 : H1 D0 = none := by rw [upd_ne (Ne.symm nq)] at hD; exact hD
    refine lc_tup (K := K) (a := q1) (xs := ms.drop 1) (fun i H' => Same H1 H' ∧ H' q1 = some (.tup (ms.drop 1)) ∧ ∃ vs, H' D0 = some (.lst vs) ∧ Paired (IsPkt lf H') vs ((ordAll n (log.length + 1) m).take i))
      ⟨s1.trans (Same.new hD), by rw [upd_ne nq]; exact upd_same, [], upd_same, .nil⟩ (fun i H' _ ⟨_, e, _⟩ => SqT.of e) ?_ ?_
    · rintro i x H' hx ⟨sm, eq, vs, eD, pv⟩
      have O' := O1.same sm
      rw [List.getElem?_drop] at hx
      have hi : 1 + i < n := by rw [← hms.1]; exact (List.getElem?_eq_some_iff.mp hx).1
      obtain ⟨x', ex', ix'⟩ := hms.2 (1 + i) hi
      have exx : x = x' := Option.some.inj (hx.symm.trans ex')
      subst exx
      obtain ⟨xa, rfl, exa⟩ := ix'
      obtain ⟨lv, elv, plv⟩ := O'.lg
      have hlen : (lv.length : Int) = ((log.length + 1 : Nat) : Int) := by
        rw [Paired.length plv, List.length_append, List.length_singleton]
      have hget : (log ++ [m])[log.length + 1 - 1]? = some m := by
        rw [Nat.add_sub_cancel, List.getElem?_append_right (Nat.le_refl _), Nat.sub_self]
        rfl
      refine ⟨rfl, _, rfl, _, _, _, _, rfl, rfl, SqT.of (sm _ _ exa), atI_nat (j := 0) rfl, _, rfl, a.p, a.dx, _, rfl, O'.ob, no_of _ (by decide +kernel), _, rfl, _, C, _, _, _, rfl, O'.ob, T.cl, T.nLog, lk_log _, a.log, _, rfl, .inl (SqL.of elv), ?_⟩
      refine ⟨a, L, log ++ [m], own, cnt, log.length + 1, m, by rw [hlen]; rfl, O', by omega, hget, fun u H3 s3 l3 => ?_⟩
      refine ⟨by show 2 ≤ sizeLine; decide, fun t ht => ?_⟩
      have eD3 : H3 D0 = some (.lst vs) := s3 _ _ eD
      have sm2 : ∀ o, Same H3 (upd H3 t o) := fun o => Same.new ht
      have nDt : D0 ≠ t := ne_of_none eD3 ht
      have hxq : (ordAll n (log.length + 1) m)[i]? = some (i + 1, .ord (log.length + 1) m) := by
        unfold ordAll
        rw [List.getElem?_map, List.getElem?_range (by omega)]
        rfl
      refine ⟨vs, by rw [upd_ne nDt]; exact eD3, ?_, ?_⟩
      · have e1 := Paired.length pv
        rw [List.length_take] at e1
        exact Nat.lt_of_le_of_lt (by omega : vs.length ≤ 1000) (by decide)
      · have t3 : ∀ o u, TM H3 (upd (upd H3 t o) D0 u) := fun o u => (TM.of (sm2 o)).trans (TM.upd (u := .lst vs) (by rw [upd_ne nDt]; exact eD3) fun _ z => by cases z)
        refine ⟨fun b o e => ?_, ?_, _, upd_same, ?_⟩
        · rw [upd_ne (ne_of_none e hD1)]
          exact sm2 _ b o (s3 b o (sm b o e))
        · rw [upd_ne nq]
          exact sm2 _ _ _ (s3 _ _ eq)
        · rw [take_snoc hxq]
          refine Paired.snoc (all_mono (fun _ _ z => z.mono ((TM.of s3).trans (t3 _ _))) pv) ⟨t, u, rfl, ?_, l3.mono (t3 _ _)⟩
          rw [upd_ne nDt.symm, upd_same]
          have e3 : ((1 + i : Nat) : Int) = ((i + 1 : Nat) : Int) := by omega
          rw [e3]
    · rintro H' ⟨sm, eq, vs, eD, pv⟩
      rw [List.length_drop, hms.1, List.take_of_length_le (by unfold ordAll; rw [List.length_map, List.length_range]; exact Nat.le_refl _)] at pv
      have k2 : Keep [a.log, a.last] H H' := k1.trans (Keep.of sm)
      have hD0 : H D0 = none := k1.free (fun hm => ?_) hD1
      · exact q _ _ k2 (O1.same sm) ⟨D0, vs, rfl, hD0, eD, pv⟩
      · obtain ⟨lv, elv, _⟩ := O1.lg
        obtain ⟨kl, fl, el, _⟩ := O1.la
        simp only [List.mem_cons, List.not_mem_nil, or_false] at hm
        rcases hm with e | e
        · rw [e, elv] at hD1
          cases hD1
        · rw [e, el] at hD1
          cases hD1
end
end KW

/-! Order.heard, Order.cast. -/
namespace KW
open PySem L2
open K21 (Msg Let Pkt lastIx fu)
/-- what stands nowhere now stood nowhere -/
def Gr (H H' : Hp) : Prop := ∀ b, H' b = none → H b = none
theorem Gr.refl (H : Hp) : Gr H H := fun _ h => h
theorem Gr.trans {H H1 H2 : Hp} (a : Gr H H1) (b : Gr H1 H2) : Gr H H2 := fun c h => a c (b c h)
theorem Gr.upd {H : Hp} {a : Addr} {o : HO} : Gr H (L2.upd H a o) := fun b h => by
  by_cases e : b = a
  · subst e
    rw [upd_same] at h
    cases h
  · rw [upd_ne e] at h
    exact h
theorem Gr.of {H H' : Hp} (s : Same H H') : Gr H H' := fun b h => s.free h
section
variable {lf : Nat → Int} {n : Nat} {C : Addr} {H H1 H2 H3 : Hp} {a : OAd} {k : Nat} {L log : List (Msg Str)} {own : List Str} {cnt : Nat → Nat}
theorem NewPk.mono {v : V} {qs : List (Pkt Str)} (h : NewPk lf H1 H2 v qs) (g : Gr H H1) (s : Same H2 H3) : NewPk lf H H3 v qs := by
  obtain ⟨p, vs, e, n, h2, pr⟩ := h
  exact ⟨p, vs, e, g _ n, s _ _ h2, all_mono (fun _ _ q => q.mono (TM.of s)) pr⟩
structure MNe (a : OAd) : Prop where
  le : a.log ≠ a.early
  lo : a.log ≠ a.own
  ll : a.log ≠ a.last
  lc : a.log ≠ a.counts
  eo : a.early ≠ a.own
  el : a.early ≠ a.last
  ec : a.early ≠ a.counts
  ol : a.own ≠ a.last
  oc : a.own ≠ a.counts
  la : a.last ≠ a.counts
theorem OrderAt.ne (O : OrderAt lf n C H a k L log own cnt) : MNe a := by
  have hnd := O.nd
  simp only [OAd.muts, List.nodup_cons, List.mem_cons, List.not_mem_nil, or_false, not_or, not_false_eq_true, List.nodup_nil, and_true] at hnd
  obtain ⟨⟨n1, n2, n3, n4⟩, ⟨n5, n6, n7⟩, ⟨n8, n9⟩, n10⟩ := hnd
  exact ⟨n1, n2, n3, n4, n5, n6, n7, n8, n9, n10⟩
/-- a mutable part is none of the object -/
theorem OrderAt.np (O : OrderAt lf n C H a k L log own cnt) {x : Addr} (hx : x ∈ a.muts) : a.p ≠ x := fun e => O.pNot (by rw [e]; exact hx)
theorem OrderAt.tmu (O : OrderAt lf n C H a k L log own cnt) {x : Addr} {o : HO} (hx : x ∈ a.muts) : TM H (upd H x o) := by
  obtain ⟨u, e, nu⟩ := O.mut hx
  exact TM.upd e nu
theorem m_log : a.log ∈ a.muts := by simp [OAd.muts]
theorem m_early : a.early ∈ a.muts := by simp [OAd.muts]
theorem m_own : a.own ∈ a.muts := by simp [OAd.muts]
theorem m_last : a.last ∈ a.muts := by simp [OAd.muts]
theorem m_counts : a.counts ∈ a.muts := by simp [OAd.muts]
theorem OrderAt.setOwn (O : OrderAt lf n C H a k L log own cnt) (own' : List Str) : OrderAt lf n C (upd H a.own (.lst (own'.map .str))) a k L log own' cnt := by
  have N := O.ne
  have t := O.tmu (o := .lst (own'.map .str)) m_own
  obtain ⟨ms, ems, hms⟩ := O.mems
  obtain ⟨lv, elv, plv⟩ := O.lg
  obtain ⟨ke, fe, ee, Te, qe⟩ := O.ea
  obtain ⟨kl, fl, el, Tl, ql⟩ := O.la
  obtain ⟨kc, fc, ec, Tc, qc⟩ := O.co
  exact ⟨O.kn, by rw [upd_ne (O.np m_own)]; exact O.ob, t _ _ O.me, O.vid.mono t, ⟨ms, t _ _ ems, hms.mono t⟩, ⟨lv, by rw [upd_ne N.lo]; exact elv, all_mono (fun _ _ z => z.mono t) plv⟩,
    ⟨ke, fe, by rw [upd_ne N.eo]; exact ee, Te, fun p v hv => let ⟨m, h1, h2, h3⟩ := qe p v hv; ⟨m, h1, h2, h3.mono t⟩⟩, upd_same, ⟨kl, fl, by rw [upd_ne N.ol.symm]; exact el, Tl, ql⟩, ⟨kc, fc, by rw [upd_ne N.oc.symm]; exact ec, Tc, qc⟩, O.nd⟩
theorem OrderAt.setEarly (O : OrderAt lf n C H a k L log own cnt) {kvs : List (Key × V)} {f : Nat → Option V} (Te : Tab kvs (fun p : Nat => (Sum.inl (p : Int) : Key)) f 100)
    (qe : ∀ p v, f p = some v → ∃ m, 1 ≤ p ∧ L[p - 1]? = some m ∧ IsMsg lf H v m) : OrderAt lf n C (upd H a.early (.dK kvs)) a k L log own cnt := by
  have N := O.ne
  have t := O.tmu (o := .dK kvs) m_early
  obtain ⟨ms, ems, hms⟩ := O.mems
  obtain ⟨lv, elv, plv⟩ := O.lg
  obtain ⟨kl, fl, el, Tl, ql⟩ := O.la
  obtain ⟨kc, fc, ec, Tc, qc⟩ := O.co
  exact ⟨O.kn, by rw [upd_ne (O.np m_early)]; exact O.ob, t _ _ O.me, O.vid.mono t, ⟨ms, t _ _ ems, hms.mono t⟩, ⟨lv, by rw [upd_ne N.le]; exact elv, all_mono (fun _ _ z => z.mono t) plv⟩,
    ⟨kvs, f, upd_same, Te, fun p v hv => let ⟨m, h1, h2, h3⟩ := qe p v hv; ⟨m, h1, h2, h3.mono t⟩⟩, by rw [upd_ne N.eo.symm]; exact O.ow, ⟨kl, fl, by rw [upd_ne N.el.symm]; exact el, Tl, ql⟩, ⟨kc, fc, by rw [upd_ne N.ec.symm]; exact ec, Tc, qc⟩, O.nd⟩
theorem OrderAt.setCounts (O : OrderAt lf n C H a k L log own cnt) {kvs : List (List Key × V)} {f : Nat → Option V} {cnt' : Nat → Nat} (Tc : Tab kvs (KW.mk lf) f n)
    (qc : ∀ j, j < n → (f j).getD (.int 0) = .int (cnt' j : Nat)) : OrderAt lf n C (upd H a.counts (.dT kvs)) a k L log own cnt' := by
  have N := O.ne
  have t := O.tmu (o := .dT kvs) m_counts
  obtain ⟨ms, ems, hms⟩ := O.mems
  obtain ⟨lv, elv, plv⟩ := O.lg
  obtain ⟨ke, fe, ee, Te, qe⟩ := O.ea
  obtain ⟨kl, fl, el, Tl, ql⟩ := O.la
  exact ⟨O.kn, by rw [upd_ne (O.np m_counts)]; exact O.ob, t _ _ O.me, O.vid.mono t, ⟨ms, t _ _ ems, hms.mono t⟩, ⟨lv, by rw [upd_ne N.lc]; exact elv, all_mono (fun _ _ z => z.mono t) plv⟩,
    ⟨ke, fe, by rw [upd_ne N.ec]; exact ee, Te, fun p v hv => let ⟨m, h1, h2, h3⟩ := qe p v hv; ⟨m, h1, h2, h3.mono t⟩⟩, by rw [upd_ne N.oc]; exact O.ow, ⟨kl, fl, by rw [upd_ne N.la]; exact el, Tl, ql⟩, ⟨kvs, f, upd_same, Tc, qc⟩, O.nd⟩
end
section
variable {P : Program} {w : World} {K : PySem.W.Frag} {mg : Str → Option Value} {base : Heap} {lf : Nat → Int} {n : Nat} {C : Addr}
theorem scHeard : FnScope ["self", "member", "count"] ["self", "member", "count"] (defScope sHeard) := ⟨rfl, rfl, rfl, by decide +kernel, rfl, by decide +kernel, by decide +kernel⟩
theorem ok_heard {f : Addr} {fd : FuncData} (F : Fun K "heard" "Order.heard" sHeard f fd) (T : Txt K mg C) : FnOk P w K mg base CX0 1 f fd ["self", "member", "count"] (spHeard lf n C) := by
  refine F.ok scHeard (fun vs H Q E h => ?_) (fun cdv A outer s H vs Q E hr h => ?_)
  · obtain ⟨a, k, L, log, own, cnt, v, j, c, rfl, _⟩ := h
    rfl
  · obtain ⟨a, k, L, log, own, cnt, v, j, c, rfl, O, iv, hj, hn, q⟩ := h
    have hu := hu_of hr
    refine ⟨_, pss_one (ps_if (pt_cmpR (op_inT hr.units) (pv 1) (pe_fld (pv 0) rfl) (by rfl))
      (pss_one (ps_dput hu (pe_fld (pv 0) rfl) (pv 1) (pe_callB (call_max2 rfl) (by rfl) T.max (by decide +kernel) (pa_cons (pv 2) (pa_cons (pe_dget2 hu (pe_fld (pv 0) rfl) (pv 1) pe_int ⟨by rfl, by rfl, by rfl, by rfl⟩) pa_nil))) rfl)) pss_nil), ?_⟩
    obtain ⟨ms, ems, hms⟩ := O.mems
    have ea : (((List.range n).map (memD lf)).any fun z => PyData.eqv z (memD lf j)) = true := by
      rw [mem_any]
      exact decide_eq_true hj
    refine ⟨_, rfl, _, rfl, _, C, _, _, _, rfl, O.ob, T.cl, T.nMems, lk_mems _, memD lf j, (List.range n).map (memD lf), iv.dp, .tup (SqT.of ems) hms.dp, memD_plain _, plains memD_plain _, by rw [memD_depth]; decide, _, rfl, ?_⟩
    rw [ea]
    obtain ⟨kc, fc, ec, Tc, qc⟩ := O.co
    obtain ⟨va, rfl, ev⟩ := iv
    have e0 : (valV kc (mk lf j)).getD (.int 0) = .int ((cnt j : Nat) : Int) := by
      rw [Tc.at_ j]
      exact qc j hj
    refine ⟨_, rfl, _, rfl, _, C, _, _, _, rfl, O.ob, T.cl, T.nCounts, lk_counts _, a.counts, rfl, Or.inr ⟨kc, Or.inl ec⟩, _, rfl, _, DGet.t (k := mk lf j) ec ev, ?_⟩
    rw [e0]
    have hz : kc.length < sizeLine := Nat.lt_of_le_of_lt (Nat.le_trans Tc.len (by omega : n ≤ 1000)) (by decide)
    refine ⟨_, _, rfl, _, rfl, _, C, _, _, _, rfl, O.ob, T.cl, T.nCounts, lk_counts _, _, rfl, a.counts, _, rfl, DPut.t (k := mk lf j) ec ev hz, ?_⟩
    have em : (if ((cnt j : Nat) : Int) > ((c : Nat) : Int) then ((cnt j : Nat) : Int) else ((c : Nat) : Int)) = ((max c (cnt j) : Nat) : Int) := by
      split <;> omega
    rw [em]
    refine q _ (Keep.upd (by simp)) (O.setCounts (Tc.put (fun j k h => mk_inj lf h) hj _) fun i hi => ?_)
    by_cases e : i = j
    · subst e
      rw [K21.fu_same, K21.fu_same]
      rfl
    · rw [K21.fu_ne _ _ e, K21.fu_ne _ _ e]
      exact qc i hi

theorem scCast : FnScope ["self", "payload", "index", "letters"] ["self", "payload"] (defScope sCast) := ⟨rfl, rfl, rfl, by decide +kernel, rfl, by decide +kernel, by decide +kernel⟩
theorem ok_cast {f fA fL fF fC fD fO : Addr} {fd fdA fdL fdF fdC fdD fdO : FuncData} (F : Fun K "cast" "Order.cast" sCast f fd) (T : Txt K mg C) (MA : Mt K C sAppend "_append" "Order._append" ["self", "message"] fA fdA) (ML : Mt K C sLeads "_leads" "Order._leads" ["self"] fL fdL)
    (MF : Mt K C sFounder "_founder" "Order._founder" ["self"] fF fdF) (MC : Mt K C sCastL "_cast_letter" "Order._cast_letter" ["self", "index"] fC fdC) (MD : Mt K C sDeliver "_deliver" "Order._deliver" ["self", "message"] fD fdD) (MO : Mt K C sOrdL "_order_letter" "Order._order_letter" ["self", "place"] fO fdO) :
    FnOk P w K mg base CX0 3 f fd ["self", "payload"] (spCast lf n C) := by
  have GA : FnOk P w K mg base CX0 2 fA fdA ["self", "message"] (spAppend lf n C) := ok_append MA.F T MD MO
  have GL : FnOk P w K mg base CX0 1 fL fdL ["self"] (spLeads lf n C) := ok_leads ML.F T
  have GF : FnOk P w K mg base CX0 1 fF fdF ["self"] (spFounder lf n C) := ok_founder MF.F T
  have GC : FnOk P w K mg base CX0 1 fC fdC ["self", "index"] (spCastL lf n C) := ok_castL MC.F T
  refine F.ok scCast (fun vs H Q E h => ?_) (fun cdv A outer s H vs Q E hr h => ?_)
  · obtain ⟨a, k, L, log, own, cnt, p, rfl, _⟩ := h
    rfl
  · obtain ⟨a, k, L, log, own, cnt, p, rfl, O, hl, ho, hn, q⟩ := h
    have hr1 : Room 1 _ := hr.mono (by decide)
    refine ⟨_, pss_cons (ps_expr (pe_bm PySem.F.plainAttrs_list PySem.F.slot_list_append PySem.F.type_list_append mt_append (pe_fld (pv 0) rfl) (pa_cons (pv 1) pa_nil)))
      (pss_cons (ps_set (i := 2) scCast.nd rfl (Or.inl rfl) (pe_callB call_len_seq (by rfl) T.len PySem.boot_len (pa_cons (pe_fld (pv 0) rfl) pa_nil)))
      (pss_cons (ps_if (pt_val (pe_meth0 (pv 0) T.cl ML.m GL hr1 ML.b .nil pass0))
        (pss_cons (ps_set (i := 3) scCast.nd rfl (Or.inl rfl) (pe_meth (pv 0) T.cl MA.m GA hr MA.b .nil pass0 (pa_cons (pe_tup (pa_cons (pe_fld (pv 0) rfl) (pa_cons (pv 2) (pa_cons (pv 1) pa_nil)))) pa_nil)))
          (pss_one (ps_ret (pe_tup (pa_cons (pv 2) (pa_cons (pe_lst (pa_cons (pe_tup (pa_cons (pe_fld (pv 0) rfl) (pa_cons (pv 2) (pa_cons (pv 1) pa_nil)))) pa_nil)) (pa_cons (pv 3) pa_nil)))))))
        pss_nil)
      (pss_one (ps_ret (pe_tup (pa_cons (pv 2) (pa_cons (pe_lst pa_nil) (pa_cons (pe_lst (pa_cons (pe_tup (pa_cons (pe_ix ix_tup (pe_meth0 (pv 0) T.cl MF.m GF hr1 MF.b .nil pass0) pe_int (fun _ _ => rfl)) (pa_cons
        (pe_meth (pv 0) T.cl MC.m GC hr1 MC.b .nil pass0 (pa_cons (pv 2) pa_nil)) pa_nil))) pa_nil)) pa_nil)))))))), ?_⟩
    have hz : (own.map V.str).length < sizeLine := by rw [List.length_map]; exact Nat.lt_of_le_of_lt (by omega : own.length ≤ 1000) (by decide)
    refine ⟨_, rfl, _, C, _, _, _, rfl, O.ob, T.cl, T.nOwn, lk_own _, .inl ⟨rfl, _, SqL.of O.ow⟩, _, rfl, a.own, _, _, rfl, rfl, O.ow, hz, ?_⟩
    have em : own.map V.str ++ [V.str p] = (own ++ [p]).map V.str := by rw [List.map_append]; rfl
    rw [em]
    have O1 := O.setOwn (own ++ [p])
    have k1 : Keep a.muts H (upd H a.own (.lst ((own ++ [p]).map .str))) := Keep.upd m_own
    have g1 : Gr H (upd H a.own (.lst ((own ++ [p]).map .str))) := Gr.upd
    generalize upd H a.own (.lst ((own ++ [p]).map .str)) = H1 at O1 k1 g1
    have elen : (((own ++ [p]).map V.str).length : Int) = ((own.length + 1 : Nat) : Int) := by rw [List.length_map, List.length_append, List.length_singleton]
    refine ⟨_, rfl, _, C, _, _, _, rfl, O1.ob, T.cl, T.nOwn, lk_own _, a.own, _, rfl, .inl (SqL.of O1.ow), ?_⟩
    rw [elen]
    refine ⟨_, rfl, a.p, a.dx, _, rfl, O1.ob, no_of _ (by decide +kernel), a, k, L, log, own ++ [p], cnt, rfl, O1, _, rfl, ?_⟩
    by_cases hk : k = 0
    · subst hk
      -- letters = self._append((self._me, index, payload))
      refine ⟨_, rfl, a.p, a.dx, _, rfl, O1.ob, no_of _ (by decide +kernel), _, rfl, _, C, _, _, _, rfl, O1.ob, T.cl, T.nMe, lk_me _, _, rfl, _, rfl, by show 3 ≤ sizeLine; decide, fun t1 ht1 => ?_⟩
      have s1 : ∀ o, Same H1 (upd H1 t1 o) := fun o => Same.new ht1
      have O2 := fun o => O1.same (s1 o)
      refine ⟨a, L, log, own ++ [p], cnt, .ref t1, (0, own.length + 1, p), rfl, O2 _, ⟨t1, .ref a.me, rfl, upd_same, (O2 _).isMe⟩, O.kn, hl, hn, fun H3 u k3 O3 n3 => ?_⟩
      -- return (index, [(self._me, index, payload)], letters)
      refine ⟨_, rfl, _, rfl, _, C, _, _, _, rfl, O3.ob, T.cl, T.nMe, lk_me _, _, rfl, _, rfl, by show 3 ≤ sizeLine; decide, fun t2 ht2 => ⟨by show 1 ≤ sizeLine; decide, fun l3 hl3 => ⟨_, rfl, by show 3 ≤ sizeLine; decide, fun t4 ht4 => ?_⟩⟩⟩
      refine q _ t4 (.ref l3) u ?_ upd_same ?_ ?_
      · have k3' : Keep a.muts H1 H3 := (Keep.of (s1 _)).trans (k3.mono fun x hx => by
          simp only [List.mem_cons, List.not_mem_nil, or_false] at hx
          rcases hx with rfl | rfl
          · exact m_log
          · exact m_last)
        exact (k1.trans k3').trans (Keep.of (((Same.new ht2).trans (Same.new hl3)).trans (Same.new ht4)))
      · rw [if_pos rfl]
        exact O3.same (((Same.new ht2).trans (Same.new hl3)).trans (Same.new ht4))
      · rw [if_pos rfl]
        exact n3.mono (g1.trans Gr.upd) (((Same.new ht2).trans (Same.new hl3)).trans (Same.new ht4))
    · have hkf : decide (k = 0) = false := decide_eq_false hk
      rw [hkf]
      refine ⟨_, rfl, Nat.zero_le _, fun l1 hl1 => ?_⟩
      have s1 : ∀ o, Same H1 (upd H1 l1 o) := fun o => Same.new hl1
      have O2 := O1.same (s1 (.lst []))
      refine ⟨_, rfl, a.p, a.dx, _, rfl, O2.ob, no_of _ (by decide +kernel), a, k, L, log, own ++ [p], cnt, rfl, O2, fun v0 i0 => ?_⟩
      obtain ⟨ma, rfl, ema⟩ := i0
      have hget : (own ++ [p])[own.length + 1 - 1]? = some p := by
        rw [Nat.add_sub_cancel, List.getElem?_append_right (Nat.le_refl _), Nat.sub_self]
        rfl
      refine ⟨_, _, _, _, rfl, rfl, SqT.of ema, atI_nat (j := 0) rfl, _, rfl, a.p, a.dx, _, rfl, O2.ob, no_of _ (by decide +kernel), _, rfl, a, k, L, log, own ++ [p], cnt, own.length + 1, p, rfl, O2, by omega, hget, fun u H3 s3 l3 => ?_⟩
      refine ⟨by show 2 ≤ sizeLine; decide, fun t ht => ⟨by show 1 ≤ sizeLine; decide, fun l2 hl2 => ⟨by show 3 ≤ sizeLine; decide, fun t4 ht4 => ?_⟩⟩⟩
      have sA : Same H1 H3 := (s1 _).trans s3
      have sB : ∀ o1 o2 o3, Same H3 (upd (upd (upd H3 t o1) l2 o2) t4 o3) := fun o1 o2 o3 b o e => by
        have e1 : upd H3 t o1 b = some o := by rw [upd_ne (ne_of_none e ht)]; exact e
        have hl2' : upd H3 t o1 l2 = none ∨ True := .inr trivial
        by_cases h2 : b = l2
        · subst h2
          exfalso
          have hq := hl2
          by_cases hbt : b = t
          · subst hbt
            rw [upd_same] at hq
            cases hq
          · rw [upd_ne hbt] at hq
            rw [e] at hq
            cases hq
        · by_cases h4 : b = t4
          · subst h4
            exfalso
            have hq := ht4
            rw [upd_ne h2] at hq
            by_cases hbt : b = t
            · subst hbt
              rw [upd_same] at hq
              cases hq
            · rw [upd_ne hbt] at hq
              rw [e] at hq
              cases hq
          · rw [upd_ne h4, upd_ne h2]
            exact e1
      refine q _ t4 (.ref l1) (.ref l2) ?_ upd_same ?_ ?_
      · exact k1.trans (Keep.of (sA.trans (sB _ _ _)))
      · rw [if_neg hk]
        exact O1.same (sA.trans (sB _ _ _))
      · rw [if_neg hk]
        have nl : l2 ≠ t4 := ne_of_none upd_same ht4
        have nt : t ≠ l2 := ne_of_none upd_same hl2
        refine ⟨l2, _, rfl, ?_, by rw [upd_ne nl]; exact upd_same, .cons ⟨t, u, rfl, ?_, l3.mono (TM.of (sB _ _ _))⟩ .nil⟩
        · exact g1 _ (sA.free ((Gr.upd) _ hl2))
        · have nt4 : t ≠ t4 := ne_of_none (by rw [upd_ne nt]; exact upd_same) ht4
          rw [upd_ne nt4, upd_ne nt, upd_same]
end
end KW

/-! Order._take_cast, Order._take_order, Order.take. -/
namespace KW
open PySem L2
open K21 (Msg Let Pkt lastIx fu)
/-- two new objects in a row, three -/
theorem Same.new2 {H : Hp} {a b : Addr} {o u : HO} (h1 : H a = none) (h2 : L2.upd H a o b = none) : Same H (L2.upd (L2.upd H a o) b u) := (Same.new h1).trans (Same.new h2)
theorem Same.new3 {H : Hp} {a b c : Addr} {o u x : HO} (h1 : H a = none) (h2 : L2.upd H a o b = none) (h3 : L2.upd (L2.upd H a o) b u c = none) : Same H (L2.upd (L2.upd (L2.upd H a o) b u) c x) := (Same.new2 h1 h2).trans (Same.new h3)
section
variable {P : Program} {w : World} {K : PySem.W.Frag} {mg : Str → Option Value} {base : Heap} {lf : Nat → Int} {n : Nat} {C : Addr}
theorem scTakeCast : FnScope ["self", "sender", "index", "payload", "message", "letters"] ["self", "sender", "index", "payload"] (defScope sTakeCast) := ⟨rfl, rfl, rfl, by decide +kernel, rfl, by decide +kernel, by decide +kernel⟩
theorem ok_takeCast {f fA fL fD fO : Addr} {fd fdA fdL fdD fdO : FuncData} (F : Fun K "_take_cast" "Order._take_cast" sTakeCast f fd) (T : Txt K mg C) (MA : Mt K C sAppend "_append" "Order._append" ["self", "message"] fA fdA) (ML : Mt K C sLeads "_leads" "Order._leads" ["self"] fL fdL)
    (MD : Mt K C sDeliver "_deliver" "Order._deliver" ["self", "message"] fD fdD) (MO : Mt K C sOrdL "_order_letter" "Order._order_letter" ["self", "place"] fO fdO) :
    FnOk P w K mg base CX0 3 f fd ["self", "sender", "index", "payload"] (spTakeCast lf n C) := by
  have GA : FnOk P w K mg base CX0 2 fA fdA ["self", "message"] (spAppend lf n C) := ok_append MA.F T MD MO
  have GL : FnOk P w K mg base CX0 1 fL fdL ["self"] (spLeads lf n C) := ok_leads ML.F T
  refine F.ok scTakeCast (fun vs H Q E h => ?_) (fun cdv A outer s H vs Q E hr h => ?_)
  · obtain ⟨a, L, log, own, cnt, v, j, i, p, rfl, _⟩ := h
    rfl
  · obtain ⟨a, L, log, own, cnt, v, j, i, p, rfl, O, iv, hj0, hj, hl, hn, q⟩ := h
    have hr1 : Room 1 _ := hr.mono (by decide)
    have hu := hu_of hr
    refine ⟨_, pss_cons (ps_if (PW.pt (pw_or (pt_not (pt_val (pe_meth0 (pv 0) T.cl ML.m GL hr1 ML.b .nil pass0))) (pw_or (pt_cmpR (op_eqP hr.units) (pv 1) (pe_fld (pv 0) rfl) (nomark _)) (pw_or1 (pt_cmpR (op_notInT hr.units) (pv 1) (pe_fld (pv 0) rfl) (by rfl))))))
        (pss_one (ps_ret (pe_tup (pa_cons (pe_lst pa_nil) (pa_cons (pe_lst pa_nil) pa_nil))))) pss_nil)
      (pss_cons (ps_if (pt_cmpR op_ne (pv 2) (pe_op op_add (pe_dget2 hu (pe_fld (pv 0) rfl) (pv 1) pe_int ⟨by rfl, by rfl, by rfl, by rfl⟩) pe_int) (nomark _))
        (pss_one (ps_ret (pe_tup (pa_cons (pe_lst pa_nil) (pa_cons (pe_lst pa_nil) pa_nil))))) pss_nil)
      (pss_cons (ps_set (i := 4) scTakeCast.nd rfl (Or.inl rfl) (pe_tup (pa_cons (pv 1) (pa_cons (pv 2) (pa_cons (pv 3) pa_nil)))))
      (pss_cons (ps_set (i := 5) scTakeCast.nd rfl (Or.inl rfl) (pe_meth (pv 0) T.cl MA.m GA hr MA.b .nil pass0 (pa_cons (pv 4) pa_nil)))
      (pss_one (ps_ret (pe_tup (pa_cons (pe_lst (pa_cons (pv 4) pa_nil)) (pa_cons (pv 5) pa_nil)))))))), ?_⟩
    obtain ⟨ms, ems, hms⟩ := O.mems
    have ea : (((List.range n).map (memD lf)).any fun z => PyData.eqv z (memD lf j)) = true := by
      rw [mem_any]
      exact decide_eq_true hj
    have eb : PyData.eqv (memD lf j) (memD lf 0) = false := by
      rw [memD_eqv]
      exact decide_eq_false hj0
    refine ⟨_, rfl, a.p, a.dx, _, rfl, O.ob, no_of _ (by decide +kernel), a, 0, L, log, own, cnt, rfl, O, _, rfl, ?_⟩
    refine ⟨_, rfl, _, rfl, _, C, _, _, _, rfl, O.ob, T.cl, T.nMe, lk_me _, memD lf j, memD lf 0, iv.dp, O.isMe.dp, memD_plain _, memD_plain _, by rw [memD_depth]; decide, _, rfl, ?_⟩
    rw [eb]
    refine ⟨_, rfl, _, rfl, _, C, _, _, _, rfl, O.ob, T.cl, T.nMems, lk_mems _, memD lf j, (List.range n).map (memD lf), iv.dp, .tup (SqT.of ems) hms.dp, memD_plain _, plains memD_plain _, by rw [memD_depth]; decide, _, rfl, ?_⟩
    rw [ea]
    -- if index != self._last.get(sender, 0) + 1
    obtain ⟨kl, fl, el, Tl, ql⟩ := O.la
    obtain ⟨va, rfl, ev⟩ := iv
    have e0 : (valV kl (mk lf j)).getD (.int 0) = .int ((lastIx log j : Nat) : Int) := by
      rw [Tl.at_ j]
      exact ql j hj
    refine ⟨_, rfl, _, rfl, _, C, _, _, _, rfl, O.ob, T.cl, T.nLast, lk_last _, a.last, rfl, Or.inr ⟨kl, Or.inl el⟩, _, rfl, _, DGet.t (k := mk lf j) el ev, ?_⟩
    rw [e0]
    refine ⟨_, _, rfl, rfl, rfl, _, rfl, ?_⟩
    by_cases hi : i = lastIx log j + 1
    · have ed : decide (V.int (i : Int) = V.int (((lastIx log j : Nat) : Int) + 1)) = true := decide_eq_true (by rw [hi]; rfl)
      refine iteNS (of_decide_eq_true ed) ?_
      refine ⟨_, rfl, _, rfl, _, rfl, by show 3 ≤ sizeLine; decide, fun t1 ht1 => ?_⟩
      have s1 : ∀ o, Same H (upd H t1 o) := fun o => Same.new ht1
      have O2 := fun o => O.same (s1 o)
      refine ⟨_, rfl, a.p, a.dx, _, rfl, (O2 _).ob, no_of _ (by decide +kernel), _, rfl, a, L, log, own, cnt, .ref t1, (j, i, p), rfl, O2 _, ⟨t1, .ref va, rfl, upd_same, va, rfl, s1 _ _ _ ev⟩, hj, by omega, hn, fun H3 u k3 O3 n3 => ?_⟩
      refine ⟨_, rfl, by show 1 ≤ sizeLine; decide, fun l3 hl3 => ⟨_, rfl, by show 2 ≤ sizeLine; decide, fun t4 ht4 => ?_⟩⟩
      refine q _ t4 (.ref l3) u (log ++ [(j, i, p)]) (ordAll n (log.length + 1) (j, i, p)) (.yes rfl hi) ?_ upd_same (O3.same (Same.new2 hl3 ht4)) (n3.mono Gr.upd (Same.new2 hl3 ht4))
      exact (Keep.of (s1 _)).trans ((k3.mono fun x hx => by
        simp only [List.mem_cons, List.not_mem_nil, or_false] at hx
        rcases hx with rfl | rfl
        · exact m_log
        · exact m_last).trans (Keep.of (Same.new2 hl3 ht4)))
    · have ed : decide (V.int (i : Int) = V.int (((lastIx log j : Nat) : Int) + 1)) = false := decide_eq_false fun z => hi (by have := V.int.inj z; omega)
      rw [ed]
      refine ⟨Nat.zero_le _, fun l1 hl1 => ⟨Nat.zero_le _, fun l2 hl2 => ⟨by show 2 ≤ sizeLine; decide, fun t4 ht4 => ?_⟩⟩⟩
      have s3 := Same.new3 (x := .tup [.ref l1, .ref l2]) hl1 hl2 ht4
      refine q _ t4 (.ref l1) (.ref l2) log [] (.no rfl hi) (Keep.of s3) upd_same (O.same s3) ⟨l2, [], rfl, Gr.upd _ hl2, ?_, .nil⟩
      rw [upd_ne (ne_of_none upd_same ht4)]
      exact upd_same

theorem scTakeOrd : FnScope ["self", "sender", "place", "message", "delivered"] ["self", "sender", "place", "message"] (defScope sTakeOrd) := ⟨rfl, rfl, rfl, by decide +kernel, rfl, by decide +kernel, by decide +kernel⟩
/-- the loop's word -/
structure OrdW (lf : Nat → Int) (n : Nat) (C : Addr) (H : Hp) (a : OAd) (k : Nat) (L log : List (Msg Str)) (own : List Str) (cnt : Nat → Nat) (place : Nat) (dl : Addr) (H' : Hp) (log' : List (Msg Str)) : Prop where
  O : OrderAt lf n C H' a k L log' own cnt
  up : log <+: log'
  le : log' <+: L
  ds : ∃ ds, H' dl = some (.lst ds) ∧ ds.length ≤ log'.length
  new : H dl = none
  keep : Keep a.muts H H'
  ent : place = log.length + 1 → place ≤ log'.length ∨ ∃ kvs v, H' a.early = some (.dK kvs) ∧ valV kvs (Sum.inl ((log'.length + 1 : Nat) : Int) : Key) = some v
theorem ok_takeOrd {f fL fF fD : Addr} {fd fdL fdF fdD : FuncData} (F : Fun K "_take_order" "Order._take_order" sTakeOrd f fd) (T : Txt K mg C) (ML : Mt K C sLeads "_leads" "Order._leads" ["self"] fL fdL)
    (MF : Mt K C sFounder "_founder" "Order._founder" ["self"] fF fdF) (MD : Mt K C sDeliver "_deliver" "Order._deliver" ["self", "message"] fD fdD) :
    FnOk P w K mg base CX0 2 f fd ["self", "sender", "place", "message"] (spTakeOrd lf n C) := by
  have GL : FnOk P w K mg base CX0 1 fL fdL ["self"] (spLeads lf n C) := ok_leads ML.F T
  have GF : FnOk P w K mg base CX0 1 fF fdF ["self"] (spFounder lf n C) := ok_founder MF.F T
  have GD : FnOk P w K mg base CX0 1 fD fdD ["self", "message"] (spDeliver lf n C) := ok_deliver MD.F T
  refine F.ok scTakeOrd (fun vs H Q E h => ?_) (fun cdv A outer s H vs Q E hr h => ?_)
  · obtain ⟨a, k, L, log, own, cnt, v, x, place, m, rfl, _⟩ := h
    rfl
  · obtain ⟨a, k, L, log, own, cnt, v, x, place, m, rfl, O, iv, ix, hk, hp1, hpm, hle, hL, hn, hLn, q⟩ := h
    have hu := hu_of hr
    refine ⟨_, pss_cons (ps_if (PW.pt (pw_or (pt_val (pe_meth0 (pv 0) T.cl ML.m GL hr ML.b .nil pass0)) (pw_or (pt_cmpR (op_neP hr.units) (pv 1) (pe_meth0 (pv 0) T.cl MF.m GF hr MF.b .nil pass0) (nomark _)) (pw_or1 (pt_cmpR op_le (pv 2) (pe_callB call_len_seq (by rfl) T.len PySem.boot_len (pa_cons (pe_fld (pv 0) rfl) pa_nil)) (nomark _))))))
        (pss_one (ps_ret (pe_tup (pa_cons (pe_lst pa_nil) (pa_cons (pe_lst pa_nil) pa_nil))))) pss_nil)
      (pss_cons (ps_if (pt_cmp (pc_dnotin hu (pv 2) (pe_fld (pv 0) rfl))) (pss_one (ps_dput hu (pe_fld (pv 0) rfl) (pv 2) (pv 3) rfl)) pss_nil)
      (pss_cons (ps_set (i := 4) scTakeOrd.nd rfl (Or.inl rfl) (pe_lst pa_nil))
      (pss_cons (ps_while PassesOwn.never (pt_cmp (pc_din hu (pe_op op_add (pe_callB call_len_seq (by rfl) T.len PySem.boot_len (pa_cons (pe_fld (pv 0) rfl) pa_nil)) pe_int) (pe_fld (pv 0) rfl)))
        (pss_cons (ps_set (i := 3) scTakeOrd.nd rfl (Or.inl rfl) (pe_dpop1 (pe_fld (pv 0) rfl) (pe_op op_add (pe_callB call_len_seq (by rfl) T.len PySem.boot_len (pa_cons (pe_fld (pv 0) rfl) pa_nil)) pe_int) ⟨by rfl, by rfl, by rfl, by rfl⟩))
        (pss_cons (ps_expr (pe_meth (pv 0) T.cl MD.m GD hr MD.b .nil pass0 (pa_cons (pv 3) pa_nil)))
        (pss_one (ps_expr (pe_bm PySem.F.plainAttrs_list PySem.F.slot_list_append PySem.F.type_list_append mt_append (pv 4) (pa_cons (pv 3) pa_nil)))))))
      (pss_one (ps_ret (pe_tup (pa_cons (pv 4) (pa_cons (pe_lst pa_nil) pa_nil)))))))), ?_⟩
    have hkf : decide (k = 0) = false := decide_eq_false hk
    obtain ⟨lv, elv, plv⟩ := O.lg
    have hlen := Paired.length plv
    refine ⟨_, rfl, a.p, a.dx, _, rfl, O.ob, no_of _ (by decide +kernel), a, k, L, log, own, cnt, rfl, O, _, rfl, ?_⟩
    rw [hkf]
    refine ⟨_, rfl, _, rfl, a.p, a.dx, _, rfl, O.ob, no_of _ (by decide +kernel), a, k, L, log, own, cnt, rfl, O, fun v0 i0 => ?_⟩
    have eb : PyData.eqv (memD lf 0) (memD lf 0) = true := by
      rw [memD_eqv]
      exact decide_eq_true rfl
    refine ⟨memD lf 0, memD lf 0, iv.dp, i0.dp, memD_plain _, memD_plain _, by rw [memD_depth]; decide, _, rfl, ?_⟩
    rw [eb]
    refine ⟨_, rfl, _, rfl, _, C, _, _, _, rfl, O.ob, T.cl, T.nLog, lk_log _, a.log, _, rfl, .inl (SqL.of elv), _, _, rfl, rfl, _, rfl, ?_⟩
    refine ite2 (fun hc => ?_) (fun hc => ?_)
    · -- nothing is new
      have hc := of_decide_eq_true hc
      refine ⟨Nat.zero_le _, fun l1 hl1 => ⟨Nat.zero_le _, fun l2 hl2 => ⟨by show 2 ≤ sizeLine; decide, fun t4 ht4 => ?_⟩⟩⟩
      have s3 := Same.new3 (x := .tup [.ref l1, .ref l2]) hl1 hl2 ht4
      refine q _ t4 (.ref l1) (.ref l2) log (.ord hk (List.prefix_refl _) hle fun e => by omega) (Keep.of s3) upd_same (O.same s3) ⟨l2, [], rfl, Gr.upd _ hl2, ?_, .nil⟩
      rw [upd_ne (ne_of_none upd_same ht4)]
      exact upd_same
    · have hc : ¬ ((place : Int) ≤ (lv.length : Int)) := fun z => hc (decide_eq_true z)
      have hpl : place - 1 < L.length := (List.getElem?_eq_some_iff.mp hpm).1
      obtain ⟨ke, fe, ee, Te, qe⟩ := O.ea
      -- behind the if: the order with the early letters, place's among them
      have go : ∀ (H1 : Hp), OrderAt lf n C H1 a k L log own cnt → Keep a.muts H H1 → Gr H H1 → (∃ kvs v, H1 a.early = some (.dK kvs) ∧ valV kvs (Sum.inl ((place : Nat) : Int) : Key) = some v) →
          tSeq (tAsg (tLst tNil) (gName 4)) (tSeq (tWhile (tB (tDIn (tOp (rI0 fun i j => .int (i + j)) (tCB (fun xs H Q => ∃ p ys, xs = [.ref p] ∧ (SqL K H p ys ∨ SqT K H p ys) ∧ Q (.int ys.length) H) (tCons (tFld K (tVar 0) "_log") tNil)) (tC (.int 1))) (tFld K (tVar 0) "_early")))
            (tSeq (tAsg (tDPop1 (tFld K (tVar 0) "_early") (tOp (rI0 fun i j => .int (i + j)) (tCB (fun xs H Q => ∃ p ys, xs = [.ref p] ∧ (SqL K H p ys ∨ SqT K H p ys) ∧ Q (.int ys.length) H) (tCons (tFld K (tVar 0) "_log") tNil)) (tC (.int 1)))) (gName 3))
              (tSeq (tDrop (tMeth C "_deliver" (spDeliver lf n C) [] E0 (tVar 0) (tCons (tVar 3) tNil)))
                (tDrop (tBM K "list" rAppend (tVar 4) (tCons (tVar 3) tNil))))))
            (tRet (tTup (tCons (tVar 4) (tCons (tLst tNil) tNil))))) { nx := fun _ H' => Q .non H', rt := Q } [some (.ref a.p), some v, some (.int (place : Int)), some x, none] H1 := by
        intro H1 O1 k1 g1 hent
        refine ⟨Nat.zero_le _, fun dl hdl => ?_⟩
        have s1 : Same H1 (upd H1 dl (.lst [])) := Same.new hdl
        refine ⟨fun mm σ H' => ∃ log' mv, mm = L.length - log'.length ∧ σ = [some (.ref a.p), some v, some (.int (place : Int)), mv, some (.ref dl)] ∧ OrdW lf n C H a k L log own cnt place dl H' log', ⟨_, log, some x, rfl, rfl, O1.same s1, List.prefix_refl _, hle, ⟨[], upd_same, Nat.zero_le _⟩, g1 _ hdl, k1.trans (Keep.of s1), fun e => .inr ?_⟩, ?_⟩
        · obtain ⟨kvs, v1, h1, h2⟩ := hent
          exact ⟨kvs, v1, s1 _ _ h1, by rw [← e]; exact h2⟩
        · rintro mm σ H' ⟨log', mv, rfl, rfl, W⟩
          obtain ⟨lv', elv', plv'⟩ := W.O.lg
          have hlen' := Paired.length plv'
          obtain ⟨ke', fe', ee', Te', qe'⟩ := W.O.ea
          have hle' := W.le.length_le
          have ekey : (lv'.length : Int) + 1 = ((log'.length + 1 : Nat) : Int) := by omega
          refine ⟨_, rfl, _, C, _, _, _, rfl, W.O.ob, T.cl, T.nLog, lk_log _, a.log, _, rfl, .inl (SqL.of elv'), _, _, rfl, rfl, _, rfl, _, C, _, _, _, rfl, W.O.ob, T.cl, T.nEarly, lk_early _, a.early, _, rfl, DGet.k (k := Sum.inl ((lv'.length : Int) + 1)) ee', _, rfl, ?_⟩
          rw [ekey]
          cases hv : valV ke' (Sum.inl ((log'.length + 1 : Nat) : Int) : Key) with
          | some y =>
            have hfe : fe' (log'.length + 1) = some y := (Te'.at_ (log'.length + 1)).symm.trans hv
            obtain ⟨m', h1, h2, h3⟩ := qe' _ _ hfe
            rw [Nat.add_sub_cancel] at h2
            have hlt : log'.length < L.length := (List.getElem?_eq_some_iff.mp h2).1
            refine ⟨fun σ' H'' => ∃ log'' mv'', log'' = log' ++ [m'] ∧ σ' = [some (.ref a.p), some v, some (.int (place : Int)), mv'', some (.ref dl)] ∧ OrdW lf n C H a k L log own cnt place dl H'' log'', ?_, ?_⟩
            · rintro σ' H'' ⟨log'', mv'', rfl, rfl, W''⟩
              refine ⟨_, ?_, _, mv'', rfl, rfl, W''⟩
              rw [List.length_append, List.length_singleton]
              omega
            · refine ⟨_, rfl, _, C, _, _, _, rfl, W.O.ob, T.cl, T.nEarly, lk_early _, a.early, rfl, Or.inl ⟨ke', Or.inl ee'⟩, _, rfl, _, C, _, _, _, rfl, W.O.ob, T.cl, T.nLog, lk_log _, a.log, _, rfl, .inl (SqL.of elv'), _, _, rfl, rfl, ke', Sum.inl ((lv'.length : Int) + 1), y, ee', rfl, by rw [ekey]; exact hv, ?_⟩
              have O2 := W.O.setEarly (Te'.drop inl_inj (log'.length + 1)) fun p v hv' => by
                by_cases e : p = log'.length + 1
                · subst e
                  rw [K21.fu_same] at hv'
                  cases hv'
                · rw [K21.fu_ne _ _ e] at hv'
                  exact qe' p v hv'
              rw [ekey]
              have t2 : TM H' (upd H' a.early (.dK (dropK ke' (Sum.inl ((log'.length + 1 : Nat) : Int) : Key)))) := W.O.tmu m_early
              have k2 : Keep a.muts H' (upd H' a.early (.dK (dropK ke' (Sum.inl ((log'.length + 1 : Nat) : Int) : Key)))) := Keep.upd m_early
              obtain ⟨ds, eds, hds⟩ := W.ds
              have ndl : ¬ dl ∈ a.muts := fun hm => by
                obtain ⟨u, eu, _⟩ := O.mut hm
                rw [W.new] at eu
                cases eu
              have eds2 : upd H' a.early (.dK (dropK ke' (Sum.inl ((log'.length + 1 : Nat) : Int) : Key))) dl = some (.lst ds) := k2 _ _ eds ndl
              generalize upd H' a.early (.dK (dropK ke' (Sum.inl ((log'.length + 1 : Nat) : Int) : Key))) = H2 at O2 t2 k2 eds2
              refine ⟨_, rfl, a.p, a.dx, _, rfl, O2.ob, no_of _ (by decide +kernel), _, rfl, a, k, L, log', own, cnt, y, m', rfl, O2, h3.mono t2, hLn m' (List.mem_of_getElem? h2), by omega, hn, fun H3 k3 O3 => ?_⟩
              have k3' : Keep a.muts H2 H3 := k3.mono fun x hx => by
                simp only [List.mem_cons, List.not_mem_nil, or_false] at hx
                rcases hx with rfl | rfl
                · exact m_log
                · exact m_last
              have eds3 : H3 dl = some (.lst ds) := k3' _ _ eds2 ndl
              refine ⟨_, rfl, .inl ⟨rfl, _, SqL.of eds3⟩, _, rfl, dl, _, _, rfl, rfl, eds3, Nat.lt_of_le_of_lt (by omega : ds.length ≤ 1000) (by decide), ?_⟩
              have tm4 : TM H3 (upd H3 dl (.lst (ds ++ [y]))) := TM.upd eds3 fun _ z => by cases z
              have ndp : a.p ≠ dl := ne_of O3.ob eds3 (by intro z; cases z)
              refine ⟨log' ++ [m'], _, rfl, rfl, O3.stay tm4 (fun o e => by rw [upd_ne ndp]; exact e) (fun z o hz e => by rw [upd_ne (fun hh => ndl (by rw [← hh]; exact hz))]; exact e), W.up.trans (K21.pre_snoc _ _), ?_, ⟨_, upd_same, ?_⟩, W.new, ?_, fun e => ?_⟩
              · obtain ⟨r, hr'⟩ := W.le
                rw [← hr'] at h2 ⊢
                rw [List.getElem?_append_right (Nat.le_refl _), Nat.sub_self] at h2
                cases r with
                | nil => simp at h2
                | cons y' r =>
                  have e' : y' = m' := by simpa using h2
                  subst e'
                  exact ⟨r, by simp⟩
              · rw [List.length_append, List.length_append, List.length_singleton, List.length_singleton]
                omega
              · intro b o e hb
                rw [upd_ne (ne_of_none e W.new)]
                exact k3' b o (k2 b o (W.keep b o e hb) hb) hb
              · have := W.up.length_le
                rw [List.length_append, List.length_singleton]
                exact .inl (by omega)
          | none =>
            -- return (delivered, [])
            refine ⟨_, rfl, Nat.zero_le _, fun l2 hl2 => ⟨by show 2 ≤ sizeLine; decide, fun t4 ht4 => ?_⟩⟩
            have s3 := Same.new2 (u := .tup [.ref dl, .ref l2]) hl2 ht4
            refine q _ t4 (.ref dl) (.ref l2) log' (.ord hk W.up W.le fun e => ?_) (W.keep.trans (Keep.of s3)) upd_same (W.O.same s3) ⟨l2, [], rfl, ?_, ?_, .nil⟩
            · rcases W.ent e with h | ⟨kvs, v1, h1, h2⟩
              · exact h
              · rw [ee'] at h1
                cases h1
                rw [hv] at h2
                cases h2
            · refine W.keep.free (fun hm => ?_) hl2
              obtain ⟨u, eu, _⟩ := W.O.mut hm
              rw [hl2] at eu
              cases eu
            · rw [upd_ne (ne_of_none upd_same ht4)]
              exact upd_same
      refine ⟨_, rfl, _, rfl, _, C, _, _, _, rfl, O.ob, T.cl, T.nEarly, lk_early _, a.early, _, rfl, DGet.k (k := Sum.inl ((place : Nat) : Int)) ee, _, rfl, ?_⟩
      cases hv : valV ke (Sum.inl ((place : Nat) : Int) : Key) with
      | some y => exact go H O (Keep.of (Same.refl H)) (Gr.refl H) ⟨ke, y, ee, hv⟩
      | none =>
        have hz : ke.length < sizeLine := Nat.lt_of_le_of_lt (Nat.le_trans Te.len (by decide : 100 ≤ 1000)) (by decide)
        refine ⟨_, rfl, _, rfl, _, C, _, _, _, rfl, O.ob, T.cl, T.nEarly, lk_early _, _, rfl, a.early, _, rfl, DPut.k (k := Sum.inl ((place : Nat) : Int)) ee hz, ?_⟩
        refine go _ (O.setEarly (Te.put inl_inj (k := place) (by omega) x) fun p v hv' => ?_) (Keep.upd m_early) Gr.upd ⟨_, x, upd_same, by rw [valV_put, if_pos rfl]⟩
        by_cases e : p = place
        · subst e
          rw [K21.fu_same] at hv'
          have ex : x = v := Option.some.inj hv'
          subst ex
          exact ⟨m, hp1, hpm, ix⟩
        · rw [K21.fu_ne _ _ e] at hv'
          exact qe p v hv'
end
end KW

/-! Order.take, Order.__init__. -/
namespace KW
open PySem L2
open K21 (Msg Let Pkt lastIx fu)
theorem putF_new : ∀ {fs : List (Str × V)} {names : List Str} {f : Str} {v : V}, fs.map (·.1) = names → names.findIdx? (· == f) = none → putF f v fs = fs ++ [(f, v)]
  | [], names, f, v, _, _ => rfl
  | (g, x) :: r, names, f, v, hn, hi => by
    subst hn
    rw [List.map_cons, List.findIdx?_cons] at hi
    by_cases e : g = f
    · subst e
      simp at hi
    · have hb : (g == f) = false := beq_eq_false_iff_ne.mpr e
      simp only [hb] at hi
      show (if g = f then (g, v) :: r else (g, x) :: putF f v r) = _
      rw [if_neg e, putF_new (names := r.map (·.1)) rfl]
      · rfl
      · cases q : (r.map (·.1)).findIdx? (· == f) with
        | none => rfl
        | some j => rw [q] at hi; simp at hi
abbrev g1 (me : Addr) : List (Str × V) := [("_me", .ref me)]
abbrev g2 (me vid : Addr) : List (Str × V) := [("_me", .ref me), ("_id", .ref vid)]
abbrev g3 (me vid mems : Addr) : List (Str × V) := [("_me", .ref me), ("_id", .ref vid), ("_members", .ref mems)]
abbrev g4 (me vid mems l1 : Addr) : List (Str × V) := [("_me", .ref me), ("_id", .ref vid), ("_members", .ref mems), ("_log", .ref l1)]
abbrev g5 (me vid mems l1 l2 : Addr) : List (Str × V) := [("_me", .ref me), ("_id", .ref vid), ("_members", .ref mems), ("_log", .ref l1), ("_early", .ref l2)]
abbrev g6 (me vid mems l1 l2 l3 : Addr) : List (Str × V) := [("_me", .ref me), ("_id", .ref vid), ("_members", .ref mems), ("_log", .ref l1), ("_early", .ref l2), ("_own", .ref l3)]
abbrev g7 (me vid mems l1 l2 l3 l4 : Addr) : List (Str × V) := [("_me", .ref me), ("_id", .ref vid), ("_members", .ref mems), ("_log", .ref l1), ("_early", .ref l2), ("_own", .ref l3), ("_last", .ref l4)]
section
variable {P : Program} {w : World} {K : PySem.W.Frag} {mg : Str → Option Value} {base : Heap} {lf : Nat → Int} {n : Nat} {C : Addr}
theorem scTake : FnScope ["self", "letter"] ["self", "letter"] (defScope sTake) := ⟨rfl, rfl, rfl, by decide +kernel, rfl, by decide +kernel, by decide +kernel⟩
theorem oc_ne : ¬ (("order" : Str) = "cast") := by decide +kernel
theorem ok_take {f fC fR : Addr} {fd fdC fdR : FuncData} (F : Fun K "take" "Order.take" sTake f fd) (T : Txt K mg C) (MC : Mt K C sTakeCast "_take_cast" "Order._take_cast" ["self", "sender", "index", "payload"] fC fdC)
    (MR : Mt K C sTakeOrd "_take_order" "Order._take_order" ["self", "sender", "place", "message"] fR fdR)
    (GC : FnOk P w K mg base CX0 3 fC fdC ["self", "sender", "index", "payload"] (spTakeCast lf n C)) (GR : FnOk P w K mg base CX0 2 fR fdR ["self", "sender", "place", "message"] (spTakeOrd lf n C)) :
    FnOk P w K mg base CX0 4 f fd ["self", "letter"] (spTake lf n C) := by
  refine F.ok scTake (fun vs H Q E h => ?_) (fun cdv A outer s H vs Q E hr h => ?_)
  · obtain ⟨a, k, L, log, own, cnt, v, l, rfl, _⟩ := h
    rfl
  · obtain ⟨a, k, L, log, own, cnt, v, l, rfl, O, il, tk, hL, hl, hn, hLn, q⟩ := h
    have hr2 : Room 2 _ := hr.mono (by decide)
    refine ⟨_, pss_cons (ps_if (pt_cmpR (op_neP hr.units) (pe_ix ix_tup (pv 1) pe_int (fun _ _ => rfl)) (pe_fld (pv 0) rfl) (nomark _)) (pss_one (ps_ret (pe_tup (pa_cons (pe_lst pa_nil) (pa_cons (pe_lst pa_nil) pa_nil))))) pss_nil)
      (pss_cons (ps_if (pt_cmpR op_eq (pe_ix ix_tup (pv 1) pe_int (fun _ _ => rfl)) pe_str (nomark _))
        (pss_one (ps_ret (pe_meth (pv 0) T.cl MC.m GC hr MC.b .nil pass0 (pa_cons (pe_ix ix_tup (pv 1) pe_int (fun _ _ => rfl)) (pa_cons (pe_ix ix_tup (pv 1) pe_int (fun _ _ => rfl)) (pa_cons (pe_ix ix_tup (pv 1) pe_int (fun _ _ => rfl)) pa_nil)))))) pss_nil)
      (pss_one (ps_ret (pe_meth (pv 0) T.cl MR.m GR hr2 MR.b .nil pass0 (pa_cons (pe_ix ix_tup (pv 1) pe_int (fun _ _ => rfl)) (pa_cons (pe_ix ix_tup (pv 1) pe_int (fun _ _ => rfl)) (pa_cons (pe_ix ix_tup (pv 1) pe_int (fun _ _ => rfl)) pa_nil))))))), ?_⟩
    have er : PyData.eqv (vidD lf) (vidD lf) = true := SeqAt.eqv_refl_plain _ vidD_plain
    cases l with
    | cast j i p =>
      obtain ⟨la, mv, iv, rfl, el, im, ii⟩ := il
      obtain ⟨hk, hj0, hjn⟩ := tk
      subst hk
      refine ⟨_, rfl, _, _, _, _, rfl, rfl, SqT.of el, atI_nat (j := 2) rfl, _, rfl, _, C, _, _, _, rfl, O.ob, T.cl, T.nId, lk_id _, vidD lf, vidD lf, ii.dp, O.vid.dp, vidD_plain, vidD_plain, by rw [vidD_depth]; decide, _, rfl, ?_⟩
      rw [er]
      refine ⟨_, rfl, _, _, _, _, rfl, rfl, SqT.of el, atI_nat (j := 0) rfl, rfl, _, rfl, ?_⟩
      rw [decide_eq_true rfl]
      exact ⟨_, rfl, a.p, a.dx, _, rfl, O.ob, no_of _ (by decide +kernel), _, rfl, _, _, _, _, rfl, rfl, SqT.of el, atI_nat (j := 1) rfl, _, rfl, _, _, _, _, rfl, rfl, SqT.of el, atI_nat (j := 3) rfl, _, rfl, _, _, _, _, rfl, rfl, SqT.of el, atI_nat (j := 4) rfl,
        a, L, log, own, cnt, mv, j, i, p, rfl, O, im, hj0, hjn, hl, hn, q⟩
    | ord place m =>
      obtain ⟨la, mv, iv, xv, rfl, el, im, ii, ix⟩ := il
      obtain ⟨hk, hp1, hpm, hle⟩ := tk
      refine ⟨_, rfl, _, _, _, _, rfl, rfl, SqT.of el, atI_nat (j := 2) rfl, _, rfl, _, C, _, _, _, rfl, O.ob, T.cl, T.nId, lk_id _, vidD lf, vidD lf, ii.dp, O.vid.dp, vidD_plain, vidD_plain, by rw [vidD_depth]; decide, _, rfl, ?_⟩
      rw [er]
      refine ⟨_, rfl, _, _, _, _, rfl, rfl, SqT.of el, atI_nat (j := 0) rfl, rfl, _, rfl, ?_⟩
      rw [decide_eq_false (fun z => oc_ne (V.str.inj z))]
      exact ⟨_, rfl, a.p, a.dx, _, rfl, O.ob, no_of _ (by decide +kernel), _, rfl, _, _, _, _, rfl, rfl, SqT.of el, atI_nat (j := 1) rfl, _, rfl, _, _, _, _, rfl, rfl, SqT.of el, atI_nat (j := 3) rfl, _, rfl, _, _, _, _, rfl, rfl, SqT.of el, atI_nat (j := 4) rfl,
        a, k, L, log, own, cnt, mv, xv, place, m, rfl, O, im, ix, hk, hp1, hpm, hle, hL, hn, hLn, fun H' t dv u log' tw kp et O' nw => q H' t dv u log' [] tw kp et O' nw⟩

theorem scInit : FnScope ["self", "me", "view_id", "members"] ["self", "me", "view_id", "members"] (defScope sInit) := ⟨rfl, rfl, rfl, by decide +kernel, rfl, by decide +kernel, by decide +kernel⟩
/-- a store to the object at p -/
structure Sto (H H' : Hp) (p : Addr) : Prop where
  kp : ∀ b o, H b = some o → b ≠ p → H' b = some o
  gr : Gr H H'
theorem Sto.trans {H H1 H2 : Hp} {p : Addr} (a : Sto H H1 p) (b : Sto H1 H2 p) : Sto H H2 p := ⟨fun c o e h => b.kp c o (a.kp c o e h) h, a.gr.trans b.gr⟩
theorem sto_new {H : Hp} {p l : Addr} {o u x : HO} (hp : H p = some x) (hl : H l = none) : Sto H (upd (upd H l o) p u) p ∧ upd (upd H l o) p u l = some o ∧ l ≠ p := by
  have ne : l ≠ p := (ne_of_none hp hl).symm
  refine ⟨⟨fun b y e hb => ?_, Gr.upd.trans Gr.upd⟩, ?_, ne⟩
  · rw [upd_ne hb, upd_ne (ne_of_none e hl)]
    exact e
  · rw [upd_ne ne, upd_same]
theorem ok_init {f : Addr} {fd : FuncData} (F : Fun K "__init__" "Order.__init__" sInit f fd) (T : Txt K mg C) : FnOk P w K mg base CX0 1 f fd ["self", "me", "view_id", "members"] (spInit lf n C) := by
  refine F.ok scInit (fun vs H Q E h => ?_) (fun cdv A outer s H vs Q E hr h => ?_)
  · obtain ⟨p, dx, me, vid, mems, k, ms, rfl, _⟩ := h
    rfl
  · obtain ⟨p, dx, me, vid, mems, k, ms, rfl, hp, hme, hk, hvid, hmems, hms, q⟩ := h
    refine ⟨_, pss_cons (ps_if (pt_cmpR (op_notInT hr.units) (pv 1) (pv 3) (by rfl)) pss_never pss_nil)
      (pss_cons (ps_fld (pv 0) (pv 1) rfl) (pss_cons (ps_fld (pv 0) (pv 2) rfl) (pss_cons (ps_fld (pv 0) (pv 3) rfl)
      (pss_cons (ps_fld (pv 0) (pe_lst pa_nil) rfl) (pss_cons (ps_fld (pv 0) pe_dnewK rfl) (pss_cons (ps_fld (pv 0) (pe_lst pa_nil) rfl)
      (pss_cons (ps_fld (pv 0) pe_dnewT rfl) (pss_one (ps_fld (pv 0) pe_dnewT rfl))))))))), ?_⟩
    have im : IsMem lf H (.ref me) k := ⟨me, rfl, hme⟩
    have ea : (((List.range n).map (memD lf)).any fun z => PyData.eqv z (memD lf k)) = true := by
      rw [mem_any]
      exact decide_eq_true hk
    refine ⟨_, rfl, _, rfl, memD lf k, (List.range n).map (memD lf), im.dp, .tup (SqT.of hmems) hms.dp, memD_plain _, plains memD_plain _, by rw [memD_depth]; decide, _, rfl, ?_⟩
    rw [ea]
    have t0 : TM H H := TM.refl H
    -- self._me = me; self._id = view_id; self._members = members
    refine ⟨_, rfl, _, rfl, p, C, dx, [], rfl, hp, T.cl, T.nMe, (by show 0 < 1000; decide), ?_⟩
    rw [show putF "_me" (V.ref me) [] = (g1 me) from rfl]
    have h1 : upd H p (.ins C dx (g1 me)) p = some (.ins C dx (g1 me)) := upd_same
    have s1 : Sto H (upd H p (.ins C dx (g1 me))) p := ⟨fun b o e hb => by rw [upd_ne hb]; exact e, Gr.upd⟩
    generalize upd H p (.ins C dx (g1 me)) = H1 at h1 s1
    refine ⟨_, rfl, _, rfl, p, C, dx, _, rfl, h1, T.cl, T.nId, (by show 1 < 1000; decide), ?_⟩
    rw [show putF "_id" (V.ref vid) (g1 me) = (g2 me vid) from putF_new (names := ["_me"]) rfl (by decide +kernel)]
    have h2 : upd H1 p (.ins C dx (g2 me vid)) p = some (.ins C dx (g2 me vid)) := upd_same
    have s2 : Sto H (upd H1 p (.ins C dx (g2 me vid))) p := s1.trans ⟨fun b o e hb => by rw [upd_ne hb]; exact e, Gr.upd⟩
    generalize upd H1 p (.ins C dx (g2 me vid)) = H2 at h2 s2
    refine ⟨_, rfl, _, rfl, p, C, dx, _, rfl, h2, T.cl, T.nMems, (by show 2 < 1000; decide), ?_⟩
    rw [show putF "_members" (V.ref mems) (g2 me vid) = (g3 me vid mems) from putF_new (names := ["_me", "_id"]) rfl (by decide +kernel)]
    have h3 : upd H2 p (.ins C dx (g3 me vid mems)) p = some (.ins C dx (g3 me vid mems)) := upd_same
    have s3 : Sto H (upd H2 p (.ins C dx (g3 me vid mems))) p := s2.trans ⟨fun b o e hb => by rw [upd_ne hb]; exact e, Gr.upd⟩
    generalize upd H2 p (.ins C dx (g3 me vid mems)) = H3 at h3 s3
    -- self._log = []
    refine ⟨Nat.zero_le _, fun l1 hl1 => ?_⟩
    refine ⟨_, rfl, p, C, dx, _, rfl, (by rw [upd_ne (ne_of_none h3 hl1)]; exact h3), T.cl, T.nLog, (by show 3 < 1000; decide), ?_⟩
    rw [show putF "_log" (V.ref l1) (g3 me vid mems) = (g4 me vid mems l1) from putF_new (names := ["_me", "_id", "_members"]) rfl (by decide +kernel)]
    have n1 : H l1 = none := s3.gr _ hl1
    obtain ⟨s4', e41, ne1⟩ := sto_new (o := .lst []) (u := .ins C dx (g4 me vid mems l1)) h3 hl1
    have h4 : upd (upd H3 l1 (.lst [])) p (.ins C dx (g4 me vid mems l1)) p = some (.ins C dx (g4 me vid mems l1)) := upd_same
    have s4 := s3.trans s4'
    generalize upd (upd H3 l1 (.lst [])) p (.ins C dx (g4 me vid mems l1)) = H4 at h4 s4 e41
    -- self._early = {}
    intro l2 hl2
    refine ⟨_, rfl, p, C, dx, _, rfl, (by rw [upd_ne (ne_of_none h4 hl2)]; exact h4), T.cl, T.nEarly, (by show 4 < 1000; decide), ?_⟩
    rw [show putF "_early" (V.ref l2) (g4 me vid mems l1) = (g5 me vid mems l1 l2) from putF_new (names := ["_me", "_id", "_members", "_log"]) rfl (by decide +kernel)]
    have n2 : H l2 = none := s4.gr _ hl2
    obtain ⟨s5', e52, ne2⟩ := sto_new (o := .dK []) (u := .ins C dx (g5 me vid mems l1 l2)) h4 hl2
    have h5 : upd (upd H4 l2 (.dK [])) p (.ins C dx (g5 me vid mems l1 l2)) p = some (.ins C dx (g5 me vid mems l1 l2)) := upd_same
    have s5 := s4.trans s5'
    have e51 := s5'.kp _ _ e41 ne1
    have d12 : l1 ≠ l2 := ne_of_none e41 hl2
    generalize upd (upd H4 l2 (.dK [])) p (.ins C dx (g5 me vid mems l1 l2)) = H5 at h5 s5 e51 e52
    -- self._own = []
    refine ⟨Nat.zero_le _, fun l3 hl3 => ?_⟩
    refine ⟨_, rfl, p, C, dx, _, rfl, (by rw [upd_ne (ne_of_none h5 hl3)]; exact h5), T.cl, T.nOwn, (by show 5 < 1000; decide), ?_⟩
    rw [show putF "_own" (V.ref l3) (g5 me vid mems l1 l2) = (g6 me vid mems l1 l2 l3) from putF_new (names := ["_me", "_id", "_members", "_log", "_early"]) rfl (by decide +kernel)]
    have n3 : H l3 = none := s5.gr _ hl3
    obtain ⟨s6', e63, ne3⟩ := sto_new (o := .lst []) (u := .ins C dx (g6 me vid mems l1 l2 l3)) h5 hl3
    have h6 : upd (upd H5 l3 (.lst [])) p (.ins C dx (g6 me vid mems l1 l2 l3)) p = some (.ins C dx (g6 me vid mems l1 l2 l3)) := upd_same
    have s6 := s5.trans s6'
    have e61 := s6'.kp _ _ e51 ne1
    have e62 := s6'.kp _ _ e52 ne2
    have d13 : l1 ≠ l3 := ne_of_none e51 hl3
    have d23 : l2 ≠ l3 := ne_of_none e52 hl3
    generalize upd (upd H5 l3 (.lst [])) p (.ins C dx (g6 me vid mems l1 l2 l3)) = H6 at h6 s6 e61 e62 e63
    -- self._last = {}
    intro l4 hl4
    refine ⟨_, rfl, p, C, dx, _, rfl, (by rw [upd_ne (ne_of_none h6 hl4)]; exact h6), T.cl, T.nLast, (by show 6 < 1000; decide), ?_⟩
    rw [show putF "_last" (V.ref l4) (g6 me vid mems l1 l2 l3) = (g7 me vid mems l1 l2 l3 l4) from putF_new (names := ["_me", "_id", "_members", "_log", "_early", "_own"]) rfl (by decide +kernel)]
    have n4 : H l4 = none := s6.gr _ hl4
    obtain ⟨s7', e74, ne4⟩ := sto_new (o := .dT []) (u := .ins C dx (g7 me vid mems l1 l2 l3 l4)) h6 hl4
    have h7 : upd (upd H6 l4 (.dT [])) p (.ins C dx (g7 me vid mems l1 l2 l3 l4)) p = some (.ins C dx (g7 me vid mems l1 l2 l3 l4)) := upd_same
    have s7 := s6.trans s7'
    have e71 := s7'.kp _ _ e61 ne1
    have e72 := s7'.kp _ _ e62 ne2
    have e73 := s7'.kp _ _ e63 ne3
    have d14 : l1 ≠ l4 := ne_of_none e61 hl4
    have d24 : l2 ≠ l4 := ne_of_none e62 hl4
    have d34 : l3 ≠ l4 := ne_of_none e63 hl4
    generalize upd (upd H6 l4 (.dT [])) p (.ins C dx (g7 me vid mems l1 l2 l3 l4)) = H7 at h7 s7 e71 e72 e73 e74
    -- self._counts = {}
    intro l5 hl5
    refine ⟨_, rfl, p, C, dx, _, rfl, (by rw [upd_ne (ne_of_none h7 hl5)]; exact h7), T.cl, T.nCounts, (by show 7 < 1000; decide), ?_⟩
    rw [show putF "_counts" (V.ref l5) (g7 me vid mems l1 l2 l3 l4) = flds ⟨p, dx, me, vid, mems, l1, l2, l3, l4, l5⟩ from putF_new (names := ["_me", "_id", "_members", "_log", "_early", "_own", "_last"]) rfl (by decide +kernel)]
    have n5 : H l5 = none := s7.gr _ hl5
    obtain ⟨s8', e85, ne5⟩ := sto_new (o := .dT []) (u := .ins C dx (flds ⟨p, dx, me, vid, mems, l1, l2, l3, l4, l5⟩)) h7 hl5
    have h8 : upd (upd H7 l5 (.dT [])) p (.ins C dx (flds ⟨p, dx, me, vid, mems, l1, l2, l3, l4, l5⟩)) p = some (.ins C dx (flds ⟨p, dx, me, vid, mems, l1, l2, l3, l4, l5⟩)) := upd_same
    have s8 := s7.trans s8'
    have e81 := s8'.kp _ _ e71 ne1
    have e82 := s8'.kp _ _ e72 ne2
    have e83 := s8'.kp _ _ e73 ne3
    have e84 := s8'.kp _ _ e74 ne4
    have d15 : l1 ≠ l5 := ne_of_none e71 hl5
    have d25 : l2 ≠ l5 := ne_of_none e72 hl5
    have d35 : l3 ≠ l5 := ne_of_none e73 hl5
    have d45 : l4 ≠ l5 := ne_of_none e74 hl5
    generalize upd (upd H7 l5 (.dT [])) p (.ins C dx (flds ⟨p, dx, me, vid, mems, l1, l2, l3, l4, l5⟩)) = H8 at h8 s8 e81 e82 e83 e84 e85
    have t8 : TM H H8 := fun b xs e => s8.kp b _ e (ne_of e hp fun z => by cases z)
    refine q H8 ⟨p, dx, me, vid, mems, l1, l2, l3, l4, l5⟩ rfl (fun x hx => ?_) (fun b o e hb => s8.kp b o e (by simpa using hb)) ?_
    · simp only [OAd.muts, List.mem_cons, List.not_mem_nil, or_false] at hx
      rcases hx with rfl | rfl | rfl | rfl | rfl
      · exact n1
      · exact n2
      · exact n3
      · exact n4
      · exact n5
    · exact ⟨hk, h8, t8 _ _ hme, hvid.mono t8, ⟨ms, t8 _ _ hmems, hms.mono t8⟩, ⟨[], e81, .nil⟩, ⟨[], _, e82, Tab.empty _ _, fun p v hv => by cases hv⟩, e83, ⟨[], _, e84, Tab.empty _ _, fun j _ => rfl⟩, ⟨[], _, e85, Tab.empty _ _, fun j _ => rfl⟩,
        by simp [OAd.muts, d12, d13, d14, d15, d23, d24, d25, d34, d35, d45]⟩
end
end KW

/-! Order.again. -/
namespace KW
open PySem L2
open K21 (Msg Let Pkt lastIx fu)
theorem pendM_get : ∀ (l : List (Msg Str)) (c i : Nat), (missing.pendM c l)[i]? = (l[i]?).map fun p => (c + i + 1, p)
  | [], c, i => by simp [missing.pendM]
  | p :: ps, c, 0 => by simp [missing.pendM]
  | p :: ps, c, i + 1 => by
    have e : (missing.pendM c (p :: ps))[i + 1]? = (missing.pendM (c + 1) ps)[i]? := by simp [missing.pendM]
    rw [e, pendM_get ps (c + 1) i]
    have e2 : c + 1 + i + 1 = c + (i + 1) + 1 := by omega
    simp [e2]
theorem pendM_len : ∀ (l : List (Msg Str)) (c : Nat), (missing.pendM c l).length = l.length
  | [], c => rfl
  | p :: ps, c => by simp [missing.pendM, pendM_len ps (c + 1)]
theorem missing_len (L : List (Msg Str)) (c k : Nat) : (missing L c k).length = min 16 (L.length - c) := by
  unfold missing
  rw [List.length_map, pendM_len, List.length_take, List.length_drop]
theorem missing_get {L : List (Msg Str)} {c k t : Nat} {m : Msg Str} (ht : t < 16) (h : L[c + t]? = some m) : (missing L c k)[t]? = some (k, .ord (c + t + 1) m) := by
  unfold missing
  rw [List.getElem?_map, pendM_get, List.getElem?_take, if_pos ht, List.getElem?_drop, h]
  rfl
theorem flat_snoc {α : Type} (f : Nat → List α) (i : Nat) : (List.range (i + 1)).flatMap f = (List.range i).flatMap f ++ f i := by
  rw [List.range_succ, List.flatMap_append]
  simp
theorem flat_len {α : Type} {f : Nat → List α} {c : Nat} (h : ∀ j, (f j).length ≤ c) (i : Nat) : ((List.range i).flatMap f).length ≤ i * c := by
  induction i with
  | zero => simp
  | succ i ih =>
    rw [flat_snoc, List.length_append, Nat.succ_mul]
    exact Nat.add_le_add ih (h i)
section
variable {P : Program} {w : World} {K : PySem.W.Frag} {mg : Str → Option Value} {base : Heap} {lf : Nat → Int} {n : Nat} {C : Addr}
theorem scAgain : FnScope ["self", "letters", "index", "_", "member", "count", "place"] ["self"] (defScope sAgain) := ⟨rfl, rfl, rfl, by decide +kernel, rfl, by decide +kernel, by decide +kernel⟩
theorem ok_again {f fL fP fF fC fO : Addr} {fd fdL fdP fdF fdC fdO : FuncData} (F : Fun K "again" "Order.again" sAgain f fd) (T : Txt K mg C) (ML : Mt K C sLeads "_leads" "Order._leads" ["self"] fL fdL) (MP : Mt K C sPending "pending" "Order.pending" ["self"] fP fdP)
    (MF : Mt K C sFounder "_founder" "Order._founder" ["self"] fF fdF) (MC : Mt K C sCastL "_cast_letter" "Order._cast_letter" ["self", "index"] fC fdC) (MO : Mt K C sOrdL "_order_letter" "Order._order_letter" ["self", "place"] fO fdO) :
    FnOk P w K mg base CX0 2 f fd ["self"] (spAgain lf n C) := by
  have GL : FnOk P w K mg base CX0 1 fL fdL ["self"] (spLeads lf n C) := ok_leads ML.F T
  have GP : FnOk P w K mg base CX0 1 fP fdP ["self"] (spPending lf n C) := ok_pending MP.F T
  have GF : FnOk P w K mg base CX0 1 fF fdF ["self"] (spFounder lf n C) := ok_founder MF.F T
  have GC : FnOk P w K mg base CX0 1 fC fdC ["self", "index"] (spCastL lf n C) := ok_castL MC.F T
  have GO : FnOk P w K mg base CX0 1 fO fdO ["self", "place"] (spOrdL lf n C) := ok_ordL MO.F T
  refine F.ok scAgain (fun vs H Q E h => ?_) (fun cdv A outer s H vs Q E hr h => ?_)
  · obtain ⟨a, k, L, log, own, cnt, rfl, _⟩ := h
    rfl
  · obtain ⟨a, k, L, log, own, cnt, rfl, O, ho, hle, hl, hn, hcnt, q⟩ := h
    have hu := hu_of hr
    obtain ⟨tw, hw⟩ := T.win
    refine ⟨_, pss_cons (ps_set (i := 1) scAgain.nd rfl (Or.inl rfl) (pe_lst pa_nil))
      (pss_cons (ps_if (pt_not (pt_val (pe_meth0 (pv 0) T.cl ML.m GL hr ML.b .nil pass0)))
        (pss_cons (ps_for PassesOwn.never rfl (pi_tup (pe_slice sl_tupA (pe_meth0 (pv 0) T.cl MP.m GP hr MP.b .nil pass0) po_none (po_some (pe_glob (v := .int 16) rfl hw ⟨_, rfl⟩))))
            (pg_tup (by rfl) (pgs_cons (pg_name (i := 2) scAgain.nd rfl (Or.inl rfl)) (pgs_cons (pg_name (i := 3) scAgain.nd rfl (Or.inl rfl)) pgs_nil)))
            (pss_one (ps_expr (pe_bm PySem.F.plainAttrs_list PySem.F.slot_list_append PySem.F.type_list_append mt_append (pv 1) (pa_cons (pe_tup (pa_cons (pe_ix ix_tup (pe_meth0 (pv 0) T.cl MF.m GF hr MF.b .nil pass0) pe_int (fun _ _ => rfl)) (pa_cons
              (pe_meth (pv 0) T.cl MC.m GC hr MC.b .nil pass0 (pa_cons (pv 2) pa_nil)) pa_nil))) pa_nil)))))
          (pss_one (ps_ret (pv 1)))) pss_nil)
      (pss_cons (ps_for PassesOwn.never rfl (pi_tup (pe_slice sl_tup (pe_fld (pv 0) rfl) (po_some pe_int) po_none)) (pg_name (i := 4) scAgain.nd rfl (Or.inl rfl))
        (pss_cons (ps_set (i := 5) scAgain.nd rfl (Or.inl rfl) (pe_dget2 hu (pe_fld (pv 0) rfl) (pv 4) pe_int ⟨by rfl, by rfl, by rfl, by rfl⟩))
        (pss_one (ps_for PassesOwn.never rfl (pi_range2 rfl T.range (pa_cons (pe_op op_add (pv 5) pe_int) (pa_cons (pe_op op_add (pe_callB (call_min2 rfl) (by rfl) T.min (by decide +kernel) (pa_cons (pe_callB call_len_seq (by rfl) T.len PySem.boot_len (pa_cons (pe_fld (pv 0) rfl) pa_nil)) (pa_cons (pe_op op_add (pv 5) (pe_glob (v := .int 16) rfl hw ⟨_, rfl⟩)) pa_nil))) pe_int) pa_nil)))
            (pg_name (i := 6) scAgain.nd rfl (Or.inl rfl))
          (pss_one (ps_expr (pe_bm PySem.F.plainAttrs_list PySem.F.slot_list_append PySem.F.type_list_append mt_append (pv 1) (pa_cons (pe_tup (pa_cons (pe_ix ix_tup (pv 4) pe_int (fun _ _ => rfl)) (pa_cons
            (pe_meth (pv 0) T.cl MO.m GO hr MO.b .nil pass0 (pa_cons (pv 6) pa_nil)) pa_nil))) pa_nil))))))))
      (pss_one (ps_ret (pv 1))))), ?_⟩
    refine ⟨Nat.zero_le _, fun ll hll => ?_⟩
    have s1 : Same H (upd H ll (.lst [])) := Same.new hll
    have O1 := O.same s1
    have ell : upd H ll (.lst []) ll = some (.lst []) := upd_same
    generalize upd H ll (.lst []) = H1 at s1 O1 ell
    -- a letter made at H' and laid into the list
    have put : ∀ (H' H3 : Hp) (vs : List V) (qs : List (Pkt Str)) (t : Addr) (to : Nat) (u : V) (l : Let Str), Same H H' → H' ll = some (.lst vs) → Paired (IsPkt lf H') vs qs → Same H' H3 → IsLet lf H3 u l → H3 t = none →
        upd H3 t (.tup [.int (to : Int), u]) ll = some (.lst vs) ∧ Same H (upd (upd H3 t (.tup [.int (to : Int), u])) ll (.lst (vs ++ [.ref t]))) ∧ TM H' (upd (upd H3 t (.tup [.int (to : Int), u])) ll (.lst (vs ++ [.ref t]))) ∧
        Paired (IsPkt lf (upd (upd H3 t (.tup [.int (to : Int), u])) ll (.lst (vs ++ [.ref t])))) (vs ++ [.ref t]) (qs ++ [(to, l)]) := by
      intro H' H3 vs qs t to u l sm eL pr s3 il ht
      have eL3 := s3 _ _ eL
      have nt : ll ≠ t := ne_of_none eL3 ht
      have eL4 : upd H3 t (.tup [.int (to : Int), u]) ll = some (.lst vs) := by rw [upd_ne nt]; exact eL3
      have tm3 : TM H3 (upd (upd H3 t (.tup [.int (to : Int), u])) ll (.lst (vs ++ [.ref t]))) := (TM.of (Same.new ht)).trans (TM.upd eL4 fun _ z => by cases z)
      refine ⟨eL4, fun b o e => ?_, (TM.of s3).trans tm3, Paired.snoc (all_mono (fun _ _ z => z.mono ((TM.of s3).trans tm3)) pr) ⟨t, u, rfl, ?_, il.mono tm3⟩⟩
      · rw [upd_ne (ne_of_none e hll), upd_ne (ne_of_none (s3 _ _ (sm _ _ e)) ht)]
        exact s3 _ _ (sm _ _ e)
      · rw [upd_ne nt.symm, upd_same]
    refine ⟨_, rfl, a.p, a.dx, _, rfl, O1.ob, no_of _ (by decide +kernel), a, k, L, log, own, cnt, rfl, O1, _, rfl, ?_⟩
    by_cases hk : k = 0
    · subst hk
      refine iteNS (c := (0 : Nat) = 0) rfl ?_
      obtain ⟨ms, ems, hms⟩ := O1.mems
      have hn0 : 0 < n := O.kn
      refine ⟨_, rfl, _, C, _, _, _, rfl, O1.ob, T.cl, T.nMems, lk_mems _, _, rfl, a.mems, ms, rfl, SqT.of ems, ?_, fun q1 hq1 => ?_⟩
      · rw [hms.1]
        have e1 : HT.sIx n 0 (some 1) = min 1 n := HT.sIx_nat n 0 1
        rw [e1]
        omega
      rw [cut1 hms.1 hn0]
      have s2 : Same H1 (upd H1 q1 (.tup (ms.drop 1))) := Same.new hq1
      refine ⟨q1, rfl, ⟨_, SqT.of upd_same⟩, for_tup (K := K) (a := q1) (xs := ms.drop 1) (fun i σ H' => ∃ v5 v6 v7, σ = [some (.ref a.p), some (.ref ll), none, none, v5, v6, v7] ∧ Same H H' ∧ TM H1 H' ∧ H' q1 = some (.tup (ms.drop 1)) ∧
          ∃ vs, H' ll = some (.lst vs) ∧ Paired (IsPkt lf H') vs ((List.range i).flatMap fun j => missing log (cnt (j + 1)) (j + 1)))
        ⟨none, none, none, rfl, s1.trans s2, TM.of s2, upd_same, [], s2 _ _ ell, .nil⟩ (fun i σ H' _ ⟨_, _, _, _, _, _, e, _⟩ => SqT.of e) ?_ ?_⟩
      · rintro i x σ H' hx ⟨v5, v6, v7, rfl, sm, tm, eq, vs, eL, pr⟩
        rw [List.getElem?_drop] at hx
        have hi : 1 + i < n := by rw [← hms.1]; exact (List.getElem?_eq_some_iff.mp hx).1
        obtain ⟨x', ex', ix'⟩ := hms.2 (1 + i) hi
        have exx : x = x' := Option.some.inj (hx.symm.trans ex')
        subst exx
        obtain ⟨xa, rfl, exa⟩ := ix'.mono tm
        have O' := O.same sm
        -- count = self._counts.get(member, 0)
        obtain ⟨kc, fc, ec, Tc, qc⟩ := O'.co
        have e0 : (valV kc (mk lf (1 + i))).getD (.int 0) = .int ((cnt (1 + i) : Nat) : Int) := by
          rw [Tc.at_]
          exact qc _ hi
        refine ⟨_, rfl, _, C, _, _, _, rfl, O'.ob, T.cl, T.nCounts, lk_counts _, a.counts, rfl, Or.inr ⟨kc, Or.inl ec⟩, _, rfl, _, DGet.t (k := mk lf (1 + i)) ec exa, ?_⟩
        rw [e0]
        have hc1 := hcnt (1 + i) hi
        have hk1 : (1 + i) = i + 1 := Nat.add_comm _ _
        rw [hk1] at hc1 exa ⊢
        generalize hcc : cnt (i + 1) = c at hc1
        obtain ⟨lv, elv, plv⟩ := O'.lg
        have hlen := Paired.length plv
        refine ⟨_, rfl, _, _, rfl, rfl, _, rfl, _, C, _, _, _, rfl, O'.ob, T.cl, T.nLog, lk_log _, a.log, _, rfl, .inl (SqL.of elv), _, rfl, _, _, rfl, rfl, _, _, rfl, _, _, rfl, rfl, ?_⟩
        have emin : (if ((c : Nat) : Int) + 16 < (lv.length : Int) then ((c : Nat) : Int) + 16 else (lv.length : Int)) = ((min log.length (c + 16) : Nat) : Int) := by
          rw [hlen]
          split <;> omega
        have ebase : ((List.range i).flatMap fun j => missing log (cnt (j + 1)) (j + 1)).length ≤ i * 16 := flat_len (fun j => by rw [missing_len]; omega) i
        refine ⟨_, _, rfl, ⟨by show -(2 ^ 62) ≤ ((c : Nat) : Int) + 1; omega, by show ((c : Nat) : Int) + 1 < 2 ^ 62; omega, by show -(2 ^ 62) ≤ (if ((c : Nat) : Int) + 16 < (lv.length : Int) then ((c : Nat) : Int) + 16 else (lv.length : Int)) + 1; rw [emin]; omega,
          by show (if ((c : Nat) : Int) + 16 < (lv.length : Int) then ((c : Nat) : Int) + 16 else (lv.length : Int)) + 1 < 2 ^ 62; rw [emin]; omega⟩, ?_⟩
        refine for_range (lo := ((c : Nat) : Int) + 1) (n := ((if ((c : Nat) : Int) + 16 < (lv.length : Int) then ((c : Nat) : Int) + 16 else (lv.length : Int)) + 1 - (((c : Nat) : Int) + 1)).toNat) (fun t σ H'' => ∃ v7, σ = [some (.ref a.p), some (.ref ll), none, none, some (.ref xa), some (.int (c : Int)), v7] ∧ Same H H'' ∧ TM H' H'' ∧
            ∃ vs, H'' ll = some (.lst vs) ∧ Paired (IsPkt lf H'') vs (((List.range i).flatMap fun j => missing log (cnt (j + 1)) (j + 1)) ++ (missing log c (i + 1)).take t))
          ⟨v7, rfl, sm, TM.refl _, vs, eL, by rw [List.take_zero, List.append_nil]; exact pr⟩ ?_ ?_
        · rintro t σ H'' ht ⟨v7', rfl, sm', tm', vs', eL', pr'⟩
          have O'' := O.same sm'
          rw [emin] at ht
          have hct : c + t < log.length := by omega
          obtain ⟨m, hm⟩ : ∃ m, log[c + t]? = some m := ⟨log[c + t], List.getElem?_eq_getElem hct⟩
          have hget : log[c + t + 1 - 1]? = some m := by rw [Nat.add_sub_cancel]; exact hm
          have ekey : ((c : Nat) : Int) + 1 + (t : Int) = ((c + t + 1 : Nat) : Int) := by omega
          rw [ekey]
          refine ⟨_, rfl, .inl ⟨rfl, _, SqL.of eL'⟩, _, rfl, _, _, _, _, rfl, rfl, SqT.of (tm' _ _ exa), atI_nat (j := 0) rfl, _, rfl, a.p, a.dx, _, rfl, O''.ob, no_of _ (by decide +kernel), _, rfl, a, L, log, own, cnt, c + t + 1, m, rfl, O'', by omega, hget, fun u H3 s3 l3 => ?_⟩
          refine ⟨by show 2 ≤ sizeLine; decide, fun tt htt => ?_⟩
          obtain ⟨e4, e5, e6, e7⟩ := put H'' H3 vs' _ tt (i + 1) u _ sm' eL' pr' s3 l3 htt
          refine ⟨ll, vs', _, rfl, rfl, e4, ?_, ?_⟩
          · have e1 := Paired.length pr'
            rw [List.length_append, List.length_take, missing_len] at e1
            exact Nat.lt_of_le_of_lt (by omega : vs'.length ≤ 10000) (by decide)
          · refine ⟨_, rfl, e5, tm'.trans e6, _, upd_same, ?_⟩
            rw [take_snoc (missing_get (k := i + 1) (by omega) hm), ← List.append_assoc]
            exact e7
        · rintro σ H'' ⟨v7', rfl, sm', tm', vs', eL', pr'⟩
          refine ⟨_, _, _, rfl, sm', tm.trans tm', tm' _ _ eq, vs', eL', ?_⟩
          rw [emin] at pr'
          rw [List.take_of_length_le (by rw [missing_len]; omega)] at pr'
          rw [flat_snoc, hcc]
          exact pr'
      · rintro σ H' ⟨v5, v6, v7, rfl, sm, tm, eq, vs, eL, pr⟩
        rw [List.length_drop, hms.1] at pr
        refine ⟨_, rfl, q H' (.ref ll) sm ⟨ll, vs, rfl, hll, eL, ?_⟩⟩
        unfold againOf
        rw [if_pos rfl]
        exact pr
    · have hkf : decide (k = 0) = false := decide_eq_false hk
      rw [hkf]
      refine ⟨_, rfl, a.p, a.dx, _, rfl, O1.ob, no_of _ (by decide +kernel), a, k, L, log, own, cnt, rfl, O1, by omega, hle, fun v H2 s2 ip => ?_⟩
      obtain ⟨pt, ps, rfl, ept, pps⟩ := ip
      have hpl := Paired.length pps
      rw [pendOf_len, List.length_drop] at hpl
      refine ⟨_, rfl, pt, ps, rfl, SqT.of ept, fun _ => ?_, fun h => absurd ⟨rfl, ?_⟩ h⟩
      · refine ⟨pt, rfl, ⟨_, SqT.of ept⟩, for_tup (K := K) (a := pt) (xs := ps) (fun i σ H' => ∃ v2 v3, σ = [some (.ref a.p), some (.ref ll), v2, v3, none, none, none] ∧ Same H H' ∧ TM H2 H' ∧
            ∃ vs, H' ll = some (.lst vs) ∧ Paired (IsPkt lf H') vs (((pendOf (lastIx log k) (own.drop (lastIx log k))).map fun q => ((0 : Nat), Let.cast k q.1 q.2)).take i))
          ⟨none, none, rfl, s1.trans s2, TM.refl _, [], s2 _ _ ell, .nil⟩ (fun i σ H' _ ⟨_, _, _, _, tm, _⟩ => SqT.of (tm _ _ ept)) ?_ ?_⟩
        · rintro i x σ H' hx ⟨v2, v3, rfl, sm, tm, vs, eL, pr⟩
          obtain ⟨y, hy, iy⟩ := pr_get pps hx
          have hy' := hy
          rw [pendOf_get, List.getElem?_drop] at hy'
          obtain ⟨p, hp, ep⟩ := Option.map_eq_some_iff.mp hy'
          subst ep
          obtain ⟨xa, rfl, exa⟩ := iy.mono tm
          have O' := O.same sm
          refine ⟨_, _, rfl, SqT.of exa, rfl, _, _, rfl, _, _, rfl, rfl, ?_⟩
          refine ⟨_, rfl, .inl ⟨rfl, _, SqL.of eL⟩, _, rfl, a.p, a.dx, _, rfl, O'.ob, no_of _ (by decide +kernel), a, k, L, log, own, cnt, rfl, O', fun v0 i0 => ?_⟩
          obtain ⟨va, rfl, ev⟩ := i0
          refine ⟨_, _, _, _, rfl, rfl, SqT.of ev, atI_nat (j := 0) rfl, _, rfl, a.p, a.dx, _, rfl, O'.ob, no_of _ (by decide +kernel), _, rfl, a, k, L, log, own, cnt, lastIx log k + i + 1, p, rfl, O', by omega, by rw [Nat.add_sub_cancel]; exact hp, fun u H3 s3 l3 => ?_⟩
          refine ⟨by show 2 ≤ sizeLine; decide, fun tt htt => ?_⟩
          obtain ⟨e4, e5, e6, e7⟩ := put H' H3 vs _ tt 0 u _ sm eL pr s3 l3 htt
          refine ⟨ll, vs, _, rfl, rfl, e4, ?_, ?_⟩
          · have e1 := Paired.length pr
            rw [List.length_take, List.length_map, pendOf_len, List.length_drop] at e1
            exact Nat.lt_of_le_of_lt (by omega : vs.length ≤ 10000) (by decide)
          · refine ⟨_, _, rfl, e5, tm.trans e6, _, upd_same, ?_⟩
            have hz : ((pendOf (lastIx log k) (own.drop (lastIx log k))).map fun q => ((0 : Nat), Let.cast k q.1 q.2))[i]? = some (0, .cast k (lastIx log k + i + 1) p) := by
              rw [List.getElem?_map, hy]
              rfl
            rw [take_snoc hz]
            exact e7
        · rintro σ H' ⟨v2, v3, rfl, sm, tm, vs, eL, pr⟩
          rw [hpl, List.take_of_length_le (by rw [List.length_map, pendOf_len, List.length_drop]; exact Nat.le_refl _)] at pr
          refine ⟨_, rfl, q H' (.ref ll) sm ⟨ll, vs, rfl, hll, eL, ?_⟩⟩
          unfold againOf
          rw [if_neg hk]
          exact pr
      · have e1 : HT.sIx ps.length ps.length (some 16) = min 16 ps.length := HT.sIx_nat ps.length ps.length 16
        rw [e1]
        omega
end
end KW

/-! The law's own helpers: _law_cell, _law_payload, _law_post. -/
namespace KW
open PySem L2
open K21 (Msg Let Pkt lastIx fu)
def spCell (K : PySem.W.Frag) : Sp := fun vs H Q _ => ∃ (a : Addr) (ns : List Int) (k : Nat), vs = [.ref a, .int (k : Int)] ∧ SqL K H a (ns.map V.int) ∧ Q (.int (ns.getD k 0)) H
def spPayload : Sp := fun vs H Q _ => ∃ c : Int, vs = [.int c] ∧ ∀ p H', Same H H' → Q (.str p) H'
def spPost : Sp := fun vs H Q _ => ∃ (b l : Addr) (bv lv : List V), vs = [.ref b, .ref l] ∧ H b = some (.lst bv) ∧ H l = some (.lst lv) ∧ b ≠ l ∧ bv.length + lv.length ≤ 100000 ∧ ∀ H', (∀ c, c ≠ b → H' c = H c) → H' b = some (.lst (bv ++ lv)) → Q .non H'
/-- a def of the module as it stands -/
structure Df (K : PySem.W.Frag) (mg : Str → Option Value) (st : Stmt) (x : Str) (ps : List Str) (f : Addr) (fd : FuncData) : Prop where
  F : Fun K x x st f fd
  b : Binds K fd ps []
  g : mg x = some (.ref f)
section
variable {P : Program} {w : World} {K : PySem.W.Frag} {mg : Str → Option Value} {base : Heap} {lf : Nat → Int} {n : Nat} {C : Addr}
theorem scCell : FnScope ["_law_script", "_law_k"] ["_law_script", "_law_k"] (defScope sCell) := ⟨rfl, rfl, rfl, by decide +kernel, rfl, by decide +kernel, by decide +kernel⟩
theorem ok_cell {f : Addr} {fd : FuncData} (F : Fun K "_law_cell" "_law_cell" sCell f fd) (T : Txt K mg C) : FnOk P w K mg base CX0 1 f fd ["_law_script", "_law_k"] (spCell K) := by
  refine F.ok scCell (fun vs H Q E h => ?_) (fun cdv A outer s H vs Q E hr h => ?_)
  · obtain ⟨a, ns, k, rfl, _⟩ := h
    rfl
  · obtain ⟨a, ns, k, rfl, hs, q⟩ := h
    refine ⟨_, pss_cons (ps_if (pt_cmpR op_lt (pv 1) (pe_callB call_len_seq (by rfl) T.len PySem.boot_len (pa_cons (pv 0) pa_nil)) (nomark _)) (pss_one (ps_ret (pe_ix ix_list (pv 0) (pv 1) (fun _ _ => rfl)))) pss_nil)
      (pss_one (ps_ret pe_int)), ?_⟩
    refine ⟨_, rfl, _, rfl, a, _, rfl, .inl hs, _, _, rfl, rfl, _, rfl, ?_⟩
    refine ite2 (fun hc => ?_) (fun hc => ?_)
    · have hc := of_decide_eq_true hc
      rw [List.length_map] at hc
      obtain ⟨z, hz⟩ : ∃ z, ns[k]? = some z := ⟨ns[k]'(by omega), List.getElem?_eq_getElem (by omega)⟩
      have ez : ns.getD k 0 = z := by
        rw [List.getD_eq_getElem?_getD, hz]
        rfl
      rw [ez] at q
      exact ⟨_, rfl, _, rfl, _, _, _, _, rfl, rfl, hs, atI_nat (j := k) (by rw [List.getElem?_map, hz]; rfl), q⟩
    · have hc : ¬ ((k : Int) < ((ns.map V.int).length : Int)) := fun z => hc (decide_eq_true z)
      rw [List.length_map] at hc
      have ez : ns.getD k 0 = 0 := by
        rw [List.getD_eq_getElem?_getD, List.getElem?_eq_none (by omega)]
        rfl
      rw [ez] at q
      exact q

theorem ld_mod {x : Int} {m : Nat} (h : 0 < m) : ∃ j : Nat, j < m ∧ x % (m : Int) = (j : Int) := by
  have h1 := Int.emod_nonneg x (show (m : Int) ≠ 0 by omega)
  have h2 := Int.emod_lt_of_pos x (show (0 : Int) < (m : Int) by omega)
  exact ⟨(x % (m : Int)).toNat, by omega, by omega⟩
theorem scPayload : FnScope ["_law_cell_here", "_law_chars", "_law_text", "_law_rest", "_law_k"] ["_law_cell_here"] (defScope sPayload) := ⟨rfl, rfl, rfl, by decide +kernel, rfl, by decide +kernel, by decide +kernel⟩
def chars : Str := " !\"#$&'()*+,-./0123456789:;<=>?@ABCDEFGHIJKLMNOPQRSTUVWXYZ[\\]^_`abcdefghijklmnopqrstuvwxyz{|}~"
theorem chars_len : chars.cps.toList.length = 94 := by decide +kernel
theorem ok_payload {f : Addr} {fd : FuncData} (F : Fun K "_law_payload" "_law_payload" sPayload f fd) (T : Txt K mg C) : FnOk P w K mg base CX0 1 f fd ["_law_cell_here"] spPayload := by
  refine F.ok scPayload (fun vs H Q E h => ?_) (fun cdv A outer s H vs Q E hr h => ?_)
  · obtain ⟨c, rfl, _⟩ := h
    rfl
  · obtain ⟨c, rfl, q⟩ := h
    refine ⟨_, pss_cons (ps_set (i := 1) scPayload.nd rfl (Or.inl rfl) pe_str)
      (pss_cons (ps_if (pt_cmpR op_gt (pe_op op_mod (pe_callTy call_int1 (by rfl) T.int (by decide +kernel) (pa_cons (pv 0) pa_nil)) pe_int) pe_int (nomark _))
        (pss_one (ps_ret (pe_ix ix_list (pe_lst (pa_cons pe_str (pa_cons pe_str (pa_cons pe_str (pa_cons pe_str (pa_cons pe_str (pa_cons pe_str pa_nil)))))))
          (pe_op op_mod (pe_callTy call_int1 (by rfl) T.int (by decide +kernel) (pa_cons (pe_op op_fdiv (pv 0) pe_int) pa_nil)) pe_int) (fun _ _ => rfl)))) pss_nil)
      (pss_cons (ps_set (i := 2) scPayload.nd rfl (Or.inl rfl) pe_str)
      (pss_cons (ps_set (i := 3) scPayload.nd rfl (Or.inl rfl) (pe_callTy call_int1 (by rfl) T.int (by decide +kernel) (pa_cons (pe_op op_fdiv (pv 0) pe_int) pa_nil)))
      (pss_cons (ps_for PassesOwn.never rfl (pi_range1 rfl T.range (pa_cons (pe_op op_mod (pe_callTy call_int1 (by rfl) T.int (by decide +kernel) (pa_cons (pe_op op_fdiv (pv 0) pe_int) pa_nil)) pe_int) pa_nil)) (pg_name (i := 4) scPayload.nd rfl (Or.inl rfl))
        (pss_cons (ps_set (i := 2) scPayload.nd rfl (Or.inl rfl) (pe_op op_add_str (pv 2) (pe_ix ix_str (pv 1) (pe_op op_mod (pe_op op_add (pv 3) (pe_op op_mul pe_int (pv 4))) pe_int) (fun _ _ => rfl))))
        (pss_one (ps_set (i := 3) scPayload.nd rfl (Or.inl rfl) (pe_op op_fdiv (pv 3) pe_int)))))
      (pss_one (ps_ret (pv 2))))))), ?_⟩
    refine ⟨_, rfl, .inl ⟨c, rfl, _, _, rfl, rfl, (by show (0 : Int) < 4; decide), _, _, rfl, rfl, _, rfl, ?_⟩⟩
    refine ite2 (fun _ => ?_) (fun _ => ?_)
    · -- one of the written ones
      refine ⟨by show 6 ≤ sizeLine; decide, fun l hl => ?_⟩
      refine ⟨_, rfl, _, _, rfl, rfl, ⟨by decide, by decide⟩, .inl ⟨_, rfl, _, _, rfl, rfl, (by show (0 : Int) < 6; decide), ?_⟩⟩
      obtain ⟨j, hj, ej⟩ := ld_mod (x := c / 4) (m := 6) (by decide)
      have key : ∀ j : Nat, j < 6 → ∃ p : Str, ([V.str "", V.str "x", V.str "a b", V.str "Yes", V.str " T ", V.str "q7:;("] : List V)[j]? = some (V.str p) := by
        intro j hj
        match j, hj with
        | 0, _ => exact ⟨_, rfl⟩
        | 1, _ => exact ⟨_, rfl⟩
        | 2, _ => exact ⟨_, rfl⟩
        | 3, _ => exact ⟨_, rfl⟩
        | 4, _ => exact ⟨_, rfl⟩
        | 5, _ => exact ⟨_, rfl⟩
        | j + 6, h => exact absurd h (by omega)
      obtain ⟨p, hp⟩ := key j hj
      exact ⟨l, _, _, V.str p, rfl, rfl, SqL.of upd_same, at_of (j := j) ej hp, q p _ (Same.new hl)⟩
    · -- one that grows
      refine ⟨_, rfl, _, _, rfl, rfl, ⟨by decide, by decide⟩, .inl ⟨_, rfl, ?_⟩⟩
      refine ⟨_, rfl, _, _, rfl, rfl, ⟨by decide, by decide⟩, .inl ⟨_, rfl, _, _, rfl, rfl, (by show (0 : Int) < 31; decide), ?_⟩⟩
      obtain ⟨j, hj, ej⟩ := ld_mod (x := c / 4) (m := 31) (by decide)
      refine ⟨(j : Int), by rw [← ej]; rfl, by omega, by omega, ?_⟩
      refine for_range (lo := 0) (n := ((j : Int)).toNat) (fun i σ H' => ∃ (t : Str) (r : Int) (v : Option V), σ = [some (.int c), some (.str chars), some (.str t), some (.int r), v] ∧ H' = H ∧ t.length = i)
        ⟨_, _, none, rfl, rfl, rfl⟩ ?_ ?_
      · rintro i σ H' hi ⟨t, r, v, rfl, rfl, hl⟩
        obtain ⟨x, hx, ex⟩ := ld_mod (x := r + 31 * (0 + (i : Int))) (m := 94) (by decide)
        obtain ⟨y, hy⟩ : ∃ y, chars.cps.toList[x]? = some y := ⟨chars.cps.toList[x]'(by rw [chars_len]; exact hx), List.getElem?_eq_getElem (by rw [chars_len]; exact hx)⟩
        have hat : atI chars.cps.toList (x : Int) = some y := atI_nat hy
        refine ⟨_, rfl, _, rfl, _, rfl, _, rfl, 31, _, rfl, rfl, .inl ⟨by decide, by decide⟩, _, _, rfl, rfl, _, _, rfl, rfl, (by show (0 : Int) < 94; decide), chars, (x : Int), y, rfl, by rw [← ex]; rfl, by decide +kernel, hat, ?_⟩
        refine ⟨_, _, rfl, rfl, ?_, ?_⟩
        · have e1 : (⟨#[y]⟩ : Str).length = 1 := rfl
          rw [hl, e1]
          exact Nat.le_trans (by omega : i + 1 ≤ 1000) (by decide)
        · refine ⟨_, rfl, _, _, rfl, rfl, ⟨by decide, by decide⟩, ?_⟩
          refine ⟨_, _, _, rfl, rfl, ?_⟩
          have e2 : (t ++ (⟨#[y]⟩ : Str)).length = t.length + 1 := by
            show (t.cps ++ #[y]).size = t.cps.size + 1
            rw [Array.size_append]
            rfl
          rw [e2, hl]
      · rintro σ H' ⟨t, r, v, rfl, rfl, hl⟩
        exact ⟨_, rfl, q t _ (Same.refl _)⟩

theorem scPost : FnScope ["_law_bag", "_law_letters", "_law_letter"] ["_law_bag", "_law_letters"] (defScope sPost) := ⟨rfl, rfl, rfl, by decide +kernel, rfl, by decide +kernel, by decide +kernel⟩
theorem ok_post {f : Addr} {fd : FuncData} (F : Fun K "_law_post" "_law_post" sPost f fd) : FnOk P w K mg base CX0 1 f fd ["_law_bag", "_law_letters"] spPost := by
  refine F.ok scPost (fun vs H Q E h => ?_) (fun cdv A outer s H vs Q E hr h => ?_)
  · obtain ⟨b, l, bv, lv, rfl, _⟩ := h
    rfl
  · obtain ⟨b, l, bv, lv, rfl, hb, hl, ne, hz, q⟩ := h
    refine ⟨_, pss_one (ps_for PassesOwn.never rfl (pi_list (pv 1)) (pg_name (i := 2) scPost.nd rfl (Or.inl rfl))
      (pss_one (ps_expr (pe_bm PySem.F.plainAttrs_list PySem.F.slot_list_append PySem.F.type_list_append mt_append (pv 0) (pa_cons (pv 2) pa_nil))))), ?_⟩
    refine ⟨_, rfl, l, rfl, ⟨_, SqL.of hl⟩, for_list (K := K) (a := l) (xs := lv) (fun i σ H' => ∃ v, σ = [some (.ref b), some (.ref l), v] ∧ (∀ c, c ≠ b → H' c = H c) ∧ H' b = some (.lst (bv ++ lv.take i)))
      ⟨none, rfl, fun _ _ => rfl, by rw [List.take_zero, List.append_nil]; exact hb⟩ (fun i σ H' _ ⟨_, _, g, _⟩ => SqL.of (by rw [g l ne.symm]; exact hl)) ?_ ?_⟩
    · rintro i x σ H' hx ⟨v, rfl, g, e⟩
      have hi : i < lv.length := (List.getElem?_eq_some_iff.mp hx).1
      refine ⟨_, rfl, .inl ⟨rfl, _, SqL.of e⟩, _, rfl, b, _, _, rfl, rfl, e, ?_, ?_⟩
      · rw [List.length_append, List.length_take]
        exact Nat.lt_of_le_of_lt (by omega : bv.length + min i lv.length ≤ 100000) (by decide)
      · refine ⟨_, rfl, fun c hc => by rw [upd_ne hc]; exact g c hc, ?_⟩
        rw [upd_same, take_snoc hx, List.append_assoc]
    · rintro σ H' ⟨v, rfl, g, e⟩
      rw [List.take_length] at e
      exact q H' g e
end
end KW

/-! The law's own helpers: _law_prefixes, _law_sound. -/
namespace KW
open PySem L2
open K21 (Msg Let Pkt lastIx fu)
section
variable (lf : Nat → Int) (n : Nat) (C : Addr)
def spPrefixes : Sp := fun vs H Q _ => ∃ (oa : Addr) (ads : List OAd) (L : List (Msg Str)) (lg : Nat → List (Msg Str)), vs = [.ref oa] ∧ H oa = some (.lst (ads.map fun a => .ref a.p)) ∧
  (∀ k a, ads[k]? = some a → ∃ L' own cnt, OrderAt lf n C H a k L' (lg k) own cnt) ∧ (∀ k, k < ads.length → lg k <+: L) ∧ L.length ≤ 1000 ∧ ads.length ≤ 1000 ∧ ∀ H', Same H H' → Q (.bl true) H'
def spSound (P : Program) (w : World) : Sp := fun vs H Q _ => ∃ (lv : V) (ma ca ua : Addr) (log : List (Msg Str)) (ms : List V) (kvs : List (List Key × V)) (cs : List Addr) (own : Nat → List Str) (cau : Nat → Nat → Nat) (c : Nat) (f : Nat → Int → Option Int),
  vs = [lv, .ref ma, .ref ca, .ref ua] ∧ IsLog lf H lv log ∧ H ma = some (.tup ms) ∧ Mems lf n H ms ∧ H ca = some (.dT kvs) ∧ Tab kvs (mk lf) (fun k => (cs[k]?).map V.ref) n ∧ cs.length = n ∧ (∀ k x, cs[k]? = some x → H x = some (.lst ((own k).map .str))) ∧
  DN P w lf H ua c f ∧ (∀ k i, k < n → 1 ≤ i → i ≤ (own k).length → f k ((i : Nat) : Int) = some ((cau k i : Nat) : Int)) ∧ K21.Sound n own cau log ∧ log.length ≤ 1000 ∧ n < 100 ∧ ∀ H', Same H H' → Q (.bl true) H'
end
theorem IsLog.mono {lf : Nat → Int} {H H' : Hp} {v : V} {l : List (Msg Str)} (t : TM H H') (h : IsLog lf H v l) : IsLog lf H' v l := let ⟨p, vs, e, q, m⟩ := h; ⟨p, vs, e, t _ _ q, all_mono (fun _ _ z => z.mono t) m⟩
/-- xs[:k] of a tuple, k within it -/
theorem rd_cut {K : PySem.W.Frag} {H : Hp} {a : Addr} {xs : List V} {k : Nat} {Q : VK} (h : H a = some (.tup xs)) (hk : k ≤ xs.length) (q : ∀ b H', Same H H' → H' b = some (.tup (xs.take k)) → Q (.ref b) H') : rSlA K (.ref a) none (some (k : Int)) H Q := by
  have e0 : HT.sIx xs.length 0 none = 0 := rfl
  have e1 : HT.sIx xs.length xs.length (some (k : Int)) = min k xs.length := HT.sIx_nat xs.length xs.length k
  refine ⟨a, xs, rfl, SqT.of h, fun hw => ?_, fun hw p hp => ?_⟩
  · refine q a H (Same.refl H) ?_
    rw [List.take_of_length_le (by omega)]
    exact h
  · refine q p _ (Same.new hp) ?_
    have ec : cutV xs none (some (k : Int)) = xs.take k := by
      unfold cutV
      rw [e0, e1, List.drop_zero]
      congr 1
      omega
    rw [← ec]
    exact upd_same
section
variable {P : Program} {w : World} {K : PySem.W.Frag} {mg : Str → Option Value} {base : Heap} {lf : Nat → Int} {n : Nat} {C : Addr}
theorem scPrefixes : FnScope ["_law_orders", "_law_logs", "_law_one", "_law_other", "_law_size", "_law_order"] ["_law_orders"] (defScope sPrefixes) := ⟨rfl, rfl, rfl, by decide +kernel, rfl, by decide +kernel, by decide +kernel⟩
theorem ok_prefixes {f fG : Addr} {fd fdG : FuncData} (F : Fun K "_law_prefixes" "_law_prefixes" sPrefixes f fd) (T : Txt K mg C) (MG : Mt K C sLog "log" "Order.log" ["self"] fG fdG) : FnOk P w K mg base CX0 2 f fd ["_law_orders"] (spPrefixes lf n C) := by
  have GG : FnOk P w K mg base CX0 1 fG fdG ["self"] (spLog lf n C) := ok_log MG.F T
  refine F.ok scPrefixes (fun vs H Q E h => ?_) (fun cdv A outer s H vs Q E hr h => ?_)
  · obtain ⟨oa, ads, L, lg, rfl, _⟩ := h
    rfl
  · obtain ⟨oa, ads, L, lg, rfl, hoa, hads, hpre, hL, hal, q⟩ := h
    refine ⟨_, pss_cons (ps_setLc (i := 1) (own := [("_law_order", 5)]) (g := gName 5) (tt := tYes) rfl scPrefixes.nd rfl rfl (sw_true rfl rfl rfl (by decide +kernel)) (pi_list (pv 0))
          (blkOk_by (own := [("_law_order", 5)]) (N := ["_law_orders", "_law_logs", "_law_one", "_law_other", "_law_size", "_law_order"]) (sc := defScope sPrefixes) (by decide +kernel))
          (fun _ _ _ _ _ => pg_name (i := 5) scPrefixes.nd rfl (Or.inl rfl)) (fun _ _ _ _ _ => pts_nil)
          (fun _ _ _ _ _ => pe_meth0 (pv 5) T.cl MG.m GG hr MG.b .nil pass0))
      (pss_cons (ps_for PassesOwn.never rfl (pi_list (pv 1)) (pg_name (i := 2) scPrefixes.nd rfl (Or.inl rfl))
        (pss_one (ps_for PassesOwn.never rfl (pi_list (pv 1)) (pg_name (i := 3) scPrefixes.nd rfl (Or.inl rfl))
          (pss_cons (ps_set (i := 4) scPrefixes.nd rfl (Or.inl rfl) (pe_callB (call_min2 rfl) (by rfl) T.min (by decide +kernel) (pa_cons (pe_callB call_len_seq (by rfl) T.len PySem.boot_len (pa_cons (pv 2) pa_nil)) (pa_cons (pe_callB call_len_seq (by rfl) T.len PySem.boot_len (pa_cons (pv 3) pa_nil)) pa_nil))))
          (pss_one (ps_if (pt_cmpR (op_neP hr.units) (pe_slice sl_tupA (pv 2) po_none (po_some (pv 4))) (pe_slice sl_tupA (pv 3) po_none (po_some (pv 4))) (nomark _)) (pss_one (ps_ret pe_bl)) pss_nil))))))
      (pss_one (ps_ret pe_bl))), ?_⟩
    refine ⟨_, rfl, oa, rfl, ⟨_, SqL.of hoa⟩, fun D hD => ?_⟩
    refine lc_list (K := K) (a := oa) (xs := ads.map fun a => V.ref a.p) (fun i H' => Same H H' ∧ ∃ vs, H' D = some (.lst vs) ∧ Paired (fun v k => IsLog lf H' v (lg k)) vs ((List.range ads.length).take i))
      ⟨Same.new hD, [], upd_same, .nil⟩ (fun i H' _ ⟨sm, _⟩ => SqL.of (sm _ _ hoa)) ?_ ?_
    · rintro i x H' hx ⟨sm, vs, eD, pr⟩
      rw [List.getElem?_map] at hx
      obtain ⟨a, ha, rfl⟩ := Option.map_eq_some_iff.mp hx
      obtain ⟨L', own, cnt, O0⟩ := hads i a ha
      have O := O0.same sm
      have hi : i < ads.length := (List.getElem?_eq_some_iff.mp ha).1
      refine ⟨rfl, _, rfl, a.p, a.dx, _, rfl, O.ob, no_of _ (by decide +kernel), a, i, L', lg i, own, cnt, rfl, O, fun v H3 s3 il => ?_⟩
      have eD3 := s3 _ _ eD
      refine ⟨vs, eD3, ?_, ?_⟩
      · have e1 := Paired.length pr
        rw [List.length_take, List.length_range] at e1
        exact Nat.lt_of_le_of_lt (by omega : vs.length ≤ 1000) (by decide)
      · have t3 : TM H3 (upd H3 D (.lst (vs ++ [v]))) := TM.upd eD3 fun _ z => by cases z
        refine ⟨fun b o e => ?_, _, upd_same, ?_⟩
        · rw [upd_ne (ne_of_none e hD)]
          exact s3 b o (sm b o e)
        · rw [take_snoc (List.getElem?_range hi)]
          exact Paired.snoc (Paired.mono (fun _ _ z => z.mono ((TM.of s3).trans t3)) pr) (il.mono t3)
    · rintro H' ⟨sm, vs, eD, pr⟩
      rw [List.length_map, List.take_of_length_le (by rw [List.length_range]; exact Nat.le_refl _)] at pr
      have hlen := Paired.length pr
      rw [List.length_range] at hlen
      -- the two loops
      have look : ∀ {i : Nat} {x : V}, vs[i]? = some x → i < ads.length ∧ IsLog lf H' x (lg i) := by
        intro i x hx
        have hi : i < ads.length := by rw [← hlen]; exact (List.getElem?_eq_some_iff.mp hx).1
        obtain ⟨k, hk, il⟩ := pr_get pr hx
        rw [List.getElem?_range hi] at hk
        cases hk
        exact ⟨hi, il⟩
      refine ⟨_, rfl, D, rfl, ⟨_, SqL.of eD⟩, for_list (K := K) (a := D) (xs := vs) (fun i σ H2 => ∃ v2 v3 v4, σ = [some (.ref oa), some (.ref D), v2, v3, v4, none] ∧ Same H' H2)
        ⟨none, none, none, rfl, Same.refl _⟩ (fun i σ H2 _ ⟨_, _, _, _, s2⟩ => SqL.of (s2 _ _ eD)) ?_ ?_⟩
      · rintro i x σ H2 hx ⟨v2, v3, v4, rfl, s2⟩
        obtain ⟨hi, lo, vo, rfl, elo, plo⟩ := look hx
        refine ⟨_, rfl, D, rfl, ⟨_, SqL.of (s2 _ _ eD)⟩, for_list (K := K) (a := D) (xs := vs) (fun j σ H3 => ∃ v3 v4, σ = [some (.ref oa), some (.ref D), some (.ref lo), v3, v4, none] ∧ Same H' H3)
          ⟨_, _, rfl, s2⟩ (fun j σ H3 _ ⟨_, _, _, s3⟩ => SqL.of (s3 _ _ eD)) ?_ ?_⟩
        · rintro j y σ H3 hy ⟨v3', v4', rfl, s3⟩
          obtain ⟨hj, lp, vp, rfl, elp, plp⟩ := look hy
          have l1 := Paired.length plo
          have l2 := Paired.length plp
          refine ⟨_, rfl, lo, _, rfl, .inr (SqT.of (s3 _ _ elo)), _, rfl, lp, _, rfl, .inr (SqT.of (s3 _ _ elp)), _, _, rfl, ?_⟩
          have emin : (if (vp.length : Int) < (vo.length : Int) then (vp.length : Int) else (vo.length : Int)) = ((min (lg i).length (lg j).length : Nat) : Int) := by
            rw [l1, l2]
            split <;> omega
          rw [emin]
          have hp1 := hpre i hi
          have hp2 := hpre j hj
          generalize hz : min (lg i).length (lg j).length = z
          refine ⟨_, rfl, _, rfl, _, rfl, rd_cut (s3 _ _ elo) (by omega) fun b1 H4 s4 e4 => ?_⟩
          refine ⟨_, rfl, _, rfl, _, rfl, rd_cut (s4 _ _ (s3 _ _ elp)) (by omega) fun b2 H5 s5 e5 => ?_⟩
          have t5 : TM H' H5 := TM.of ((s3.trans s4).trans s5)
          have d1 : Dp K H5 (.ref b1) (.tuple (((lg i).take z).map (msgD lf))) := .tup (SqT.of (s5 _ _ e4)) (dps_of (fun _ _ q => q.dp) (pr_take z (all_mono (fun _ _ q => q.mono t5) plo)))
          have d2 : Dp K H5 (.ref b2) (.tuple (((lg j).take z).map (msgD lf))) := .tup (SqT.of e5) (dps_of (fun _ _ q => q.dp) (pr_take z (all_mono (fun _ _ q => q.mono t5) plp)))
          have et : (lg i).take z = (lg j).take z := by
            rw [K21.take_of_prefix hp1 (by omega), K21.take_of_prefix hp2 (by omega)]
          have pl : ∀ l : List (Msg Str), (PyData.tuple (l.map (msgD lf))).plain = true := fun l => by
            simp only [PyData.plain]
            exact plains msgD_plain l
          have dp : (PyData.tuple (((lg i).take z).map (msgD lf))).depth ≤ 8 := by
            have q1 := depths (d := msgD lf) (c := 2) (fun x => by rw [msgD_depth]; exact Nat.le_refl _) ((lg i).take z)
            simp only [PyData.depth]
            omega
          refine ⟨_, _, d1, d2, pl _, pl _, dp, _, rfl, ?_⟩
          rw [et, SeqAt.eqv_refl_plain _ (pl _)]
          exact ⟨_, _, rfl, (s3.trans s4).trans s5⟩
        · rintro σ H3 ⟨v3', v4', rfl, s3⟩
          exact ⟨_, _, _, rfl, s3⟩
      · rintro σ H2 ⟨v2, v3, v4, rfl, s2⟩
        exact q H2 (sm.trans s2)

theorem scSound : FnScope ["_law_log", "_law_members", "_law_casts", "_law_causes", "_law_counts", "_law_k", "_law_sender", "_law_index", "_law_payload_here"] ["_law_log", "_law_members", "_law_casts", "_law_causes"] (defScope sSound) := ⟨rfl, rfl, rfl, by decide +kernel, rfl, by decide +kernel, by decide +kernel⟩
theorem ok_sound {f : Addr} {fd : FuncData} (F : Fun K "_law_sound" "_law_sound" sSound f fd) (T : Txt K mg C) : FnOk P w K mg base CX0 1 f fd ["_law_log", "_law_members", "_law_casts", "_law_causes"] (spSound lf n P w) := by
  refine F.ok scSound (fun vs H Q E h => ?_) (fun cdv A outer s H vs Q E hr h => ?_)
  · obtain ⟨lv, ma, ca, ua, log, ms, kvs, cs, own, cau, c, g, rfl, _⟩ := h
    rfl
  · obtain ⟨lv, ma, ca, ua, log, ms, kvs, cs, own, cau, c, g, rfl, ⟨la, xs, rfl, ela, pxs⟩, ema, hms, eca, Tc, hcs, hown, hdn, hcau, S, hl, hn, q⟩ := h
    have hu := hu_of hr
    have hlen := Paired.length pxs
    refine ⟨_, pss_cons (ps_set (i := 4) scSound.nd rfl (Or.inl rfl) pe_dnewT)
      (pss_cons (ps_for PassesOwn.never rfl (pi_range1 rfl T.range (pa_cons (pe_callB call_len_seq (by rfl) T.len PySem.boot_len (pa_cons (pv 0) pa_nil)) pa_nil)) (pg_name (i := 5) scSound.nd rfl (Or.inl rfl))
        (pss_cons (ps_asg (pe_ix ix_tup (pv 0) (pv 5) (fun _ _ => rfl)) (pg_tup (by rfl) (pgs_cons (pg_name (i := 6) scSound.nd rfl (Or.inl rfl)) (pgs_cons (pg_name (i := 7) scSound.nd rfl (Or.inl rfl)) (pgs_cons (pg_name (i := 8) scSound.nd rfl (Or.inl rfl)) pgs_nil)))))
        (pss_cons (ps_if (PW.pt (pw_or (pt_cmpR (op_notInT hr.units) (pv 6) (pv 1) (by rfl)) (pw_or (pt_cmpR op_ne (pv 7) (pe_op op_add (pe_dget2 hu (pv 4) (pv 6) pe_int ⟨by rfl, by rfl, by rfl, by rfl⟩) pe_int) (nomark _))
            (pw_or1 (pt_cmpR op_gt (pv 7) (pe_callB call_len_seq (by rfl) T.len PySem.boot_len (pa_cons (pe_dget hu (pv 2) (pv 6) (fun _ _ => rfl)) pa_nil)) (nomark _))))))
          (pss_one (ps_ret pe_bl)) pss_nil)
        (pss_cons (ps_if (pt_cmpR op_ne (pe_ix ix_list (pe_dget hu (pv 2) (pv 6) (fun _ _ => rfl)) (pe_op op_sub (pv 7) pe_int) (fun _ _ => rfl)) (pv 8) (nomark _)) (pss_one (ps_ret pe_bl)) pss_nil)
        (pss_cons (ps_if (pt_cmpR op_lt (pv 5) (pe_ix (ix_N hr.units) (pv 3) (pe_tup (pa_cons (pv 6) (pa_cons (pv 7) pa_nil))) (fun _ _ => rfl)) (nomark _)) (pss_one (ps_ret pe_bl)) pss_nil)
        (pss_one (ps_dput hu (pv 4) (pv 6) (pv 7) rfl)))))))
      (pss_one (ps_ret pe_bl))), ?_⟩
    intro D hD
    have s0 : Same H (upd H D (.dT [])) := Same.new hD
    refine ⟨_, rfl, la, _, rfl, .inr (SqT.of (s0 _ _ ela)), _, rfl, by omega, by omega, ?_⟩
    refine for_range (lo := 0) (n := (((xs.length : Nat) : Int)).toNat) (fun i σ H' => ∃ v5 v6 v7 v8, σ = [some (.ref la), some (.ref ma), some (.ref ca), some (.ref ua), some (.ref D), v5, v6, v7, v8] ∧ Same H H' ∧
        ∃ kc fc, H' D = some (.dT kc) ∧ Tab kc (mk lf) fc n ∧ ∀ j, j < n → (fc j).getD (.int 0) = .int (lastIx (log.take i) j : Nat))
      ⟨none, none, none, none, rfl, s0, [], _, upd_same, Tab.empty _ _, fun j _ => rfl⟩ ?_ ?_
    · rintro i σ H' hi ⟨v5, v6, v7, v8, rfl, sm, kc, fc, eD, Tk, qk⟩
      have hi' : i < log.length := by omega
      obtain ⟨m, hm⟩ : ∃ m, log[i]? = some m := ⟨log[i], List.getElem?_eq_getElem hi'⟩
      obtain ⟨x, hx, ix⟩ := pr_get' pxs hm
      obtain ⟨h1, h2, h3, h4⟩ := S i m hm
      obtain ⟨k, ix', p⟩ := m
      dsimp only at h1 h2 h3 h4
      obtain ⟨xa, mv, rfl, exa, imv⟩ := ix
      dsimp only at exa imv
      have hlt : ix' - 1 < (own k).length := (List.getElem?_eq_some_iff.mp h3).1
      -- sender, index, payload = log[k]
      refine ⟨_, rfl, _, rfl, _, _, _, _, rfl, rfl, SqT.of (sm _ _ ela), at_of (j := i) (by omega) hx, ?_⟩
      refine ⟨xa, _, rfl, SqT.of (sm _ _ exa), rfl, _, _, rfl, _, _, rfl, _, _, rfl, rfl, ?_⟩
      have imv' := imv.mono (TM.of sm)
      have ea : (((List.range n).map (memD lf)).any fun z => PyData.eqv z (memD lf k)) = true := by
        rw [mem_any]
        exact decide_eq_true h1
      refine ⟨_, rfl, _, rfl, memD lf k, (List.range n).map (memD lf), imv'.dp, .tup (SqT.of (sm _ _ ema)) (hms.mono (TM.of sm)).dp, memD_plain _, plains memD_plain _, by rw [memD_depth]; decide, _, rfl, ?_⟩
      rw [ea]
      obtain ⟨va, rfl, ev⟩ := imv'
      have e0 : (valV kc (mk lf k)).getD (.int 0) = .int ((lastIx (log.take i) k : Nat) : Int) := by
        rw [Tk.at_]
        exact qk k h1
      refine ⟨_, rfl, _, rfl, D, rfl, Or.inr ⟨kc, Or.inl eD⟩, _, rfl, _, DGet.t (k := mk lf k) eD ev, ?_⟩
      rw [e0]
      refine ⟨_, _, rfl, rfl, rfl, _, rfl, ?_⟩
      refine iteNS (show V.int ((ix' : Nat) : Int) = V.int (((lastIx (log.take i) k : Nat) : Int) + 1) by rw [h2]; rfl) ?_
      obtain ⟨ck, hck⟩ : ∃ ck, cs[k]? = some ck := ⟨cs[k]'(by omega), List.getElem?_eq_getElem (by omega)⟩
      have hcl := sm _ _ (hown k ck hck)
      have hvc : valV kvs (mk lf k) = some (.ref ck) := by
        rw [Tc.at_, hck]
        rfl
      have hg : DGet H' ca (.ref va) (some (.ref ck)) := by
        have z := DGet.t (k := mk lf k) (sm _ _ eca) ev
        rw [hvc] at z
        exact z
      refine ⟨_, rfl, _, rfl, _, rfl, ca, .ref ck, rfl, hg, ck, _, rfl, .inl (SqL.of hcl), _, _, rfl, rfl, _, rfl, ?_⟩
      have hgt : decide ((((own k).map V.str).length : Int) < ((ix' : Nat) : Int)) = false := decide_eq_false (by rw [List.length_map]; omega)
      rw [hgt]
      -- casts[sender][index - 1] != payload
      refine ⟨_, rfl, _, rfl, ca, .ref ck, rfl, hg, _, rfl, _, _, rfl, rfl, ck, _, _, V.str p, rfl, rfl, SqL.of hcl, at_of (j := ix' - 1) (by omega) (by rw [List.getElem?_map, h3]; rfl), _, rfl, rfl, _, rfl, ?_⟩
      refine iteNS rfl ?_
      -- k < causes[sender, index]
      refine ⟨_, rfl, _, rfl, _, rfl, _, rfl, by show 2 ≤ sizeLine; decide, fun t ht => ?_⟩
      have sN := fun o => Same.new (o := o) ht
      have hci := hcau k ix' h1 (by omega) (by omega)
      refine ⟨lf, ua, t, c, g, k, ((ix' : Nat) : Int), ((cau k ix' : Nat) : Int), rfl, rfl, hdn.mono (TM.of (sm.trans (sN _))) (fun o e => sN _ _ _ (sm _ _ e)), ⟨.ref va, upd_same, va, rfl, sN _ _ _ ev⟩, hci, _, _, rfl, rfl, _, rfl, ?_⟩
      have hlt2 : decide ((0 : Int) + ((i : Nat) : Int) < ((cau k ix' : Nat) : Int)) = false := decide_eq_false (by omega)
      rw [hlt2]
      -- counts[sender] = index
      have hz : kc.length < sizeLine := Nat.lt_of_le_of_lt (Nat.le_trans Tk.len (by omega : n ≤ 1000)) (by decide)
      refine ⟨_, rfl, _, rfl, _, rfl, D, _, rfl, DPut.t (k := mk lf k) (sN _ _ _ eD) (sN _ _ _ ev) hz, ?_⟩
      refine ⟨_, _, _, _, rfl, fun b o e => ?_, _, _, upd_same, Tk.put (fun j k h => mk_inj lf h) h1 _, fun j hj => ?_⟩
      · rw [upd_ne (ne_of_none e hD)]
        exact sN _ _ _ (sm b o e)
      · rw [take_snoc hm, K21.lastIx_snoc]
        by_cases e : j = k
        · subst e
          rw [K21.fu_same, if_pos rfl]
          rfl
        · rw [K21.fu_ne _ _ e, if_neg (fun z => e z.symm)]
          exact qk j hj
    · rintro σ H' ⟨v5, v6, v7, v8, rfl, sm, _⟩
      exact q H' sm
end
end KW

/-! All orders together; _law_told, _law_hand. -/
namespace KW
open PySem L2
open K21 (Msg Let Pkt lastIx fu)
/-- what the orders may change -/
def Mu (ads : List OAd) : List Addr := ads.flatMap OAd.muts
theorem mem_Mu {ads : List OAd} {k : Nat} {a : OAd} (h : ads[k]? = some a) {x : Addr} (hx : x ∈ a.muts) : x ∈ Mu ads := List.mem_flatMap.mpr ⟨a, List.mem_of_getElem? h, hx⟩
theorem of_Mu {ads : List OAd} {x : Addr} (hx : x ∈ Mu ads) : ∃ (k : Nat) (a : OAd), ads[k]? = some a ∧ x ∈ a.muts := by
  obtain ⟨a, ha, hx⟩ := List.mem_flatMap.mp hx
  obtain ⟨k, hk⟩ := List.getElem?_of_mem ha
  exact ⟨k, a, hk, hx⟩
def cntOf (s : K21.St Str) (k : Nat) : Nat → Nat := if k = 0 then s.cnt else fun _ => 0
/-- the list of all orders stands at oa -/
structure Wd (lf : Nat → Int) (n : Nat) (C : Addr) (H : Hp) (oa : Addr) (ads : List OAd) (s : K21.St Str) : Prop where
  len : ads.length = n
  lst : H oa = some (.lst (ads.map fun a => .ref a.p))
  at_ : ∀ (k : Nat) (a : OAd), ads[k]? = some a → OrderAt lf n C H a k (s.log 0) (s.log k) (s.own k) (cntOf s k)
  sep : ∀ (j k : Nat) (a b : OAd) (x : Addr), ads[j]? = some a → ads[k]? = some b → x ∈ a.muts → x ∈ b.muts → j = k
  off : ¬ oa ∈ Mu ads
section
variable {lf : Nat → Int} {n : Nat} {C : Addr} {H H' : Hp} {oa : Addr} {ads : List OAd} {s s' : K21.St Str} {a : OAd} {k : Nat}
theorem OrderAt.mutI {L log : List (Msg Str)} {own : List Str} {cnt : Nat → Nat} (O : OrderAt lf n C H a k L log own cnt) {x : Addr} (hx : x ∈ a.muts) : ∃ u, H x = some u ∧ (∀ xs, u ≠ .tup xs) ∧ ∀ C' dx fs, u ≠ .ins C' dx fs := by
  obtain ⟨v1, e1, _⟩ := O.lg
  obtain ⟨v2, f2, e2, _⟩ := O.ea
  obtain ⟨v4, f4, e4, _⟩ := O.la
  obtain ⟨v5, f5, e5, _⟩ := O.co
  simp only [OAd.muts, List.mem_cons, List.not_mem_nil, or_false] at hx
  rcases hx with rfl | rfl | rfl | rfl | rfl
  · exact ⟨_, e1, (fun _ z => by cases z), fun _ _ _ z => by cases z⟩
  · exact ⟨_, e2, (fun _ z => by cases z), fun _ _ _ z => by cases z⟩
  · exact ⟨_, O.ow, (fun _ z => by cases z), fun _ _ _ z => by cases z⟩
  · exact ⟨_, e4, (fun _ z => by cases z), fun _ _ _ z => by cases z⟩
  · exact ⟨_, e5, (fun _ z => by cases z), fun _ _ _ z => by cases z⟩
theorem Wd.get (W : Wd lf n C H oa ads s) (hk : k < n) : ∃ a, ads[k]? = some a := ⟨ads[k]'(by rw [W.len]; exact hk), List.getElem?_eq_getElem (by rw [W.len]; exact hk)⟩
theorem Wd.lt (W : Wd lf n C H oa ads s) (h : ads[k]? = some a) : k < n := by rw [← W.len]; exact (List.getElem?_eq_some_iff.mp h).1
theorem Wd.pnot (W : Wd lf n C H oa ads s) (h : ads[k]? = some a) : ¬ a.p ∈ Mu ads := fun hm => by
  obtain ⟨j, b, hb, hx⟩ := of_Mu hm
  obtain ⟨u, e, _, nu⟩ := (W.at_ j b hb).mutI hx
  rw [(W.at_ k a h).ob] at e
  cases e
  exact nu _ _ _ rfl
theorem Wd.tm (W : Wd lf n C H oa ads s) (kp : Keep (Mu ads) H H') : TM H H' := fun b xs e => kp b _ e fun hb => by
  obtain ⟨j, a, ha, hx⟩ := of_Mu hb
  obtain ⟨u, e', nu, _⟩ := (W.at_ j a ha).mutI hx
  rw [e] at e'
  cases e'
  exact nu xs rfl
theorem Wd.stay (W : Wd lf n C H oa ads s) (t : TM H H') (ho : ∀ o, H oa = some o → H' oa = some o) (hp : ∀ (k : Nat) (a : OAd), ads[k]? = some a → ∀ o, H a.p = some o → H' a.p = some o) (hm : ∀ x o, x ∈ Mu ads → H x = some o → H' x = some o) : Wd lf n C H' oa ads s :=
  ⟨W.len, ho _ W.lst, fun k a h => (W.at_ k a h).stay t (hp k a h) fun x o hx => hm x o (mem_Mu h hx), W.sep, W.off⟩
theorem Wd.same (W : Wd lf n C H oa ads s) (e : Same H H') : Wd lf n C H' oa ads s := W.stay (TM.of e) (fun o => e _ o) (fun _ _ _ o => e _ o) fun x o _ => e x o
/-- one other thing changes, at x -/
theorem Wd.one (W : Wd lf n C H oa ads s) {x : Addr} {u : HO} (kp : Keep [x] H H') (hu : H x = some u) (h1 : ∀ xs, u ≠ .tup xs) (h2 : ∀ C' dx fs, u ≠ .ins C' dx fs) (hx : ¬ x ∈ Mu ads) (ho : x ≠ oa) : Wd lf n C H' oa ads s := by
  have k1 : ∀ b o, b ≠ x → H b = some o → H' b = some o := fun b o hb e => kp b o e (by simpa using hb)
  refine W.stay (fun b xs e => k1 b _ (ne_of e hu fun z => h1 xs z.symm) e) (fun o e => k1 _ _ ho.symm e) (fun k a h o e => k1 _ _ (ne_of (W.at_ k a h).ob hu fun z => h2 _ _ _ z.symm) e) fun y o hy e => k1 _ _ (fun z => hx (by rw [← z]; exact hy)) e
/-- order k has moved -/
theorem Wd.step (W : Wd lf n C H oa ads s) (ha : ads[k]? = some a) (kp : Keep a.muts H H') (O' : OrderAt lf n C H' a k (s'.log 0) (s'.log k) (s'.own k) (cntOf s' k)) (h0 : s.log 0 <+: s'.log 0) (hl : ∀ j, j ≠ k → s'.log j = s.log j) (ho : ∀ j, j ≠ k → s'.own j = s.own j)
    (hc : ∀ j, j ≠ k → cntOf s' j = cntOf s j) : Wd lf n C H' oa ads s' := by
  have tm := (W.at_ k a ha).tm kp
  refine ⟨W.len, kp _ _ W.lst fun hm => W.off (mem_Mu ha hm), fun j b hb => ?_, W.sep, W.off⟩
  by_cases e : j = k
  · subst e
    rw [ha] at hb
    cases hb
    exact O'
  · rw [hl j e, ho j e, hc j e]
    exact ((W.at_ j b hb).stay tm (fun o q => kp _ _ q fun hm => W.pnot hb (mem_Mu ha hm)) fun x o hx q => kp _ _ q fun hm => e (W.sep j k b a x hb ha hx hm)).grow h0
end
/-! ### the promises -/
section
variable (lf : Nat → Int) (n : Nat) (C : Addr)
def spTold : Sp := fun vs H Q _ => ∃ (oa ma : Addr) (ads : List OAd) (ms : List V) (s : K21.St Str), vs = [.ref oa, .ref ma] ∧ Wd lf n C H oa ads s ∧ H ma = some (.tup ms) ∧ Mems lf n H ms ∧ K21.Ok n s ∧ n < 100 ∧ 1 ≤ n ∧
  ∀ H' s', Keep (Mu ads) H H' → Wd lf n C H' oa ads s' → K21.Ok n s' → s'.log = s.log → s'.own = s.own → s'.cau = s.cau → (∀ k, 1 ≤ k → k < n → s'.cnt k = (s.log k).length) → Q .non H'
def spHand : Sp := fun vs H Q _ => ∃ (oa pa b : Addr) (ads : List OAd) (v : V) (bv : List V) (qs : List (Pkt Str)) (q : Pkt Str) (s : K21.St Str), vs = [.ref oa, .ref pa, .ref b, v] ∧ Wd lf n C H oa ads s ∧ H pa = some (.lst ((List.range n).map fun k : Nat => V.int (k : Int))) ∧
  H b = some (.lst bv) ∧ Paired (IsPkt lf H) bv qs ∧ IsPkt lf H v q ∧ K21.Good n s q ∧ K21.Ok n s ∧ ¬ b ∈ Mu ads ∧ b ≠ oa ∧ bv.length ≤ 1000 ∧ n ≤ 12 ∧
  ∀ H' s' bv' qs', Keep (b :: Mu ads) H H' → TM H H' → Wd lf n C H' oa ads s' → K21.Took n s s' q → s'.cau = s.cau → s'.cnt = s.cnt → H' b = some (.lst bv') → Paired (IsPkt lf H') bv' (qs ++ qs') → (∀ q', q' ∈ qs' → K21.Good n s' q') → qs'.length ≤ 12 → Q .non H'
end
theorem good_all {n : Nat} {s : K21.St Str} {place : Nat} {m : Msg Str} (h1 : 1 ≤ place) (h : (s.log 0)[place - 1]? = some m) : ∀ q', q' ∈ ordAll n place m → K21.Good n s q' := by
  intro q' hq
  obtain ⟨j, hj, e⟩ := List.mem_map.mp hq
  have hj := List.mem_range.mp hj
  subst e
  exact ⟨by omega, by omega, h1, h⟩
section
variable {P : Program} {w : World} {K : PySem.W.Frag} {mg : Str → Option Value} {base : Heap} {lf : Nat → Int} {n : Nat} {C : Addr}
theorem scTold : FnScope ["_law_orders", "_law_members", "_law_k"] ["_law_orders", "_law_members"] (defScope sTold) := ⟨rfl, rfl, rfl, by decide +kernel, rfl, by decide +kernel, by decide +kernel⟩
theorem ok_told {f fH fG : Addr} {fd fdH fdG : FuncData} (F : Fun K "_law_told" "_law_told" sTold f fd) (T : Txt K mg C) (MH : Mt K C sHeard "heard" "Order.heard" ["self", "member", "count"] fH fdH) (MG : Mt K C sLog "log" "Order.log" ["self"] fG fdG) :
    FnOk P w K mg base CX0 2 f fd ["_law_orders", "_law_members"] (spTold lf n C) := by
  have GH : FnOk P w K mg base CX0 1 fH fdH ["self", "member", "count"] (spHeard lf n C) := ok_heard MH.F T
  have GG : FnOk P w K mg base CX0 1 fG fdG ["self"] (spLog lf n C) := ok_log MG.F T
  refine F.ok scTold (fun vs H Q E h => ?_) (fun cdv A outer s H vs Q E hr h => ?_)
  · obtain ⟨oa, ma, ads, ms, s, rfl, _⟩ := h
    rfl
  · obtain ⟨oa, ma, ads, ms, s, rfl, W, ema, hms, ok, hn, hn1, q⟩ := h
    refine ⟨_, pss_one (ps_for PassesOwn.never rfl (pi_range2 rfl T.range (pa_cons pe_int (pa_cons (pe_callB call_len_seq (by rfl) T.len PySem.boot_len (pa_cons (pv 1) pa_nil)) pa_nil))) (pg_name (i := 2) scTold.nd rfl (Or.inl rfl))
      (pss_one (ps_expr (pe_meth (pe_ix ix_list (pv 0) pe_int (fun _ _ => rfl)) T.cl MH.m GH hr MH.b .nil pass0 (pa_cons (pe_ix ix_tup (pv 1) (pv 2) (fun _ _ => rfl)) (pa_cons (pe_callB call_len_seq (by rfl) T.len PySem.boot_len (pa_cons
        (pe_meth0 (pe_ix ix_list (pv 0) (pv 2) (fun _ _ => rfl)) T.cl MG.m GG hr MG.b .nil pass0) pa_nil)) pa_nil)))))), ?_⟩
    refine ⟨_, rfl, ma, _, rfl, .inr (SqT.of ema), _, _, rfl, ⟨by decide, by decide, by omega, by rw [hms.1]; omega⟩, ?_⟩
    refine for_range (lo := 1) (n := (((ms.length : Nat) : Int) - 1).toNat) (fun i σ H' => ∃ (v : Option V) (s' : K21.St Str), σ = [some (.ref oa), some (.ref ma), v] ∧ Keep (Mu ads) H H' ∧ Wd lf n C H' oa ads s' ∧ K21.Ok n s' ∧ s'.log = s.log ∧ s'.own = s.own ∧ s'.cau = s.cau ∧ (∀ k, 1 ≤ k → k < 1 + i → s'.cnt k = (s.log k).length))
      ⟨none, s, rfl, Keep.of (Same.refl _), W, ok, rfl, rfl, rfl, fun k h1 h2 => absurd h2 (by omega)⟩ ?_ ?_
    · rintro i σ H' hi ⟨v, s', rfl, kp, W', ok', el, eo, ec, hc⟩
      have hk : 1 + i < n := by rw [← hms.1]; omega
      obtain ⟨a0, h0⟩ := W'.get (k := 0) (by omega)
      obtain ⟨a, ha⟩ := W'.get (k := 1 + i) hk
      have O0 := W'.at_ 0 a0 h0
      have O := W'.at_ _ a ha
      have tm := W.tm kp
      obtain ⟨x, hx, ix⟩ := hms.2 (1 + i) hk
      have key : (1 : Int) + (i : Int) = ((1 + i : Nat) : Int) := by omega
      rw [key]
      refine ⟨_, rfl, _, _, _, _, rfl, rfl, SqL.of W'.lst, atI_nat (j := 0) (by rw [List.getElem?_map, h0]; rfl), a0.p, a0.dx, _, rfl, O0.ob, no_of _ (by decide +kernel), ?_⟩
      refine ⟨_, rfl, _, rfl, _, _, _, _, rfl, rfl, SqT.of (tm _ _ ema), atI_nat (j := 1 + i) hx, ?_⟩
      refine ⟨_, rfl, _, rfl, _, _, _, _, rfl, rfl, SqL.of W'.lst, atI_nat (j := 1 + i) (by rw [List.getElem?_map, ha]; rfl), a.p, a.dx, _, rfl, O.ob, no_of _ (by decide +kernel), a, 1 + i, _, _, _, _, rfl, O, fun lv H3 s3 il => ?_⟩
      obtain ⟨lp, xs, rfl, elp, pxs⟩ := il
      have hlen := Paired.length pxs
      refine ⟨lp, _, rfl, .inr (SqT.of elp), ?_⟩
      have W3 := W'.same s3
      refine ⟨a0, 0, _, _, _, _, x, 1 + i, (s'.log (1 + i)).length, by rw [hlen]; rfl, W3.at_ 0 a0 h0, (ix.mono tm).mono (TM.of s3), hk, hn, fun H4 k4 O4 => ?_⟩
      have e4 : ∀ y, y ∈ [a0.counts] → y ∈ a0.muts := fun y hy => by
        rw [List.mem_singleton.mp hy]
        exact m_counts
      refine ⟨_, s'.heard (1 + i) (s'.log (1 + i)).length, rfl, (kp.trans (Keep.of s3)).trans (k4.mono fun y hy => mem_Mu h0 (e4 y hy)), W3.step h0 (k4.mono e4) O4 (List.prefix_refl _) (fun _ _ => rfl) (fun _ _ => rfl) (fun j hj => ?_), ok'.heard (Nat.le_refl _), el, eo, ec, fun k h1 h2 => ?_⟩
      · unfold cntOf
        rw [if_neg hj, if_neg hj]
      · show fu s'.cnt (1 + i) (max (s'.log (1 + i)).length (s'.cnt (1 + i))) k = _
        by_cases e : k = 1 + i
        · subst e
          rw [K21.fu_same, Nat.max_eq_left (ok'.cnt _ hk), el]
        · rw [K21.fu_ne _ _ e]
          exact hc k h1 (by omega)
    · rintro σ H' ⟨v, s', rfl, kp, W', ok', el, eo, ec, hc⟩
      refine q H' s' kp W' ok' el eo ec fun k h1 h2 => hc k h1 ?_
      rw [hms.1]
      omega

theorem scHand : FnScope ["_law_orders", "_law_processes", "_law_bag", "_law_letter", "_law_at", "_law_told_here"] ["_law_orders", "_law_processes", "_law_bag", "_law_letter"] (defScope sHand) := ⟨rfl, rfl, rfl, by decide +kernel, rfl, by decide +kernel, by decide +kernel⟩
theorem ok_hand {f fT fP : Addr} {fd fdT fdP : FuncData} (F : Fun K "_law_hand" "_law_hand" sHand f fd) (T : Txt K mg C) (MT : Mt K C sTake "take" "Order.take" ["self", "letter"] fT fdT) (GT : FnOk P w K mg base CX0 4 fT fdT ["self", "letter"] (spTake lf n C))
    (DP : Df K mg sPost "_law_post" ["_law_bag", "_law_letters"] fP fdP) : FnOk P w K mg base CX0 5 f fd ["_law_orders", "_law_processes", "_law_bag", "_law_letter"] (spHand lf n C) := by
  have GP : FnOk P w K mg base CX0 1 fP fdP ["_law_bag", "_law_letters"] spPost := ok_post DP.F
  refine F.ok scHand (fun vs H Q E h => ?_) (fun cdv A outer s H vs Q E hr h => ?_)
  · obtain ⟨oa, pa, b, ads, v, bv, qs, q, s, rfl, _⟩ := h
    rfl
  · obtain ⟨oa, pa, b, ads, v, bv, qs, q, s, rfl, W, epa, eb, pqs, iq, gd, ok, hbm, hbo, hbl, hn, qq⟩ := h
    have hr1 : Room 1 _ := hr.mono (by decide)
    refine ⟨_, pss_cons (ps_set (i := 4) scHand.nd rfl (Or.inl rfl) (pe_bm PySem.F.plainAttrs_list PySem.F.slot_list_index PySem.F.type_list_index mt_index (pv 1) (pa_cons (pe_ix ix_tup (pv 3) pe_int (fun _ _ => rfl)) pa_nil)))
      (pss_cons (ps_set (i := 5) scHand.nd rfl (Or.inl rfl) (pe_meth (pe_ix ix_list (pv 0) (pv 4) (fun _ _ => rfl)) T.cl MT.m GT hr MT.b .nil pass0 (pa_cons (pe_ix ix_tup (pv 3) pe_int (fun _ _ => rfl)) pa_nil)))
      (pss_one (ps_expr (pe_call GP hr1 (by rfl) DP.g DP.F.kp DP.b .nil pass0 (pa_cons (pv 2) (pa_cons (pe_ix ix_tup (pv 5) pe_int (fun _ _ => rfl)) pa_nil)))))), ?_⟩
    obtain ⟨to, l⟩ := q
    obtain ⟨qa, lv, rfl, eqa, il⟩ := iq
    dsimp only at eqa il
    have hto : to < n := by
      cases l with
      | cast j i p => obtain ⟨h1, h2, h3, _⟩ := gd; omega
      | ord place m => exact gd.2.1
    obtain ⟨a, ha⟩ := W.get hto
    have O := W.at_ to a ha
    have hflat : ((List.range n).map fun k : Nat => V.int (k : Int)).all flatV = true := by
      rw [List.all_eq_true]
      intro x hx
      obtain ⟨k, _, rfl⟩ := List.mem_map.mp hx
      rfl
    have hat : ((List.range n).map fun k : Nat => V.int (k : Int))[to]? = some (V.int (to : Int)) := by
      rw [List.getElem?_map, List.getElem?_range hto]
      rfl
    refine ⟨_, rfl, .inl ⟨rfl, _, SqL.of epa⟩, _, rfl, _, _, _, _, rfl, rfl, SqT.of eqa, atI_nat (j := 0) rfl, pa, _, V.int (to : Int), to, V.int (to : Int), rfl, rfl, SqL.of epa, rfl, hflat, hat, ?_, ?_, ?_⟩
    · simp [eqV]
    · intro m z hm hz
      rw [List.getElem?_map, List.getElem?_range (by omega)] at hz
      cases hz
      have hne : ¬ ((m : Int) = (to : Int)) := by omega
      simp [eqV, hne]
    have hL : (s.log 0).length < 99 := by have := ok.len; omega
    have hlk : (s.log to).length < 99 := by have := ok.lenk hto; omega
    have hLn : ∀ m, m ∈ s.log 0 → m.1 < n := fun m hm => by
      obtain ⟨i, hi⟩ := List.getElem?_of_mem hm
      exact (ok.snd i m hi).1
    have tk : Takes n to (s.log 0) (s.log to) l := by
      cases l with
      | cast j i p => exact ⟨gd.1, by have := gd.2.1; omega, gd.2.2.1⟩
      | ord place m => exact ⟨by have := gd.1; omega, gd.2.2.1, gd.2.2.2, ok.pre to hto⟩
    refine ⟨_, rfl, _, rfl, _, _, _, _, rfl, rfl, SqL.of W.lst, atI_nat (j := to) (by rw [List.getElem?_map, ha]; rfl), a.p, a.dx, _, rfl, O.ob, no_of _ (by decide +kernel), _, rfl, _, _, _, _, rfl, rfl, SqT.of eqa, atI_nat (j := 1) rfl,
      a, to, s.log 0, s.log to, s.own to, cntOf s to, lv, l, rfl, O, il, tk, hL, hlk, by omega, hLn, fun H1 t dv u log' qs' tw k1 et O1 np => ?_⟩
    obtain ⟨pl, pvs, rfl, npl, epl, ppl⟩ := np
    have km : Keep (Mu ads) H H1 := k1.mono fun x hx => mem_Mu ha hx
    have tm1 := W.tm km
    have eb1 := km _ _ eb hbm
    -- how the state moves
    have move : ∃ s', Wd lf n C H1 oa ads s' ∧ K21.Took n s s' (to, l) ∧ s'.cau = s.cau ∧ s'.cnt = s.cnt ∧ (∀ q', q' ∈ qs' → K21.Good n s' q') ∧ qs'.length ≤ 12 := by
      cases tw with
      | @yes j i p h0 hi =>
        subst h0
        obtain ⟨g1, g2, g3, g4, g5⟩ := gd
        have e0 : (s.app (j, i, p)).log 0 = s.log 0 ++ [(j, i, p)] := K21.fu_same s.log 0 _
        refine ⟨s.app (j, i, p), W.step ha k1 ?_ (by rw [e0]; exact K21.pre_snoc _ _) (fun x hx => K21.fu_ne _ _ hx) (fun _ _ => rfl) (fun _ _ => rfl), ⟨ok.takeCast g3 (by omega) hi g5, K21.grow_app _ _, rfl, fun _ => ?_⟩, rfl, rfl, good_all (by omega) ?_, ?_⟩
        · rw [e0]
          exact O1.grow (K21.pre_snoc _ _)
        · show i ≤ lastIx ((s.app (j, i, p)).log 0) j
          rw [e0, K21.lastIx_snoc, if_pos rfl]
          exact Nat.le_refl _
        · rw [e0, Nat.add_sub_cancel, List.getElem?_append_right (Nat.le_refl _), Nat.sub_self]
          rfl
        · unfold ordAll
          rw [List.length_map, List.length_range]
          omega
      | @no j i p h0 hi =>
        subst h0
        refine ⟨s, W.step ha k1 O1 (List.prefix_refl _) (fun _ _ => rfl) (fun _ _ => rfl) (fun _ _ => rfl), ⟨ok, K21.Grow.refl _, rfl, fun rp => ?_⟩, rfl, rfl, fun _ hq => by simp at hq, Nat.zero_le _⟩
        have rp' : i ≤ lastIx (s.log 0) j + 1 := rp
        show i ≤ lastIx (s.log 0) j
        omega
      | @ord place m _ h0 h1 h2 h3 =>
        have e0 : (s.setLog to log').log 0 = s.log 0 := K21.fu_ne _ _ (fun z => h0 z.symm)
        have e1 : (s.setLog to log').log to = log' := K21.fu_same s.log to _
        refine ⟨s.setLog to log', W.step ha k1 ?_ (by rw [e0]; exact List.prefix_refl _) (fun x hx => K21.fu_ne _ _ hx) (fun _ _ => rfl) (fun _ _ => rfl), ⟨ok.setLog h0 h1 h2, K21.grow_setLog _ _ _ h1, rfl, fun rp => ?_⟩, rfl, rfl, fun _ hq => by simp at hq, Nat.zero_le _⟩
        · rw [e0, e1]
          exact O1
        · have rp' : place ≤ (s.log to).length + 1 := rp
          show place ≤ ((s.setLog to log').log to).length
          rw [e1]
          have := h1.length_le
          by_cases e : place = (s.log to).length + 1
          · exact h3 e
          · omega
    obtain ⟨s', W1, tk', ec, en, gds, hq12⟩ := move
    have hpl := Paired.length ppl
    have nbl : b ≠ pl := ne_of_none eb npl
    refine ⟨_, rfl, _, rfl, _, _, _, _, rfl, rfl, SqT.of et, atI_nat (j := 1) rfl, b, pl, bv, pvs, rfl, eb1, epl, nbl, by omega, fun H2 g2 e2 => ?_⟩
    have tm2 : TM H1 H2 := fun x xs e => by
      rw [g2 x (ne_of e eb1 fun z => by cases z)]
      exact e
    have k2 : Keep [b] H1 H2 := fun x o e hx => by
      rw [g2 x (by simpa using hx)]
      exact e
    refine qq H2 s' (bv ++ pvs) qs' (fun x o e hx => ?_) (tm1.trans tm2) (W1.one k2 eb1 (fun _ z => by cases z) (fun _ _ _ z => by cases z) hbm hbo) tk' ec en e2 ?_ gds hq12
    · have h1 : x ≠ b := fun z => hx (by rw [z]; exact List.mem_cons_self)
      rw [g2 x h1]
      exact km x o e fun z => hx (List.mem_cons_of_mem _ z)
    · exact pr_app (all_mono (fun _ _ z => z.mono (tm1.trans tm2)) pqs) (all_mono (fun _ _ z => z.mono tm2) ppl)
end
end KW

/-! What holds between two steps of the law; the letters of again; the bag of a round. -/
namespace KW
open PySem L2
open K21 (Msg Let Pkt lastIx fu)
/-- the addresses that stay through the law -/
structure Fx where
  oa : Addr
  ma : Addr
  pa : Addr
  ca : Addr
  ua : Addr
  sl : Addr
  sa : Addr
  ads : List OAd
  cs : List Addr
  ms : List V
  zs : List Int
def Fx.fix (X : Fx) : List Addr := X.pa :: X.ca :: X.ua :: X.sl :: X.cs
structure Rest (P : Program) (w : World) (lf : Nat → Int) (n : Nat) (X : Fx) (H : Hp) (s : K21.St Str) (c : Nat) : Prop where
  me : H X.ma = some (.tup X.ms)
  mm : Mems lf n H X.ms
  pr : H X.pa = some (.lst ((List.range n).map fun k : Nat => V.int (k : Int)))
  ca : ∃ kvs, H X.ca = some (.dT kvs) ∧ Tab kvs (mk lf) (fun k => (X.cs[k]?).map V.ref) n
  cl : X.cs.length = n
  cs : ∀ k x, X.cs[k]? = some x → H x = some (.lst ((s.own k).map .str))
  cnd : X.cs.Nodup
  ua : ∃ f, DN P w lf H X.ua c f ∧ ∀ k i, k < n → 1 ≤ i → i ≤ (s.own k).length → f k ((i : Nat) : Int) = some ((s.cau k i : Nat) : Int)
  sl : H X.sl = some (.lst (X.zs.map .int))
  off : ∀ x, x ∈ X.fix → ¬ x ∈ Mu X.ads
  csn : ∀ x, x ∈ X.cs → x ≠ X.oa ∧ x ≠ X.pa ∧ x ≠ X.sl
structure LT (P : Program) (w : World) (lf : Nat → Int) (n : Nat) (C : Addr) (X : Fx) (H : Hp) (s : K21.St Str) (c : Nat) : Prop where
  W : Wd lf n C H X.oa X.ads s
  R : Rest P w lf n X H s c
  ok : K21.Ok n s
  n2 : 2 ≤ n
  n12 : n ≤ 12
structure LW (P : Program) (w : World) (lf : Nat → Int) (n : Nat) (C : Addr) (X : Fx) (H : Hp) (s : K21.St Str) (c : Nat) (b : Addr) (bv : List V) (qs : List (Pkt Str)) : Prop where
  T : LT P w lf n C X H s c
  eb : H b = some (.lst bv)
  pq : Paired (IsPkt lf H) bv qs
  gd : ∀ q, q ∈ qs → K21.Good n s q
  bm : ¬ b ∈ Mu X.ads
  bo : b ≠ X.oa
  bf : ¬ b ∈ X.fix
section
variable {P : Program} {w : World} {lf : Nat → Int} {n : Nat} {C : Addr} {X : Fx} {H H' : Hp} {s s' : K21.St Str} {c : Nat} {b : Addr} {bv : List V} {qs : List (Pkt Str)}
theorem fix_pa : X.pa ∈ X.fix := by simp [Fx.fix]
theorem fix_ca : X.ca ∈ X.fix := by simp [Fx.fix]
theorem fix_ua : X.ua ∈ X.fix := by simp [Fx.fix]
theorem fix_sl : X.sl ∈ X.fix := by simp [Fx.fix]
theorem fix_cs {x : Addr} (h : x ∈ X.cs) : x ∈ X.fix := by simp [Fx.fix, h]
theorem Rest.stay (R : Rest P w lf n X H s c) (t : TM H H') (h : ∀ x o, x ∈ X.fix → H x = some o → H' x = some o) (eo : s'.own = s.own) (ec : s'.cau = s.cau) : Rest P w lf n X H' s' c where
  me := t _ _ R.me
  mm := R.mm.mono t
  pr := h _ _ fix_pa R.pr
  ca := let ⟨kvs, e, T⟩ := R.ca; ⟨kvs, h _ _ fix_ca e, T⟩
  cl := R.cl
  cs := fun k x hx => by
    rw [eo]
    exact h _ _ (fix_cs (List.mem_of_getElem? hx)) (R.cs k x hx)
  cnd := R.cnd
  ua := by
    obtain ⟨f, D, q⟩ := R.ua
    refine ⟨f, D.mono t fun o e => h _ _ fix_ua e, ?_⟩
    rw [eo, ec]
    exact q
  sl := h _ _ fix_sl R.sl
  off := R.off
  csn := R.csn
theorem LT.same (T : LT P w lf n C X H s c) (e : Same H H') : LT P w lf n C X H' s c := ⟨T.W.same e, T.R.stay (TM.of e) (fun x o _ q => e x o q) rfl rfl, T.ok, T.n2, T.n12⟩
theorem LW.same (L : LW P w lf n C X H s c b bv qs) (e : Same H H') : LW P w lf n C X H' s c b bv qs := ⟨L.T.same e, e _ _ L.eb, all_mono (fun _ _ q => q.mono (TM.of e)) L.pq, L.gd, L.bm, L.bo, L.bf⟩
/-- the list at b is another one now -/
theorem LT.one (T : LT P w lf n C X H s c) {u : HO} (kp : Keep [b] H H') (hu : H b = some u) (h1 : ∀ xs, u ≠ .tup xs) (h2 : ∀ C' dx fs, u ≠ .ins C' dx fs) (bm : ¬ b ∈ Mu X.ads) (bo : b ≠ X.oa) (bf : ¬ b ∈ X.fix) : LT P w lf n C X H' s c := by
  have k1 : ∀ x o, x ≠ b → H x = some o → H' x = some o := fun x o hb e => kp x o e (by simpa using hb)
  exact ⟨T.W.one kp hu h1 h2 bm bo, T.R.stay (fun x xs e => k1 x _ (ne_of e hu fun z => h1 xs z.symm) e) (fun x o hx e => k1 x o (fun z => bf (by rw [← z]; exact hx)) e) rfl rfl, T.ok, T.n2, T.n12⟩
/-- the orders have moved -/
theorem LT.move (T : LT P w lf n C X H s c) (kp : ∀ x o, H x = some o → ¬ x ∈ Mu X.ads → x ∈ X.fix → H' x = some o) (t : TM H H') (W' : Wd lf n C H' X.oa X.ads s') (ok' : K21.Ok n s') (eo : s'.own = s.own) (ec : s'.cau = s.cau) : LT P w lf n C X H' s' c :=
  ⟨W', T.R.stay t (fun x o hx e => kp x o e (T.R.off x hx) hx) eo ec, ok', T.n2, T.n12⟩
/-- a new list is the bag -/
theorem LT.bag (T : LT P w lf n C X H s c) (hb : H b = none) : ¬ b ∈ Mu X.ads ∧ b ≠ X.oa ∧ ¬ b ∈ X.fix := by
  refine ⟨fun hm => ?_, fun e => ?_, fun hf => ?_⟩
  · obtain ⟨k, a, ha, hx⟩ := of_Mu hm
    obtain ⟨u, e, _⟩ := (T.W.at_ k a ha).mut hx
    rw [hb] at e
    cases e
  · have := T.W.lst
    rw [← e, hb] at this
    cases this
  · have R := T.R
    simp only [Fx.fix, List.mem_cons] at hf
    rcases hf with e | e | e | e | hf
    · have := R.pr
      rw [← e, hb] at this
      cases this
    · obtain ⟨kvs, q, _⟩ := R.ca
      rw [← e, hb] at q
      cases q
    · obtain ⟨f, ⟨xs, q, _⟩, _⟩ := R.ua
      rw [← e, hb] at q
      cases q
    · have := R.sl
      rw [← e, hb] at this
      cases this
    · obtain ⟨k, hk⟩ := List.getElem?_of_mem hf
      have := R.cs k b hk
      rw [hb] at this
      cases this
end
/-! ### what again sends -/
section
variable {n : Nat} {s : K21.St Str}
theorem missing_at {L : List (Msg Str)} {c k t : Nat} {q : Pkt Str} (h : (missing L c k)[t]? = some q) : ∃ m, t < 16 ∧ L[c + t]? = some m ∧ q = (k, .ord (c + t + 1) m) := by
  unfold missing at h
  rw [List.getElem?_map, pendM_get, List.getElem?_take] at h
  by_cases ht : t < 16
  · rw [if_pos ht, List.getElem?_drop] at h
    cases hm : L[c + t]? with
    | none => rw [hm] at h; cases h
    | some m =>
      rw [hm] at h
      exact ⟨m, ht, rfl, (Option.some.inj h).symm⟩
  · rw [if_neg ht] at h
    cases h
theorem pend_at {own : List Str} {c k t : Nat} {q : Pkt Str} (h : ((pendOf c (own.drop c)).map fun q => ((0 : Nat), Let.cast k q.1 q.2))[t]? = some q) : ∃ p, own[c + t]? = some p ∧ q = (0, .cast k (c + t + 1) p) := by
  rw [List.getElem?_map, pendOf_get, List.getElem?_drop] at h
  cases hm : own[c + t]? with
  | none => rw [hm] at h; cases h
  | some m =>
    rw [hm] at h
    exact ⟨m, rfl, (Option.some.inj h).symm⟩
theorem again_good (ok : K21.Ok n s) {k : Nat} (hk : k < n) : ∀ q, q ∈ againOf n k (s.log k) (s.own k) (cntOf s k) → K21.Good n s q := by
  intro q hq
  unfold againOf at hq
  by_cases h0 : k = 0
  · subst h0
    rw [if_pos rfl] at hq
    obtain ⟨j, hj, hq⟩ := List.mem_flatMap.mp hq
    have hj := List.mem_range.mp hj
    obtain ⟨t, ht⟩ := List.getElem?_of_mem hq
    obtain ⟨m, _, hm, rfl⟩ := missing_at ht
    exact ⟨by omega, by omega, by omega, by rw [Nat.add_sub_cancel]; exact hm⟩
  · rw [if_neg h0] at hq
    obtain ⟨t, ht⟩ := List.getElem?_of_mem hq
    obtain ⟨p, hp, rfl⟩ := pend_at ht
    exact ⟨rfl, by omega, hk, by omega, by rw [Nat.add_sub_cancel]; exact hp⟩
theorem again_len (ok : K21.Ok n s) (hn : n ≤ 12) {k : Nat} (hk : k < n) : (againOf n k (s.log k) (s.own k) (cntOf s k)).length ≤ 200 := by
  unfold againOf
  split
  · have := flat_len (f := fun j => missing (s.log k) (cntOf s k (j + 1)) (j + 1)) (c := 16) (fun j => by rw [missing_len]; omega) (n - 1)
    omega
  · rw [List.length_map, pendOf_len, List.length_drop]
    have := ok.own8 k
    omega
theorem lined_app {a b : List (Pkt Str)} (ha : K21.Lined s a) (hb : K21.Lined s b) : K21.Lined s (a ++ b) := by
  intro i q h
  by_cases hi : i < a.length
  · rw [List.getElem?_append_left hi] at h
    rcases ha i q h with r | ⟨j, q', hj, e, p⟩
    · exact .inl r
    · exact .inr ⟨j, q', hj, by rw [List.getElem?_append_left (by omega)]; exact e, p⟩
  · rw [List.getElem?_append_right (by omega)] at h
    rcases hb _ q h with r | ⟨j, q', hj, e, p⟩
    · exact .inl r
    · exact .inr ⟨a.length + j, q', by omega, by rw [List.getElem?_append_right (by omega), Nat.add_sub_cancel_left]; exact e, p⟩
theorem lined_nil : K21.Lined s [] := fun i q h => by simp at h
theorem lined_flat {f : Nat → List (Pkt Str)} (h : ∀ j, K21.Lined s (f j)) (i : Nat) : K21.Lined s ((List.range i).flatMap f) := by
  induction i with
  | zero => exact lined_nil
  | succ i ih =>
    rw [flat_snoc]
    exact lined_app ih (h i)
theorem lined_flatL {f : Nat → List (Pkt Str)} (i : Nat) (h : ∀ j, j < i → K21.Lined s (f j)) : K21.Lined s ((List.range i).flatMap f) := by
  induction i with
  | zero => exact lined_nil
  | succ i ih =>
    rw [flat_snoc]
    exact lined_app (ih fun j hj => h j (by omega)) (h i (by omega))
theorem again_lined (ok : K21.Ok n s) (hc : ∀ k, 1 ≤ k → k < n → s.cnt k = (s.log k).length) {k : Nat} (hk : k < n) : K21.Lined s (againOf n k (s.log k) (s.own k) (cntOf s k)) := by
  unfold againOf
  by_cases h0 : k = 0
  · subst h0
    rw [if_pos rfl]
    refine lined_flatL _ fun j hj => ?_
    have e : cntOf s 0 (j + 1) = (s.log (j + 1)).length := by
      unfold cntOf
      rw [if_pos rfl]
      exact hc (j + 1) (by omega) (by omega)
    rw [e]
    intro i q h
    obtain ⟨m, h16, hm, rfl⟩ := missing_at h
    by_cases hi : i = 0
    · subst hi
      refine .inl ?_
      show (s.log (j + 1)).length + 0 + 1 ≤ _
      omega
    · have hlt : (s.log (j + 1)).length + (i - 1) < (s.log 0).length := by
        have := (List.getElem?_eq_some_iff.mp hm).1
        omega
      refine .inr ⟨i - 1, (j + 1, .ord ((s.log (j + 1)).length + (i - 1) + 1) ((s.log 0)[(s.log (j + 1)).length + (i - 1)])), by omega, missing_get (by omega) (List.getElem?_eq_getElem hlt), (s.log 0)[(s.log (j + 1)).length + (i - 1)], ?_⟩
      have e : (s.log (j + 1)).length + i + 1 - 1 = (s.log (j + 1)).length + (i - 1) + 1 := by omega
      rw [e]
  · rw [if_neg h0]
    intro i q h
    obtain ⟨p, hp, rfl⟩ := pend_at h
    by_cases hi : i = 0
    · subst hi
      refine .inl ?_
      have := ok.snd.last_mono (ok.pre k hk) k
      show lastIx (s.log k) k + 0 + 1 ≤ lastIx (s.log 0) k + 1
      omega
    · have hlt : lastIx (s.log k) k + (i - 1) < (s.own k).length := by
        have := (List.getElem?_eq_some_iff.mp hp).1
        omega
      refine .inr ⟨i - 1, (0, .cast k (lastIx (s.log k) k + (i - 1) + 1) ((s.own k)[lastIx (s.log k) k + (i - 1)])), by omega, ?_, 0, (s.own k)[lastIx (s.log k) k + (i - 1)], ?_⟩
      · rw [List.getElem?_map, pendOf_get, List.getElem?_drop, List.getElem?_eq_getElem hlt]
        rfl
      · have e : lastIx (s.log k) k + i + 1 - 1 = lastIx (s.log k) k + (i - 1) + 1 := by omega
        rw [e]
/-- all that is sent again in a round -/
def rbag (n : Nat) (s : K21.St Str) (i : Nat) : List (Pkt Str) := (List.range i).flatMap fun k => againOf n k (s.log k) (s.own k) (cntOf s k)
theorem rbag_good (ok : K21.Ok n s) : ∀ q, q ∈ rbag n s n → K21.Good n s q := by
  intro q hq
  obtain ⟨k, hk, hq⟩ := List.mem_flatMap.mp hq
  exact again_good ok (List.mem_range.mp hk) q hq
theorem rbag_lined (ok : K21.Ok n s) (hc : ∀ k, 1 ≤ k → k < n → s.cnt k = (s.log k).length) : K21.Lined s (rbag n s n) := lined_flatL n fun _ hj => again_lined ok hc hj
theorem rbag_len (ok : K21.Ok n s) (hn : n ≤ 12) : ∀ i, i ≤ n → (rbag n s i).length ≤ i * 200 := by
  intro i
  induction i with
  | zero => intro _; simp [rbag]
  | succ i ih =>
    intro hi
    have a := ih (by omega)
    have b := again_len ok hn (k := i) (by omega)
    unfold rbag at a ⊢
    rw [flat_snoc, List.length_append, Nat.succ_mul]
    omega
theorem rbag_full (ok : K21.Ok n s) (hc : ∀ k, 1 ≤ k → k < n → s.cnt k = (s.log k).length) (hn : 1 ≤ n) : K21.Full n s (rbag n s n) := by
  refine ⟨fun k place h1 hk h2 h3 h4 => ?_, fun k i h1 hk h2 h3 => ?_⟩
  · have hlt : place - 1 < (s.log 0).length := by omega
    have e : cntOf s 0 (k - 1 + 1) = (s.log k).length := by
      unfold cntOf
      rw [if_pos rfl, Nat.sub_add_cancel h1]
      exact hc k h1 hk
    have hm : (k, Let.ord place ((s.log 0)[place - 1])) ∈ rbag n s n := by
      refine List.mem_flatMap.mpr ⟨0, List.mem_range.mpr (by omega), ?_⟩
      unfold againOf
      rw [if_pos rfl]
      refine List.mem_flatMap.mpr ⟨k - 1, List.mem_range.mpr (by omega), ?_⟩
      rw [e, Nat.sub_add_cancel h1]
      have e2 : (s.log k).length + (place - (s.log k).length - 1) = place - 1 := by omega
      have z := missing_get (L := s.log 0) (c := (s.log k).length) (k := k) (t := place - (s.log k).length - 1) (m := (s.log 0)[place - 1]) (by omega) (by rw [e2]; exact List.getElem?_eq_getElem hlt)
      rw [e2, Nat.sub_add_cancel (by omega)] at z
      exact List.mem_of_getElem? z
    obtain ⟨j, hj⟩ := List.getElem?_of_mem hm
    exact ⟨j, _, hj⟩
  · have hlt : i - 1 < (s.own k).length := by omega
    have hm : ((0 : Nat), Let.cast k i ((s.own k)[i - 1])) ∈ rbag n s n := by
      refine List.mem_flatMap.mpr ⟨k, List.mem_range.mpr hk, ?_⟩
      unfold againOf
      rw [if_neg (by omega)]
      have e2 : lastIx (s.log k) k + (i - lastIx (s.log k) k - 1) = i - 1 := by omega
      have z : ((pendOf (lastIx (s.log k) k) ((s.own k).drop (lastIx (s.log k) k))).map fun q => ((0 : Nat), Let.cast k q.1 q.2))[i - lastIx (s.log k) k - 1]? = some (0, .cast k i ((s.own k)[i - 1])) := by
        rw [List.getElem?_map, pendOf_get, List.getElem?_drop, e2, List.getElem?_eq_getElem hlt]
        have e3 : lastIx (s.log k) k + (i - lastIx (s.log k) k - 1) + 1 = i := by omega
        show some ((0 : Nat), Let.cast k (i - 1 + 1) ((s.own k)[i - 1])) = _
        rw [Nat.sub_add_cancel (by omega : 1 ≤ i)]
      exact List.mem_of_getElem? z
    obtain ⟨j, hj⟩ := List.getElem?_of_mem hm
    exact ⟨j, _, hj⟩
end
end KW

/-! The law's body: the frame, the defs it calls; the branch where a member casts. -/
namespace KW
open PySem L2
open K21 (Msg Let Pkt lastIx fu)
/-! ### the text of the law by places -/
def forBody : Stmt → List Stmt
  | .For _ _ b _ _ => b
  | _ => []
def ifThen : Stmt → List Stmt
  | .If _ b _ _ => b
  | _ => []
def ifElse : Stmt → List Stmt
  | .If _ _ b _ => b
  | _ => []
def at0 (l : List Stmt) (i : Nat) : Stmt := l.getD i (.Pass ⟨0, 0, 0, 0⟩)
abbrev stL (i : Nat) : Stmt := at0 (defBody sLaw) i
/-- the body of the loop over the cells, its i-th statement -/
abbrev cbs (i : Nat) : Stmt := at0 (forBody (stL 10)) i
abbrev NL : List Str := ["_law_script", "_law_first", "_law_many", "_law_members", "_law_member", "_law_processes", "_law_orders", "_law_casts", "_law_causes", "_law_bag", "_law_cell_here", "_law_kind", "_law_at", "_law_before", "_law_payload_here", "_law_told_here", "_law_own", "_law_letter", "_law_order", "_law_turn", "_law_total", "_law_k"]
theorem scL : FnScope NL ["_law_script"] (defScope sLaw) := ⟨rfl, rfl, rfl, by decide +kernel, rfl, by decide +kernel, by decide +kernel⟩
abbrev XL (P : Program) (w : World) (K : PySem.W.Frag) (mg : Str → Option Value) (base : Heap) (f : Addr) (cdv : Value) (A : Around) (outer : List Env) (s : Shared) (H : Hp) (E : XK) : Cx := (cxOf CX0 P w K mg base NL "law" (defScope sLaw) f cdv A outer s H E).nox
/-- the frame -/
abbrev SG (X : Fx) (b : Addr) (v1 v2 v4 v10 v11 v12 v13 v14 v15 v16 v17 v18 v19 v20 v21 : Option V) : L2.St :=
  [some (.ref X.sa), v1, v2, some (.ref X.ma), v4, some (.ref X.pa), some (.ref X.oa), some (.ref X.ca), some (.ref X.ua), some (.ref b), v10, v11, v12, v13, v14, v15, v16, v17, v18, v19, v20, v21]
/-- a method, a def: it stands, and keeps its promise -/
def MtOk (P : Program) (w : World) (K : PySem.W.Frag) (mg : Str → Option Value) (base : Heap) (C : Addr) (st : Stmt) (x qual : Str) (ps : List Str) (k : Nat) (sp : Sp) : Prop := ∃ f fd, Mt K C st x qual ps f fd ∧ FnOk P w K mg base CX0 k f fd ps sp
def DfOk (P : Program) (w : World) (K : PySem.W.Frag) (mg : Str → Option Value) (base : Heap) (st : Stmt) (x : Str) (ps : List Str) (k : Nat) (sp : Sp) : Prop := ∃ f fd, Df K mg st x ps f fd ∧ FnOk P w K mg base CX0 k f fd ps sp
structure Ev (P : Program) (w : World) (K : PySem.W.Frag) (mg : Str → Option Value) (base : Heap) (lf : Nat → Int) (n : Nat) (C : Addr) : Prop where
  T : Txt K mg C
  init : ∃ f fd, Mk K C f ∧ Binds K fd ["self", "me", "view_id", "members"] [] ∧ FnOk P w K mg base CX0 1 f fd ["self", "me", "view_id", "members"] (spInit lf n C)
  cast : MtOk P w K mg base C sCast "cast" "Order.cast" ["self", "payload"] 3 (spCast lf n C)
  log : MtOk P w K mg base C sLog "log" "Order.log" ["self"] 1 (spLog lf n C)
  again : MtOk P w K mg base C sAgain "again" "Order.again" ["self"] 2 (spAgain lf n C)
  cell : DfOk P w K mg base sCell "_law_cell" ["_law_script", "_law_k"] 1 (spCell K)
  payload : DfOk P w K mg base sPayload "_law_payload" ["_law_cell_here"] 1 spPayload
  post : DfOk P w K mg base sPost "_law_post" ["_law_bag", "_law_letters"] 1 spPost
  prefixes : DfOk P w K mg base sPrefixes "_law_prefixes" ["_law_orders"] 2 (spPrefixes lf n C)
  sound : DfOk P w K mg base sSound "_law_sound" ["_law_log", "_law_members", "_law_casts", "_law_causes"] 1 (spSound lf n P w)
  told : DfOk P w K mg base sTold "_law_told" ["_law_orders", "_law_members"] 2 (spTold lf n C)
  hand : DfOk P w K mg base sHand "_law_hand" ["_law_orders", "_law_processes", "_law_bag", "_law_letter"] 5 (spHand lf n C)
section
variable {P : Program} {w : World} {K : PySem.W.Frag} {mg : Str → Option Value} {base : Heap} {lf : Nat → Int} {n : Nat} {C : Addr}
/-- behind a step: a bag of at most m letters -/
def Pst (P : Program) (w : World) (lf : Nat → Int) (n : Nat) (C : Addr) (X : Fx) (m c : Nat) (σ : L2.St) (H : Hp) : Prop :=
  ∃ (b : Addr) (v1 v2 v4 v10 v11 v12 v13 v14 v15 v16 v17 v18 v19 v20 v21 : Option V) (bv : List V) (qs : List (Pkt Str)) (s : K21.St Str), σ = SG X b v1 v2 v4 v10 v11 v12 v13 v14 v15 v16 v17 v18 v19 v20 v21 ∧ LW P w lf n C X H s c b bv qs ∧ bv.length ≤ m
/-- how a cast moves the state -/
theorem cast_move {H2 H3 : Hp} {oa : Addr} {ads : List OAd} {s : K21.St Str} {a : OAd} {k : Nat} {p : Str} (W : Wd lf n C H2 oa ads s) (ok : K21.Ok n s) (hn12 : n ≤ 12) (ha : ads[k]? = some a) (hk : k < n) (h8 : (s.own k).length < 8) (kp : Keep a.muts H2 H3)
    (O3 : OrderAt lf n C H3 a k (s.log 0) (if k = 0 then s.log k ++ [(0, (s.own k).length + 1, p)] else s.log k) (s.own k ++ [p]) (cntOf s k)) :
    ∃ s', Wd lf n C H3 oa ads s' ∧ K21.Ok n s' ∧ K21.Grow s s' ∧ s'.own = fu s.own k (s.own k ++ [p]) ∧ (s'.cau = fun j i => if j = k ∧ i = (s.own k).length + 1 then (s.log k).length else s.cau j i) ∧
      (∀ q, q ∈ (if k = 0 then ordAll n ((s.log k).length + 1) (0, (s.own k).length + 1, p) else [(0, .cast k ((s.own k).length + 1) p)]) → K21.Good n s' q) ∧
      (if k = 0 then ordAll n ((s.log k).length + 1) (0, (s.own k).length + 1, p) else [(0, Let.cast k ((s.own k).length + 1) p)]).length ≤ 12 := by
  by_cases h0 : k = 0
  · subst h0
    rw [if_pos rfl] at O3
    rw [if_pos rfl]
    have e0 : ((s.cast 0 p).app (0, (s.own 0).length + 1, p)).log 0 = s.log 0 ++ [(0, (s.own 0).length + 1, p)] := K21.fu_same s.log 0 _
    have eo : ((s.cast 0 p).app (0, (s.own 0).length + 1, p)).own 0 = s.own 0 ++ [p] := K21.fu_same s.own 0 _
    refine ⟨(s.cast 0 p).app (0, (s.own 0).length + 1, p), W.step ha kp ?_ (by rw [e0]; exact K21.pre_snoc _ _) (fun x hx => K21.fu_ne _ _ hx) (fun x hx => K21.fu_ne _ _ hx) (fun _ _ => rfl), ok.cast0 hk h8, (K21.grow_cast s 0 p).trans (K21.grow_app _ _), rfl, rfl, good_all (by omega) ?_, ?_⟩
    · rw [e0, eo]
      exact O3.grow (K21.pre_snoc _ _)
    · rw [e0, Nat.add_sub_cancel, List.getElem?_append_right (Nat.le_refl _), Nat.sub_self]
      rfl
    · unfold ordAll
      rw [List.length_map, List.length_range]
      omega
  · rw [if_neg h0] at O3
    rw [if_neg h0]
    have eo : (s.cast k p).own k = s.own k ++ [p] := K21.fu_same s.own k _
    refine ⟨s.cast k p, W.step ha kp ?_ (List.prefix_refl _) (fun x hx => rfl) (fun x hx => K21.fu_ne _ _ hx) (fun _ _ => rfl), ok.castK hk h0 h8, K21.grow_cast s k p, rfl, rfl, fun q hq => ?_, by simp⟩
    · rw [eo]
      exact O3
    · rw [List.mem_singleton.mp hq]
      refine ⟨rfl, by omega, hk, by omega, ?_⟩
      rw [eo, Nat.add_sub_cancel, List.getElem?_append_right (Nat.le_refl _), Nat.sub_self]
      rfl
/-- a member casts -/
theorem bodyA (G : Ev P w K mg base lf n C) {f : Addr} {cdv : Value} {A : Around} {outer : List Env} {sh : Shared} {H0 : Hp} {E : XK} (hr : Room 6 (XL P w K mg base f cdv A outer sh H0 E).A) :
    ∃ t, PSs (XL P w K mg base f cdv A outer sh H0 E) (ifThen (cbs 3)) t ∧ ∀ (X : Fx) (D : Ends) (H : Hp) (s : K21.St Str) (c : Nat) (b : Addr) (bv : List V) (qs : List (Pkt Str)) (v1 v2 v4 : Option V) (z : Int) (v11 : Option V) (k : Nat) (v13 v14 v15 v16 v17 v18 v19 v20 v21 : Option V),
      LW P w lf n C X H s c b bv qs → bv.length ≤ 60 → k < n → (s.own k).length < 8 → c < 900 → (∀ σ' H', Pst P w lf n C X 300 (c + 1) σ' H' → D.nx σ' H') →
      t D (SG X b v1 v2 v4 (some (.int z)) v11 (some (.int (k : Int))) v13 v14 v15 v16 v17 v18 v19 v20 v21) H := by
  obtain ⟨fL, fdL, mL, gL⟩ := G.log
  obtain ⟨fP, fdP, dP, gP⟩ := G.payload
  obtain ⟨fC, fdC, mC, gC⟩ := G.cast
  obtain ⟨fO, fdO, dO, gO⟩ := G.post
  have T := G.T
  have hr1 : Room 1 _ := hr.mono (by decide)
  have hr3 : Room 3 _ := hr.mono (by decide)
  have hu := hu_of hr
  refine ⟨_, pss_cons (ps_set (i := 13) scL.nd rfl (Or.inl rfl) (pe_callB call_len_seq (by rfl) T.len PySem.boot_len (pa_cons (pe_meth0 (pe_ix ix_list (pv 6) (pv 12) (fun _ _ => rfl)) T.cl mL.m gL hr1 mL.b .nil pass0) pa_nil)))
    (pss_cons (ps_set (i := 14) scL.nd rfl (Or.inl rfl) (pe_call gP hr1 (by rfl) dP.g dP.F.kp dP.b .nil pass0 (pa_cons (pe_op op_fdiv (pv 10) pe_int) pa_nil)))
    (pss_cons (ps_set (i := 15) scL.nd rfl (Or.inl rfl) (pe_meth (pe_ix ix_list (pv 6) (pv 12) (fun _ _ => rfl)) T.cl mC.m gC hr3 mC.b .nil pass0 (pa_cons (pv 14) pa_nil)))
    (pss_cons (ps_set (i := 16) scL.nd rfl (Or.inl rfl) (pe_dget hu (pv 7) (pe_ix ix_tup (pv 3) (pv 12) (fun _ _ => rfl)) (fun _ _ => rfl)))
    (pss_cons (ps_expr (pe_bm PySem.F.plainAttrs_list PySem.F.slot_list_append PySem.F.type_list_append mt_append (pv 16) (pa_cons (pv 14) pa_nil)))
    (pss_cons (ps_asg (pv 13) (pg_sub (pv 8) (pe_tup (pa_cons (pe_ix ix_tup (pv 3) (pv 12) (fun _ _ => rfl)) (pa_cons (pe_ix ix_tup (pv 15) pe_int (fun _ _ => rfl)) pa_nil))) (set_N hr.units)))
    (pss_one (ps_expr (pe_call gO hr1 (by rfl) dO.g dO.F.kp dO.b .nil pass0 (pa_cons (pv 9) (pa_cons (pe_ix ix_tup (pv 15) pe_int (fun _ _ => rfl)) pa_nil))))))))))  , ?_⟩
  intro X D H s c b bv qs v1 v2 v4 z v11 k v13 v14 v15 v16 v17 v18 v19 v20 v21 L hbl hk h8 hc hnx
  have ok := L.T.ok
  have hn12 := L.T.n12
  have W := L.T.W
  obtain ⟨a, ha⟩ := W.get hk
  have O := W.at_ k a ha
  have hoi : (X.ads.map fun a => V.ref a.p)[k]? = some (V.ref a.p) := by rw [List.getElem?_map, ha]; rfl
  -- before = len(orders[at].log())
  refine ⟨_, rfl, _, rfl, _, _, _, _, rfl, rfl, SqL.of W.lst, atI_nat (j := k) hoi, a.p, a.dx, _, rfl, O.ob, no_of _ (by decide +kernel), a, k, _, _, _, _, rfl, O, fun lv H1 s1 il => ?_⟩
  obtain ⟨lp, xs, rfl, elp, pxs⟩ := il
  have hlen := Paired.length pxs
  refine ⟨lp, _, rfl, .inr (SqT.of elp), ?_⟩
  rw [hlen]
  -- payload = _law_payload(cell // 8)
  refine ⟨_, rfl, _, _, rfl, rfl, ⟨by decide, by decide⟩, z / 8, rfl, fun p H2 s2 => ?_⟩
  have L2' := L.same (s1.trans s2)
  clear O W
  have W := L2'.T.W
  have R := L2'.T.R
  have O := W.at_ k a ha
  -- told = orders[at].cast(payload)
  refine ⟨_, rfl, _, rfl, _, _, _, _, rfl, rfl, SqL.of W.lst, atI_nat (j := k) hoi, a.p, a.dx, _, rfl, O.ob, no_of _ (by decide +kernel), _, rfl, a, k, _, _, _, _, p, rfl, O, by have := ok.lenk hk; omega, by omega, by omega, fun H3 t dv u k3 et O3 np => ?_⟩
  have km : Keep (Mu X.ads) H2 H3 := k3.mono fun x hx => mem_Mu ha hx
  have tm3 : TM H2 H3 := W.tm km
  obtain ⟨s', W3, ok', gr', eo', ec', gd', hl'⟩ := cast_move W ok hn12 ha hk h8 k3 O3
  obtain ⟨pl, pvs, rfl, npl, epl, ppl⟩ := np
  have hpl := Paired.length ppl
  generalize (if k = 0 then ordAll n ((s.log k).length + 1) (0, (s.own k).length + 1, p) else [(0, Let.cast k ((s.own k).length + 1) p)]) = pk at gd' hl' ppl hpl
  -- own = casts[members[at]]
  obtain ⟨x, hx, ix⟩ := R.mm.2 k hk
  obtain ⟨xa, rfl, exa⟩ := ix
  obtain ⟨ck, hck⟩ : ∃ ck, X.cs[k]? = some ck := ⟨X.cs[k]'(by rw [R.cl]; exact hk), List.getElem?_eq_getElem (by rw [R.cl]; exact hk)⟩
  have mck : ck ∈ X.cs := List.mem_of_getElem? hck
  have fck := fix_cs mck
  have hcl := km _ _ (R.cs k ck hck) (R.off ck fck)
  obtain ⟨kvs, eca, Tc⟩ := R.ca
  have eca3 := km _ _ eca (R.off _ fix_ca)
  have hvc : valV kvs (mk lf k) = some (.ref ck) := by
    rw [Tc.at_, hck]
    rfl
  have hg : DGet H3 X.ca (.ref xa) (some (.ref ck)) := by
    have zz := DGet.t (k := mk lf k) eca3 (tm3 _ _ exa)
    rw [hvc] at zz
    exact zz
  refine ⟨_, rfl, _, rfl, _, rfl, _, _, _, _, rfl, rfl, SqT.of (tm3 _ _ R.me), atI_nat (j := k) hx, X.ca, .ref ck, rfl, hg, ?_⟩
  -- own.append(payload)
  have hz : ((s.own k).map V.str).length < sizeLine := by rw [List.length_map]; exact Nat.lt_of_le_of_lt (by omega : (s.own k).length ≤ 1000) (by decide)
  refine ⟨_, rfl, .inl ⟨rfl, _, SqL.of hcl⟩, _, rfl, ck, _, _, rfl, rfl, hcl, hz, ?_⟩
  have em : (s.own k).map V.str ++ [V.str p] = (s.own k ++ [p]).map V.str := by rw [List.map_append]; rfl
  rw [em]
  have tm4 : TM H3 (upd H3 ck (.lst ((s.own k ++ [p]).map V.str))) := TM.upd hcl fun _ z => by cases z
  have g4 : ∀ y, y ≠ ck → upd H3 ck (.lst ((s.own k ++ [p]).map V.str)) y = H3 y := fun y hy => upd_ne hy
  have e4 : upd H3 ck (.lst ((s.own k ++ [p]).map V.str)) ck = some (.lst ((s.own k ++ [p]).map V.str)) := upd_same
  generalize upd H3 ck (.lst ((s.own k ++ [p]).map V.str)) = H4 at tm4 g4 e4
  have tm24 := tm3.trans tm4
  have et4 := tm4 _ _ et
  -- causes[(members[at], told[0])] = before
  refine ⟨_, rfl, _, rfl, _, rfl, _, rfl, _, _, _, _, rfl, rfl, SqT.of (tm24 _ _ R.me), atI_nat (j := k) hx, _, rfl, _, _, _, _, rfl, rfl, SqT.of et4, atI_nat (j := 0) rfl, by show 2 ≤ sizeLine; decide, fun t2 ht2 => ?_⟩
  have s5 : ∀ o, Same H4 (upd H4 t2 o) := fun o => Same.new ht2
  obtain ⟨g, hdn, hcau⟩ := R.ua
  obtain ⟨ux, eux, _⟩ := id hdn
  have nuc : X.ua ≠ ck := ne_of (km _ _ eux (R.off _ fix_ua)) hcl (by intro z; cases z)
  have hdn5 := fun o => hdn.mono (tm24.trans (TM.of (s5 o))) fun o' e => s5 _ _ _ (by rw [g4 _ nuc]; exact km _ _ e (R.off _ fix_ua))
  refine ⟨lf, X.ua, t2, c, g, k, (((s.own k).length + 1 : Nat) : Int), (((s.log k).length : Nat) : Int), rfl, rfl, rfl, hdn5 _, by omega, ⟨.ref xa, upd_same, xa, rfl, s5 _ _ _ (tm24 _ _ exa)⟩, fun H6 dn6 k6 t6 => ?_⟩
  have tm26 : TM H2 H6 := (tm24.trans (TM.of (s5 _))).trans t6
  have ke6 : ∀ y o, y ≠ ck → y ≠ X.ua → H3 y = some o → H6 y = some o := fun y o h1 h2 e => k6 y o (s5 _ _ _ (by rw [g4 y h1]; exact e)) (by simpa using h2)
  -- _law_post(bag, told[2])
  have et6 := t6 _ _ (s5 _ _ _ et4)
  have eb3 := km _ _ L2'.eb L2'.bm
  have nbc : b ≠ ck := fun e => L2'.bf (by rw [e]; exact fck)
  have nbu : b ≠ X.ua := fun e => L2'.bf (by rw [e]; exact fix_ua)
  have eb6 := ke6 _ _ nbc nbu eb3
  have npc : pl ≠ ck := fun e => by rw [e, R.cs k ck hck] at npl; cases npl
  have npu : pl ≠ X.ua := fun e => by rw [e, eux] at npl; cases npl
  have epl6 := ke6 _ _ npc npu epl
  have nbl : b ≠ pl := ne_of_none L2'.eb npl
  refine ⟨_, rfl, _, rfl, _, _, _, _, rfl, rfl, SqT.of et6, atI_nat (j := 2) rfl, b, pl, bv, pvs, rfl, eb6, epl6, nbl, by omega, fun H7 g7 e7 => ?_⟩
  have t7 : TM H6 H7 := fun y ys e => by
    rw [g7 y (ne_of e eb6 fun z => by cases z)]
    exact e
  have tm27 := tm26.trans t7
  have ke7 : ∀ y o, y ≠ b → y ≠ ck → y ≠ X.ua → H3 y = some o → H7 y = some o := fun y o h0 h1 h2 e => by
    rw [g7 y h0]
    exact ke6 y o h1 h2 e
  have W7 : Wd lf n C H7 X.oa X.ads s' := by
    have no1 : X.oa ≠ ck := fun e => (R.csn ck mck).1 e.symm
    have no2 : X.oa ≠ X.ua := ne_of W.lst eux (by intro z; cases z)
    refine W3.stay (((tm4.trans (TM.of (s5 _))).trans t6).trans t7) (fun o e => ke7 _ o L2'.bo.symm no1 no2 e) (fun j a' h' o e => ke7 _ o ?_ ?_ ?_ e) fun y o hy e => ke7 y o ?_ ?_ ?_ e
    · exact ne_of (W3.at_ j a' h').ob eb3 (by intro z; cases z)
    · exact ne_of (W3.at_ j a' h').ob hcl (by intro z; cases z)
    · exact ne_of (W3.at_ j a' h').ob (km _ _ eux (R.off _ fix_ua)) (by intro z; cases z)
    · exact fun e' => L2'.bm (by rw [← e']; exact hy)
    · exact fun e' => R.off _ fck (by rw [← e']; exact hy)
    · exact fun e' => R.off _ fix_ua (by rw [← e']; exact hy)
  have keep7 : ∀ y o, y ∈ X.fix → y ≠ ck → y ≠ X.ua → H2 y = some o → H7 y = some o := fun y o hy h1 h2 e => ke7 y o (fun e' => L2'.bf (by rw [← e']; exact hy)) h1 h2 (km y o e (R.off y hy))
  have hcsn := R.csn ck mck
  refine hnx _ _ ⟨b, _, _, _, _, _, _, _, _, _, _, _, _, _, _, _, bv ++ pvs, qs ++ pk, s', rfl, ⟨⟨W7, ?_, ok', L.T.n2, hn12⟩, e7, pr_app (all_mono (fun _ _ q => q.mono tm27) L2'.pq) (all_mono (fun _ _ q => q.mono (((tm4.trans (TM.of (s5 _))).trans t6).trans t7)) ppl), fun q hq => ?_, L2'.bm, L2'.bo, L2'.bf⟩, ?_⟩
  · refine ⟨tm27 _ _ R.me, R.mm.mono tm27, keep7 _ _ fix_pa (fun e => hcsn.2.1 e.symm) (ne_of R.pr eux (by intro z; cases z)) R.pr, ⟨kvs, keep7 _ _ fix_ca (ne_of eca (R.cs k ck hck) (by intro z; cases z)) (ne_of eca eux (by intro z; cases z)) eca, Tc⟩, R.cl, fun j y hy => ?_, R.cnd, ?_, keep7 _ _ fix_sl (fun e => hcsn.2.2 e.symm) (ne_of R.sl eux (by intro z; cases z)) R.sl, R.off, R.csn⟩
    · rw [eo']
      by_cases e : j = k
      · subst e
        rw [hck] at hy
        cases hy
        rw [K21.fu_same, g7 _ nbc.symm]
        exact k6 _ _ (s5 _ _ _ e4) (by simpa using nuc.symm)
      · rw [K21.fu_ne _ _ e]
        have ney : y ≠ ck := fun e' => e (nd_ix R.cnd hy (by rw [e']; exact hck))
        exact keep7 _ _ (fix_cs (List.mem_of_getElem? hy)) ney (ne_of (R.cs j y hy) eux (by intro z; cases z)) (R.cs j y hy)
    · refine ⟨_, dn6.mono t7 (fun o e => by rw [g7 _ nbu.symm]; exact e), fun j i hj h1 h2 => ?_⟩
      rw [ec']
      rw [eo'] at h2
      by_cases e : j = k
      · subst e
        rw [K21.fu_same, List.length_append, List.length_singleton] at h2
        by_cases ei : i = (s.own j).length + 1
        · subst ei
          dsimp only
          rw [if_pos ⟨rfl, rfl⟩, if_pos ⟨rfl, rfl⟩]
        · have ei' : ¬ ((i : Int) = (((s.own j).length + 1 : Nat) : Int)) := by omega
          dsimp only
          rw [if_neg (fun z => ei' z.2), if_neg (fun z => ei z.2)]
          exact hcau j i hj h1 (by omega)
      · rw [K21.fu_ne _ _ e] at h2
        dsimp only
        rw [if_neg (fun z => e z.1), if_neg (fun z => e z.1)]
        exact hcau j i hj h1 h2
  · rcases List.mem_append.mp hq with hq | hq
    · exact (L.gd q hq).grow gr'
    · exact gd' q hq
  · rw [List.length_append]
    omega
end
end KW

/-! The law's body: the other branches of a cell. -/
namespace KW
open PySem L2
open K21 (Msg Let Pkt lastIx fu)
section
variable {P : Program} {w : World} {K : PySem.W.Frag} {mg : Str → Option Value} {base : Heap} {lf : Nat → Int} {n : Nat} {C : Addr}
theorem LT.up {X : Fx} {H : Hp} {s : K21.St Str} {c c' : Nat} (h : c ≤ c') (T : LT P w lf n C X H s c) : LT P w lf n C X H s c' :=
  ⟨T.W, { T.R with ua := let ⟨f, ⟨xs, e, ns, l, ks, q⟩, q2⟩ := T.R.ua; ⟨f, ⟨xs, e, ns, Nat.le_trans l h, ks, q⟩, q2⟩ }, T.ok, T.n2, T.n12⟩
theorem LW.up {X : Fx} {H : Hp} {s : K21.St Str} {c c' : Nat} {b : Addr} {bv : List V} {qs : List (Pkt Str)} (h : c ≤ c') (L : LW P w lf n C X H s c b bv qs) : LW P w lf n C X H s c' b bv qs := { L with T := L.T.up h }
/-- the bag's list has changed in place -/
theorem LW.put {X : Fx} {H H' : Hp} {s : K21.St Str} {c : Nat} {b : Addr} {bv bv' : List V} {qs qs' : List (Pkt Str)} (L : LW P w lf n C X H s c b bv qs) (k : Keep [b] H H') (e : H' b = some (.lst bv')) (p : Paired (IsPkt lf H) bv' qs') (g : ∀ q, q ∈ qs' → K21.Good n s q) : LW P w lf n C X H' s c b bv' qs' := by
  have t : TM H H' := fun x xs q => k x _ q (by simpa using ne_of q L.eb fun z => by cases z)
  exact ⟨L.T.one k L.eb (fun _ z => by cases z) (fun _ _ _ z => by cases z) L.bm L.bo L.bf, e, all_mono (fun _ _ q => q.mono t) p, g, L.bm, L.bo, L.bf⟩
abbrev sPop : Stmt := at0 (ifElse (at0 (ifElse (at0 (ifElse (cbs 3)) 0)) 0)) 0
theorem bodyPop (G : Ev P w K mg base lf n C) {f : Addr} {cdv : Value} {A : Around} {outer : List Env} {sh : Shared} {H0 : Hp} {E : XK} (hr : Room 6 (XL P w K mg base f cdv A outer sh H0 E).A) :
    ∃ t, PSs (XL P w K mg base f cdv A outer sh H0 E) (ifThen sPop) t ∧ ∀ (X : Fx) (D : Ends) (H : Hp) (s : K21.St Str) (c : Nat) (b : Addr) (bv : List V) (qs : List (Pkt Str)) (v1 v2 v4 : Option V) (z kd : Int) (v12 : Option V) (v13 v14 v15 v16 v17 v18 v19 v20 v21 : Option V),
      LW P w lf n C X H s c b bv qs → bv.length ≤ 60 → 0 < bv.length → (∀ σ' H', Pst P w lf n C X 300 c σ' H' → D.nx σ' H') →
      t D (SG X b v1 v2 v4 (some (.int z)) (some (.int kd)) v12 v13 v14 v15 v16 v17 v18 v19 v20 v21) H := by
  obtain ⟨fH, fdH, dH, gH⟩ := G.hand
  have T := G.T
  have hr5 : Room 5 _ := hr.mono (by decide)
  refine ⟨_, pss_cons (ps_set (i := 17) scL.nd rfl (Or.inl rfl) (pe_bm PySem.F.plainAttrs_list PySem.F.slot_list_pop PySem.F.type_list_pop mt_popAt (pv 9) (pa_cons (pe_op op_mod (pe_op op_fdiv (pv 10) pe_int) (pe_callB call_len_seq (by rfl) T.len PySem.boot_len (pa_cons (pv 9) pa_nil))) pa_nil)))
    (pss_cons (ps_if (pt_cmpR op_ne (pv 11) pe_int (nomark _)) (pss_one (ps_expr (pe_call gH hr5 (by rfl) dH.g dH.F.kp dH.b .nil pass0 (pa_cons (pv 6) (pa_cons (pv 5) (pa_cons (pv 9) (pa_cons (pv 17) pa_nil))))))) pss_nil)
    (pss_one (ps_if (PW.pt (pw_or (pt_cmpR op_eq (pv 11) pe_int (nomark _)) (pw_or1 (PW.pt (pw_and (pt_cmpR op_eq (pv 11) pe_int (nomark _)) (pw_and1 (pt_cmpR op_eq (pe_op op_mod (pe_op op_fdiv (pv 10) pe_int) pe_int) pe_int (nomark _)))))))) 
      (pss_one (ps_expr (pe_bm PySem.F.plainAttrs_list PySem.F.slot_list_append PySem.F.type_list_append mt_append (pv 9) (pa_cons (pv 17) pa_nil)))) pss_nil))), ?_⟩
  intro X D H s c b bv qs v1 v2 v4 z kd v12 v13 v14 v15 v16 v17 v18 v19 v20 v21 L hbl hb0 hnx
  obtain ⟨i, hi, ei⟩ := ld_mod (x := z / 8) (m := bv.length) hb0
  obtain ⟨y, hy⟩ : ∃ y, bv[i]? = some y := ⟨bv[i], List.getElem?_eq_getElem hi⟩
  obtain ⟨q, hq, iq⟩ := pr_get L.pq hy
  have gq := L.gd q (List.mem_of_getElem? hq)
  have hsq : seqIndex? (i : Int) bv.length = some i := by
    unfold seqIndex?
    have h1 : ¬ ((i : Int) < 0) := by omega
    simp only [if_neg h1]
    have h2 : (0 : Int) ≤ (i : Int) := by omega
    have h3 : (i : Int) < (bv.length : Int) := by omega
    simp [h2, h3]
  refine ⟨_, rfl, .inl ⟨rfl, _, SqL.of L.eb⟩, _, rfl, _, _, rfl, rfl, ⟨by decide, by decide⟩, _, rfl, b, _, rfl, .inl (SqL.of L.eb), _, _, rfl, rfl, (by show (0 : Int) < (bv.length : Int); omega), b, bv, (i : Int), i, y, rfl, by rw [← ei], L.eb, by omega, by omega, hsq, hy, ?_⟩
  have k1 : Keep [b] H (upd H b (.lst (bv.eraseIdx i))) := Keep.upd (by simp)
  have L1 := L.put k1 upd_same (pr_erase i L.pq) fun q' hq' => L.gd q' (List.mem_of_mem_eraseIdx hq')
  have iq1 : IsPkt lf (upd H b (.lst (bv.eraseIdx i))) y q := iq.mono (TM.upd L.eb fun _ z => by cases z)
  have hel : (bv.eraseIdx i).length ≤ 60 := by
    have := List.length_eraseIdx_le bv i
    omega
  generalize upd H b (.lst (bv.eraseIdx i)) = H1 at L1 iq1
  generalize bv.eraseIdx i = bw at L1 hel
  generalize qs.eraseIdx i = qw at L1
  -- behind _law_hand, or without it: the last test
  have last : ∀ (H2 : Hp) (s' : K21.St Str) (bz : List V) (qz : List (Pkt Str)), LW P w lf n C X H2 s' c b bz qz → IsPkt lf H2 y q → K21.Good n s' q → bz.length ≤ 100 →
      (∀ σ' H', Pst P w lf n C X 300 c σ' H' → D.nx σ' H') →
      tIfS (tOr (tTest (tOp rEq (tVar 11) (tC (.int 5)))) (tAnd (tTest (tOp rEq (tVar 11) (tC (.int 6)))) (tTest (tOp rEq (tOp (rI (fun _ j => 0 < j) fun i j => .int (i % j)) (tOp (rI CDiv fun i j => .int (i / j)) (tVar 10) (tC (.int 64))) (tC (.int 3))) (tC (.int 0))))))
        (tDrop (tBM K "list" rAppend (tVar 9) (tCons (tVar 17) tNil))) tNext D
        (SG X b v1 v2 v4 (some (.int z)) (some (.int kd)) v12 v13 v14 v15 v16 (some y) v18 v19 v20 v21) H2 := by
    intro H2 s' bz qz L2 iq2 g2 hz hnx
    have app : tDrop (tBM K "list" rAppend (tVar 9) (tCons (tVar 17) tNil)) D (SG X b v1 v2 v4 (some (.int z)) (some (.int kd)) v12 v13 v14 v15 v16 (some y) v18 v19 v20 v21) H2 := by
      refine ⟨_, rfl, .inl ⟨rfl, _, SqL.of L2.eb⟩, _, rfl, b, _, _, rfl, rfl, L2.eb, Nat.lt_of_le_of_lt (by omega : bz.length ≤ 1000) (by decide), ?_⟩
      refine hnx _ _ ⟨b, _, _, _, _, _, _, _, _, _, _, _, _, _, _, _, bz ++ [y], qz ++ [q], s', rfl, L2.put (Keep.upd (by simp)) upd_same (Paired.snoc L2.pq iq2) fun q' hq' => ?_, ?_⟩
      · rcases List.mem_append.mp hq' with h | h
        · exact L2.gd q' h
        · rw [List.mem_singleton.mp h]
          exact g2
      · rw [List.length_append, List.length_singleton]
        omega
    have non : tNext D (SG X b v1 v2 v4 (some (.int z)) (some (.int kd)) v12 v13 v14 v15 v16 (some y) v18 v19 v20 v21) H2 :=
      hnx _ _ ⟨b, _, _, _, _, _, _, _, _, _, _, _, _, _, _, _, bz, qz, s', rfl, L2, by omega⟩
    refine ⟨_, rfl, rfl, _, rfl, ?_⟩
    refine ite2 (fun _ => app) (fun _ => ?_)
    refine ⟨_, rfl, rfl, _, rfl, ?_⟩
    refine ite2 (fun _ => ?_) (fun _ => non)
    refine ⟨_, rfl, _, _, rfl, rfl, ⟨by decide, by decide⟩, _, _, rfl, rfl, (by show (0 : Int) < 3; decide), rfl, _, rfl, ?_⟩
    exact ite2 (fun _ => app) (fun _ => non)
  refine ⟨_, rfl, rfl, _, rfl, ?_⟩
  refine ite2 (fun _ => ?_) (fun _ => ?_)
  · refine ⟨_, rfl, _, rfl, _, rfl, _, rfl, X.oa, X.pa, b, X.ads, y, bw, qw, q, s, rfl, L1.T.W, L1.T.R.pr, L1.eb, L1.pq, iq1, gq, L1.T.ok, L1.bm, L1.bo, by omega, L1.T.n12, fun H2 s' bz qz k2 t2 W2 tk ec en eb2 pq2 g2 hq12 => ?_⟩
    have L2 : LW P w lf n C X H2 s' c b bz (qw ++ qz) := by
      refine ⟨L1.T.move (fun x o e h1 h2 => k2 x o e fun hm => ?_) t2 W2 tk.ok tk.own ec, eb2, pq2, fun q' hq' => ?_, L1.bm, L1.bo, L1.bf⟩
      · rcases List.mem_cons.mp hm with hm | hm
        · exact L1.bf (by rw [← hm]; exact h2)
        · exact h1 hm
      · rcases List.mem_append.mp hq' with h | h
        · exact (L1.gd q' h).grow tk.grow
        · exact g2 q' h
    have l1 := Paired.length L1.pq
    have l2 := Paired.length pq2
    rw [List.length_append] at l2
    exact last H2 s' bz (qw ++ qz) L2 (iq1.mono t2) (gq.grow tk.grow) (by omega) hnx
  · exact last H1 s bw qw L1 iq1 gq (by omega) hnx
/-- the founder is told, one sends again, a letter is taken -/
theorem bodyElse (G : Ev P w K mg base lf n C) {f : Addr} {cdv : Value} {A : Around} {outer : List Env} {sh : Shared} {H0 : Hp} {E : XK} (hr : Room 6 (XL P w K mg base f cdv A outer sh H0 E).A) :
    ∃ t, PSs (XL P w K mg base f cdv A outer sh H0 E) (ifElse (cbs 3)) t ∧ ∀ (X : Fx) (D : Ends) (H : Hp) (s : K21.St Str) (c : Nat) (b : Addr) (bv : List V) (qs : List (Pkt Str)) (v1 v2 v4 : Option V) (z kd : Int) (k : Nat) (v13 v14 v15 v16 v17 v18 v19 v20 v21 : Option V),
      LW P w lf n C X H s c b bv qs → bv.length ≤ 60 → k < n → (∀ σ' H', Pst P w lf n C X 300 c σ' H' → D.nx σ' H') →
      t D (SG X b v1 v2 v4 (some (.int z)) (some (.int kd)) (some (.int (k : Int))) v13 v14 v15 v16 v17 v18 v19 v20 v21) H := by
  obtain ⟨fT, fdT, dT, gT⟩ := G.told
  obtain ⟨fG, fdG, mG, gG⟩ := G.again
  obtain ⟨fO, fdO, dO, gO⟩ := G.post
  obtain ⟨tp, hp, rp⟩ := bodyPop G hr
  have T := G.T
  have hr1 : Room 1 _ := hr.mono (by decide)
  have hr2 : Room 2 _ := hr.mono (by decide)
  refine ⟨_, pss_one (ps_if (pt_cmpR op_eq (pv 11) pe_int (nomark _)) (pss_one (ps_expr (pe_call gT hr2 (by rfl) dT.g dT.F.kp dT.b .nil pass0 (pa_cons (pv 6) (pa_cons (pv 3) pa_nil)))))
    (pss_one (ps_if (pt_cmpR op_eq (pv 11) pe_int (nomark _)) (pss_one (ps_expr (pe_call gO hr1 (by rfl) dO.g dO.F.kp dO.b .nil pass0 (pa_cons (pv 9) (pa_cons (pe_meth0 (pe_ix ix_list (pv 6) (pv 12) (fun _ _ => rfl)) T.cl mG.m gG hr2 mG.b .nil pass0) pa_nil)))))
    (pss_one (ps_if (pt_cmpR op_gt (pe_callB call_len_seq (by rfl) T.len PySem.boot_len (pa_cons (pv 9) pa_nil)) pe_int (nomark _)) hp pss_nil))))), ?_⟩
  intro X D H s c b bv qs v1 v2 v4 z kd k v13 v14 v15 v16 v17 v18 v19 v20 v21 L hbl hk hnx
  refine ⟨_, rfl, rfl, _, rfl, ?_⟩
  refine ite2 (fun _ => ?_) (fun _ => ?_)
  · -- told
    refine ⟨_, rfl, _, rfl, X.oa, X.ma, X.ads, X.ms, s, rfl, L.T.W, L.T.R.me, L.T.R.mm, L.T.ok, by have := L.T.n12; omega, by have := L.T.n2; omega, fun H' s' kp W' ok' el eo ec hc => ?_⟩
    have tm := L.T.W.tm kp
    have gr : K21.Grow s s' := ⟨fun j => by rw [el]; exact List.prefix_refl _, fun j => by rw [eo]; exact List.prefix_refl _⟩
    exact hnx _ _ ⟨b, _, _, _, _, _, _, _, _, _, _, _, _, _, _, _, bv, qs, s', rfl, ⟨L.T.move (fun x o e h1 _ => kp x o e h1) tm W' ok' eo ec, kp _ _ L.eb L.bm, all_mono (fun _ _ q => q.mono tm) L.pq, fun q hq => (L.gd q hq).grow gr, L.bm, L.bo, L.bf⟩, by omega⟩
  · refine ⟨_, rfl, rfl, _, rfl, ?_⟩
    refine ite2 (fun _ => ?_) (fun _ => ?_)
    · -- one sends again
      have W := L.T.W
      have ok := L.T.ok
      have hn12 := L.T.n12
      obtain ⟨a, ha⟩ := W.get hk
      have O := W.at_ k a ha
      have hoi : (X.ads.map fun a => V.ref a.p)[k]? = some (V.ref a.p) := by rw [List.getElem?_map, ha]; rfl
      refine ⟨_, rfl, _, rfl, _, rfl, _, _, _, _, rfl, rfl, SqL.of W.lst, atI_nat (j := k) hoi, a.p, a.dx, _, rfl, O.ob, no_of _ (by decide +kernel), a, k, _, _, _, _, rfl, O, by have := ok.own8 k; omega, (ok.sound hk).last_le k, by have := ok.lenk hk; omega, by omega, fun j hj => ?_, fun H1 u s1 np => ?_⟩
      · unfold cntOf
        split
        · have := ok.cnt j hj
          have := ok.lenk hj
          omega
        · show (0 : Nat) < 1000
          decide
      obtain ⟨pl, pvs, rfl, npl, epl, ppl⟩ := np
      have L1 := L.same s1
      have hpl := Paired.length ppl
      have hal := again_len ok hn12 hk
      have nbl : b ≠ pl := ne_of_none L.eb npl
      refine ⟨b, pl, bv, pvs, rfl, L1.eb, epl, nbl, by omega, fun H2 g2 e2 => ?_⟩
      have k2 : Keep [b] H1 H2 := fun x o e hx => by
        rw [g2 x (by simpa using hx)]
        exact e
      refine hnx _ _ ⟨b, _, _, _, _, _, _, _, _, _, _, _, _, _, _, _, bv ++ pvs, _, s, rfl, L1.put k2 e2 (pr_app L1.pq ppl) fun q hq => ?_, ?_⟩
      · rcases List.mem_append.mp hq with h | h
        · exact L.gd q h
        · exact again_good ok hk q h
      · rw [List.length_append]
        omega
    · -- a letter is taken
      refine ⟨_, rfl, b, _, rfl, .inl (SqL.of L.eb), _, _, rfl, rfl, _, rfl, ?_⟩
      refine ite2 (fun hc => ?_) (fun _ => ?_)
      · have hc := of_decide_eq_true hc
        exact rp X D H s c b bv qs v1 v2 v4 z kd _ v13 v14 v15 v16 v17 v18 v19 v20 v21 L hbl (by omega) hnx
      · exact hnx _ _ ⟨b, _, _, _, _, _, _, _, _, _, _, _, _, _, _, _, bv, qs, s, rfl, L, by omega⟩
/-- the whole choice -/
theorem bodyIf (G : Ev P w K mg base lf n C) {f : Addr} {cdv : Value} {A : Around} {outer : List Env} {sh : Shared} {H0 : Hp} {E : XK} (hr : Room 6 (XL P w K mg base f cdv A outer sh H0 E).A) :
    ∃ t, PS (XL P w K mg base f cdv A outer sh H0 E) (cbs 3) t ∧ ∀ (X : Fx) (D : Ends) (H : Hp) (s : K21.St Str) (c : Nat) (b : Addr) (bv : List V) (qs : List (Pkt Str)) (v1 v2 v4 : Option V) (z kd : Int) (k : Nat) (v13 v14 v15 v16 v17 v18 v19 v20 v21 : Option V),
      LW P w lf n C X H s c b bv qs → bv.length ≤ 60 → k < n → c < 900 → (∀ σ' H', Pst P w lf n C X 300 (c + 1) σ' H' → D.nx σ' H') →
      t D (SG X b v1 v2 v4 (some (.int z)) (some (.int kd)) (some (.int (k : Int))) v13 v14 v15 v16 v17 v18 v19 v20 v21) H := by
  obtain ⟨tA, hA, rA⟩ := bodyA G hr
  obtain ⟨tE, hE, rE⟩ := bodyElse G hr
  have T := G.T
  have hu := hu_of hr
  refine ⟨_, ps_if (PW.pt (pw_and (pt_cmpR op_lt (pv 11) pe_int (nomark _)) (pw_and1 (pt_cmpR op_lt (pe_callB call_len_seq (by rfl) T.len PySem.boot_len (pa_cons (pe_dget hu (pv 7) (pe_ix ix_tup (pv 3) (pv 12) (fun _ _ => rfl)) (fun _ _ => rfl)) pa_nil)) pe_int (nomark _))))) hA hE, ?_⟩
  intro X D H s c b bv qs v1 v2 v4 z kd k v13 v14 v15 v16 v17 v18 v19 v20 v21 L hbl hk hc hnx
  have els := rE X D H s c b bv qs v1 v2 v4 z kd k v13 v14 v15 v16 v17 v18 v19 v20 v21 L hbl hk fun σ' H' ⟨b', u1, u2, u4, u10, u11, u12, u13, u14, u15, u16, u17, u18, u19, u20, u21, bv', qs', s', e, L', hl⟩ =>
    hnx σ' H' ⟨b', u1, u2, u4, u10, u11, u12, u13, u14, u15, u16, u17, u18, u19, u20, u21, bv', qs', s', e, L'.up (Nat.le_succ c), hl⟩
  refine ⟨_, rfl, _, _, rfl, rfl, _, rfl, ?_⟩
  refine ite2 (fun _ => ?_) (fun _ => els)
  have R := L.T.R
  obtain ⟨x, hx, ix⟩ := R.mm.2 k hk
  obtain ⟨xa, rfl, exa⟩ := ix
  obtain ⟨ck, hck⟩ : ∃ ck, X.cs[k]? = some ck := ⟨X.cs[k]'(by rw [R.cl]; exact hk), List.getElem?_eq_getElem (by rw [R.cl]; exact hk)⟩
  obtain ⟨kvs, eca, Tc⟩ := R.ca
  have hvc : valV kvs (mk lf k) = some (.ref ck) := by
    rw [Tc.at_, hck]
    rfl
  have hg : DGet H X.ca (.ref xa) (some (.ref ck)) := by
    have zz := DGet.t (k := mk lf k) eca exa
    rw [hvc] at zz
    exact zz
  refine ⟨_, rfl, _, rfl, _, rfl, _, _, _, _, rfl, rfl, SqT.of R.me, atI_nat (j := k) hx, X.ca, .ref ck, rfl, hg, ck, _, rfl, .inl (SqL.of (R.cs k ck hck)), _, _, rfl, rfl, _, rfl, ?_⟩
  refine ite2 (fun h8 => ?_) (fun _ => els)
  have h8 := of_decide_eq_true h8
  rw [List.length_map] at h8
  exact rA X D H s c b bv qs v1 v2 v4 z _ k v13 v14 v15 v16 v17 v18 v19 v20 v21 L hbl hk (by omega) hc hnx
end
end KW

/-! The law's body: a cell as a whole. -/
namespace KW
open PySem L2
open K21 (Msg Let Pkt lastIx fu)
section
variable {P : Program} {w : World} {K : PySem.W.Frag} {mg : Str → Option Value} {base : Heap} {lf : Nat → Int} {n : Nat} {C : Addr}
theorem cut60 (bv : List V) : ∃ x y, cutV bv (some (-60)) none = (bv.drop x).take y ∧ (cutV bv (some (-60)) none).length ≤ 60 := by
  have e1 : HT.sIx bv.length 0 (some (-60)) = ((-60 : Int) + (bv.length : Int)).toNat := by
    show (if (-60 : Int) < 0 then ((-60 : Int) + (bv.length : Int)).toNat else min (-60 : Int).toNat bv.length) = _
    rw [if_pos (by decide)]
  have e2 : HT.sIx bv.length bv.length none = bv.length := rfl
  refine ⟨_, _, rfl, ?_⟩
  unfold cutV
  rw [e1, e2, List.length_take, List.length_drop]
  omega
theorem bodyCell (G : Ev P w K mg base lf n C) {f : Addr} {cdv : Value} {A : Around} {outer : List Env} {sh : Shared} {H0 : Hp} {E : XK} (hr : Room 6 (XL P w K mg base f cdv A outer sh H0 E).A) :
    ∃ t, PSs (XL P w K mg base f cdv A outer sh H0 E) (forBody (stL 10)) t ∧ ∀ (X : Fx) (D : Ends) (H : Hp) (s : K21.St Str) (c : Nat) (b : Addr) (bv : List V) (qs : List (Pkt Str)) (v1 v2 v4 : Option V) (z : Int) (v11 v12 v13 v14 v15 v16 v17 v18 v19 v20 v21 : Option V),
      LW P w lf n C X H s c b bv qs → bv.length ≤ 60 → c < 900 → (∀ σ' H', Pst P w lf n C X 60 (c + 1) σ' H' → D.nx σ' H') →
      t D (SG X b v1 v2 v4 (some (.int z)) v11 v12 v13 v14 v15 v16 v17 v18 v19 v20 v21) H := by
  obtain ⟨tI, hI, rI'⟩ := bodyIf G hr
  obtain ⟨fL, fdL, mL, gL⟩ := G.log
  obtain ⟨fS, fdS, dS, gS⟩ := G.sound
  obtain ⟨fP, fdP, dP, gP⟩ := G.prefixes
  have T := G.T
  have hr1 : Room 1 _ := hr.mono (by decide)
  have hr2 : Room 2 _ := hr.mono (by decide)
  refine ⟨_, pss_cons (ps_set (i := 11) scL.nd rfl (Or.inl rfl) (pe_op op_mod (pe_callTy call_int1 (by rfl) T.int (by decide +kernel) (pa_cons (pv 10) pa_nil)) pe_int))
    (pss_cons (ps_set (i := 10) scL.nd rfl (Or.inl rfl) (pe_callB call_abs (by rfl) T.abs (by decide +kernel) (pa_cons (pe_callTy call_int1 (by rfl) T.int (by decide +kernel) (pa_cons (pe_op op_fdiv (pv 10) pe_int) pa_nil)) pa_nil)))
    (pss_cons (ps_set (i := 12) scL.nd rfl (Or.inl rfl) (pe_op op_mod (pv 10) (pe_callB call_len_seq (by rfl) T.len PySem.boot_len (pa_cons (pv 3) pa_nil))))
    (pss_cons hI
    (pss_cons (ps_if (pt_cmpR op_gt (pe_callB call_len_seq (by rfl) T.len PySem.boot_len (pa_cons (pv 9) pa_nil)) pe_int (nomark _)) (pss_one (ps_set (i := 9) scL.nd rfl (Or.inl rfl) (pe_slice sl_list (pv 9) (po_some (pe_un un_neg pe_int)) po_none))) pss_nil)
    (pss_cons (ps_for PassesOwn.never rfl (pi_list (pv 6)) (pg_name (i := 18) scL.nd rfl (Or.inl rfl))
      (pss_one (ps_if (pt_not (pt_val (pe_call gS hr1 (by rfl) dS.g dS.F.kp dS.b .nil pass0 (pa_cons (pe_meth0 (pv 18) T.cl mL.m gL hr1 mL.b .nil pass0) (pa_cons (pv 3) (pa_cons (pv 7) (pa_cons (pv 8) pa_nil))))))) (pss_one (ps_ret pe_bl)) pss_nil)))
    (pss_one (ps_if (pt_not (pt_val (pe_call gP hr2 (by rfl) dP.g dP.F.kp dP.b .nil pass0 (pa_cons (pv 6) pa_nil)))) (pss_one (ps_ret pe_bl)) pss_nil))))))), ?_⟩
  intro X D H s c b bv qs v1 v2 v4 z v11 v12 v13 v14 v15 v16 v17 v18 v19 v20 v21 L hbl hc hnx
  -- kind, cell, at
  refine ⟨_, rfl, .inl ⟨_, rfl, _, _, rfl, rfl, (by show (0 : Int) < 8; decide), ?_⟩⟩
  refine ⟨_, rfl, _, _, rfl, rfl, ⟨by decide, by decide⟩, .inl ⟨_, rfl, _, rfl, ?_⟩⟩
  have hms := L.T.R.mm.1
  have hn0 : 0 < X.ms.length := by have := L.T.n2; omega
  refine ⟨_, rfl, _, rfl, X.ma, _, rfl, .inr (SqT.of L.T.R.me), _, _, rfl, rfl, (by show (0 : Int) < (X.ms.length : Int); omega), ?_⟩
  obtain ⟨k, hk, ek⟩ := ld_mod (x := if z / 8 < 0 then -(z / 8) else z / 8) (m := X.ms.length) hn0
  dsimp only
  rw [ek]
  rw [hms] at hk
  refine rI' X _ H s c b bv qs _ _ _ _ _ k _ _ _ _ _ _ _ _ _ L hbl hk hc fun σ' H' hP => ?_
  obtain ⟨b', u1, u2, u4, u10, u11, u12, u13, u14, u15, u16, u17, u18, u19, u20, u21, bv', qs', s', rfl, L', hl⟩ := hP
  -- behind the trimming
  have rest : ∀ (H2 : Hp) (b2 : Addr) (bv2 : List V) (qs2 : List (Pkt Str)), LW P w lf n C X H2 s' (c + 1) b2 bv2 qs2 → bv2.length ≤ 60 →
      tSeq (tFor (iList K (tVar 6)) (gName 18) (tIfS (tNot (tB (tCall (spSound lf n P w) [] E0 (tCons (tMeth C "log" (spLog lf n C) [] E0 (tVar 18) tNil) (tCons (tVar 3) (tCons (tVar 7) (tCons (tVar 8) tNil))))))) (tRet (tC (.bl false))) tNext))
        (tIfS (tNot (tB (tCall (spPrefixes lf n C) [] E0 (tCons (tVar 6) tNil)))) (tRet (tC (.bl false))) tNext) D
        (SG X b2 u1 u2 u4 u10 u11 u12 u13 u14 u15 u16 u17 u18 u19 u20 u21) H2 := by
    intro H2 b2 bv2 qs2 L2 hl2
    refine ⟨_, rfl, X.oa, rfl, ⟨_, SqL.of L2.T.W.lst⟩, for_list (K := K) (a := X.oa) (xs := X.ads.map fun a => V.ref a.p) (fun i σ H3 => ∃ v18, σ = SG X b2 u1 u2 u4 u10 u11 u12 u13 u14 u15 u16 u17 v18 u19 u20 u21 ∧ Same H2 H3)
      ⟨_, rfl, Same.refl _⟩ (fun i σ H3 _ ⟨_, _, s3⟩ => SqL.of (s3 _ _ L2.T.W.lst)) ?_ ?_⟩
    · rintro i x σ H3 hx ⟨v18', rfl, s3⟩
      rw [List.getElem?_map] at hx
      obtain ⟨a, ha, rfl⟩ := Option.map_eq_some_iff.mp hx
      have L3 := L2.same s3
      have hi := L3.T.W.lt ha
      have O := L3.T.W.at_ i a ha
      refine ⟨_, rfl, a.p, a.dx, _, rfl, O.ob, no_of _ (by decide +kernel), a, i, _, _, _, _, rfl, O, fun lv H4 s4 il => ?_⟩
      have T4 := (L3.same s4).T
      obtain ⟨kvs, eca, Tc⟩ := T4.R.ca
      obtain ⟨g, dn, hcu⟩ := T4.R.ua
      have hn12 := T4.n12
      have hlk := T4.ok.lenk hi
      refine ⟨_, rfl, _, rfl, _, rfl, lv, X.ma, X.ca, X.ua, s'.log i, X.ms, kvs, X.cs, s'.own, s'.cau, c + 1, g, rfl, il, T4.R.me, T4.R.mm, eca, Tc, T4.R.cl, T4.R.cs, dn, hcu, T4.ok.sound hi, by omega, by omega, fun H5 s5 => ?_⟩
      exact ⟨_, rfl, _, rfl, (s3.trans s4).trans s5⟩
    · rintro σ H3 ⟨v18', rfl, s3⟩
      have L3 := L2.same s3
      have T3 := L3.T
      have hn12 := T3.n12
      have hl0 := T3.ok.len
      refine ⟨_, rfl, X.oa, X.ads, s'.log 0, s'.log, rfl, T3.W.lst, fun k a ha => ⟨_, _, _, T3.W.at_ k a ha⟩, fun k hk => T3.ok.pre k (by rw [← T3.W.len]; exact hk), by omega, by rw [T3.W.len]; omega, fun H4 s4 => ⟨_, rfl, ?_⟩⟩
      exact hnx _ _ ⟨b2, _, _, _, _, _, _, _, _, _, _, _, _, _, _, _, bv2, qs2, s', rfl, L3.same s4, hl2⟩
  refine ⟨_, rfl, b', _, rfl, .inl (SqL.of L'.eb), _, _, rfl, rfl, _, rfl, ?_⟩
  refine ite2 (fun _ => ?_) (fun hc => ?_)
  · refine ⟨_, rfl, _, rfl, _, rfl, b', bv', rfl, SqL.of L'.eb, fun p hp => ?_⟩
    obtain ⟨x, y, exy, h60⟩ := cut60 bv'
    have sm : ∀ o, Same H' (upd H' p o) := fun o => Same.new hp
    obtain ⟨q1, q2, q3⟩ := L'.T.bag hp
    refine rest _ p (cutV bv' (some (-60)) none) ((qs'.drop x).take y) ⟨L'.T.same (sm _), upd_same, ?_, fun q hq => L'.gd q (List.mem_of_mem_drop (List.mem_of_mem_take hq)), q1, q2, q3⟩ h60
    rw [exy]
    exact all_mono (fun _ _ z => z.mono (TM.of (sm _))) (pr_take y (pr_drop x L'.pq))
  · have hc : ¬ ((60 : Int) < (bv'.length : Int)) := fun z => hc (decide_eq_true z)
    exact rest H' b' bv' qs' L' (by omega)
end
end KW

/-! The law's rounds, its end. -/
namespace KW
open PySem L2
open K21 (Msg Let Pkt lastIx fu)
section
variable {P : Program} {w : World} {K : PySem.W.Frag} {mg : Str → Option Value} {base : Heap} {lf : Nat → Int} {n : Nat} {C : Addr}
/-- behind r rounds -/
def Ptn (P : Program) (w : World) (lf : Nat → Int) (n : Nat) (C : Addr) (X : Fx) (r c : Nat) (σ : L2.St) (H : Hp) : Prop :=
  ∃ (b : Addr) (v1 v2 v4 v10 v11 v12 v13 v14 v15 v16 v17 v18 v19 v20 v21 : Option V) (s : K21.St Str), σ = SG X b v1 v2 v4 v10 v11 v12 v13 v14 v15 v16 v17 v18 v19 v20 v21 ∧ LT P w lf n C X H s c ∧ K21.Far n s r
theorem bodyTurn (G : Ev P w K mg base lf n C) {f : Addr} {cdv : Value} {A : Around} {outer : List Env} {sh : Shared} {H0 : Hp} {E : XK} (hr : Room 6 (XL P w K mg base f cdv A outer sh H0 E).A) :
    ∃ t, PSs (XL P w K mg base f cdv A outer sh H0 E) (forBody (stL 11)) t ∧ ∀ (X : Fx) (D : Ends) (H : Hp) (s : K21.St Str) (c r : Nat) (b : Addr) (v1 v2 v4 v10 v11 v12 v13 v14 v15 v16 v17 v18 v19 v20 v21 : Option V),
      LT P w lf n C X H s c → K21.Far n s r → (∀ σ' H', Ptn P w lf n C X (r + 1) c σ' H' → D.nx σ' H') →
      t D (SG X b v1 v2 v4 v10 v11 v12 v13 v14 v15 v16 v17 v18 v19 v20 v21) H := by
  obtain ⟨fT, fdT, dT, gT⟩ := G.told
  obtain ⟨fG, fdG, mG, gG⟩ := G.again
  obtain ⟨fO, fdO, dO, gO⟩ := G.post
  obtain ⟨fH, fdH, dH, gH⟩ := G.hand
  have T := G.T
  have hr1 : Room 1 _ := hr.mono (by decide)
  have hr2 : Room 2 _ := hr.mono (by decide)
  have hr5 : Room 5 _ := hr.mono (by decide)
  refine ⟨_, pss_cons (ps_expr (pe_call gT hr2 (by rfl) dT.g dT.F.kp dT.b .nil pass0 (pa_cons (pv 6) (pa_cons (pv 3) pa_nil))))
    (pss_cons (ps_set (i := 9) scL.nd rfl (Or.inl rfl) (pe_lst pa_nil))
    (pss_cons (ps_for PassesOwn.never rfl (pi_list (pv 6)) (pg_name (i := 18) scL.nd rfl (Or.inl rfl))
      (pss_one (ps_expr (pe_call gO hr1 (by rfl) dO.g dO.F.kp dO.b .nil pass0 (pa_cons (pv 9) (pa_cons (pe_meth0 (pv 18) T.cl mG.m gG hr2 mG.b .nil pass0) pa_nil))))))
    (pss_one (ps_for PassesOwn.never rfl (pi_list (pv 9)) (pg_name (i := 17) scL.nd rfl (Or.inl rfl))
      (pss_one (ps_expr (pe_call gH hr5 (by rfl) dH.g dH.F.kp dH.b .nil pass0 (pa_cons (pv 6) (pa_cons (pv 5) (pa_cons (pe_lst pa_nil) (pa_cons (pv 17) pa_nil)))))))))))  , ?_⟩
  intro X D H s c r b v1 v2 v4 v10 v11 v12 v13 v14 v15 v16 v17 v18 v19 v20 v21 L F hnx
  have n2 := L.n2
  have n12 := L.n12
  -- _law_told
  refine ⟨_, rfl, _, rfl, X.oa, X.ma, X.ads, X.ms, s, rfl, L.W, L.R.me, L.R.mm, L.ok, by omega, by omega, fun H1 s1 kp W1 ok1 el eo ec hc => ?_⟩
  have L1 : LT P w lf n C X H1 s1 c := L.move (fun x o e h1 _ => kp x o e h1) (L.W.tm kp) W1 ok1 eo ec
  have F1 : K21.Far n s1 r := ⟨fun h k hk => by rw [el, eo]; exact F.all h k hk, fun k hk => by rw [el]; exact F.far k hk⟩
  have hc1 : ∀ k, 1 ≤ k → k < n → s1.cnt k = (s1.log k).length := fun k h1 h2 => by rw [el]; exact hc k h1 h2
  clear F kp W1 el eo ec hc
  -- bag = []
  refine ⟨Nat.zero_le _, fun b2 hb2 => ?_⟩
  obtain ⟨q1, q2, q3⟩ := L1.bag hb2
  -- for order in orders: _law_post(bag, order.again())
  refine ⟨_, rfl, X.oa, rfl, ⟨_, SqL.of (L1.same (Same.new hb2)).W.lst⟩, for_list (K := K) (a := X.oa) (xs := X.ads.map fun a => V.ref a.p) (fun i σ H' => ∃ v18 bv, σ = SG X b2 v1 v2 v4 v10 v11 v12 v13 v14 v15 v16 v17 v18 v19 v20 v21 ∧ LT P w lf n C X H' s1 c ∧ H' b2 = some (.lst bv) ∧ Paired (IsPkt lf H') bv (rbag n s1 i))
    ⟨_, [], rfl, L1.same (Same.new hb2), upd_same, .nil⟩ (fun i σ H' _ ⟨_, _, _, L', _⟩ => SqL.of L'.W.lst) ?_ ?_⟩
  · rintro i x σ H' hx ⟨v18', bv, rfl, L', eb, pr⟩
    rw [List.getElem?_map] at hx
    obtain ⟨a, ha, rfl⟩ := Option.map_eq_some_iff.mp hx
    have hi := L'.W.lt ha
    have O := L'.W.at_ i a ha
    have ok := L'.ok
    refine ⟨_, rfl, _, rfl, a.p, a.dx, _, rfl, O.ob, no_of _ (by decide +kernel), a, i, _, _, _, _, rfl, O, by have := ok.own8 i; omega, (ok.sound hi).last_le i, by have := ok.lenk hi; omega, by omega, fun j hj => ?_, fun H3 u s3 np => ?_⟩
    · unfold cntOf
      split
      · have := ok.cnt j hj
        have := ok.lenk hj
        omega
      · show (0 : Nat) < 1000
        decide
    obtain ⟨pl, pvs, rfl, npl, epl, ppl⟩ := np
    have L3 := L'.same s3
    have hpl := Paired.length ppl
    have hal := again_len ok n12 hi
    have hbl := Paired.length pr
    have hrb := rbag_len ok n12 i (by omega)
    have nbl : b2 ≠ pl := ne_of_none eb npl
    have eb3 := s3 _ _ eb
    refine ⟨b2, pl, bv, pvs, rfl, eb3, epl, nbl, by omega, fun H4 g4 e4 => ?_⟩
    have k4 : Keep [b2] H3 H4 := fun x o e hx => by
      rw [g4 x (by simpa using hx)]
      exact e
    have t4 : TM H3 H4 := fun x xs q => k4 x _ q (by simpa using ne_of q eb3 fun z => by cases z)
    refine ⟨_, bv ++ pvs, rfl, L3.one k4 eb3 (fun _ z => by cases z) (fun _ _ _ z => by cases z) q1 q2 q3, e4, ?_⟩
    unfold rbag
    rw [flat_snoc]
    exact pr_app (all_mono (fun _ _ z => z.mono ((TM.of s3).trans t4)) pr) (all_mono (fun _ _ z => z.mono t4) ppl)
  · rintro σ H' ⟨v18', bv, rfl, L', eb, pr⟩
    rw [List.length_map, L'.W.len] at pr
    have hbl := Paired.length pr
    have lin := rbag_lined L'.ok hc1
    have good := rbag_good L'.ok
    have full := rbag_full L'.ok hc1 (by omega)
    -- for letter in bag: _law_hand(orders, processes, [], letter)
    refine ⟨_, rfl, b2, rfl, ⟨_, SqL.of eb⟩, for_list (K := K) (a := b2) (xs := bv) (fun i σ H2 => ∃ v17 s2, σ = SG X b2 v1 v2 v4 v10 v11 v12 v13 v14 v15 v16 v17 v18' v19 v20 v21 ∧ LT P w lf n C X H2 s2 c ∧ K21.Mid n s1 s2 (rbag n s1 n) i ∧ H2 b2 = some (.lst bv) ∧ TM H' H2)
      ⟨_, s1, rfl, L', K21.Mid.start L'.ok _, eb, TM.refl _⟩ (fun i σ H2 _ ⟨_, _, _, _, _, e, _⟩ => SqL.of e) ?_ ?_⟩
    · rintro i x σ H2 hx ⟨v17', s2, rfl, L2, M, eb2, tm⟩
      obtain ⟨q, hq, iq⟩ := pr_get pr hx
      refine ⟨_, rfl, _, rfl, Nat.zero_le _, fun e he => ?_⟩
      have sm : ∀ o, Same H2 (upd H2 e o) := fun o => Same.new he
      obtain ⟨p1, p2, p3⟩ := L2.bag he
      have Le := L2.same (sm (.lst []))
      refine ⟨_, rfl, X.oa, X.pa, e, X.ads, x, [], [], q, s2, rfl, Le.W, Le.R.pr, upd_same, .nil, (iq.mono tm).mono (TM.of (sm _)), (good q (List.mem_of_getElem? hq)).grow M.grow, Le.ok, p1, p2, Nat.zero_le _, n12, fun H3 s3 bz qz k3 t3 W3 tk ec en eb3 pq3 g3 hq12 => ?_⟩
      have nbe : b2 ≠ e := ne_of_none eb2 he
      refine ⟨_, s3, rfl, Le.move (fun y o ey h1 h2 => k3 y o ey fun hm => ?_) t3 W3 tk.ok tk.own ec, M.step lin hq tk, k3 _ _ (sm _ _ _ eb2) fun hm => ?_, (tm.trans (TM.of (sm _))).trans t3⟩
      · rcases List.mem_cons.mp hm with hm | hm
        · exact p3 (by rw [← hm]; exact h2)
        · exact h1 hm
      · rcases List.mem_cons.mp hm with hm | hm
        · exact nbe hm
        · exact q1 hm
    · rintro σ H2 ⟨v17', s2, rfl, L2, M, eb2, tm⟩
      rw [hbl] at M
      exact hnx _ _ ⟨b2, _, _, _, _, _, _, _, _, _, _, _, _, _, _, _, s2, rfl, L2, F1.round L'.ok full M⟩
theorem sum_ints (f : Nat → Nat) (n : Nat) : ((List.range n).map fun k => ((f k : Nat) : Int)).sum = ((K21.tot n f : Nat) : Int) := by
  induction n with
  | zero => rfl
  | succ n ih =>
    rw [List.range_succ, List.map_append, List.sum_append, ih, K21.tot_succ]
    simp
/-- total = ..; for order in orders: ..; return _law_prefixes(orders) -/
theorem bodyEnd (G : Ev P w K mg base lf n C) {f : Addr} {cdv : Value} {A : Around} {outer : List Env} {sh : Shared} {H0 : Hp} {E : XK} (hr : Room 6 (XL P w K mg base f cdv A outer sh H0 E).A) :
    ∃ t, PSs (XL P w K mg base f cdv A outer sh H0 E) ((defBody sLaw).drop 12) t ∧ ∀ (X : Fx) (D : Ends) (H : Hp) (s : K21.St Str) (c : Nat) (b : Addr) (v1 v2 v4 v10 v11 v12 v13 v14 v15 v16 v17 v18 v19 v20 v21 : Option V),
      LT P w lf n C X H s c → K21.Far n s 7 → (∀ H', D.rt (.bl true) H') →
      t D (SG X b v1 v2 v4 v10 v11 v12 v13 v14 v15 v16 v17 v18 v19 v20 v21) H := by
  obtain ⟨fL, fdL, mL, gL⟩ := G.log
  obtain ⟨fS, fdS, dS, gS⟩ := G.sound
  obtain ⟨fP, fdP, dP, gP⟩ := G.prefixes
  have T := G.T
  have hr1 : Room 1 _ := hr.mono (by decide)
  have hr2 : Room 2 _ := hr.mono (by decide)
  have hu := hu_of hr
  refine ⟨_, pss_cons (ps_set (i := 20) scL.nd rfl (Or.inl rfl) (pe_callB (cr_sum rfl) (by rfl) T.sum (by decide +kernel) (pa_cons
        (pe_lc (own := [("_law_member", 4)]) (g := gName 4) (tt := tYes) rfl scL.nd (pi_tup (pv 3)) (blkOk_by (own := [("_law_member", 4)]) (N := NL) (sc := defScope sLaw) (by decide +kernel))
          (fun _ _ _ _ _ => pg_name (i := 4) scL.nd rfl (Or.inl rfl)) (fun _ _ _ _ _ => pts_nil)
          (fun _ _ _ _ _ => pe_callB (call_lenK (K := K) (by rfl)) (by rfl) T.len PySem.boot_len (pa_cons (pe_dget hu (pv 7) (pv 4) (fun _ _ => rfl)) pa_nil))) pa_nil)))
    (pss_cons (ps_for PassesOwn.never rfl (pi_list (pv 6)) (pg_name (i := 18) scL.nd rfl (Or.inl rfl))
      (pss_one (ps_if (PW.pt (pw_or (pt_not (pt_val (pe_call gS hr1 (by rfl) dS.g dS.F.kp dS.b .nil pass0 (pa_cons (pe_meth0 (pv 18) T.cl mL.m gL hr1 mL.b .nil pass0) (pa_cons (pv 3) (pa_cons (pv 7) (pa_cons (pv 8) pa_nil)))))))
        (pw_or1 (pt_cmpR op_ne (pe_callB call_len_seq (by rfl) T.len PySem.boot_len (pa_cons (pe_meth0 (pv 18) T.cl mL.m gL hr1 mL.b .nil pass0) pa_nil)) (pv 20) (nomark _))))) (pss_one (ps_ret pe_bl)) pss_nil)))
    (pss_one (ps_ret (pe_call gP hr2 (by rfl) dP.g dP.F.kp dP.b .nil pass0 (pa_cons (pv 6) pa_nil))))), ?_⟩
  intro X D H s c b v1 v2 v4 v10 v11 v12 v13 v14 v15 v16 v17 v18 v19 v20 v21 L F hrt
  have n12 := L.n12
  have hms := L.R.mm.1
  obtain ⟨kvs, eca, Tc⟩ := L.R.ca
  refine ⟨_, rfl, X.ma, rfl, ⟨_, SqT.of L.R.me⟩, fun D0 hD => ?_⟩
  refine lc_tup (K := K) (a := X.ma) (xs := X.ms) (fun i H' => Same H H' ∧ H' D0 = some (.lst (((List.range n).take i).map fun k => V.int (((s.own k).length : Nat) : Int))))
    ⟨Same.new hD, upd_same⟩ (fun i H' _ ⟨sm, _⟩ => SqT.of (sm _ _ L.R.me)) ?_ ?_
  · rintro i x H' hx ⟨sm, eD⟩
    have hi : i < n := by rw [← hms]; exact (List.getElem?_eq_some_iff.mp hx).1
    obtain ⟨x', hx', ix⟩ := L.R.mm.2 i hi
    have exx : x = x' := Option.some.inj (hx.symm.trans hx')
    subst exx
    obtain ⟨xa, rfl, exa⟩ := ix
    obtain ⟨ck, hck⟩ : ∃ ck, X.cs[i]? = some ck := ⟨X.cs[i]'(by rw [L.R.cl]; exact hi), List.getElem?_eq_getElem (by rw [L.R.cl]; exact hi)⟩
    have hvc : valV kvs (mk lf i) = some (.ref ck) := by
      rw [Tc.at_, hck]
      rfl
    have hg : DGet H' X.ca (.ref xa) (some (.ref ck)) := by
      have zz := DGet.t (k := mk lf i) (sm _ _ eca) (sm _ _ exa)
      rw [hvc] at zz
      exact zz
    refine ⟨rfl, _, rfl, _, rfl, X.ca, .ref ck, rfl, hg, ck, _, rfl, .inl (SqL.of (sm _ _ (L.R.cs i ck hck))), _, eD, ?_, fun y o e => ?_, ?_⟩
    · rw [List.length_map, List.length_take, List.length_range]
      exact Nat.lt_of_le_of_lt (by omega : min i n ≤ 1000) (by decide)
    · rw [upd_ne (ne_of_none e hD)]
      exact sm y o e
    · rw [upd_same, take_snoc (List.getElem?_range hi), List.map_append, List.length_map]
      rfl
  · rintro H' ⟨sm, eD⟩
    rw [hms, List.take_of_length_le (by rw [List.length_range]; exact Nat.le_refl _)] at eD
    refine ⟨D0, (List.range n).map fun k => (((s.own k).length : Nat) : Int), rfl, SqL.of (by rw [eD, List.map_map]; rfl), ?_⟩
    rw [sum_ints]
    have L1 := L.same sm
    refine ⟨_, rfl, X.oa, rfl, ⟨_, SqL.of L1.W.lst⟩, for_list (K := K) (a := X.oa) (xs := X.ads.map fun a => V.ref a.p) (fun i σ H3 => ∃ v18, σ = SG X b v1 v2 v4 v10 v11 v12 v13 v14 v15 v16 v17 v18 v19 (some (.int ((K21.tot n fun k => (s.own k).length : Nat) : Int))) v21 ∧ Same H' H3)
      ⟨_, rfl, Same.refl _⟩ (fun i σ H3 _ ⟨_, _, s3⟩ => SqL.of (s3 _ _ L1.W.lst)) ?_ ?_⟩
    · rintro i x σ H3 hx ⟨v18', rfl, s3⟩
      rw [List.getElem?_map] at hx
      obtain ⟨a, ha, rfl⟩ := Option.map_eq_some_iff.mp hx
      have L3 := L1.same s3
      have hi := L3.W.lt ha
      have O := L3.W.at_ i a ha
      refine ⟨_, rfl, a.p, a.dx, _, rfl, O.ob, no_of _ (by decide +kernel), a, i, _, _, _, _, rfl, O, fun lv H4 s4 il => ?_⟩
      have T4 := L3.same s4
      obtain ⟨kvs4, eca4, Tc4⟩ := T4.R.ca
      obtain ⟨g, dn, hcu⟩ := T4.R.ua
      have hlk := T4.ok.lenk hi
      refine ⟨_, rfl, _, rfl, _, rfl, lv, X.ma, X.ca, X.ua, s.log i, X.ms, kvs4, X.cs, s.own, s.cau, c, g, rfl, il, T4.R.me, T4.R.mm, eca4, Tc4, T4.R.cl, T4.R.cs, dn, hcu, T4.ok.sound hi, by omega, by omega, fun H5 s5 => ?_⟩
      have L5 := T4.same s5
      have O5 := L5.W.at_ i a ha
      refine ⟨_, rfl, _, rfl, a.p, a.dx, _, rfl, O5.ob, no_of _ (by decide +kernel), a, i, _, _, _, _, rfl, O5, fun lv2 H6 s6 il2 => ?_⟩
      obtain ⟨lp, xs, rfl, elp, pxs⟩ := il2
      have hlen := Paired.length pxs
      rw [F.end L.ok n12 hi] at hlen
      refine ⟨lp, _, rfl, .inr (SqT.of elp), _, rfl, rfl, _, rfl, ?_⟩
      refine iteNS (by rw [hlen]) ?_
      exact ⟨_, rfl, ((s3.trans s4).trans s5).trans s6⟩
    · rintro σ H3 ⟨v18', rfl, s3⟩
      have T3 := L1.same s3
      have hl0 := T3.ok.len
      exact ⟨_, rfl, X.oa, X.ads, s.log 0, s.log, rfl, T3.W.lst, fun k a ha => ⟨_, _, _, T3.W.at_ k a ha⟩, fun k hk => T3.ok.pre k (by rw [← T3.W.len]; exact hk), by omega, by rw [T3.W.len]; omega, fun H4 s4 => hrt H4⟩
end
end KW

/-! The law: its beginning, and all of it. -/
namespace KW
open PySem L2
open K21 (Msg Let Pkt lastIx fu)
def spLaw (K : PySem.W.Frag) : Sp := fun vs H Q _ => ∃ (a : Addr) (ns : List Int), vs = [.ref a] ∧ SqL K H a (ns.map V.int) ∧ ns.length ≤ 63 ∧ ∀ H', Q (.bl true) H'
theorem Tab.congr {κ : Type} [DecidableEq κ] {kvs : List (κ × V)} {key : Nat → κ} {f g : Nat → Option V} {N : Nat} (T : Tab kvs key f N) (h : ∀ k, f k = g k) : Tab kvs key g N := ⟨T.nd, T.ks, fun k => (T.at_ k).trans (h k)⟩
section
variable {P : Program} {w : World} {K : PySem.W.Frag} {mg : Str → Option Value} {base : Heap} {lf : Nat → Int} {n : Nat} {C : Addr}
/-- the orders that have been made so far, their list at D -/
structure Mk6 (lf : Nat → Int) (n : Nat) (C : Addr) (H H' : Hp) (D : Addr) (ads : List OAd) : Prop where
  same : Same H H'
  lst : H' D = some (.lst (ads.map fun a => .ref a.p))
  at_ : ∀ (k : Nat) (a : OAd), ads[k]? = some a → OrderAt lf n C H' a k [] [] [] (fun _ => 0)
  sep : ∀ (j k : Nat) (a b : OAd) (x : Addr), ads[j]? = some a → ads[k]? = some b → x ∈ a.muts → x ∈ b.muts → j = k
  new : ∀ x, x ∈ Mu ads → H x = none
  off : ¬ D ∈ Mu ads
theorem bodyMain (G : Ev P w K mg base lf n C) {f : Addr} {cdv : Value} {A : Around} {outer : List Env} {sh : Shared} {H0 : Hp} {E : XK} (hr : Room 6 (XL P w K mg base f cdv A outer sh H0 E).A) :
    ∃ t, PSs (XL P w K mg base f cdv A outer sh H0 E) ((defBody sLaw).drop 3) t ∧ ∀ (D : Ends) (H : Hp) (sa : Addr) (ns : List Int) (fi : Nat), 2 ≤ n → n ≤ 12 → (∀ k, lf k = ((1 + fi / (k + 1) % 4 : Nat) : Int)) → SqL K H sa (ns.map V.int) → ns.length ≤ 63 → (∀ H', D.rt (.bl true) H') →
      t D [some (.ref sa), some (.int (fi : Int)), some (.int (n : Int)), none, none, none, none, none, none, none, none, none, none, none, none, none, none, none, none, none, none, none] H := by
  obtain ⟨fI, fdI, mI, bI, gI⟩ := G.init
  obtain ⟨tC, hC, rC⟩ := bodyCell G hr
  obtain ⟨tT, hT, rT⟩ := bodyTurn G hr
  obtain ⟨tE, hE, rE⟩ := bodyEnd G hr
  have T := G.T
  have hr2 : Room 2 _ := hr.mono (by decide)
  have hu := hu_of hr
  refine ⟨_, pss_cons (ps_set (i := 3) scL.nd rfl (Or.inr rfl) (pe_callTy call_tuple_of (by rfl) T.tuple (by decide +kernel) (pa_cons
        (pe_lc (own := [("_law_k", 21)]) (g := gName 21) (tt := tYes) rfl scL.nd (pi_range1 rfl T.range (pa_cons (pv 2) pa_nil)) (blkOk_by (own := [("_law_k", 21)]) (N := NL) (sc := defScope sLaw) (by decide +kernel))
          (fun _ _ _ _ _ => pg_name (i := 21) scL.nd rfl (Or.inl rfl)) (fun _ _ _ _ _ => pts_nil)
          (fun _ _ _ _ _ => pe_tup (pa_cons (pv 21) (pa_cons (pe_op op_add pe_int (pe_op op_mod (pe_op op_fdiv (pv 1) (pe_op op_add (pv 21) pe_int)) pe_int)) pa_nil)))) pa_nil)))
    (pss_cons (ps_setLc (i := 5) (own := [("_law_member", 4)]) (g := gName 4) (tt := tYes) rfl scL.nd rfl rfl (sw_true rfl rfl rfl (by decide +kernel)) (pi_tup (pv 3)) (blkOk_by (own := [("_law_member", 4)]) (N := NL) (sc := defScope sLaw) (by decide +kernel))
        (fun _ _ _ _ _ => pg_name (i := 4) scL.nd rfl (Or.inl rfl)) (fun _ _ _ _ _ => pts_nil)
        (fun _ _ _ _ _ => pe_ix (ix_tupK (K := K) (by rfl)) (pv 4) pe_int (fun _ _ => rfl)))
    (pss_cons (ps_setLc (i := 6) (own := [("_law_member", 4)]) (g := gName 4) (tt := tYes) rfl scL.nd rfl rfl (sw_true rfl rfl rfl (by decide +kernel)) (pi_tup (pv 3)) (blkOk_by (own := [("_law_member", 4)]) (N := NL) (sc := defScope sLaw) (by decide +kernel))
        (fun _ _ _ _ _ => pg_name (i := 4) scL.nd rfl (Or.inl rfl)) (fun _ _ _ _ _ => pts_nil)
        (fun _ _ _ _ _ => pe_make mI gI hr2 rfl T.mgC bI .nil pass0 (pa_cons (pv 4) (pa_cons (pe_tup (pa_cons pe_int (pa_cons (pe_ix (ix_tupK (K := K) (by rfl)) (pv 3) pe_int (fun _ _ => rfl)) pa_nil))) (pa_cons (pv 3) pa_nil)))))
    (pss_cons (ps_set (i := 7) scL.nd rfl (Or.inr rfl) pe_dnewT)
    (pss_cons (ps_for PassesOwn.never rfl (pi_tup (pv 3)) (pg_name (i := 4) scL.nd rfl (Or.inl rfl)) (pss_one (ps_dput hu (pv 7) (pv 4) (pe_lst pa_nil) rfl)))
    (pss_cons (ps_set (i := 8) scL.nd rfl (Or.inl rfl) pe_dnewN)
    (pss_cons (ps_set (i := 9) scL.nd rfl (Or.inl rfl) (pe_lst pa_nil))
    (pss_cons (ps_for PassesOwn.never rfl (pi_list (pe_slice sl_list (pv 0) (po_some pe_int) po_none)) (pg_name (i := 10) scL.nd rfl (Or.inl rfl)) hC)
    (pss_cons (ps_for PassesOwn.never rfl (pi_range1 rfl T.range (pa_cons pe_int pa_nil)) (pg_name (i := 19) scL.nd rfl (Or.inl rfl)) hT)
    hE)))))))), ?_⟩
  intro D H sa ns fi n2 n12 hlf hS hns hrt
  -- members = tuple([..])
  refine ⟨_, rfl, (n : Int), rfl, by omega, by omega, fun D1 hD1 => ?_⟩
  refine lc_range (lo := 0) (n := ((n : Int)).toNat) (fun i H' => Same H H' ∧ ∃ vs, H' D1 = some (.lst vs) ∧ Paired (fun v k => IsMem lf H' v k) vs ((List.range n).take i)) ⟨Same.new hD1, [], upd_same, .nil⟩ ?_ ?_
  · rintro i H' hi ⟨sm, vs, eD, pr⟩
    have hi' : i < n := by omega
    have ekey : (0 : Int) + (i : Int) = (i : Int) := Int.zero_add _
    rw [ekey]
    refine ⟨rfl, _, rfl, _, rfl, _, rfl, _, _, rfl, rfl, _, _, rfl, rfl, ⟨by show (0 : Int) < (i : Int) + 1; omega, by show (i : Int) + 1 < 1073741824; omega⟩, _, _, rfl, rfl, (by show (0 : Int) < 4; decide), _, _, rfl, rfl, by show 2 ≤ sizeLine; decide, fun t ht => ?_⟩
    have sm2 : ∀ o, Same H' (upd H' t o) := fun o => Same.new ht
    have nDt : D1 ≠ t := ne_of_none eD ht
    refine ⟨vs, by rw [upd_ne nDt]; exact eD, ?_, ?_⟩
    · have e1 := Paired.length pr
      rw [List.length_take, List.length_range] at e1
      exact Nat.lt_of_le_of_lt (by omega : vs.length ≤ 1000) (by decide)
    · have t3 : ∀ o u, TM H' (upd (upd H' t o) D1 u) := fun o u => (TM.of (sm2 o)).trans (TM.upd (u := .lst vs) (by rw [upd_ne nDt]; exact eD) fun _ z => by cases z)
      refine ⟨fun b o e => ?_, _, upd_same, ?_⟩
      · rw [upd_ne (ne_of_none e hD1)]
        exact sm2 _ b o (sm b o e)
      · rw [take_snoc (List.getElem?_range hi')]
        refine Paired.snoc (Paired.mono (fun _ _ z => z.mono (t3 _ _)) pr) ⟨t, rfl, ?_⟩
        rw [upd_ne nDt.symm, upd_same]
        show some (HO.tup [V.int (i : Int), V.int (1 + (fi : Int) / ((i : Int) + 1) % 4)]) = some (HO.tup [V.int (i : Int), V.int (lf i)])
        have e3 : (1 + (fi : Int) / ((i : Int) + 1) % 4) = lf i := by
          rw [hlf i]
          have e4 : ((i : Int) + 1) = ((i + 1 : Nat) : Int) := by omega
          rw [e4]
          omega
        rw [e3]
  rintro H1' ⟨sm1, vs1, eD1, pr1⟩
  rw [Int.toNat_natCast, List.take_of_length_le (by rw [List.length_range]; exact Nat.le_refl _)] at pr1
  refine ⟨_, _, rfl, .inl ⟨SqL.of eD1, fun ma hma => ?_⟩⟩
  have s1 : Same H (upd H1' ma (.tup vs1)) := sm1.trans (Same.new hma)
  have mm : Mems lf n (upd H1' ma (.tup vs1)) vs1 := by
    have e1 := Paired.length pr1
    rw [List.length_range] at e1
    refine ⟨e1, fun k hk => ?_⟩
    obtain ⟨x, hx, ix⟩ := pr_get' pr1 (List.getElem?_range hk)
    exact ⟨x, hx, ix.mono (TM.of (Same.new hma))⟩
  have ema : upd H1' ma (.tup vs1) ma = some (.tup vs1) := upd_same
  have hS1 : SqL K (upd H1' ma (.tup vs1)) sa (ns.map V.int) := s1.seq hS
  clear sm1 eD1 pr1 hma s1 hD1
  generalize upd H1' ma (.tup vs1) = H1 at mm ema hS1
  -- processes = [m[0] for m in members]
  refine ⟨_, rfl, ma, rfl, ⟨_, SqT.of ema⟩, fun pa hpa => ?_⟩
  refine lc_tup (K := K) (a := ma) (xs := vs1) (fun i H' => Same H1 H' ∧ H' pa = some (.lst (((List.range n).take i).map fun k : Nat => V.int (k : Int)))) ⟨Same.new hpa, upd_same⟩ (fun i H' _ ⟨sm, _⟩ => SqT.of (sm _ _ ema)) ?_ ?_
  · rintro i x H' hx ⟨sm, eD⟩
    have hi : i < n := by rw [← mm.1]; exact (List.getElem?_eq_some_iff.mp hx).1
    obtain ⟨x', hx', ix⟩ := mm.2 i hi
    have exx : x = x' := Option.some.inj (hx.symm.trans hx')
    subst exx
    obtain ⟨xa, rfl, exa⟩ := ix
    refine ⟨rfl, _, rfl, _, _, _, _, rfl, rfl, SqT.of (sm _ _ exa), atI_nat (j := 0) rfl, _, eD, ?_, fun y o e => ?_, ?_⟩
    · rw [List.length_map, List.length_take, List.length_range]
      exact Nat.lt_of_le_of_lt (by omega : min i n ≤ 1000) (by decide)
    · rw [upd_ne (ne_of_none e hpa)]
      exact sm y o e
    · rw [upd_same, take_snoc (List.getElem?_range hi), List.map_append]
      rfl
  rintro H2 ⟨s2, epa⟩
  rw [mm.1, List.take_of_length_le (by rw [List.length_range]; exact Nat.le_refl _)] at epa
  have mm2 := mm.mono (TM.of s2)
  have ema2 := s2 _ _ ema
  have hS2 := s2.seq hS1
  clear mm ema hS1 s2 hpa
  -- orders = [Order(m, (7, members[0]), members) for m in members]
  refine ⟨_, rfl, ma, rfl, ⟨_, SqT.of ema2⟩, fun oa hoa => ?_⟩
  refine lc_tup (K := K) (a := ma) (xs := vs1) (fun i H' => ∃ ads, ads.length = i ∧ Mk6 lf n C H2 H' oa ads) ⟨[], rfl, Same.new hoa, upd_same, fun k a h => by simp at h, fun j k a b x h => by simp at h, fun x hx => by simp [Mu] at hx, by simp [Mu]⟩ (fun i H' _ ⟨_, _, M⟩ => SqT.of (M.same _ _ ema2)) ?_ ?_
  · rintro i x H' hx ⟨ads, hal, M⟩
    have hi : i < n := by rw [← mm2.1]; exact (List.getElem?_eq_some_iff.mp hx).1
    obtain ⟨x', hx', ix⟩ := mm2.2 i hi
    have exx : x = x' := Option.some.inj (hx.symm.trans hx')
    subst exx
    obtain ⟨xa, rfl, exa⟩ := ix
    obtain ⟨y, hy, iy⟩ := mm2.2 0 (by omega)
    refine ⟨rfl, _, rfl, _, rfl, _, _, _, _, rfl, rfl, SqT.of (M.same _ _ ema2), atI_nat (j := 0) hy, by show 2 ≤ sizeLine; decide, fun t ht => ?_⟩
    have sm3 : ∀ o, Same H' (upd H' t o) := fun o => Same.new ht
    refine ⟨_, rfl, fun p dx hp hdx ndx => ?_⟩
    have sm4 : ∀ o, Same H' (upd (upd (upd H' t o) dx (.own p)) p (.ins C dx [])) := fun o b u e => by
      rw [upd_ne (ne_of_none (sm3 _ _ _ e) hp), upd_ne (ne_of_none (sm3 _ _ _ e) hdx)]
      exact sm3 _ _ _ e
    have ms4 : ∀ o, Same H2 (upd (upd (upd H' t o) dx (.own p)) p (.ins C dx [])) := fun o => M.same.trans (sm4 o)
    have ntp : t ≠ p := ne_of_none upd_same hp
    have ntd : t ≠ dx := ne_of_none upd_same hdx
    have g4 : ∀ o, Gr H' (upd (upd (upd H' t o) dx (.own p)) p (.ins C dx [])) := fun o => (Gr.upd.trans Gr.upd).trans Gr.upd
    refine ⟨p, dx, xa, t, ma, i, vs1, rfl, upd_same, ms4 _ _ _ exa, hi, ⟨t, y, rfl, by rw [upd_ne ntp, upd_ne ntd, upd_same], iy.mono (TM.of (ms4 _))⟩, ms4 _ _ _ ema2, mm2.mono (TM.of (ms4 _)), fun H5 a hap hnew k5 O5 => ⟨rfl, ?_⟩⟩
    have s5 : Same H' H5 := fun b u e => k5 b u (sm4 _ _ _ e) (by
      have hb : b ≠ p := ne_of_none (sm3 (.tup []) _ _ e) (Gr.upd (o := .tup []) _ (by
        have hh := hp
        rw [upd_ne ntp.symm] at hh
        rw [upd_ne ntp.symm, upd_ne ntp.symm]
        exact hh))
      simpa using hb)
    have newH : ∀ z, z ∈ a.muts → H' z = none := fun z hz => g4 _ z (hnew z hz)
    have elst := s5 _ _ M.lst
    have nD : ¬ oa ∈ a.muts := fun hm => by
      have := newH oa hm
      rw [M.lst] at this
      cases this
    refine ⟨_, elst, ?_, ads ++ [a], by rw [List.length_append, List.length_singleton, hal], ?_, ?_, ?_, ?_, ?_, ?_⟩
    · rw [List.length_map, hal]
      exact Nat.lt_of_le_of_lt (by omega : i ≤ 1000) (by decide)
    · intro b u e
      rw [upd_ne (ne_of_none e hoa)]
      exact s5 _ _ (M.same _ _ e)
    · rw [upd_same, List.map_append, ← hap]
      rfl
    · intro k b hb
      have tm6 : TM H5 (upd H5 oa (.lst (ads.map (fun a => V.ref a.p) ++ [.ref p]))) := TM.upd elst fun _ z => by cases z
      by_cases hk : k < ads.length
      · rw [List.getElem?_append_left hk] at hb
        have O := (M.at_ k b hb).same s5
        refine O.stay tm6 (fun o e => by rw [upd_ne (ne_of O.ob elst (by intro z; cases z))]; exact e) fun z o hz e => ?_
        rw [upd_ne (fun e' => M.off (by rw [← e']; exact mem_Mu hb hz))]
        exact e
      · have hk2 : k < (ads ++ [a]).length := (List.getElem?_eq_some_iff.mp hb).1
        rw [List.length_append, List.length_singleton] at hk2
        have ek : k = ads.length := by omega
        subst ek
        rw [List.getElem?_append_right (Nat.le_refl _), Nat.sub_self] at hb
        have eb : a = b := Option.some.inj hb
        subst eb
        rw [hal]
        refine O5.stay tm6 (fun o e => by rw [upd_ne (ne_of O5.ob elst (by intro z; cases z))]; exact e) fun z o hz e => ?_
        rw [upd_ne (fun e' => nD (by rw [← e']; exact hz))]
        exact e
    · -- no two share a part
      have cross : ∀ (j : Nat) (b : OAd) (z : Addr), ads[j]? = some b → z ∈ b.muts → z ∈ a.muts → False := fun j b z hb hz hz' => by
        obtain ⟨u, eu, _⟩ := (M.at_ j b hb).mut hz
        rw [newH z hz'] at eu
        cases eu
      have look : ∀ (j : Nat) (b : OAd), (ads ++ [a])[j]? = some b → ads[j]? = some b ∨ (j = ads.length ∧ b = a) := fun j b hb => by
        by_cases hj : j < ads.length
        · rw [List.getElem?_append_left hj] at hb
          exact .inl hb
        · have hj2 : j < (ads ++ [a]).length := (List.getElem?_eq_some_iff.mp hb).1
          rw [List.length_append, List.length_singleton] at hj2
          have ej : j = ads.length := by omega
          subst ej
          rw [List.getElem?_append_right (Nat.le_refl _), Nat.sub_self] at hb
          exact .inr ⟨rfl, (Option.some.inj hb).symm⟩
      intro j k b b' z hb hb' hz hz'
      rcases look j b hb with h | ⟨h, e⟩
      · rcases look k b' hb' with h' | ⟨h', e'⟩
        · exact M.sep j k b b' z h h' hz hz'
        · subst e'
          exact (cross j b z h hz hz').elim
      · subst e
        rcases look k b' hb' with h' | ⟨h', e'⟩
        · exact (cross k b' z h' hz' hz).elim
        · rw [h, h']
    · intro z hz
      unfold Mu at hz
      rw [List.flatMap_append] at hz
      rcases List.mem_append.mp hz with h | h
      · exact M.new z h
      · have hz' : z ∈ a.muts := by simpa using h
        exact M.same.free (newH z hz')
    · intro hm
      unfold Mu at hm
      rw [List.flatMap_append] at hm
      rcases List.mem_append.mp hm with h | h
      · exact M.off h
      · exact nD (by simpa using h)
  rintro H3 ⟨ads, hal, M⟩
  rw [mm2.1] at hal
  have mm3 := mm2.mono (TM.of M.same)
  have ema3 := M.same _ _ ema2
  have hS3 := M.same.seq hS2
  have epa3 := M.same _ _ epa
  have npa : ¬ pa ∈ Mu ads := fun hm => by
    have := M.new pa hm
    rw [epa] at this
    cases this
  have npo : pa ≠ oa := ne_of_none epa hoa
  have W3 : Wd lf n C H3 oa ads (K21.st0 : K21.St Str) := ⟨hal, M.lst, fun k a h => by
    have e : cntOf (K21.st0 : K21.St Str) k = fun _ => 0 := by
      unfold cntOf
      split <;> rfl
    rw [e]
    exact M.at_ k a h, M.sep, M.off⟩
  have trk : ∀ z, z ∈ Mu ads → H3 z ≠ none := fun z hz e => by
    obtain ⟨k, a, ha, hx⟩ := of_Mu hz
    obtain ⟨u, eu, _⟩ := (W3.at_ k a ha).mut hx
    rw [e] at eu
    cases eu
  clear mm2 ema2 hS2 epa M hoa
  -- casts = {}
  intro ca hca
  have s4 : Same H3 (upd H3 ca (.dT [])) := Same.new hca
  have nca : ¬ ca ∈ Mu ads := fun hm => trk ca hm hca
  -- for member in members: casts[member] = []
  refine ⟨_, rfl, ma, rfl, ⟨_, SqT.of (s4 _ _ ema3)⟩, for_tup (K := K) (a := ma) (xs := vs1) (fun i σ H' => ∃ v4 cs kvs, σ = [some (.ref sa), some (.int (fi : Int)), some (.int (n : Int)), some (.ref ma), v4, some (.ref pa), some (.ref oa), some (.ref ca), none, none, none, none, none, none, none, none, none, none, none, none, none, none] ∧
      Same H3 H' ∧ H' ca = some (.dT kvs) ∧ Tab kvs (mk lf) (fun k => (cs[k]?).map V.ref) n ∧ cs.length = i ∧ cs.Nodup ∧ (∀ x, x ∈ cs → H3 x = none ∧ H' x = some (.lst [])))
    ⟨none, [], [], rfl, s4, upd_same, (Tab.empty _ _).congr fun k => by simp, rfl, List.nodup_nil, fun x hx => by simp at hx⟩ (fun i σ H' _ ⟨_, _, _, _, sm, _⟩ => SqT.of (sm _ _ ema3)) ?_ ?_⟩
  · rintro i x σ H' hx ⟨v4, cs, kvs, rfl, sm, eca, Tc, hcl, hnd, hcs⟩
    have hi : i < n := by rw [← mm3.1]; exact (List.getElem?_eq_some_iff.mp hx).1
    obtain ⟨x', hx', ix⟩ := mm3.2 i hi
    have exx : x = x' := Option.some.inj (hx.symm.trans hx')
    subst exx
    obtain ⟨xa, rfl, exa⟩ := ix
    refine ⟨Nat.zero_le _, fun l hl => ?_⟩
    have sl : ∀ o, Same H' (upd H' l o) := fun o => Same.new hl
    have hz : kvs.length < sizeLine := Nat.lt_of_le_of_lt (Nat.le_trans Tc.len (by omega : n ≤ 1000)) (by decide)
    refine ⟨_, rfl, _, rfl, ca, _, rfl, DPut.t (k := mk lf i) (sl _ _ _ eca) (sl _ _ _ (sm _ _ exa)) hz, ?_⟩
    have ncl : l ≠ ca := (ne_of_none eca hl).symm
    have nlc : ¬ l ∈ cs := fun hm => by
      have := (hcs l hm).2
      rw [hl] at this
      cases this
    have ecl := sl (.lst []) _ _ eca
    refine ⟨_, cs ++ [l], _, rfl, fun b o e => ?_, upd_same, (Tc.put (fun j k h => mk_inj lf h) hi (.ref l)).congr fun k => ?_, by rw [List.length_append, List.length_singleton, hcl], nd_snoc hnd nlc, fun z hz => ?_⟩
    · rw [upd_ne (fun e' => by rw [e', hca] at e; cases e)]
      exact sl _ _ _ (sm _ _ e)
    · by_cases e : k = i
      · subst e
        rw [K21.fu_same, List.getElem?_append_right (by omega), hcl, Nat.sub_self]
        rfl
      · rw [K21.fu_ne _ _ e]
        by_cases hk : k < cs.length
        · rw [List.getElem?_append_left hk]
        · rw [List.getElem?_eq_none (by omega), List.getElem?_eq_none (by rw [List.length_append, List.length_singleton]; omega)]
    · rcases List.mem_append.mp hz with h | h
      · obtain ⟨h1, h2⟩ := hcs z h
        refine ⟨h1, ?_⟩
        rw [upd_ne (ne_of h2 eca (by intro q; cases q))]
        exact sl _ _ _ h2
      · rw [List.mem_singleton.mp h]
        refine ⟨sm.free hl, ?_⟩
        rw [upd_ne ncl]
        exact upd_same
  rintro σ H4 ⟨v4, cs, kvs, rfl, s34, eca, Tc, hcl, hnd, hcs⟩
  rw [mm3.1] at hcl
  have W4 := W3.same s34
  have mm4 := mm3.mono (TM.of s34)
  have ema4 := s34 _ _ ema3
  have epa4 := s34 _ _ epa3
  have hS4 := s34.seq hS3
  -- causes = {}
  intro ua hua nua
  have nuaM : ¬ ua ∈ Mu ads := fun hm => trk ua hm (s34.free hua)
  generalize hH5 : upd H4 ua (.ext (rawN (XL P w K mg base f cdv A outer sh H0 E).prog (XL P w K mg base f cdv A outer sh H0 E).w [] ua)) = H5
  have s5 : Same H4 H5 := by
    rw [← hH5]
    exact Same.new hua
  have dn5 : DN P w lf H5 ua 0 (fun _ _ => none) := DN.new (by rw [← hH5]; exact upd_same) nua
  -- bag = []
  refine ⟨Nat.zero_le _, fun b hb => ?_⟩
  have s6 : Same H5 (upd H5 b (.lst [])) := Same.new hb
  have eb6 : upd H5 b (.lst []) b = some (.lst []) := upd_same
  have s46 := s5.trans s6
  generalize upd H5 b (.lst []) = H6 at s6 s46 eb6
  -- for cell in script[1:]
  refine ⟨_, rfl, _, rfl, sa, ns.map V.int, rfl, s46.seq hS4, fun sl hsl => ?_⟩
  have s7 : ∀ o, Same H6 (upd H6 sl o) := fun o => Same.new hsl
  obtain ⟨zs, hzs, hzl⟩ : ∃ zs : List Int, cutV (ns.map V.int) (some 1) none = zs.map V.int ∧ zs.length ≤ 63 := by
    refine ⟨(ns.drop (HT.sIx (ns.map V.int).length 0 (some 1))).take (HT.sIx (ns.map V.int).length (ns.map V.int).length none - HT.sIx (ns.map V.int).length 0 (some 1)), ?_, ?_⟩
    · unfold cutV
      rw [List.map_take, List.map_drop]
    · rw [List.length_take, List.length_drop]
      omega
  rw [hzs]
  have s47 := s46.trans (s7 (.lst (zs.map V.int)))
  have W7 := W4.same s47
  obtain ⟨ux, eux, _⟩ := id dn5
  have L7 : LW P w lf n C ⟨oa, ma, pa, ca, ua, sl, sa, ads, cs, vs1, zs⟩ (upd H6 sl (.lst (zs.map V.int))) (K21.st0 : K21.St Str) 0 b [] [] := by
    have trk4 : ∀ z, z ∈ Mu ads → H4 z ≠ none := fun z hz e => trk z hz (s34.free e)
    have ncs : ∀ x, x ∈ cs → ¬ x ∈ Mu ads := fun x hx hm => trk x hm (hcs x hx).1
    have nslM : ¬ sl ∈ Mu ads := fun hm => trk4 sl hm (s46.free hsl)
    have nbM : ¬ b ∈ Mu ads := fun hm => trk4 b hm (s5.free hb)
    refine ⟨⟨W7, ⟨s47 _ _ ema4, mm4.mono (TM.of s47), s47 _ _ epa4, ⟨kvs, s47 _ _ eca, Tc⟩, hcl, fun k x hx => s47 _ _ (hcs x (List.mem_of_getElem? hx)).2, hnd, ⟨_, dn5.mono (TM.of (s6.trans (s7 _))) (fun o e => s7 _ _ _ (s6 _ _ e)), fun k i _ h1 h2 => absurd (Nat.le_trans h1 h2) (by show ¬ 1 ≤ 0; decide)⟩, upd_same, fun x hx => ?_, fun x hx => ⟨fun e => ?_, fun e => ?_, fun e => ?_⟩⟩, K21.ok0 n, n2, n12⟩, s7 _ _ _ eb6, .nil, fun q hq => by simp at hq, nbM, fun e => ?_, fun hf => ?_⟩
    · simp only [Fx.fix, List.mem_cons] at hx
      rcases hx with rfl | rfl | rfl | rfl | hx
      · exact npa
      · exact nca
      · exact nuaM
      · exact nslM
      · exact ncs x hx
    · have := (hcs x hx).1
      rw [e] at this
      rw [show H3 oa = some _ from W3.lst] at this
      cases this
    · have := (hcs x hx).1
      rw [e, epa3] at this
      cases this
    · have := s46 _ _ (hcs x hx).2
      rw [e, hsl] at this
      cases this
    · have := s5 _ _ W4.lst
      rw [show b = oa from e] at hb
      rw [hb] at this
      cases this
    · simp only [Fx.fix, List.mem_cons] at hf
      rcases hf with e | e | e | e | hf
      · rw [e] at hb
        rw [s5 _ _ epa4] at hb
        cases hb
      · rw [e] at hb
        rw [s5 _ _ eca] at hb
        cases hb
      · rw [e] at hb
        rw [eux] at hb
        cases hb
      · rw [e] at eb6
        rw [hsl] at eb6
        cases eb6
      · rw [s5 _ _ (hcs b hf).2] at hb
        cases hb
  refine ⟨sl, rfl, ⟨_, SqL.of upd_same⟩, for_list (K := K) (a := sl) (xs := zs.map V.int) (fun i σ H' => Pst P w lf n C ⟨oa, ma, pa, ca, ua, sl, sa, ads, cs, vs1, zs⟩ 60 i σ H')
    ⟨b, _, _, _, _, _, _, _, _, _, _, _, _, _, _, _, [], [], _, rfl, L7, Nat.zero_le _⟩ (fun i σ H' _ hP => ?_) ?_ ?_⟩
  · obtain ⟨b', u1, u2, u4, u10, u11, u12, u13, u14, u15, u16, u17, u18, u19, u20, u21, bv', qs', s', rfl, L', hl⟩ := hP
    exact SqL.of L'.T.R.sl
  · rintro i x σ H' hx ⟨b', u1, u2, u4, u10, u11, u12, u13, u14, u15, u16, u17, u18, u19, u20, u21, bv', qs', s', rfl, L', hl⟩
    have hi : i < zs.length := by
      have := (List.getElem?_eq_some_iff.mp hx).1
      rw [List.length_map] at this
      exact this
    rw [List.getElem?_map] at hx
    obtain ⟨z, hz, rfl⟩ := Option.map_eq_some_iff.mp hx
    exact rC _ _ H' s' i b' bv' qs' u1 u2 u4 z u11 u12 u13 u14 u15 u16 u17 u18 u19 u20 u21 L' hl (by omega) fun σ' H'' hP => hP
  · rintro σ H' ⟨b', u1, u2, u4, u10, u11, u12, u13, u14, u15, u16, u17, u18, u19, u20, u21, bv', qs', s', rfl, L', hl⟩
    -- for turn in range(7)
    refine ⟨7, rfl, by decide, by decide, ?_⟩
    refine for_range (lo := 0) (n := (7 : Int).toNat) (fun i σ H'' => Ptn P w lf n C ⟨oa, ma, pa, ca, ua, sl, sa, ads, cs, vs1, zs⟩ i (zs.map V.int).length σ H'')
      ⟨b', _, _, _, _, _, _, _, _, _, _, _, _, _, _, _, s', rfl, L'.T, K21.far0 n s'⟩ ?_ ?_
    · rintro i σ H'' hi ⟨b2, w1, w2, w4, w10, w11, w12, w13, w14, w15, w16, w17, w18, w19, w20, w21, s2, rfl, L2, F2⟩
      exact rT _ _ H'' s2 _ i b2 w1 w2 w4 w10 w11 w12 w13 w14 w15 w16 w17 w18 _ w20 w21 L2 F2 fun σ' H3' hP => hP
    · rintro σ H'' ⟨b2, w1, w2, w4, w10, w11, w12, w13, w14, w15, w16, w17, w18, w19, w20, w21, s2, rfl, L2, F2⟩
      exact rE _ _ H'' s2 _ b2 w1 w2 w4 w10 w11 w12 w13 w14 w15 w16 w17 w18 w19 w20 w21 L2 F2 hrt
end
end KW

/-! The law as a def; all defs as the top has made them; the end. -/
namespace KW
open PySem L2
open K21 (Msg Let Pkt lastIx fu)
section
variable {P : Program} {w : World} {K : PySem.W.Frag} {mg : Str → Option Value} {base : Heap} {C : Addr}
theorem ok_law {f : Addr} {fd : FuncData} (F : Fun K "law" "law" sLaw f fd) (G : ∀ lf n, Ev P w K mg base lf n C) : FnOk P w K mg base CX0 7 f fd ["_law_script"] (spLaw K) := by
  refine F.ok scL (fun vs H Q E h => ?_) (fun cdv A outer s H vs Q E hr h => ?_)
  · obtain ⟨a, ns, rfl, _⟩ := h
    rfl
  · obtain ⟨a, ns, rfl, hS, hns, q⟩ := h
    obtain ⟨fi, hfi⟩ : ∃ fi : Nat, fi = (ns.getD 0 0).natAbs := ⟨_, rfl⟩
    obtain ⟨n, hn⟩ : ∃ n : Nat, n = if fi / 4 % 8 = 7 then 2 + fi / 32 % 11 else 2 + fi % 4 := ⟨_, rfl⟩
    obtain ⟨lf, hlf⟩ : ∃ lf : Nat → Int, ∀ k, lf k = ((1 + fi / (k + 1) % 4 : Nat) : Int) := ⟨_, fun _ => rfl⟩
    have n2 : 2 ≤ n := by
      rw [hn]
      split <;> omega
    have n12 : n ≤ 12 := by
      rw [hn]
      split <;> omega
    obtain ⟨tM, hM, rM⟩ := bodyMain (G lf n) (f := f) (cdv := cdv) (A := A) (outer := outer) (sh := s) (H0 := H) (E := E) hr
    have T := (G lf n).T
    obtain ⟨fC, fdC, dC, gC⟩ := (G lf n).cell
    have hr1 : Room 1 _ := hr.mono (by decide)
    refine ⟨_, pss_cons (ps_set (i := 1) scL.nd rfl (Or.inr rfl) (pe_callB call_abs (by rfl) T.abs (by decide +kernel) (pa_cons (pe_callTy call_int1 (by rfl) T.int (by decide +kernel) (pa_cons (pe_call gC hr1 (by rfl) dC.g dC.F.kp dC.b .nil pass0 (pa_cons (pv 0) (pa_cons pe_int pa_nil))) pa_nil)) pa_nil)))
      (pss_cons (ps_set (i := 2) scL.nd rfl (Or.inl rfl) (pe_op op_add pe_int (pe_op op_mod (pv 1) pe_int)))
      (pss_cons (ps_if (pt_cmpR op_eq (pe_op op_mod (pe_op op_fdiv (pv 1) pe_int) pe_int) pe_int (nomark _)) (pss_one (ps_set (i := 2) scL.nd rfl (Or.inl rfl) (pe_op op_add pe_int (pe_op op_mod (pe_op op_fdiv (pv 1) pe_int) pe_int)))) pss_nil)
      hM)), ?_⟩
    refine ⟨_, rfl, a, ns, 0, rfl, hS, .inl ⟨_, rfl, _, rfl, ?_⟩⟩
    have ez : (if ns.getD 0 0 < 0 then -(ns.getD 0 0) else ns.getD 0 0) = (fi : Int) := by
      rw [hfi]
      split <;> omega
    rw [ez]
    refine ⟨_, rfl, _, _, rfl, rfl, (by show (0 : Int) < 4; decide), _, _, rfl, rfl, ?_⟩
    refine ⟨_, rfl, _, _, rfl, rfl, ⟨by decide, by decide⟩, _, _, rfl, rfl, (by show (0 : Int) < 8; decide), rfl, _, rfl, ?_⟩
    refine ite2 (fun hc => ?_) (fun hc => ?_)
    · have hc := V.int.inj (of_decide_eq_true hc)
      refine ⟨_, rfl, _, _, rfl, rfl, ⟨by decide, by decide⟩, _, _, rfl, rfl, (by show (0 : Int) < 11; decide), _, _, rfl, rfl, ?_⟩
      have e : (2 + (fi : Int) / 32 % 11) = (n : Int) := by
        rw [hn, if_pos (by omega)]
        omega
      show tM { nx := fun _ H' => Q .non H', rt := Q } [some (.ref a), some (.int (fi : Int)), some (.int (2 + (fi : Int) / 32 % 11)), none, none, none, none, none, none, none, none, none, none, none, none, none, none, none, none, none, none, none] H
      rw [e]
      exact rM _ H a ns fi n2 n12 hlf hS hns q
    · have hc : ¬ ((fi : Int) / 4 % 8 = 7) := fun z => hc (decide_eq_true (by show V.int ((fi : Int) / 4 % 8) = V.int 7; rw [z]))
      have e : (2 + (fi : Int) % 4) = (n : Int) := by
        rw [hn, if_neg (by omega)]
        omega
      show tM { nx := fun _ H' => Q .non H', rt := Q } [some (.ref a), some (.int (fi : Int)), some (.int (2 + (fi : Int) % 4)), none, none, none, none, none, none, none, none, none, none, none, none, none, none, none, none, none, none, none] H
      rw [e]
      exact rM _ H a ns fi n2 n12 hlf hS hns q
end

theorem all_mk {l : PySem.W.OpenLaw} {w : World} {K : PySem.W.Frag} {h : Heap} {mg : Str → Option Value} {fa C f1 f2 f3 f4 f5 f6 f7 f8 f9 f10 f11 f12 f13 f14 f15 f16 f17 f18 f19 f20 f21 f22 f23 : Addr} {tw : Tok} (X : K.In h) (G : h.Ns mainGlobals mg) (hfa : mg "law" = some (.ref fa))
    {od1 an1 od2 an2 od3 an3 od4 an4 od5 an5 od6 an6 od7 an7 od8 an8 od9 an9 od10 an10 od11 an11 od12 an12 od13 an13 od14 an14 od15 an15 od16 an16 od17 an17 od18 an18 od19 an19 od20 an20 od21 an21 od22 an22 od23 an23 : Option Addr} {sl1 sl2 sl3 sl4 sl5 sl6 sl7 sl8 sl9 sl10 sl11 sl12 sl13 sl14 sl15 sl16 sl17 sl18 sl19 sl20 sl21 sl22 sl23 : Array (Option Value)} {oc1 kV1 dc1 pm1 cd1 ct1 oc2 kV2 dc2 pm2 cd2 ct2 oc3 kV3 dc3 pm3 cd3 ct3 oc4 kV4 dc4 pm4 cd4 ct4 oc5 kV5 dc5 pm5 cd5 ct5 oc6 kV6 dc6 pm6 cd6 ct6 oc7 kV7 dc7 pm7 cd7 ct7 oc8 kV8 dc8 pm8 cd8 ct8 oc9 kV9 dc9 pm9 cd9 ct9 oc10 kV10 dc10 pm10 cd10 ct10 oc11 kV11 dc11 pm11 cd11 ct11 oc12 kV12 dc12 pm12 cd12 ct12 oc13 kV13 dc13 pm13 cd13 ct13 oc14 kV14 dc14 pm14 cd14 ct14 oc15 kV15 dc15 pm15 cd15 ct15 oc16 kV16 dc16 pm16 cd16 ct16 oc17 kV17 dc17 pm17 cd17 ct17 oc18 kV18 dc18 pm18 cd18 ct18 oc19 kV19 dc19 pm19 cd19 ct19 oc20 kV20 dc20 pm20 cd20 ct20 oc21 kV21 dc21 pm21 cd21 ct21 oc22 kV22 dc22 pm22 cd22 ct22 oc23 kV23 dc23 pm23 cd23 ct23 : Value}
    (aC : PySem.W.nsIn K mainGlobals "Order" = some (some (.ref C)))
    (a1 : PySem.W.findIn K (.ref C) "__init__" = some (some (.ref f1))) (i1 : PySem.W.isFn K (.ref f1) = true) (l1 : K.lookup f1 = some ⟨oc1, od1, .func (PySem.W.fnOf "__init__" "Order.__init__" (defArgs sInit) (defBody sInit) (defScope sInit) .none kV1 dc1 pm1 an1 cd1 ct1), sl1⟩) (c1 : PySem.W.codeIn K cd1 "Order.__init__" = true) (k1 : PySem.W.keepIn K (.ref f1) = true)
    (a2 : PySem.W.findIn K (.ref C) "cast" = some (some (.ref f2))) (i2 : PySem.W.isFn K (.ref f2) = true) (l2 : K.lookup f2 = some ⟨oc2, od2, .func (PySem.W.fnOf "cast" "Order.cast" (defArgs sCast) (defBody sCast) (defScope sCast) .none kV2 dc2 pm2 an2 cd2 ct2), sl2⟩) (c2 : PySem.W.codeIn K cd2 "Order.cast" = true) (k2 : PySem.W.keepIn K (.ref f2) = true)
    (a3 : PySem.W.findIn K (.ref C) "take" = some (some (.ref f3))) (i3 : PySem.W.isFn K (.ref f3) = true) (l3 : K.lookup f3 = some ⟨oc3, od3, .func (PySem.W.fnOf "take" "Order.take" (defArgs sTake) (defBody sTake) (defScope sTake) .none kV3 dc3 pm3 an3 cd3 ct3), sl3⟩) (c3 : PySem.W.codeIn K cd3 "Order.take" = true) (k3 : PySem.W.keepIn K (.ref f3) = true)
    (a4 : PySem.W.findIn K (.ref C) "heard" = some (some (.ref f4))) (i4 : PySem.W.isFn K (.ref f4) = true) (l4 : K.lookup f4 = some ⟨oc4, od4, .func (PySem.W.fnOf "heard" "Order.heard" (defArgs sHeard) (defBody sHeard) (defScope sHeard) .none kV4 dc4 pm4 an4 cd4 ct4), sl4⟩) (c4 : PySem.W.codeIn K cd4 "Order.heard" = true) (k4 : PySem.W.keepIn K (.ref f4) = true)
    (a5 : PySem.W.findIn K (.ref C) "again" = some (some (.ref f5))) (i5 : PySem.W.isFn K (.ref f5) = true) (l5 : K.lookup f5 = some ⟨oc5, od5, .func (PySem.W.fnOf "again" "Order.again" (defArgs sAgain) (defBody sAgain) (defScope sAgain) .none kV5 dc5 pm5 an5 cd5 ct5), sl5⟩) (c5 : PySem.W.codeIn K cd5 "Order.again" = true) (k5 : PySem.W.keepIn K (.ref f5) = true)
    (a6 : PySem.W.findIn K (.ref C) "log" = some (some (.ref f6))) (i6 : PySem.W.isFn K (.ref f6) = true) (l6 : K.lookup f6 = some ⟨oc6, od6, .func (PySem.W.fnOf "log" "Order.log" (defArgs sLog) (defBody sLog) (defScope sLog) .none kV6 dc6 pm6 an6 cd6 ct6), sl6⟩) (c6 : PySem.W.codeIn K cd6 "Order.log" = true) (k6 : PySem.W.keepIn K (.ref f6) = true)
    (a7 : PySem.W.findIn K (.ref C) "pending" = some (some (.ref f7))) (i7 : PySem.W.isFn K (.ref f7) = true) (l7 : K.lookup f7 = some ⟨oc7, od7, .func (PySem.W.fnOf "pending" "Order.pending" (defArgs sPending) (defBody sPending) (defScope sPending) .none kV7 dc7 pm7 an7 cd7 ct7), sl7⟩) (c7 : PySem.W.codeIn K cd7 "Order.pending" = true) (k7 : PySem.W.keepIn K (.ref f7) = true)
    (a8 : PySem.W.findIn K (.ref C) "_founder" = some (some (.ref f8))) (i8 : PySem.W.isFn K (.ref f8) = true) (l8 : K.lookup f8 = some ⟨oc8, od8, .func (PySem.W.fnOf "_founder" "Order._founder" (defArgs sFounder) (defBody sFounder) (defScope sFounder) .none kV8 dc8 pm8 an8 cd8 ct8), sl8⟩) (c8 : PySem.W.codeIn K cd8 "Order._founder" = true) (k8 : PySem.W.keepIn K (.ref f8) = true)
    (a9 : PySem.W.findIn K (.ref C) "_leads" = some (some (.ref f9))) (i9 : PySem.W.isFn K (.ref f9) = true) (l9 : K.lookup f9 = some ⟨oc9, od9, .func (PySem.W.fnOf "_leads" "Order._leads" (defArgs sLeads) (defBody sLeads) (defScope sLeads) .none kV9 dc9 pm9 an9 cd9 ct9), sl9⟩) (c9 : PySem.W.codeIn K cd9 "Order._leads" = true) (k9 : PySem.W.keepIn K (.ref f9) = true)
    (a10 : PySem.W.findIn K (.ref C) "_cast_letter" = some (some (.ref f10))) (i10 : PySem.W.isFn K (.ref f10) = true) (l10 : K.lookup f10 = some ⟨oc10, od10, .func (PySem.W.fnOf "_cast_letter" "Order._cast_letter" (defArgs sCastL) (defBody sCastL) (defScope sCastL) .none kV10 dc10 pm10 an10 cd10 ct10), sl10⟩) (c10 : PySem.W.codeIn K cd10 "Order._cast_letter" = true) (k10 : PySem.W.keepIn K (.ref f10) = true)
    (a11 : PySem.W.findIn K (.ref C) "_order_letter" = some (some (.ref f11))) (i11 : PySem.W.isFn K (.ref f11) = true) (l11 : K.lookup f11 = some ⟨oc11, od11, .func (PySem.W.fnOf "_order_letter" "Order._order_letter" (defArgs sOrdL) (defBody sOrdL) (defScope sOrdL) .none kV11 dc11 pm11 an11 cd11 ct11), sl11⟩) (c11 : PySem.W.codeIn K cd11 "Order._order_letter" = true) (k11 : PySem.W.keepIn K (.ref f11) = true)
    (a12 : PySem.W.findIn K (.ref C) "_deliver" = some (some (.ref f12))) (i12 : PySem.W.isFn K (.ref f12) = true) (l12 : K.lookup f12 = some ⟨oc12, od12, .func (PySem.W.fnOf "_deliver" "Order._deliver" (defArgs sDeliver) (defBody sDeliver) (defScope sDeliver) .none kV12 dc12 pm12 an12 cd12 ct12), sl12⟩) (c12 : PySem.W.codeIn K cd12 "Order._deliver" = true) (k12 : PySem.W.keepIn K (.ref f12) = true)
    (a13 : PySem.W.findIn K (.ref C) "_append" = some (some (.ref f13))) (i13 : PySem.W.isFn K (.ref f13) = true) (l13 : K.lookup f13 = some ⟨oc13, od13, .func (PySem.W.fnOf "_append" "Order._append" (defArgs sAppend) (defBody sAppend) (defScope sAppend) .none kV13 dc13 pm13 an13 cd13 ct13), sl13⟩) (c13 : PySem.W.codeIn K cd13 "Order._append" = true) (k13 : PySem.W.keepIn K (.ref f13) = true)
    (a14 : PySem.W.findIn K (.ref C) "_take_cast" = some (some (.ref f14))) (i14 : PySem.W.isFn K (.ref f14) = true) (l14 : K.lookup f14 = some ⟨oc14, od14, .func (PySem.W.fnOf "_take_cast" "Order._take_cast" (defArgs sTakeCast) (defBody sTakeCast) (defScope sTakeCast) .none kV14 dc14 pm14 an14 cd14 ct14), sl14⟩) (c14 : PySem.W.codeIn K cd14 "Order._take_cast" = true) (k14 : PySem.W.keepIn K (.ref f14) = true)
    (a15 : PySem.W.findIn K (.ref C) "_take_order" = some (some (.ref f15))) (i15 : PySem.W.isFn K (.ref f15) = true) (l15 : K.lookup f15 = some ⟨oc15, od15, .func (PySem.W.fnOf "_take_order" "Order._take_order" (defArgs sTakeOrd) (defBody sTakeOrd) (defScope sTakeOrd) .none kV15 dc15 pm15 an15 cd15 ct15), sl15⟩) (c15 : PySem.W.codeIn K cd15 "Order._take_order" = true) (k15 : PySem.W.keepIn K (.ref f15) = true)
    (a16 : PySem.W.nsIn K mainGlobals "_law_cell" = some (some (.ref f16))) (l16 : K.lookup f16 = some ⟨oc16, od16, .func (PySem.W.fnOf "_law_cell" "_law_cell" (defArgs sCell) (defBody sCell) (defScope sCell) .none kV16 dc16 pm16 an16 cd16 ct16), sl16⟩) (c16 : PySem.W.codeIn K cd16 "_law_cell" = true) (k16 : PySem.W.keepIn K (.ref f16) = true)
    (a17 : PySem.W.nsIn K mainGlobals "_law_payload" = some (some (.ref f17))) (l17 : K.lookup f17 = some ⟨oc17, od17, .func (PySem.W.fnOf "_law_payload" "_law_payload" (defArgs sPayload) (defBody sPayload) (defScope sPayload) .none kV17 dc17 pm17 an17 cd17 ct17), sl17⟩) (c17 : PySem.W.codeIn K cd17 "_law_payload" = true) (k17 : PySem.W.keepIn K (.ref f17) = true)
    (a18 : PySem.W.nsIn K mainGlobals "_law_prefixes" = some (some (.ref f18))) (l18 : K.lookup f18 = some ⟨oc18, od18, .func (PySem.W.fnOf "_law_prefixes" "_law_prefixes" (defArgs sPrefixes) (defBody sPrefixes) (defScope sPrefixes) .none kV18 dc18 pm18 an18 cd18 ct18), sl18⟩) (c18 : PySem.W.codeIn K cd18 "_law_prefixes" = true) (k18 : PySem.W.keepIn K (.ref f18) = true)
    (a19 : PySem.W.nsIn K mainGlobals "_law_sound" = some (some (.ref f19))) (l19 : K.lookup f19 = some ⟨oc19, od19, .func (PySem.W.fnOf "_law_sound" "_law_sound" (defArgs sSound) (defBody sSound) (defScope sSound) .none kV19 dc19 pm19 an19 cd19 ct19), sl19⟩) (c19 : PySem.W.codeIn K cd19 "_law_sound" = true) (k19 : PySem.W.keepIn K (.ref f19) = true)
    (a20 : PySem.W.nsIn K mainGlobals "_law_post" = some (some (.ref f20))) (l20 : K.lookup f20 = some ⟨oc20, od20, .func (PySem.W.fnOf "_law_post" "_law_post" (defArgs sPost) (defBody sPost) (defScope sPost) .none kV20 dc20 pm20 an20 cd20 ct20), sl20⟩) (c20 : PySem.W.codeIn K cd20 "_law_post" = true) (k20 : PySem.W.keepIn K (.ref f20) = true)
    (a21 : PySem.W.nsIn K mainGlobals "_law_hand" = some (some (.ref f21))) (l21 : K.lookup f21 = some ⟨oc21, od21, .func (PySem.W.fnOf "_law_hand" "_law_hand" (defArgs sHand) (defBody sHand) (defScope sHand) .none kV21 dc21 pm21 an21 cd21 ct21), sl21⟩) (c21 : PySem.W.codeIn K cd21 "_law_hand" = true) (k21 : PySem.W.keepIn K (.ref f21) = true)
    (a22 : PySem.W.nsIn K mainGlobals "_law_told" = some (some (.ref f22))) (l22 : K.lookup f22 = some ⟨oc22, od22, .func (PySem.W.fnOf "_law_told" "_law_told" (defArgs sTold) (defBody sTold) (defScope sTold) .none kV22 dc22 pm22 an22 cd22 ct22), sl22⟩) (c22 : PySem.W.codeIn K cd22 "_law_told" = true) (k22 : PySem.W.keepIn K (.ref f22) = true)
    (a23 : PySem.W.nsIn K mainGlobals "law" = some (some (.ref f23))) (l23 : K.lookup f23 = some ⟨oc23, od23, .func (PySem.W.fnOf "law" "law" (defArgs sLaw) (defBody sLaw) (defScope sLaw) .none kV23 dc23 pm23 an23 cd23 ct23), sl23⟩) (c23 : PySem.W.codeIn K cd23 "law" = true) (k23 : PySem.W.keepIn K (.ref f23) = true)
    (pg : PySem.W.plainGet K C Str.empty = true) (hd : PySem.W.hasDictIn K C = true) (po : PySem.W.plainOver K C = true) (sa : PySem.W.findIn K (.ref C) "__setattr__" = some (some (.builtin "object.__setattr__"))) (mk : PySem.W.makesIn K C = true) (kc : PySem.W.keepIn K (.ref C) = true)
    (n1 : PySem.W.findIn K (.ref C) "_me" = some none) (n2 : PySem.W.findIn K (.ref C) "_id" = some none) (n3 : PySem.W.findIn K (.ref C) "_members" = some none) (n4 : PySem.W.findIn K (.ref C) "_log" = some none) (n5 : PySem.W.findIn K (.ref C) "_early" = some none) (n6 : PySem.W.findIn K (.ref C) "_own" = some none) (n7 : PySem.W.findIn K (.ref C) "_last" = some none) (n8 : PySem.W.findIn K (.ref C) "_counts" = some none)
    (wi : PySem.W.nsIn K mainGlobals "WINDOW" = some (some (.int 16 tw)))
    (z1 : PySem.W.nsIn K mainGlobals "len" = some none) (z2 : PySem.W.nsIn K mainGlobals "max" = some none) (z3 : PySem.W.nsIn K mainGlobals "min" = some none) (z4 : PySem.W.nsIn K mainGlobals "range" = some none) (z5 : PySem.W.nsIn K mainGlobals "tuple" = some none) (z6 : PySem.W.nsIn K mainGlobals "abs" = some none) (z7 : PySem.W.nsIn K mainGlobals "int" = some none) (z8 : PySem.W.nsIn K mainGlobals "sum" = some none) :
    ∃ fd : FuncData, (∀ (s : Shared) (v : Value), BindsTo s fd ⟨[v], []⟩ [("_law_script", v)]) ∧ ∀ base : Heap, K.In base → base.Ns mainGlobals mg → FnOk l.prog w K mg base CX0 7 fa fd ["_law_script"] (spLaw K) := by
  have e := hfa.symm.trans (PySem.W.mg_of X G a23)
  cases e
  have T : Txt K mg C := ⟨⟨pg, hd, po, sa⟩, n1, n2, n3, n4, n5, n6, n7, n8, PySem.W.mg_of X G aC, ⟨tw, PySem.W.mg_of X G wi⟩, PySem.W.mg_none_of X G z1, PySem.W.mg_none_of X G z2, PySem.W.mg_none_of X G z3, PySem.W.mg_none_of X G z4, PySem.W.mg_none_of X G z5, PySem.W.mg_none_of X G z6, PySem.W.mg_none_of X G z7, PySem.W.mg_none_of X G z8⟩
  have F1 := fun_mk (st := sInit) l1 c1 k1
  have b1 := F1.binds (ps := ["self", "me", "view_id", "members"]) fun _ _ _ _ _ _ us hl => match us, hl with | [_, _, _, _], _ => rfl
  have F2 := fun_mk (st := sCast) l2 c2 k2
  have b2 := F2.binds (ps := ["self", "payload"]) fun _ _ _ _ _ _ us hl => match us, hl with | [_, _], _ => rfl
  have F3 := fun_mk (st := sTake) l3 c3 k3
  have b3 := F3.binds (ps := ["self", "letter"]) fun _ _ _ _ _ _ us hl => match us, hl with | [_, _], _ => rfl
  have F4 := fun_mk (st := sHeard) l4 c4 k4
  have b4 := F4.binds (ps := ["self", "member", "count"]) fun _ _ _ _ _ _ us hl => match us, hl with | [_, _, _], _ => rfl
  have F5 := fun_mk (st := sAgain) l5 c5 k5
  have b5 := F5.binds (ps := ["self"]) fun _ _ _ _ _ _ us hl => match us, hl with | [_], _ => rfl
  have F6 := fun_mk (st := sLog) l6 c6 k6
  have b6 := F6.binds (ps := ["self"]) fun _ _ _ _ _ _ us hl => match us, hl with | [_], _ => rfl
  have F7 := fun_mk (st := sPending) l7 c7 k7
  have b7 := F7.binds (ps := ["self"]) fun _ _ _ _ _ _ us hl => match us, hl with | [_], _ => rfl
  have F8 := fun_mk (st := sFounder) l8 c8 k8
  have b8 := F8.binds (ps := ["self"]) fun _ _ _ _ _ _ us hl => match us, hl with | [_], _ => rfl
  have F9 := fun_mk (st := sLeads) l9 c9 k9
  have b9 := F9.binds (ps := ["self"]) fun _ _ _ _ _ _ us hl => match us, hl with | [_], _ => rfl
  have F10 := fun_mk (st := sCastL) l10 c10 k10
  have b10 := F10.binds (ps := ["self", "index"]) fun _ _ _ _ _ _ us hl => match us, hl with | [_, _], _ => rfl
  have F11 := fun_mk (st := sOrdL) l11 c11 k11
  have b11 := F11.binds (ps := ["self", "place"]) fun _ _ _ _ _ _ us hl => match us, hl with | [_, _], _ => rfl
  have F12 := fun_mk (st := sDeliver) l12 c12 k12
  have b12 := F12.binds (ps := ["self", "message"]) fun _ _ _ _ _ _ us hl => match us, hl with | [_, _], _ => rfl
  have F13 := fun_mk (st := sAppend) l13 c13 k13
  have b13 := F13.binds (ps := ["self", "message"]) fun _ _ _ _ _ _ us hl => match us, hl with | [_, _], _ => rfl
  have F14 := fun_mk (st := sTakeCast) l14 c14 k14
  have b14 := F14.binds (ps := ["self", "sender", "index", "payload"]) fun _ _ _ _ _ _ us hl => match us, hl with | [_, _, _, _], _ => rfl
  have F15 := fun_mk (st := sTakeOrd) l15 c15 k15
  have b15 := F15.binds (ps := ["self", "sender", "place", "message"]) fun _ _ _ _ _ _ us hl => match us, hl with | [_, _, _, _], _ => rfl
  have F16 := fun_mk (st := sCell) l16 c16 k16
  have b16 := F16.binds (ps := ["_law_script", "_law_k"]) fun _ _ _ _ _ _ us hl => match us, hl with | [_, _], _ => rfl
  have F17 := fun_mk (st := sPayload) l17 c17 k17
  have b17 := F17.binds (ps := ["_law_cell_here"]) fun _ _ _ _ _ _ us hl => match us, hl with | [_], _ => rfl
  have F18 := fun_mk (st := sPrefixes) l18 c18 k18
  have b18 := F18.binds (ps := ["_law_orders"]) fun _ _ _ _ _ _ us hl => match us, hl with | [_], _ => rfl
  have F19 := fun_mk (st := sSound) l19 c19 k19
  have b19 := F19.binds (ps := ["_law_log", "_law_members", "_law_casts", "_law_causes"]) fun _ _ _ _ _ _ us hl => match us, hl with | [_, _, _, _], _ => rfl
  have F20 := fun_mk (st := sPost) l20 c20 k20
  have b20 := F20.binds (ps := ["_law_bag", "_law_letters"]) fun _ _ _ _ _ _ us hl => match us, hl with | [_, _], _ => rfl
  have F21 := fun_mk (st := sHand) l21 c21 k21
  have b21 := F21.binds (ps := ["_law_orders", "_law_processes", "_law_bag", "_law_letter"]) fun _ _ _ _ _ _ us hl => match us, hl with | [_, _, _, _], _ => rfl
  have F22 := fun_mk (st := sTold) l22 c22 k22
  have b22 := F22.binds (ps := ["_law_orders", "_law_members"]) fun _ _ _ _ _ _ us hl => match us, hl with | [_, _], _ => rfl
  have F23 := fun_mk (st := sLaw) l23 c23 k23
  have M1 : Mt K C sInit "__init__" "Order.__init__" ["self", "me", "view_id", "members"] f1 _ := ⟨F1, b1, ⟨a1, i1, k1⟩⟩
  have M2 : Mt K C sCast "cast" "Order.cast" ["self", "payload"] f2 _ := ⟨F2, b2, ⟨a2, i2, k2⟩⟩
  have M3 : Mt K C sTake "take" "Order.take" ["self", "letter"] f3 _ := ⟨F3, b3, ⟨a3, i3, k3⟩⟩
  have M4 : Mt K C sHeard "heard" "Order.heard" ["self", "member", "count"] f4 _ := ⟨F4, b4, ⟨a4, i4, k4⟩⟩
  have M5 : Mt K C sAgain "again" "Order.again" ["self"] f5 _ := ⟨F5, b5, ⟨a5, i5, k5⟩⟩
  have M6 : Mt K C sLog "log" "Order.log" ["self"] f6 _ := ⟨F6, b6, ⟨a6, i6, k6⟩⟩
  have M7 : Mt K C sPending "pending" "Order.pending" ["self"] f7 _ := ⟨F7, b7, ⟨a7, i7, k7⟩⟩
  have M8 : Mt K C sFounder "_founder" "Order._founder" ["self"] f8 _ := ⟨F8, b8, ⟨a8, i8, k8⟩⟩
  have M9 : Mt K C sLeads "_leads" "Order._leads" ["self"] f9 _ := ⟨F9, b9, ⟨a9, i9, k9⟩⟩
  have M10 : Mt K C sCastL "_cast_letter" "Order._cast_letter" ["self", "index"] f10 _ := ⟨F10, b10, ⟨a10, i10, k10⟩⟩
  have M11 : Mt K C sOrdL "_order_letter" "Order._order_letter" ["self", "place"] f11 _ := ⟨F11, b11, ⟨a11, i11, k11⟩⟩
  have M12 : Mt K C sDeliver "_deliver" "Order._deliver" ["self", "message"] f12 _ := ⟨F12, b12, ⟨a12, i12, k12⟩⟩
  have M13 : Mt K C sAppend "_append" "Order._append" ["self", "message"] f13 _ := ⟨F13, b13, ⟨a13, i13, k13⟩⟩
  have M14 : Mt K C sTakeCast "_take_cast" "Order._take_cast" ["self", "sender", "index", "payload"] f14 _ := ⟨F14, b14, ⟨a14, i14, k14⟩⟩
  have M15 : Mt K C sTakeOrd "_take_order" "Order._take_order" ["self", "sender", "place", "message"] f15 _ := ⟨F15, b15, ⟨a15, i15, k15⟩⟩
  have M16 : Df K mg sCell "_law_cell" ["_law_script", "_law_k"] f16 _ := ⟨F16, b16, PySem.W.mg_of X G a16⟩
  have M17 : Df K mg sPayload "_law_payload" ["_law_cell_here"] f17 _ := ⟨F17, b17, PySem.W.mg_of X G a17⟩
  have M18 : Df K mg sPrefixes "_law_prefixes" ["_law_orders"] f18 _ := ⟨F18, b18, PySem.W.mg_of X G a18⟩
  have M19 : Df K mg sSound "_law_sound" ["_law_log", "_law_members", "_law_casts", "_law_causes"] f19 _ := ⟨F19, b19, PySem.W.mg_of X G a19⟩
  have M20 : Df K mg sPost "_law_post" ["_law_bag", "_law_letters"] f20 _ := ⟨F20, b20, PySem.W.mg_of X G a20⟩
  have M21 : Df K mg sHand "_law_hand" ["_law_orders", "_law_processes", "_law_bag", "_law_letter"] f21 _ := ⟨F21, b21, PySem.W.mg_of X G a21⟩
  have M22 : Df K mg sTold "_law_told" ["_law_orders", "_law_members"] f22 _ := ⟨F22, b22, PySem.W.mg_of X G a22⟩
  refine ⟨PySem.W.fnOf "law" "law" (defArgs sLaw) (defBody sLaw) (defScope sLaw) .none kV23 dc23 pm23 an23 cd23 ct23, fun s v => .of_eq rfl, fun base _ _ => ok_law (C := C) F23 fun lf n => ?_⟩
  have GTC := ok_takeCast (P := l.prog) (w := w) (base := base) (lf := lf) (n := n) F14 T M13 M9 M12 M11
  have GTO := ok_takeOrd (P := l.prog) (w := w) (base := base) (lf := lf) (n := n) F15 T M9 M8 M12
  have GT := ok_take (P := l.prog) (w := w) (base := base) (lf := lf) (n := n) F3 T M14 M15 GTC GTO
  exact
    { T := T
      init := ⟨_, _, ⟨mk, a1, i1, kc⟩, b1, ok_init F1 T⟩
      cast := ⟨_, _, M2, ok_cast F2 T M13 M9 M8 M10 M12 M11⟩
      log := ⟨_, _, M6, ok_log F6 T⟩
      again := ⟨_, _, M5, ok_again F5 T M9 M7 M8 M10 M11⟩
      cell := ⟨_, _, M16, ok_cell F16 T⟩
      payload := ⟨_, _, M17, ok_payload F17 T⟩
      post := ⟨_, _, M20, ok_post F20⟩
      prefixes := ⟨_, _, M18, ok_prefixes F18 T M6⟩
      sound := ⟨_, _, M19, ok_sound F19 T⟩
      told := ⟨_, _, M22, ok_told F22 T M4 M6⟩
      hand := ⟨_, _, M21, ok_hand F21 T M3 GT M20⟩ }
theorem walk {l : PySem.W.OpenLaw} {q : Program} {loose : List Str} {XP : (Str → Option Value) → Heap → Prop} {YP : World → Heap → Prop} {d : DefRec} {K : Params → PySem.W.Frag} (hn : l.most = some 63) (hdf : d.params.defaults = [])
    (hY : ∀ (w : World) (h : Heap), YP w h → (K w.params).In h)
    (F : ∀ (w : World) (mg : Str → Option Value) (fa : Addr) (h : Heap), (K w.params).In h → h.Ns mainGlobals mg → mg d.name = some (.ref fa) →
      ∃ fd : FuncData, (∀ (s : Shared) (u : Value), BindsTo s fd ⟨[u], []⟩ [("_law_script", u)]) ∧ ∀ base : Heap, (K w.params).In base → base.Ns mainGlobals mg → FnOk l.prog w (K w.params) mg base CX0 7 fa fd ["_law_script"] (spLaw (K w.params))) :
    PySem.W.WalkO q loose XP YP l.row.toRowW d [] (fun f vs => PySem.call f vs) :=
  L2.walk_of (n := 63) (k := 7) (x := "_law_script") (CX := fun _ => CX0) (sp := fun w => spLaw (K w.params)) hn (by decide) hdf ⟨rfl, by decide, by decide⟩ hY F (fun _ _ a ns hl _ hS => ⟨a, ns, rfl, hS, hl, fun _ => rfl⟩) fun _ _ _ _ _ z => z
end KW
open PySem PySem.W PyProof.Rows
set_option maxRecDepth 100000 in
set_option maxHeartbeats 0 in
theorem PySem.Challenge.cw_mustercall_k21_whole_logs_are_prefixes_holds : PySem.Challenge.rw_mustercall_k21_whole_logs_are_prefixes.Holds := by
  w_on; o_law; k_head; (case hw => w_witness2)
  k_fill
  refine KW.walk (l := PySem.Challenge.rw_mustercall_k21_whole_logs_are_prefixes) rfl rfl (fun w h Y => PySem.W.kIn_of Y) ?F
  case F =>
    intro w mg fa h KX G hmg
    refine' KW.all_mk KX G hmg ?aC ?a1 ?i1 ?l1 ?c1 ?k1 ?a2 ?i2 ?l2 ?c2 ?k2 ?a3 ?i3 ?l3 ?c3 ?k3 ?a4 ?i4 ?l4 ?c4 ?k4 ?a5 ?i5 ?l5 ?c5 ?k5 ?a6 ?i6 ?l6 ?c6 ?k6 ?a7 ?i7 ?l7 ?c7 ?k7 ?a8 ?i8 ?l8 ?c8 ?k8 ?a9 ?i9 ?l9 ?c9 ?k9 ?a10 ?i10 ?l10 ?c10 ?k10 ?a11 ?i11 ?l11 ?c11 ?k11 ?a12 ?i12 ?l12 ?c12 ?k12 ?a13 ?i13 ?l13 ?c13 ?k13 ?a14 ?i14 ?l14 ?c14 ?k14 ?a15 ?i15 ?l15 ?c15 ?k15 ?a16 ?l16 ?c16 ?k16 ?a17 ?l17 ?c17 ?k17 ?a18 ?l18 ?c18 ?k18 ?a19 ?l19 ?c19 ?k19 ?a20 ?l20 ?c20 ?k20 ?a21 ?l21 ?c21 ?k21 ?a22 ?l22 ?c22 ?k22 ?a23 ?l23 ?c23 ?k23 ?pg ?hd ?po ?sa ?mk ?kc ?n1 ?n2 ?n3 ?n4 ?n5 ?n6 ?n7 ?n8 ?wi ?z1 ?z2 ?z3 ?z4 ?z5 ?z6 ?z7 ?z8
    (case aC => k_is)
    (case a1 => k_is)
    (case i1 => k_is)
    (case l1 => k_is)
    (case c1 => k_is)
    (case k1 => k_is)
    (case a2 => k_is)
    (case i2 => k_is)
    (case l2 => k_is)
    (case c2 => k_is)
    (case k2 => k_is)
    (case a3 => k_is)
    (case i3 => k_is)
    (case l3 => k_is)
    (case c3 => k_is)
    (case k3 => k_is)
    (case a4 => k_is)
    (case i4 => k_is)
    (case l4 => k_is)
    (case c4 => k_is)
    (case k4 => k_is)
    (case a5 => k_is)
    (case i5 => k_is)
    (case l5 => k_is)
    (case c5 => k_is)
    (case k5 => k_is)
    (case a6 => k_is)
    (case i6 => k_is)
    (case l6 => k_is)
    (case c6 => k_is)
    (case k6 => k_is)
    (case a7 => k_is)
    (case i7 => k_is)
    (case l7 => k_is)
    (case c7 => k_is)
    (case k7 => k_is)
    (case a8 => k_is)
    (case i8 => k_is)
    (case l8 => k_is)
    (case c8 => k_is)
    (case k8 => k_is)
    (case a9 => k_is)
    (case i9 => k_is)
    (case l9 => k_is)
    (case c9 => k_is)
    (case k9 => k_is)
    (case a10 => k_is)
    (case i10 => k_is)
    (case l10 => k_is)
    (case c10 => k_is)
    (case k10 => k_is)
    (case a11 => k_is)
    (case i11 => k_is)
    (case l11 => k_is)
    (case c11 => k_is)
    (case k11 => k_is)
    (case a12 => k_is)
    (case i12 => k_is)
    (case l12 => k_is)
    (case c12 => k_is)
    (case k12 => k_is)
    (case a13 => k_is)
    (case i13 => k_is)
    (case l13 => k_is)
    (case c13 => k_is)
    (case k13 => k_is)
    (case a14 => k_is)
    (case i14 => k_is)
    (case l14 => k_is)
    (case c14 => k_is)
    (case k14 => k_is)
    (case a15 => k_is)
    (case i15 => k_is)
    (case l15 => k_is)
    (case c15 => k_is)
    (case k15 => k_is)
    (case a16 => k_is)
    (case l16 => k_is)
    (case c16 => k_is)
    (case k16 => k_is)
    (case a17 => k_is)
    (case l17 => k_is)
    (case c17 => k_is)
    (case k17 => k_is)
    (case a18 => k_is)
    (case l18 => k_is)
    (case c18 => k_is)
    (case k18 => k_is)
    (case a19 => k_is)
    (case l19 => k_is)
    (case c19 => k_is)
    (case k19 => k_is)
    (case a20 => k_is)
    (case l20 => k_is)
    (case c20 => k_is)
    (case k20 => k_is)
    (case a21 => k_is)
    (case l21 => k_is)
    (case c21 => k_is)
    (case k21 => k_is)
    (case a22 => k_is)
    (case l22 => k_is)
    (case c22 => k_is)
    (case k22 => k_is)
    (case a23 => k_is)
    (case l23 => k_is)
    (case c23 => k_is)
    (case k23 => k_is)
    (case pg => k_is)
    (case hd => k_is)
    (case po => k_is)
    (case sa => k_is)
    (case mk => k_is)
    (case kc => k_is)
    (case n1 => k_is)
    (case n2 => k_is)
    (case n3 => k_is)
    (case n4 => k_is)
    (case n5 => k_is)
    (case n6 => k_is)
    (case n7 => k_is)
    (case n8 => k_is)
    (case wi => k_is)
    (case z1 => k_is)
    (case z2 => k_is)
    (case z3 => k_is)
    (case z4 => k_is)
    (case z5 => k_is)
    (case z6 => k_is)
    (case z7 => k_is)
    (case z8 => k_is)
#print axioms PySem.Challenge.cw_mustercall_k21_whole_logs_are_prefixes_holds
