import PyProof.Rows.All
import Wide.All
import OpenK.AllK
import Wide.FinOn
import HandS.ForMost
import HandS.Style
import HandS.TupAny
import HandS.Deep
import HandS.IsInst
import HandS.Walk
import HandS.SortRule
import HandS.RaiseMore
import HandS.Conv
import HandS.Defaults
import KE.KDictPairs
import KE.GoesEnum
import KE.DatumOrd
import PyProof.ReprRoads
import KE.KDictDisplayH
import PySem.Challenge.RW_fewestpours_k35_whole_papers_of_asks
set_option Elab.async false
section
set_option autoImplicit false
/-! Stretches, bounds, kept lots: the plain mathematics of points 38 to 40. No program here. -/
namespace Fm
abbrev Pr := Nat × Nat

/-- (i, j) is a stretch of the asks A -/
def IsStr (A : List Int) (i j : Nat) : Prop := i < j ∧ j < A.length ∧ A[j]? = A[i]? ∧ ∀ k, i < k → k < j → A[k]? ≠ A[i]?
/-- the next time at which what is asked at i is asked for -/
def nxt (A : List Int) (i : Nat) : Option Nat := (List.range A.length).find? fun j => decide (i < j) && decide (A[j]? = A[i]?)
theorem nxt_some {A : List Int} {i j : Nat} : nxt A i = some j ↔ IsStr A i j := by
  unfold nxt IsStr
  rw [List.find?_range_eq_some]
  simp only [Bool.and_eq_true, decide_eq_true_eq, List.mem_range, Bool.not_eq_true', Bool.and_eq_false_iff, decide_eq_false_iff_not]
  constructor
  · rintro ⟨⟨h1, h2⟩, h3, h4⟩
    refine ⟨h1, h3, h2, fun k a b => ?_⟩
    rcases h4 k b with z | z
    · exact absurd a z
    · exact z
  · rintro ⟨h1, h2, h3, h4⟩
    refine ⟨⟨h1, h3⟩, h2, fun k b => ?_⟩
    by_cases a : i < k
    · exact .inr (h4 k a b)
    · exact .inl a
theorem nxt_none {A : List Int} {i : Nat} : nxt A i = none ↔ ∀ j, i < j → j < A.length → A[j]? ≠ A[i]? := by
  unfold nxt
  rw [List.find?_eq_none]
  simp only [List.mem_range, Bool.and_eq_true, decide_eq_true_eq, not_and]
  constructor
  · intro h j a b
    exact h j b a
  · intro h j b a
    exact h j a b
/-- all stretches, ascending -/
def strl (A : List Int) : List Pr := (List.range A.length).filterMap fun i => (nxt A i).map fun j => (i, j)
theorem mem_strs {A : List Int} {q : Pr} : q ∈ strl A ↔ IsStr A q.1 q.2 := by
  unfold strl
  rw [List.mem_filterMap]
  constructor
  · rintro ⟨i, _, h⟩
    cases e : nxt A i with
    | none => rw [e] at h; cases h
    | some j =>
      rw [e] at h
      cases h
      exact nxt_some.mp e
  · intro h
    refine ⟨q.1, List.mem_range.mpr (Nat.lt_trans h.1 h.2.1), ?_⟩
    rw [nxt_some.mpr h]
    rfl
theorem pw_filterMap {f : Nat → Option Nat} : ∀ l : List Nat, l.Pairwise (· < ·) → (l.filterMap fun i => (f i).map fun j => (i, j)).Pairwise fun p q : Pr => p.1 < q.1
  | [], _ => by simp
  | x :: l, h => by
    have h' := List.pairwise_cons.mp h
    have ih := pw_filterMap (f := f) l h'.2
    rw [List.filterMap_cons]
    cases e : f x with
    | none => simpa [e] using ih
    | some j =>
      simp only [Option.map_some]
      refine List.pairwise_cons.mpr ⟨fun q hq => ?_, ih⟩
      obtain ⟨i, hi, z⟩ := List.mem_filterMap.mp hq
      cases e2 : f i with
      | none => rw [e2] at z; cases z
      | some j2 =>
        rw [e2] at z
        cases z
        exact h'.1 i hi
theorem strs_pw (A : List Int) : (strl A).Pairwise fun p q : Pr => p.1 < q.1 := pw_filterMap _ List.pairwise_lt_range
theorem strs_nodup (A : List Int) : (strl A).Nodup := (strs_pw A).imp fun {a b} h e => by
  subst e
  exact Nat.lt_irrefl _ h
theorem str_fun {A : List Int} {i j k : Nat} (h : IsStr A i j) (h' : IsStr A i k) : j = k := Option.some.inj ((nxt_some.mpr h).symm.trans (nxt_some.mpr h'))
theorem str_inj {A : List Int} {i j k : Nat} (h : IsStr A i k) (h' : IsStr A j k) : i = j := by
  rcases Nat.lt_trichotomy i j with z | z | z
  · exact absurd (h'.2.2.1.symm.trans h.2.2.1) (h.2.2.2 j z h'.1)
  · exact z
  · exact absurd (h.2.2.1.symm.trans h'.2.2.1) (h'.2.2.2 i z h.1)

/-- u lies within the stretch q -/
def over (u : Nat) (q : Pr) : Bool := decide (q.1 < u) && decide (u < q.2)
/-- some of the times lies within q -/
def crossed (T : List Nat) (q : Pr) : Bool := T.any fun u => over u q
theorem crossed_nil (q : Pr) : crossed [] q = false := rfl
theorem crossed_cons (u : Nat) (T : List Nat) (q : Pr) : crossed (u :: T) q = (over u q || crossed T q) := rfl
theorem crossed_iff {T : List Nat} {q : Pr} : crossed T q = true ↔ ∃ u ∈ T, q.1 < u ∧ u < q.2 := by
  unfold crossed over
  rw [List.any_eq_true]
  simp only [Bool.and_eq_true, decide_eq_true_eq]
theorem crossed_false {T : List Nat} {q : Pr} : crossed T q = false ↔ ∀ u ∈ T, q.1 < u → ¬ u < q.2 := by
  rw [← Bool.not_eq_true, crossed_iff]
  constructor
  · intro h u a b c
    exact h ⟨u, a, b, c⟩
  · rintro h ⟨u, a, b, c⟩
    exact h u a b c
/-- the bound that times tell -/
def bnd (A : List Int) (m : Nat) (T : List Nat) : Nat := (m - 1) * T.length + (strl A).countP fun q => !crossed T q
/-- a lot that m rooms can keep -/
structure Kept (A : List Int) (m : Nat) (L : List Pr) : Prop where
  sub : ∀ q ∈ L, q ∈ strl A
  nd : L.Nodup
  cap : ∀ u, u < A.length → L.countP (over u) < m
theorem countP_or_le {α : Type} (p q : α → Bool) : ∀ l : List α, (l.countP fun x => p x || q x) ≤ l.countP p + l.countP q
  | [] => by simp
  | x :: l => by
    have ih := countP_or_le p q l
    rw [List.countP_cons, List.countP_cons, List.countP_cons]
    cases p x <;> cases q x <;> simp <;> omega
theorem countP_add_not {α : Type} (p : α → Bool) : ∀ l : List α, l.countP p + (l.countP fun x => !p x) = l.length
  | [] => by simp
  | x :: l => by
    have ih := countP_add_not p l
    rw [List.countP_cons, List.countP_cons, List.length_cons]
    cases p x <;> simp <;> omega
theorem countP_le_of_sub {α : Type} {p : α → Bool} {l k : List α} (nd : l.Nodup) (h : ∀ x ∈ l, p x = true → x ∈ k) : l.countP p ≤ k.countP p := by
  rw [List.countP_eq_length_filter, List.countP_eq_length_filter]
  refine List.Nodup.length_le_of_subset (nd.filter _) fun x hx => ?_
  obtain ⟨h1, h2⟩ := List.mem_filter.mp hx
  exact List.mem_filter.mpr ⟨h x h1 h2, h2⟩
theorem over_end {A : List Int} {q : Pr} {u : Nat} (h : q ∈ strl A) (o : over u q = true) : u < A.length := by
  have h1 := (mem_strs.mp h).2.1
  unfold over at o
  simp only [Bool.and_eq_true, decide_eq_true_eq] at o
  omega
/-- no kept lot is greater than a bound -/
theorem Kept.le {A : List Int} {m : Nat} {L : List Pr} (hm : 1 ≤ m) (k : Kept A m L) (T : List Nat) : L.length ≤ bnd A m T := by
  have h1 : (L.countP fun q => !crossed T q) ≤ (strl A).countP fun q => !crossed T q := countP_le_of_sub k.nd fun q hq _ => k.sub q hq
  have h2 : ∀ T : List Nat, L.countP (crossed T) ≤ (m - 1) * T.length := by
    intro T
    induction T with
    | nil =>
      rw [show crossed [] = fun _ => false from rfl]
      simp
    | cons u T ih =>
      have e : L.countP (crossed (u :: T)) ≤ L.countP (over u) + L.countP (crossed T) := countP_or_le (over u) (crossed T) L
      have c : L.countP (over u) ≤ m - 1 := by
        by_cases hu : u < A.length
        · have := k.cap u hu
          omega
        · have z : L.countP (over u) = 0 := by
            rw [List.countP_eq_zero]
            intro q hq o
            exact hu (over_end (k.sub q hq) o)
          omega
      rw [List.length_cons, Nat.mul_succ]
      omega
  have h3 := countP_add_not (crossed T) L
  have h4 := h2 T
  unfold bnd
  omega
end Fm
end
section
set_option autoImplicit false
/-! The rule of the furthest: what it keeps is a kept lot, and there are times whose bound it meets. -/
namespace Fm
abbrev Tb := List (Int × Nat)
/-- whether the stretch that begins at s ends by x -/
def endle (A : List Int) (s x : Nat) : Bool := match nxt A s with
  | some e => decide (e ≤ x)
  | none => false
def ende (A : List Int) (s : Nat) : Nat := (nxt A s).getD A.length
structure Gr (A : List Int) (m t : Nat) (T : Tb) (F : List Pr) : Prop where
  nd : (T.map (·.1)).Nodup
  len : T.length ≤ m
  at_ : ∀ y ∈ T, y.2 < t ∧ A[y.2]? = some y.1 ∧ ∀ k, y.2 < k → k < t → A[k]? ≠ some y.1
  fm : ∀ q ∈ F, IsStr A q.1 q.2 ∧ q.2 < t
  fnd : F.Nodup
  cap : ∀ u, u < t → F.countP (over u) + (T.countP fun y => decide (y.2 < u)) + 1 ≤ m
  dual : ∀ x, t ≤ x → x ≤ A.length → ∃ Ts : List Nat, Ts.Pairwise (· > ·) ∧ (∀ u ∈ Ts, u < t) ∧
    (m - 1) * Ts.length + ((strl A).countP fun q => decide (q.1 < t) && (decide (q.2 ≤ x) && !crossed Ts q)) ≤ F.length + T.countP fun y => endle A y.2 x
theorem Gr.perm {A : List Int} {m t : Nat} {T T' : Tb} {F : List Pr} (g : Gr A m t T F) (h : T'.Perm T) : Gr A m t T' F :=
  ⟨(h.map _).nodup_iff.mpr g.nd, by rw [h.length_eq]; exact g.len, fun y hy => g.at_ y (h.mem_iff.mp hy), g.fm, g.fnd, fun u hu => by rw [h.countP_eq]; exact g.cap u hu, fun x h1 h2 => by
    obtain ⟨Ts, a, b, c⟩ := g.dual x h1 h2
    exact ⟨Ts, a, b, by rw [h.countP_eq]; exact c⟩⟩
theorem Gr.zero (A : List Int) (m : Nat) : Gr A m 0 [] [] :=
  ⟨List.nodup_nil, Nat.zero_le _, fun y hy => (nomatch hy), fun q hq => (nomatch hq), List.nodup_nil, fun u hu => absurd hu (Nat.not_lt_zero _), fun x _ _ => ⟨[], List.Pairwise.nil, fun u hu => (nomatch hu), by simp⟩⟩
theorem countP_and_or {α : Type} (a b c r : α → Bool) (h : ∀ x, a x = true → b x = true ∨ c x = true) : ∀ l : List α, (l.countP fun x => a x && r x) ≤ (l.countP fun x => b x && r x) + l.countP fun x => c x && r x
  | [] => by simp
  | x :: l => by
    have ih := countP_and_or a b c r h l
    have hx := h x
    rw [List.countP_cons, List.countP_cons, List.countP_cons]
    cases ha : a x <;> cases hb : b x <;> cases hc : c x <;> cases r x <;> simp [ha, hb, hc] at hx ⊢ <;> omega
/-- the stretches that begin at t and end by x: one at most -/
theorem count_at (A : List Int) (t x : Nat) (r : Pr → Bool) : ((strl A).countP fun q => decide (q.1 = t) && (decide (q.2 ≤ x) && r q)) ≤ if endle A t x = true then 1 else 0 := by
  cases e : nxt A t with
  | none =>
    have z : ((strl A).countP fun q => decide (q.1 = t) && (decide (q.2 ≤ x) && r q)) = 0 := by
      rw [List.countP_eq_zero]
      intro q hq o
      simp only [Bool.and_eq_true, decide_eq_true_eq] at o
      have := nxt_some.mpr (mem_strs.mp hq)
      rw [o.1, e] at this
      cases this
    omega
  | some j =>
    have sub : ∀ q ∈ strl A, (decide (q.1 = t) && (decide (q.2 ≤ x) && r q)) = true → q ∈ [((t, j) : Pr)] := by
      intro q hq o
      simp only [Bool.and_eq_true, decide_eq_true_eq] at o
      have h2 := nxt_some.mpr (mem_strs.mp hq)
      rw [o.1, e] at h2
      obtain ⟨a, b⟩ := q
      simp only [Option.some.injEq] at h2 o ⊢
      rw [List.mem_singleton, o.1, ← h2]
    have h1 := countP_le_of_sub (p := fun q : Pr => decide (q.1 = t) && (decide (q.2 ≤ x) && r q)) (strs_nodup A) sub
    refine Nat.le_trans h1 ?_
    unfold endle
    rw [e]
    by_cases c : j ≤ x
    · simp only [c, decide_true, if_true]
      exact List.countP_le_length
    · simp [c]
theorem count_next (A : List Int) (t x : Nat) (r : Pr → Bool) : ((strl A).countP fun q => decide (q.1 < t + 1) && (decide (q.2 ≤ x) && r q)) ≤ ((strl A).countP fun q => decide (q.1 < t) && (decide (q.2 ≤ x) && r q)) + if endle A t x = true then 1 else 0 := by
  refine Nat.le_trans (countP_and_or (fun q : Pr => decide (q.1 < t + 1)) (fun q => decide (q.1 < t)) (fun q => decide (q.1 = t)) _ (fun q h => ?_) _) (Nat.add_le_add_left (count_at A t x r) _)
  simp only [decide_eq_true_eq] at h ⊢
  omega
theorem countP_if {α : Type} (p : α → Bool) (x : α) (l : List α) : (x :: l).countP p = l.countP p + if p x = true then 1 else 0 := List.countP_cons
theorem Gr.hit {A : List Int} {m t s : Nat} {p : Int} {T : Tb} {F : List Pr} (g : Gr A m t ((p, s) :: T) F) (e : A[t]? = some p) : Gr A m (t + 1) ((p, t) :: T) (F ++ [(s, t)]) := by
  have hn : t < A.length := (List.getElem?_eq_some_iff.mp e).1
  obtain ⟨n1, n2⟩ := List.nodup_cons.mp (show (p :: T.map (·.1)).Nodup from g.nd)
  obtain ⟨s1, s2, s3⟩ := g.at_ (p, s) List.mem_cons_self
  have str : IsStr A s t := ⟨s1, hn, e.trans s2.symm, fun k a b => by rw [s2]; exact s3 k a b⟩
  have ln := g.len
  rw [List.length_cons] at ln
  refine ⟨List.nodup_cons.mpr ⟨n1, n2⟩, ln, fun y hy => ?_, fun q hq => ?_, ?_, fun u hu => ?_, fun x h1 h2 => ?_⟩
  · rcases List.mem_cons.mp hy with rfl | hz
    · exact ⟨Nat.lt_succ_self _, e, fun k a b => absurd b (by show ¬ k < t + 1; have a' : t < k := a; omega)⟩
    · obtain ⟨a1, a2, a3⟩ := g.at_ y (List.mem_cons_of_mem _ hz)
      refine ⟨Nat.lt_succ_of_lt a1, a2, fun k a b => ?_⟩
      by_cases hk : k = t
      · subst hk
        rw [e]
        intro z
        have z' : p = y.1 := Option.some.inj z
        exact n1 (by rw [z']; exact List.mem_map_of_mem hz)
      · exact a3 k a (by omega)
  · rcases List.mem_append.mp hq with hq | hq
    · obtain ⟨a, b⟩ := g.fm q hq
      exact ⟨a, Nat.lt_succ_of_lt b⟩
    · obtain rfl := List.mem_singleton.mp hq
      exact ⟨str, Nat.lt_succ_self _⟩
  · refine List.nodup_append.mpr ⟨g.fnd, by simp, fun a ha b hb => ?_⟩
    obtain rfl := List.mem_singleton.mp hb
    rintro rfl
    exact Nat.lt_irrefl _ (g.fm _ ha).2
  · rw [List.countP_append, countP_if, List.countP_cons, List.countP_nil]
    by_cases hk : u = t
    · subst hk
      have z : F.countP (over u) = 0 := by
        rw [List.countP_eq_zero]
        intro q hq o
        have := (g.fm q hq).2
        unfold over at o
        simp only [Bool.and_eq_true, decide_eq_true_eq] at o
        omega
      have c : (T.countP fun y => decide (y.2 < u)) ≤ T.length := List.countP_le_length
      simp only [z, over, Nat.lt_irrefl, decide_false, Bool.and_false, Bool.false_eq_true, if_false]
      omega
    · have c := g.cap u (by omega)
      rw [countP_if] at c
      have ut : ¬ t < u := by omega
      have ut' : u < t := by omega
      by_cases su : s < u
      · simp only [over, su, ut, ut', decide_true, decide_false, Bool.and_self, Bool.false_eq_true, if_true, if_false] at c ⊢
        omega
      · simp only [over, su, ut, ut', decide_true, decide_false, Bool.false_and, Bool.false_eq_true, if_false] at c ⊢
        omega
  · obtain ⟨Ts, a, b, c⟩ := g.dual x (by omega) h2
    refine ⟨Ts, a, fun u hu => Nat.lt_succ_of_lt (b u hu), ?_⟩
    have k := count_next A t x fun q => !crossed Ts q
    rw [countP_if] at c ⊢
    have e1 : endle A s x = true := by
      unfold endle
      rw [nxt_some.mpr str]
      exact decide_eq_true (by omega)
    rw [List.length_append, List.length_singleton]
    simp only [e1, if_true] at c
    show _ ≤ F.length + 1 + (T.countP (fun y => endle A y.2 x) + if endle A t x = true then 1 else 0)
    omega
theorem Gr.miss {A : List Int} {m t : Nat} {p : Int} {T : Tb} {F : List Pr} (g : Gr A m t T F) (e : A[t]? = some p) (hp : p ∉ T.map (·.1)) (hl : T.length < m) : Gr A m (t + 1) ((p, t) :: T) F := by
  refine ⟨List.nodup_cons.mpr ⟨hp, g.nd⟩, hl, fun y hy => ?_, fun q hq => ?_, g.fnd, fun u hu => ?_, fun x h1 h2 => ?_⟩
  · rcases List.mem_cons.mp hy with rfl | hz
    · exact ⟨Nat.lt_succ_self _, e, fun k a b => absurd b (by show ¬ k < t + 1; have a' : t < k := a; omega)⟩
    · obtain ⟨a1, a2, a3⟩ := g.at_ y hz
      refine ⟨Nat.lt_succ_of_lt a1, a2, fun k a b => ?_⟩
      by_cases hk : k = t
      · subst hk
        rw [e]
        intro z
        have z' : p = y.1 := Option.some.inj z
        exact hp (by rw [z']; exact List.mem_map_of_mem hz)
      · exact a3 k a (by omega)
  · obtain ⟨a, b⟩ := g.fm q hq
    exact ⟨a, Nat.lt_succ_of_lt b⟩
  · rw [countP_if]
    by_cases hk : u = t
    · subst hk
      have z : F.countP (over u) = 0 := by
        rw [List.countP_eq_zero]
        intro q hq o
        have := (g.fm q hq).2
        unfold over at o
        simp only [Bool.and_eq_true, decide_eq_true_eq] at o
        omega
      have c : (T.countP fun y => decide (y.2 < u)) ≤ T.length := List.countP_le_length
      simp only [z, Nat.lt_irrefl, decide_false, Bool.false_eq_true, if_false]
      omega
    · have c := g.cap u (by omega)
      have ut : ¬ t < u := by omega
      simp only [ut, decide_false, Bool.false_eq_true, if_false]
      omega
  · obtain ⟨Ts, a, b, c⟩ := g.dual x (by omega) h2
    refine ⟨Ts, a, fun u hu => Nat.lt_succ_of_lt (b u hu), ?_⟩
    have k := count_next A t x fun q => !crossed Ts q
    rw [countP_if]
    show _ ≤ F.length + (T.countP (fun y => endle A y.2 x) + if endle A t x = true then 1 else 0)
    omega
theorem Gr.evict {A : List Int} {m t s : Nat} {p q : Int} {T : Tb} {F : List Pr} (g : Gr A m t ((q, s) :: T) F) (e : A[t]? = some p) (hp : p ∉ ((q, s) :: T).map (·.1)) (hl : T.length + 1 = m)
    (mx : ∀ y ∈ T, ende A y.2 ≤ ende A s) : Gr A m (t + 1) ((p, t) :: T) F := by
  have hpT : p ∉ T.map (·.1) := fun z => hp (List.mem_cons_of_mem _ z)
  obtain ⟨n1, n2⟩ := List.nodup_cons.mp (show (q :: T.map (·.1)).Nodup from g.nd)
  refine ⟨List.nodup_cons.mpr ⟨hpT, n2⟩, by rw [List.length_cons]; omega, fun y hy => ?_, fun q hq => ?_, g.fnd, fun u hu => ?_, fun x h1 h2 => ?_⟩
  · rcases List.mem_cons.mp hy with rfl | hz
    · exact ⟨Nat.lt_succ_self _, e, fun k a b => absurd b (by show ¬ k < t + 1; have a' : t < k := a; omega)⟩
    · obtain ⟨a1, a2, a3⟩ := g.at_ y (List.mem_cons_of_mem _ hz)
      refine ⟨Nat.lt_succ_of_lt a1, a2, fun k a b => ?_⟩
      by_cases hk : k = t
      · subst hk
        rw [e]
        intro z
        have z' : p = y.1 := Option.some.inj z
        exact hpT (by rw [z']; exact List.mem_map_of_mem hz)
      · exact a3 k a (by omega)
  · obtain ⟨a, b⟩ := g.fm q hq
    exact ⟨a, Nat.lt_succ_of_lt b⟩
  · rw [countP_if]
    by_cases hk : u = t
    · subst hk
      have z : F.countP (over u) = 0 := by
        rw [List.countP_eq_zero]
        intro q hq o
        have := (g.fm q hq).2
        unfold over at o
        simp only [Bool.and_eq_true, decide_eq_true_eq] at o
        omega
      have c : (T.countP fun y => decide (y.2 < u)) ≤ T.length := List.countP_le_length
      simp only [z, Nat.lt_irrefl, decide_false, Bool.false_eq_true, if_false]
      omega
    · have c := g.cap u (by omega)
      rw [countP_if] at c
      have ut : ¬ t < u := by omega
      simp only [ut, decide_false, Bool.false_eq_true, if_false]
      omega
  · by_cases c : endle A s x = true
    · -- all end by x: the time t itself
      obtain ⟨j, hj, jx⟩ : ∃ j, nxt A s = some j ∧ j ≤ x := by
        unfold endle at c
        cases hj : nxt A s with
        | none => rw [hj] at c; cases c
        | some j => rw [hj] at c; exact ⟨j, rfl, of_decide_eq_true c⟩
      have jn : j < A.length := (nxt_some.mp hj).2.1
      have es : ende A s = j := by
        unfold ende
        rw [hj]
        rfl
      have all : (T.countP fun y => endle A y.2 x) = T.length := by
        rw [List.countP_eq_length]
        intro y hy
        have := mx y hy
        rw [es] at this
        unfold ende at this
        unfold endle
        cases h : nxt A y.2 with
        | none =>
          rw [h] at this
          have this' : A.length ≤ j := this
          omega
        | some i =>
          rw [h] at this
          have this' : i ≤ j := this
          exact decide_eq_true (by omega)
      obtain ⟨Ts, a, b, d⟩ := g.dual t (Nat.le_refl _) (by omega)
      have none : (((q, s) :: T).countP fun y => endle A y.2 t) = 0 := by
        rw [List.countP_eq_zero]
        intro y hy z
        obtain ⟨a1, a2, a3⟩ := g.at_ y hy
        unfold endle at z
        cases h : nxt A y.2 with
        | none => rw [h] at z; cases z
        | some i =>
          rw [h] at z
          have z' : i ≤ t := of_decide_eq_true z
          obtain ⟨b1, b2, b3, b4⟩ := nxt_some.mp h
          rw [a2] at b3
          by_cases hi : i < t
          · exact a3 i b1 hi b3
          · have hi' : i = t := by omega
            subst hi'
            rw [e] at b3
            have z2 : p = y.1 := Option.some.inj b3
            exact hp (by rw [z2]; exact List.mem_map_of_mem hy)
      rw [none] at d
      refine ⟨t :: Ts, List.pairwise_cons.mpr ⟨fun u hu => b u hu, a⟩, fun u hu => ?_, ?_⟩
      · rcases List.mem_cons.mp hu with rfl | hu
        · exact Nat.lt_succ_self _
        · exact Nat.lt_succ_of_lt (b u hu)
      · have k1 : ((strl A).countP fun r => decide (r.1 < t + 1) && (decide (r.2 ≤ x) && !crossed (t :: Ts) r)) ≤
            ((strl A).countP fun r => decide (r.1 < t) && (decide (r.2 ≤ x) && !crossed (t :: Ts) r)) + if endle A t x = true then 1 else 0 := count_next A t x fun r => !crossed (t :: Ts) r
        have k2 : ((strl A).countP fun r => decide (r.1 < t) && (decide (r.2 ≤ x) && !crossed (t :: Ts) r)) ≤ (strl A).countP fun r => decide (r.1 < t) && (decide (r.2 ≤ t) && !crossed Ts r) := by
          refine List.countP_mono_left fun r _ o => ?_
          rw [crossed_cons] at o
          simp only [over, Bool.and_eq_true, decide_eq_true_eq, Bool.not_eq_true', Bool.or_eq_false_iff, Bool.and_eq_false_iff, decide_eq_false_iff_not] at o ⊢
          refine ⟨o.1, ?_, o.2.2.2⟩
          have := o.2.2.1
          omega
        rw [countP_if, all, List.length_cons, Nat.mul_succ]
        show _ ≤ F.length + (T.length + if endle A t x = true then 1 else 0)
        omega
    · obtain ⟨Ts, a, b, d⟩ := g.dual x (by omega) h2
      refine ⟨Ts, a, fun u hu => Nat.lt_succ_of_lt (b u hu), ?_⟩
      have k := count_next A t x fun q => !crossed Ts q
      rw [countP_if] at d ⊢
      simp only [c, Bool.false_eq_true, if_false] at d
      show _ ≤ F.length + (T.countP (fun y => endle A y.2 x) + if endle A t x = true then 1 else 0)
      omega
/-- at the end: a kept lot, and times -/
theorem Gr.kept {A : List Int} {m : Nat} {T : Tb} {F : List Pr} (g : Gr A m A.length T F) : Kept A m F :=
  ⟨fun q hq => mem_strs.mpr (g.fm q hq).1, g.fnd, fun u hu => by
    have := g.cap u hu
    omega⟩
theorem Gr.meets {A : List Int} {m : Nat} {T : Tb} {F : List Pr} (g : Gr A m A.length T F) : ∃ Ts : List Nat, Ts.Pairwise (· > ·) ∧ (∀ u ∈ Ts, u < A.length) ∧ bnd A m Ts ≤ F.length := by
  obtain ⟨Ts, a, b, c⟩ := g.dual A.length (Nat.le_refl _) (Nat.le_refl _)
  refine ⟨Ts, a, b, ?_⟩
  have none : (T.countP fun y => endle A y.2 A.length) = 0 := by
    rw [List.countP_eq_zero]
    intro y hy z
    obtain ⟨a1, a2, a3⟩ := g.at_ y hy
    unfold endle at z
    cases h : nxt A y.2 with
    | none => rw [h] at z; cases z
    | some i =>
      obtain ⟨b1, b2, b3, b4⟩ := nxt_some.mp h
      rw [a2] at b3
      exact a3 i b1 b2 b3
  have e : ((strl A).countP fun q => decide (q.1 < A.length) && (decide (q.2 ≤ A.length) && !crossed Ts q)) = (strl A).countP fun q => !crossed Ts q := by
    refine List.countP_congr fun q hq => ?_
    obtain ⟨h1, h2, _⟩ := mem_strs.mp hq
    have h3 : q.1 < A.length := by omega
    have h4 : q.2 ≤ A.length := by omega
    simp [h3, h4]
  unfold bnd
  omega
end Fm
end
section
set_option autoImplicit false
/-! The run of the furthest rule as the program makes it, one run for each row of asks. -/
namespace Fm
def look (T : Tb) (p : Int) : Option Nat := (T.find? fun y => decide (y.1 = p)).map (·.2)
def put (T : Tb) (p : Int) (t : Nat) : Tb := if (T.any fun y => decide (y.1 = p)) = true then T.map (fun y => if y.1 = p then (y.1, t) else y) else T ++ [(p, t)]
def drop (T : Tb) (q : Int) : Tb := T.filter fun y => decide (y.1 ≠ q)
/-- (e, q) is not above (f, r) -/
def pairLe (e : Nat) (q : Int) (f : Nat) (r : Int) : Prop := e < f ∨ (e = f ∧ q ≤ r)
inductive Run (A : List Int) (m : Nat) : Nat → Tb → List Pr → Prop
  | zero : Run A m 0 [] []
  | hit {t s : Nat} {p : Int} {T : Tb} {F : List Pr} : Run A m t T F → A[t]? = some p → look T p = some s → Run A m (t + 1) (put T p t) (F ++ [(s, t)])
  | miss {t : Nat} {p : Int} {T : Tb} {F : List Pr} : Run A m t T F → A[t]? = some p → look T p = none → T.length ≠ m → Run A m (t + 1) (put T p t) F
  | evict {t s : Nat} {p q : Int} {T : Tb} {F : List Pr} : Run A m t T F → A[t]? = some p → look T p = none → T.length = m → (q, s) ∈ T → (∀ y ∈ T, pairLe (ende A y.2) y.1 (ende A s) q) → Run A m (t + 1) (put (drop T q) p t) F
theorem look_none {T : Tb} {p : Int} : look T p = none ↔ p ∉ T.map (·.1) := by
  unfold look
  rw [Option.map_eq_none_iff, List.find?_eq_none]
  simp only [decide_eq_true_eq, List.mem_map, not_exists, not_and]
theorem look_mem {T : Tb} {p : Int} {s : Nat} (h : look T p = some s) : (p, s) ∈ T := by
  unfold look at h
  cases e : T.find? fun y => decide (y.1 = p) with
  | none => rw [e] at h; cases h
  | some y =>
    rw [e] at h
    have h1 := List.find?_some e
    have h2 := List.mem_of_find?_eq_some e
    simp only [decide_eq_true_eq] at h1
    obtain ⟨a, b⟩ := y
    have h3 : b = s := Option.some.inj h
    have h4 : a = p := h1
    rw [← h3, ← h4]
    exact h2
theorem any_iff {T : Tb} {p : Int} : (T.any fun y => decide (y.1 = p)) = true ↔ p ∈ T.map (·.1) := by
  rw [List.any_eq_true, List.mem_map]
  simp only [decide_eq_true_eq]
theorem put_new {T : Tb} {p : Int} {t : Nat} (h : p ∉ T.map (·.1)) : put T p t = T ++ [(p, t)] := by
  unfold put
  rw [if_neg (fun z => h (any_iff.mp z))]
/-- the table without p, then p's row -/
theorem perm_drop : ∀ {T : Tb} {p : Int} {s : Nat}, (T.map (·.1)).Nodup → (p, s) ∈ T → T.Perm ((p, s) :: drop T p)
  | [], _, _, _, h => nomatch h
  | y :: T, p, s, nd, h => by
    obtain ⟨n1, n2⟩ := List.nodup_cons.mp (show (y.1 :: T.map (·.1)).Nodup from nd)
    unfold drop
    rw [List.filter_cons]
    rcases List.mem_cons.mp h with e | h
    · subst e
      have e2 : T.filter (fun y => decide (y.1 ≠ p)) = T := List.filter_eq_self.mpr fun z hz => decide_eq_true (fun e => n1 (List.mem_map.mpr ⟨z, hz, e⟩))
      simp only [ne_eq, not_true_eq_false, decide_false, Bool.false_eq_true, if_false]
      simp only [ne_eq] at e2
      rw [e2]
    · have hne : y.1 ≠ p := fun e => n1 (by rw [e]; exact List.mem_map_of_mem (f := (·.1)) h)
      simp only [ne_eq, hne, not_false_eq_true, decide_true, if_true]
      exact ((perm_drop n2 h).cons y).trans (List.Perm.swap _ _ _)
theorem put_perm {T : Tb} {p : Int} {s t : Nat} (nd : (T.map (·.1)).Nodup) (h : (p, s) ∈ T) : (put T p t).Perm ((p, t) :: drop T p) := by
  have hin : p ∈ T.map (·.1) := List.mem_map_of_mem (f := (·.1)) h
  unfold put
  rw [if_pos (any_iff.mpr hin)]
  have go : ∀ T : Tb, (T.map (·.1)).Nodup → p ∈ T.map (·.1) → (T.map fun y => if y.1 = p then (y.1, t) else y).Perm ((p, t) :: drop T p) := by
    intro T
    induction T with
    | nil =>
      intro _ h
      exact nomatch h
    | cons y T ih =>
      intro nd h
      obtain ⟨n1, n2⟩ := List.nodup_cons.mp (show (y.1 :: T.map (·.1)).Nodup from nd)
      unfold drop
      rw [List.map_cons, List.filter_cons]
      by_cases e : y.1 = p
      · have nin : p ∉ T.map (·.1) := by rw [← e]; exact n1
        have e2 : T.filter (fun y => decide (¬ y.1 = p)) = T := List.filter_eq_self.mpr fun z hz => decide_eq_true (fun e => nin (by rw [← e]; exact List.mem_map_of_mem hz))
        have e3 : (T.map fun y => if y.1 = p then (y.1, t) else y) = T := by
          have : ∀ z ∈ T, (if z.1 = p then (z.1, t) else z) = z := fun z hz => if_neg (fun e => nin (by rw [← e]; exact List.mem_map_of_mem hz))
          rw [List.map_congr_left this]
          simp
        simp only [e, ne_eq, not_true_eq_false, decide_false, Bool.false_eq_true, if_false, if_true]
        rw [e2, e3]
      · have hT : p ∈ T.map (·.1) := by
          rcases List.mem_cons.mp (show p ∈ y.1 :: T.map (·.1) from h) with z | z
          · exact absurd z.symm e
          · exact z
        simp only [e, ne_eq, not_false_eq_true, decide_true, if_true, if_false]
        exact ((ih n2 hT).cons y).trans (List.Perm.swap _ _ _)
  exact go T nd hin
theorem put_perm_new {T : Tb} {p : Int} {t : Nat} (h : p ∉ T.map (·.1)) : (put T p t).Perm ((p, t) :: T) := by
  rw [put_new h]
  exact List.perm_append_singleton _ _
theorem drop_keys {T : Tb} {p q : Int} (h : p ∉ T.map (·.1)) : p ∉ (drop T q).map (·.1) := fun z => by
  obtain ⟨y, hy, e⟩ := List.mem_map.mp z
  exact h (List.mem_map.mpr ⟨y, (List.mem_filter.mp hy).1, e⟩)
theorem Run.gr {A : List Int} {m t : Nat} {T : Tb} {F : List Pr} (r : Run A m t T F) : Gr A m t T F := by
  induction r with
  | zero => exact Gr.zero A m
  | hit r e l g =>
    have h := look_mem l
    exact ((g.perm (perm_drop g.nd h).symm).hit e).perm (put_perm g.nd h)
  | miss r e l hl g =>
    have h := look_none.mp l
    have := g.len
    exact (g.miss e h (by omega)).perm (put_perm_new h)
  | evict r e l hl hq mx g =>
    rename_i t s p q T F
    have h := look_none.mp l
    have pd := perm_drop g.nd hq
    have h2 : p ∉ (((q, s) : Int × Nat) :: drop T q).map (·.1) := fun z => h (((pd.map _).mem_iff).mpr z)
    refine ((g.perm pd.symm).evict e h2 ?_ fun y hy => ?_).perm (put_perm_new (drop_keys h))
    · have := pd.length_eq
      rw [List.length_cons] at this
      omega
    · rcases mx y (List.mem_filter.mp hy).1 with z | z
      · exact Nat.le_of_lt z
      · exact Nat.le_of_eq z.1
/-- there is one run -/
theorem Run.one {A : List Int} {m t : Nat} {T T' : Tb} {F F' : List Pr} (r : Run A m t T F) (r' : Run A m t T' F') : T = T' ∧ F = F' := by
  induction r generalizing T' F' with
  | zero =>
    cases r'
    exact ⟨rfl, rfl⟩
  | hit r e l ih =>
    cases r' with
    | hit r2 e2 l2 =>
      obtain ⟨rfl, rfl⟩ := ih r2
      obtain rfl := Option.some.inj (e.symm.trans e2)
      obtain rfl := Option.some.inj (l.symm.trans l2)
      exact ⟨rfl, rfl⟩
    | miss r2 e2 l2 h2 =>
      obtain ⟨rfl, rfl⟩ := ih r2
      obtain rfl := Option.some.inj (e.symm.trans e2)
      rw [l] at l2
      cases l2
    | evict r2 e2 l2 h2 q2 m2 =>
      obtain ⟨rfl, rfl⟩ := ih r2
      obtain rfl := Option.some.inj (e.symm.trans e2)
      rw [l] at l2
      cases l2
  | miss r e l hl ih =>
    cases r' with
    | hit r2 e2 l2 =>
      obtain ⟨rfl, rfl⟩ := ih r2
      obtain rfl := Option.some.inj (e.symm.trans e2)
      rw [l] at l2
      cases l2
    | miss r2 e2 l2 h2 =>
      obtain ⟨rfl, rfl⟩ := ih r2
      obtain rfl := Option.some.inj (e.symm.trans e2)
      exact ⟨rfl, rfl⟩
    | evict r2 e2 l2 h2 q2 m2 =>
      obtain ⟨rfl, rfl⟩ := ih r2
      exact absurd h2 hl
  | evict r e l hl hq mx ih =>
    rename_i t s p q T F
    cases r' with
    | hit r2 e2 l2 =>
      obtain ⟨rfl, rfl⟩ := ih r2
      obtain rfl := Option.some.inj (e.symm.trans e2)
      rw [l] at l2
      cases l2
    | miss r2 e2 l2 h2 =>
      obtain ⟨rfl, rfl⟩ := ih r2
      exact absurd hl h2
    | evict r2 e2 l2 h2 q2 m2 =>
      rename_i s2 p2 qq T2
      obtain ⟨rfl, rfl⟩ := ih r2
      obtain rfl := Option.some.inj (e.symm.trans e2)
      have a := mx _ q2
      have b := m2 _ hq
      have : q = qq := by
        unfold pairLe at a b
        simp only at a b
        omega
      subst this
      exact ⟨rfl, rfl⟩
/-- two ascending lists of the same pairs are one -/
theorem sorted_one {L L' F : List Pr} (h : L.Pairwise fun a b => a.1 < b.1 ∨ (a.1 = b.1 ∧ a.2 ≤ b.2)) (h' : L'.Pairwise fun a b => a.1 < b.1 ∨ (a.1 = b.1 ∧ a.2 ≤ b.2)) (p : L.Perm F) (p' : L'.Perm F) : L = L' := by
  refine List.Perm.eq_of_pairwise (fun a b _ _ h1 h2 => ?_) h h' (p.trans p'.symm)
  obtain ⟨a1, a2⟩ := a
  obtain ⟨b1, b2⟩ := b
  simp only at h1 h2
  rw [Prod.mk.injEq]
  omega
theorem Kept.perm {A : List Int} {m : Nat} {L F : List Pr} (k : Kept A m F) (p : L.Perm F) : Kept A m L :=
  ⟨fun q hq => k.sub q (p.mem_iff.mp hq), p.nodup_iff.mpr k.nd, fun u hu => by rw [p.countP_eq]; exact k.cap u hu⟩
/-- a kept lot told ascending is the stretches that are in it -/
theorem Kept.filter {A : List Int} {m : Nat} {L : List Pr} (k : Kept A m L) (h : L.Pairwise fun a b => a.1 < b.1 ∨ (a.1 = b.1 ∧ a.2 ≤ b.2)) : L = (strl A).filter fun q => decide (q ∈ L) := by
  refine sorted_one (F := L) h ?_ (List.Perm.refl _) ?_
  · exact ((strs_pw A).imp fun {a b} z => Or.inl z).filter _
  · refine (List.perm_ext_iff_of_nodup ((strs_nodup A).filter _) k.nd).mpr fun q => ?_
    rw [List.mem_filter, decide_eq_true_eq]
    exact ⟨fun z => z.2, fun z => ⟨k.sub q z, z⟩⟩
end Fm
end
section
set_option autoImplicit false
/-! The times with the least bound, each reached from one ahead. -/
namespace Fm
/-- the stretches from f on that end by i -/
def btw (A : List Int) (f : Int) (i : Nat) : Nat := (strl A).countP fun q => decide (f ≤ (q.1 : Int)) && decide (q.2 ≤ i)
def lv (least : List Int) (f : Int) : Int := if f < 0 then 0 else least.getD f.toNat 0
def pen (A : List Int) (m i : Nat) : Int := if i < A.length then (m : Int) - 1 else 0
def cst (A : List Int) (least : List Int) (f : Int) (i : Nat) : Int := (btw A f i : Int) + lv least f
structure Row (A : List Int) (m : Nat) (least ahead : List Int) (i : Nat) (f : Int) : Prop where
  at_ : ahead[i]? = some f
  lo : -1 ≤ f
  hi : f < (i : Int)
  val : least[i]? = some (cst A least f i + pen A m i)
  min : ∀ g : Int, -1 ≤ g → g < (i : Int) → cst A least f i ≤ cst A least g i
  first : ∀ g : Int, f < g → g < (i : Int) → cst A least f i < cst A least g i
structure Rows (A : List Int) (m : Nat) (least ahead : List Int) (k : Nat) : Prop where
  l1 : least.length = k
  l2 : ahead.length = k
  row : ∀ i, i < k → ∃ f, Row A m least ahead i f
theorem lv_neg {least : List Int} {f : Int} (h : f < 0) : lv least f = 0 := by unfold lv; rw [if_pos h]
theorem lv_nat {least : List Int} {f : Nat} {x : Int} (h : least[f]? = some x) : lv least (f : Int) = x := by
  unfold lv
  rw [if_neg (by omega)]
  simp [List.getD_eq_getElem?_getD, h]
/-- the lists grow at their ends alone -/
theorem lv_append {least : List Int} {x f : Int} (h : f < (least.length : Int)) : lv (least ++ [x]) f = lv least f := by
  unfold lv
  by_cases c : f < 0
  · rw [if_pos c, if_pos c]
  · rw [if_neg c, if_neg c]
    have h2 : f.toNat < least.length := by omega
    simp [List.getD_eq_getElem?_getD, List.getElem?_append_left h2]
theorem cst_append {A least : List Int} {x f : Int} {i : Nat} (h : f < (least.length : Int)) : cst A (least ++ [x]) f i = cst A least f i := by
  unfold cst
  rw [lv_append h]
theorem Rows.nil (A : List Int) (m : Nat) : Rows A m [] [] 0 := ⟨rfl, rfl, fun i hi => absurd hi (Nat.not_lt_zero _)⟩
theorem Rows.snoc {A : List Int} {m k : Nat} {least ahead : List Int} (R : Rows A m least ahead k) {f : Int} (lo : -1 ≤ f) (hi : f < (k : Int)) (mn : ∀ g : Int, -1 ≤ g → g < (k : Int) → cst A least f k ≤ cst A least g k)
    (fi : ∀ g : Int, f < g → g < (k : Int) → cst A least f k < cst A least g k) : Rows A m (least ++ [cst A least f k + pen A m k]) (ahead ++ [f]) (k + 1) := by
  have l1 := R.l1
  have l2 := R.l2
  refine ⟨by simp [l1], by simp [l2], fun i hi' => ?_⟩
  by_cases e : i = k
  · subst e
    refine ⟨f, ?_, lo, hi, ?_, fun g g1 g2 => ?_, fun g g1 g2 => ?_⟩
    · rw [List.getElem?_append_right (by omega), l2]
      simp
    · rw [cst_append (by omega), List.getElem?_append_right (by omega), l1]
      simp
    · rw [cst_append (by omega), cst_append (by omega)]
      exact mn g g1 g2
    · rw [cst_append (by omega), cst_append (by omega)]
      exact fi g g1 g2
  · have hik : i < k := by omega
    obtain ⟨f', r⟩ := R.row i hik
    have r3 := r.hi
    refine ⟨f', ?_, r.lo, r.hi, ?_, fun g g1 g2 => ?_, fun g g1 g2 => ?_⟩
    · rw [List.getElem?_append_left (by omega)]
      exact r.at_
    · rw [cst_append (by omega), List.getElem?_append_left (by omega)]
      exact r.val
    · rw [cst_append (by omega), cst_append (by omega)]
      exact r.min g g1 g2
    · rw [cst_append (by omega), cst_append (by omega)]
      exact r.first g g1 g2
/-- there is one such pair of lists -/
theorem Rows.one {A : List Int} {m k : Nat} {least ahead least' ahead' : List Int} (R : Rows A m least ahead k) (R' : Rows A m least' ahead' k) : least = least' ∧ ahead = ahead' := by
  have key : ∀ j i, i < j → i < k → least[i]? = least'[i]? ∧ ahead[i]? = ahead'[i]? := by
    intro j
    induction j with
    | zero =>
      intro i h
      exact absurd h (Nat.not_lt_zero _)
    | succ j ih =>
      intro i hij hik
      obtain ⟨f, r⟩ := R.row i hik
      obtain ⟨f', r'⟩ := R'.row i hik
      have r3 := r.hi
      have r3' := r'.hi
      have same : ∀ g : Int, -1 ≤ g → g < (i : Int) → cst A least g i = cst A least' g i := by
        intro g g1 g2
        unfold cst lv
        by_cases c : g < 0
        · rw [if_pos c, if_pos c]
        · rw [if_neg c, if_neg c]
          have := (ih g.toNat (by omega) (by omega)).1
          simp [List.getD_eq_getElem?_getD, this]
      have ef : f = f' := by
        have s1 := same f r.lo r3
        have s2 := same f' r'.lo r3'
        have a := r.min f' r'.lo r3'
        have b := r'.min f r.lo r3
        rcases Int.lt_trichotomy f f' with z | z | z
        · have := r.first f' z r3'
          omega
        · exact z
        · have := r'.first f z r3
          omega
      subst ef
      exact ⟨by rw [r.val, r'.val, same f r.lo r3], by rw [r.at_, r'.at_]⟩
  have l1 := R.l1
  have l2 := R.l2
  have l1' := R'.l1
  have l2' := R'.l2
  constructor
  · refine List.ext_getElem? fun i => ?_
    by_cases h : i < k
    · exact (key (i + 1) i (Nat.lt_succ_self _) h).1
    · rw [List.getElem?_eq_none (by omega), List.getElem?_eq_none (by omega)]
  · refine List.ext_getElem? fun i => ?_
    by_cases h : i < k
    · exact (key (i + 1) i (Nat.lt_succ_self _) h).2
    · rw [List.getElem?_eq_none (by omega), List.getElem?_eq_none (by omega)]
/-- the way back -/
inductive Chain (ahead : List Int) : Int → List Nat → Prop
  | stop {f : Int} : f < 0 → Chain ahead f []
  | step {f : Nat} {g : Int} {r : List Nat} : ahead[f]? = some g → Chain ahead g r → Chain ahead (f : Int) (f :: r)
theorem Chain.one {ahead : List Int} {f : Int} {r r' : List Nat} (c : Chain ahead f r) (c' : Chain ahead f r') : r = r' := by
  induction c generalizing r' with
  | stop h =>
    cases c' with
    | stop _ => rfl
    | step _ _ => omega
  | step h c ih =>
    rename_i f g r
    generalize e : (f : Int) = x at c'
    cases c' with
    | stop h2 => omega
    | step h2 c2 =>
      rename_i f2 g2 r2
      have e2 : f = f2 := by omega
      subst e2
      obtain rfl := Option.some.inj (h.symm.trans h2)
      rw [ih c2]
theorem countP_or_eq {α : Type} (p q : α → Bool) : ∀ l : List α, (∀ x ∈ l, p x = true → q x = true → False) → (l.countP fun x => p x || q x) = l.countP p + l.countP q
  | [], _ => by simp
  | x :: l, h => by
    have ih := countP_or_eq p q l fun y hy => h y (List.mem_cons_of_mem _ hy)
    have hx := h x List.mem_cons_self
    rw [List.countP_cons, List.countP_cons, List.countP_cons]
    cases hp : p x <;> cases hq : q x <;> simp [hp, hq] at hx ⊢ <;> omega
/-- the stretches that end by i with none of some times within -/
def free (A : List Int) (T : List Nat) (i : Nat) : Nat := (strl A).countP fun q => decide (q.2 ≤ i) && !crossed T q
theorem free_nil (A : List Int) (i : Nat) : free A [] i = btw A (-1) i := by
  unfold free btw
  refine List.countP_congr fun q _ => ?_
  have : (-1 : Int) ≤ (q.1 : Int) := by omega
  simp [crossed_nil, this]
theorem btw_neg (A : List Int) {f : Int} (h : f < 0) (i : Nat) : btw A f i = btw A (-1) i := by
  unfold btw
  refine List.countP_congr fun q _ => ?_
  have h1 : (-1 : Int) ≤ (q.1 : Int) := by omega
  have h2 : f ≤ (q.1 : Int) := by omega
  simp [h1, h2]
theorem free_cons {A : List Int} {T : List Nat} {u i : Nat} (hT : ∀ v ∈ T, v < u) (hu : u < i) : free A (u :: T) i = free A T u + btw A (u : Int) i := by
  unfold free btw
  rw [← countP_or_eq]
  · refine List.countP_congr fun q hq => ?_
    obtain ⟨h1, h2, _⟩ := mem_strs.mp hq
    rw [crossed_cons]
    simp only [over, Bool.and_eq_true, Bool.or_eq_true, decide_eq_true_eq, Bool.not_eq_true', Bool.or_eq_false_iff, Bool.and_eq_false_iff, decide_eq_false_iff_not]
    constructor
    · rintro ⟨a, b, c⟩
      by_cases z : q.2 ≤ u
      · exact .inl ⟨z, c⟩
      · exact .inr ⟨by omega, a⟩
    · rintro (⟨a, b⟩ | ⟨a, b⟩)
      · exact ⟨by omega, by omega, b⟩
      · refine ⟨b, by omega, crossed_false.mpr fun v hv c => ?_⟩
        have := hT v hv
        omega
  · intro q hq a b
    obtain ⟨h1, h2, _⟩ := mem_strs.mp hq
    simp only [Bool.and_eq_true, decide_eq_true_eq] at a b
    omega
/-- what a way costs -/
theorem Chain.cost {A : List Int} {m : Nat} {least ahead : List Int} (hm : 1 ≤ m) (R : Rows A m least ahead (A.length + 1)) {f : Int} {r : List Nat} (c : Chain ahead f r) :
    ∀ i : Nat, f < (i : Int) → i ≤ A.length → r.Pairwise (· > ·) ∧ (∀ u ∈ r, u < i) ∧ (((m - 1) * r.length + free A r i : Nat) : Int) = cst A least f i := by
  induction c with
  | stop h =>
    intro i _ _
    refine ⟨List.Pairwise.nil, fun u hu => (nomatch hu), ?_⟩
    unfold cst
    rw [lv_neg h, btw_neg A h, free_nil]
    simp
  | step h c ih =>
    rename_i f g r
    intro i hi hn
    obtain ⟨g', rw_⟩ := R.row f (by omega)
    obtain rfl := Option.some.inj (h.symm.trans rw_.at_)
    have r3 := rw_.hi
    obtain ⟨p, a, e⟩ := ih f r3 (by omega)
    refine ⟨List.pairwise_cons.mpr ⟨fun u hu => a u hu, p⟩, fun u hu => ?_, ?_⟩
    · rcases List.mem_cons.mp hu with rfl | hz
      · omega
      · have := a u hz
        omega
    · have hp : pen A m f = (m : Int) - 1 := by
        unfold pen
        rw [if_pos (by omega)]
      rw [free_cons a (by omega)]
      show _ = (btw A (f : Int) i : Int) + lv least (f : Int)
      rw [lv_nat rw_.val, hp, ← e, List.length_cons, Nat.mul_succ]
      omega
/-- nothing costs less -/
theorem Rows.least {A : List Int} {m : Nat} {least ahead : List Int} (hm : 1 ≤ m) (R : Rows A m least ahead (A.length + 1)) : ∀ (T : List Nat) (i : Nat) (f : Int), i ≤ A.length → Row A m least ahead i f → T.Pairwise (· > ·) → (∀ u ∈ T, u < i) →
    cst A least f i ≤ (((m - 1) * T.length + free A T i : Nat) : Int)
  | [], i, f, hn, r, _, _ => by
    have h1 := r.lo
    have h2 := r.hi
    have := r.min (-1) (by omega) (by omega)
    refine Int.le_trans this ?_
    unfold cst
    rw [lv_neg (by omega), free_nil]
    simp
  | u :: T, i, f, hn, r, p, a => by
    have hu := a u List.mem_cons_self
    obtain ⟨p1, p2⟩ := List.pairwise_cons.mp p
    obtain ⟨fu, ru⟩ := R.row u (by omega)
    have ih := Rows.least hm R T u fu (by omega) ru p2 fun v hv => p1 v hv
    have mn := r.min (u : Int) (by omega) (by omega)
    refine Int.le_trans mn ?_
    have hp : pen A m u = (m : Int) - 1 := by
      unfold pen
      rw [if_pos (by omega)]
    show (btw A (u : Int) i : Int) + lv least (u : Int) ≤ _
    rw [free_cons (fun v hv => p1 v hv) hu, lv_nat ru.val, hp, List.length_cons, Nat.mul_succ]
    omega
theorem free_all (A : List Int) (T : List Nat) : free A T A.length = (strl A).countP fun q => !crossed T q := by
  unfold free
  refine List.countP_congr fun q hq => ?_
  have h := (mem_strs.mp hq).2.1
  have h2 : q.2 ≤ A.length := by omega
  simp [h2]
theorem best_least {A : List Int} {m : Nat} {least ahead : List Int} (hm : 1 ≤ m) (R : Rows A m least ahead (A.length + 1)) {f : Int} (hf : ahead[A.length]? = some f) {r : List Nat} (c : Chain ahead f r) :
    r.Pairwise (· > ·) ∧ (∀ u ∈ r, u < A.length) ∧ ∀ T : List Nat, T.Pairwise (· > ·) → (∀ u ∈ T, u < A.length) → bnd A m r ≤ bnd A m T := by
  obtain ⟨f', rw_⟩ := R.row A.length (by omega)
  obtain rfl := Option.some.inj (hf.symm.trans rw_.at_)
  obtain ⟨p, a, e⟩ := c.cost hm R A.length rw_.hi (Nat.le_refl _)
  refine ⟨p, a, fun T hT hu => ?_⟩
  have := R.least hm T A.length f (Nat.le_refl _) rw_ hT hu
  rw [free_all] at this e
  unfold bnd
  omega
theorem crossed_reverse (T : List Nat) (q : Pr) : crossed T.reverse q = crossed T q := by
  unfold crossed
  rw [List.any_reverse]
theorem bnd_reverse (A : List Int) (m : Nat) (T : List Nat) : bnd A m T.reverse = bnd A m T := by
  unfold bnd
  rw [List.length_reverse]
  congr 2
  funext q
  rw [crossed_reverse]
/-- both sides meet -/
theorem meet {A : List Int} {m : Nat} {least ahead : List Int} (hm : 1 ≤ m) (R : Rows A m least ahead (A.length + 1)) {f : Int} (hf : ahead[A.length]? = some f) {r : List Nat} (c : Chain ahead f r) {T : Tb} {F : List Pr} (u : Run A m A.length T F) :
    bnd A m r = F.length := by
  obtain ⟨p, a, least⟩ := best_least hm R hf c
  obtain ⟨Ts, h1, h2, h3⟩ := u.gr.meets
  have h4 := least Ts h1 h2
  have h5 := u.gr.kept.le hm r
  omega
end Fm
end
section
set_option autoImplicit false
/-! The law's own count: all that can lie in the rooms. -/
namespace Fm
/-- p lies idle behind some told time -/
def chg (A : List Int) (Ts : List Nat) (t : Nat) (p : Int) : Bool := Ts.any fun u => decide (u < t) && (List.range t).all fun k => decide (k < u) || decide (A[k]? ≠ some p)
theorem chg_iff {A : List Int} {Ts : List Nat} {t : Nat} {p : Int} : chg A Ts t p = true ↔ ∃ u ∈ Ts, u < t ∧ ∀ k, k < t → u ≤ k → A[k]? ≠ some p := by
  unfold chg
  simp only [List.any_eq_true, Bool.and_eq_true, decide_eq_true_eq, List.all_eq_true, List.mem_range, Bool.or_eq_true]
  constructor
  · rintro ⟨u, h1, h2, h3⟩
    refine ⟨u, h1, h2, fun k a b => ?_⟩
    rcases h3 k a with z | z
    · omega
    · exact z
  · rintro ⟨u, h1, h2, h3⟩
    refine ⟨u, h1, h2, fun k a => ?_⟩
    by_cases c : k < u
    · exact .inl c
    · exact .inr (h3 k a (by omega))
structure Up (A : List Int) (m t : Nat) (S : List Int) (h : Nat) : Prop where
  nd : S.Nodup
  len : S.length ≤ m
  asked : ∀ p ∈ S, ∃ s, s < t ∧ A[s]? = some p
  le : ∀ Ts : List Nat, h + S.countP (chg A Ts t) ≤ (m - 1) * (Ts.countP fun u => decide (u < t)) + (strl A).countP fun q => decide (q.2 < t) && !crossed Ts q
theorem last_of {A : List Int} {p : Int} : ∀ {t : Nat}, (∃ s, s < t ∧ A[s]? = some p) → ∃ s, s < t ∧ A[s]? = some p ∧ ∀ k, s < k → k < t → A[k]? ≠ some p
  | 0, h => by
    obtain ⟨s, h, _⟩ := h
    exact absurd h (Nat.not_lt_zero _)
  | t + 1, h => by
    by_cases c : A[t]? = some p
    · exact ⟨t, Nat.lt_succ_self _, c, fun k a b => by omega⟩
    · obtain ⟨s, h1, h2⟩ := h
      have hs : s < t := by
        have : s ≠ t := fun e => c (e ▸ h2)
        omega
      obtain ⟨s', a, b, d⟩ := last_of ⟨s, hs, h2⟩
      refine ⟨s', Nat.lt_succ_of_lt a, b, fun k x y => ?_⟩
      by_cases e : k = t
      · rw [e]
        exact c
      · exact d k x (by omega)
theorem Up.zero (A : List Int) (m : Nat) : Up A m 0 [] 0 := ⟨List.nodup_nil, Nat.zero_le _, fun p hp => (nomatch hp), fun Ts => by simp⟩
theorem Up.step {A : List Int} {m t h : Nat} {p : Int} {S S' : List Int} (u : Up A m t S h) (e : A[t]? = some p) (nd : S'.Nodup) (len : S'.length ≤ m) (hp : p ∈ S') (sub : ∀ x ∈ S', x = p ∨ x ∈ S) :
    Up A m (t + 1) S' (h + if p ∈ S then 1 else 0) := by
  have hn : t < A.length := (List.getElem?_eq_some_iff.mp e).1
  refine ⟨nd, len, fun x hx => ?_, fun Ts => ?_⟩
  · rcases sub x hx with rfl | z
    · exact ⟨t, Nat.lt_succ_self _, e⟩
    · obtain ⟨s, a, b⟩ := u.asked x z
      exact ⟨s, Nat.lt_succ_of_lt a, b⟩
  · have ih := u.le Ts
    -- the stretches that end at t
    have f1 : ((strl A).countP fun q => decide (q.2 < t + 1) && !crossed Ts q) = ((strl A).countP fun q => decide (q.2 < t) && !crossed Ts q) + (strl A).countP fun q => decide (q.2 = t) && !crossed Ts q := by
      rw [← countP_or_eq]
      · refine List.countP_congr fun q _ => ?_
        simp only [Bool.and_eq_true, Bool.or_eq_true, decide_eq_true_eq]
        constructor
        · rintro ⟨a, b⟩
          by_cases c : q.2 < t
          · exact .inl ⟨c, b⟩
          · exact .inr ⟨by omega, b⟩
        · rintro (⟨a, b⟩ | ⟨a, b⟩)
          · exact ⟨by omega, b⟩
          · exact ⟨by omega, b⟩
      · intro q _ a b
        simp only [Bool.and_eq_true, decide_eq_true_eq] at a b
        omega
    have claim1 : p ∈ S → chg A Ts t p = false → 1 ≤ (strl A).countP fun q => decide (q.2 = t) && !crossed Ts q := by
      intro hS hc
      obtain ⟨s, s1, s2, s3⟩ := last_of (u.asked p hS)
      have st : IsStr A s t := ⟨s1, hn, e.trans s2.symm, fun k a b => by rw [s2]; exact s3 k a b⟩
      refine List.countP_pos_iff.mpr ⟨(s, t), mem_strs.mpr st, ?_⟩
      simp only [decide_true, Bool.true_and, Bool.not_eq_true']
      refine crossed_false.mpr fun v hv a b => ?_
      rw [← Bool.not_eq_true, chg_iff] at hc
      exact hc ⟨v, hv, b, fun k x y => s3 k (by omega) x⟩
    have claim2 : chg A Ts (t + 1) p = false := by
      rw [← Bool.not_eq_true, chg_iff]
      rintro ⟨v, hv, a, b⟩
      exact b t (Nat.lt_succ_self _) (by omega) e
    have claim3 : p ∈ S → chg A Ts t p = true → 1 ≤ S.countP (chg A Ts t) := fun hS hc => List.countP_pos_iff.mpr ⟨p, hS, hc⟩
    by_cases tT : t ∈ Ts
    · have c1 : (Ts.countP fun u => decide (u < t)) + 1 ≤ Ts.countP fun u => decide (u < t + 1) := by
        have z : (Ts.countP fun u => decide (u < t + 1)) = (Ts.countP fun u => decide (u < t)) + Ts.countP fun u => decide (u = t) := by
          rw [← countP_or_eq]
          · refine List.countP_congr fun q _ => ?_
            simp only [Bool.or_eq_true, decide_eq_true_eq]
            omega
          · intro q _ a b
            simp only [decide_eq_true_eq] at a b
            omega
        have z2 : 1 ≤ Ts.countP fun u => decide (u = t) := List.countP_pos_iff.mpr ⟨t, tT, by simp⟩
        omega
      have c2 : S'.countP (chg A Ts (t + 1)) ≤ m - 1 := by
        have a := countP_add_not (chg A Ts (t + 1)) S'
        have b : 1 ≤ S'.countP fun x => !chg A Ts (t + 1) x := List.countP_pos_iff.mpr ⟨p, hp, by rw [claim2]; rfl⟩
        omega
      have c3 := Nat.mul_le_mul_left (m - 1) c1
      rw [Nat.mul_succ] at c3
      rw [f1]
      by_cases hS : p ∈ S
      · rw [if_pos hS]
        cases hc : chg A Ts t p with
        | true =>
          have := claim3 hS hc
          omega
        | false =>
          have := claim1 hS hc
          omega
      · rw [if_neg hS]
        omega
    · have c1 : (Ts.countP fun u => decide (u < t)) = Ts.countP fun u => decide (u < t + 1) := by
        refine List.countP_congr fun v hv => ?_
        have : v ≠ t := fun e => tT (e ▸ hv)
        simp only [decide_eq_true_eq]
        omega
      have c2 : S'.countP (chg A Ts (t + 1)) ≤ S.countP fun x => decide (x ≠ p) && chg A Ts t x := by
        have a : S'.countP (chg A Ts (t + 1)) ≤ S'.countP fun x => decide (x ≠ p) && chg A Ts t x := by
          refine List.countP_mono_left fun x hx hc => ?_
          rw [Bool.and_eq_true, decide_eq_true_eq, chg_iff]
          refine ⟨fun z => ?_, ?_⟩
          · rw [z, claim2] at hc
            cases hc
          · obtain ⟨v, hv, a, b⟩ := chg_iff.mp hc
            have : v ≠ t := fun e => tT (e ▸ hv)
            exact ⟨v, hv, by omega, fun k x y => b k (by omega) y⟩
        refine Nat.le_trans a (countP_le_of_sub nd fun x hx hc => ?_)
        rw [Bool.and_eq_true, decide_eq_true_eq] at hc
        exact (sub x hx).resolve_left hc.1
      have c3 : (S.countP fun x => decide (x ≠ p) && chg A Ts t x) + (S.countP fun x => decide (x = p) && chg A Ts t x) ≤ S.countP (chg A Ts t) := by
        rw [← countP_or_eq]
        · refine List.countP_mono_left fun x _ hc => ?_
          simp only [Bool.or_eq_true, Bool.and_eq_true] at hc
          rcases hc with z | z
          · exact z.2
          · exact z.2
        · intro x _ a b
          simp only [Bool.and_eq_true, decide_eq_true_eq] at a b
          exact a.1 b.1
      rw [← c1, f1]
      by_cases hS : p ∈ S
      · rw [if_pos hS]
        cases hc : chg A Ts t p with
        | true =>
          have : 1 ≤ S.countP fun x => decide (x = p) && chg A Ts t x := List.countP_pos_iff.mpr ⟨p, hS, by simp [hc]⟩
          omega
        | false =>
          have := claim1 hS hc
          omega
      · rw [if_neg hS]
        omega
theorem Up.bound {A : List Int} {m h : Nat} {S : List Int} (u : Up A m A.length S h) {Ts : List Nat} (hT : ∀ v ∈ Ts, v < A.length) : h ≤ bnd A m Ts := by
  have a := u.le Ts
  have b : (Ts.countP fun u => decide (u < A.length)) = Ts.length := List.countP_eq_length.mpr fun v hv => decide_eq_true (hT v hv)
  have c : ((strl A).countP fun q => decide (q.2 < A.length) && !crossed Ts q) = (strl A).countP fun q => !crossed Ts q := by
    refine List.countP_congr fun q hq => ?_
    have := (mem_strs.mp hq).2.1
    simp [this]
  rw [b, c] at a
  unfold bnd
  omega
/-! ### the ways on -/
def rst (S : List Int) (p : Int) : List Int := S.filter fun x => decide (x ≠ p)
def opts (m : Nat) (R : List Int) : List (List Int) := if R.length < m then [R] else (List.range R.length).map fun i => R.eraseIdx i
abbrev Sts := List (List Int × Nat)
theorem opt_ok {m : Nat} {R one : List Int} (nd : R.Nodup) (hl : R.length ≤ m) (h : one ∈ opts m R) : one.Nodup ∧ one.length + 1 ≤ m ∧ ∀ x ∈ one, x ∈ R := by
  unfold opts at h
  by_cases c : R.length < m
  · rw [if_pos c] at h
    obtain rfl := List.mem_singleton.mp h
    exact ⟨nd, c, fun _ z => z⟩
  · rw [if_neg c] at h
    obtain ⟨i, hi, rfl⟩ := List.mem_map.mp h
    have hi' := List.mem_range.mp hi
    refine ⟨nd.sublist (List.eraseIdx_sublist _ _), ?_, fun x hx => List.mem_of_mem_eraseIdx hx⟩
    rw [List.length_eraseIdx_of_lt hi']
    omega
theorem opts_ne {m : Nat} {R : List Int} (hm : 1 ≤ m) : opts m R ≠ [] := by
  unfold opts
  by_cases c : R.length < m
  · rw [if_pos c]
    simp
  · rw [if_neg c]
    intro z
    have := congrArg List.length z
    simp at this
    rw [this] at c
    exact c hm
theorem rst_nd {S : List Int} {p : Int} (nd : S.Nodup) : (rst S p).Nodup := nd.filter _
theorem rst_mem {S : List Int} {p x : Int} : x ∈ rst S p ↔ x ∈ S ∧ x ≠ p := by
  unfold rst
  rw [List.mem_filter, decide_eq_true_eq]
theorem rst_le (S : List Int) (p : Int) : (rst S p).length ≤ S.length := List.length_filter_le _ _
/-- one way on, put in order -/
theorem Up.way {A : List Int} {m t h : Nat} {p : Int} {S S' one : List Int} (u : Up A m t S h) (e : A[t]? = some p) (ho : one ∈ opts m (rst S p)) (pm : S'.Perm (one ++ [p])) : Up A m (t + 1) S' (h + if p ∈ S then 1 else 0) := by
  obtain ⟨o1, o2, o3⟩ := opt_ok (rst_nd u.nd) (Nat.le_trans (rst_le S p) u.len) ho
  refine u.step e (pm.nodup_iff.mpr (List.nodup_append.mpr ⟨o1, by simp, fun a ha b hb => ?_⟩)) (by rw [pm.length_eq]; simpa using o2) (pm.mem_iff.mpr (by simp)) fun x hx => ?_
  · obtain rfl := List.mem_singleton.mp hb
    exact (rst_mem.mp (o3 a ha)).2
  · rcases List.mem_append.mp (pm.mem_iff.mp hx) with z | z
    · exact .inr (rst_mem.mp (o3 x z)).1
    · exact .inl (List.mem_singleton.mp z)
theorem keys_put {T : Tb} {p : Int} {s t : Nat} (nd : (T.map (·.1)).Nodup) (h : (p, s) ∈ T) : (p :: (drop T p).map (·.1)).Perm ((put T p t).map (·.1)) := ((put_perm (t := t) nd h).map Prod.fst).symm
theorem keys_put_new {T : Tb} {p : Int} {t : Nat} (h : p ∉ T.map (·.1)) : (p :: T.map (·.1)).Perm ((put T p t).map (·.1)) := ((put_perm_new (t := t) h).map Prod.fst).symm
/-- every run is among the states -/
def Lo (A : List Int) (m t : Nat) (L : Sts) : Prop := ∀ T F, Run A m t T F → ∃ x ∈ L, x.1.Perm (T.map (·.1)) ∧ F.length ≤ x.2
/-- every way on of the states in L is among those in L' -/
def Cov (m : Nat) (p : Int) (L L' : Sts) : Prop := ∀ x ∈ L, ∀ one ∈ opts m (rst x.1 p), ∃ y ∈ L', y.1.Perm (one ++ [p]) ∧ x.2 + (if p ∈ x.1 then 1 else 0) ≤ y.2
theorem Lo.zero (A : List Int) (m : Nat) : Lo A m 0 [([], 0)] := fun T F r => by
  cases r
  exact ⟨([], 0), List.mem_singleton.mpr rfl, List.Perm.refl _, Nat.le_refl _⟩
theorem perm_rst {T : Tb} {p : Int} {S : List Int} (h : S.Perm (T.map (·.1))) : (rst S p).Perm ((drop T p).map (·.1)) := by
  have a := h.filter fun x => decide (x ≠ p)
  have b : (T.map (·.1)).filter (fun x => decide (x ≠ p)) = (drop T p).map (·.1) := by
    unfold drop
    rw [List.filter_map]
    rfl
  rw [← b]
  exact a
theorem Lo.step {A : List Int} {m t : Nat} {p : Int} {L L' : Sts} (lo : Lo A m t L) (e : A[t]? = some p) (cv : Cov m p L L') : Lo A m (t + 1) L' := fun T' F' r => by
  cases r with
  | hit r e2 l =>
    rename_i s p2 T F
    obtain rfl := Option.some.inj (e.symm.trans e2)
    obtain ⟨x, hx, px, hf⟩ := lo T F r
    have hin := look_mem l
    have nd := r.gr.nd
    have len := r.gr.len
    have pd := perm_drop nd hin
    have pr := perm_rst (p := p) px
    have lt : (rst x.1 p).length < m := by
      have := pd.length_eq
      have := pr.length_eq
      simp at *
      omega
    obtain ⟨y, hy, py, hyf⟩ := cv x hx (rst x.1 p) (by unfold opts; rw [if_pos lt]; exact List.mem_singleton.mpr rfl)
    refine ⟨y, hy, py.trans ?_, ?_⟩
    · refine (List.perm_append_singleton _ _).trans ?_
      exact (pr.cons p).trans (keys_put nd hin)
    · have pin : p ∈ x.1 := px.mem_iff.mpr (List.mem_map_of_mem (f := (·.1)) hin)
      rw [if_pos pin] at hyf
      rw [List.length_append, List.length_singleton]
      omega
  | miss r e2 l hl =>
    rename_i p2 T
    obtain rfl := Option.some.inj (e.symm.trans e2)
    obtain ⟨x, hx, px, hf⟩ := lo T F' r
    have hout := look_none.mp l
    have len := r.gr.len
    have pout : p ∉ x.1 := fun z => hout (px.mem_iff.mp z)
    have er : rst x.1 p = x.1 := List.filter_eq_self.mpr fun z hz => decide_eq_true fun e => pout (e ▸ hz)
    have lt : (rst x.1 p).length < m := by
      rw [er, px.length_eq, List.length_map]
      omega
    obtain ⟨y, hy, py, hyf⟩ := cv x hx (rst x.1 p) (by unfold opts; rw [if_pos lt]; exact List.mem_singleton.mpr rfl)
    refine ⟨y, hy, py.trans ?_, by omega⟩
    rw [er]
    refine (List.perm_append_singleton _ _).trans ?_
    exact (px.cons p).trans (keys_put_new hout)
  | evict r e2 l hl hq mx =>
    rename_i s p2 q T
    obtain rfl := Option.some.inj (e.symm.trans e2)
    obtain ⟨x, hx, px, hf⟩ := lo T F' r
    have hout := look_none.mp l
    have nd := r.gr.nd
    have pd := perm_drop nd hq
    have pout : p ∉ x.1 := fun z => hout (px.mem_iff.mp z)
    have er : rst x.1 p = x.1 := List.filter_eq_self.mpr fun z hz => decide_eq_true fun e => pout (e ▸ hz)
    have xl : x.1.length = m := by rw [px.length_eq, List.length_map, hl]
    have qin : q ∈ x.1 := px.mem_iff.mpr (List.mem_map_of_mem (f := (·.1)) hq)
    obtain ⟨i, hi, ei⟩ := List.getElem_of_mem qin
    have xnd : x.1.Nodup := px.nodup_iff.mpr nd
    obtain ⟨y, hy, py, hyf⟩ := cv x hx (x.1.eraseIdx i) (by
      unfold opts
      rw [er, if_neg (by omega)]
      exact List.mem_map.mpr ⟨i, List.mem_range.mpr hi, rfl⟩)
    have pe : (q :: x.1.eraseIdx i).Perm x.1 := by
      have h1 := List.take_append_drop i x.1
      rw [List.eraseIdx_eq_take_drop_succ]
      have h2 : x.1.drop i = q :: x.1.drop (i + 1) := by
        rw [List.drop_eq_getElem_cons hi, ei]
      refine (List.perm_middle).symm.trans ?_
      rw [← h2, h1]
    have pe2 : (x.1.eraseIdx i).Perm ((drop T q).map (·.1)) := by
      have a := pe.trans (px.trans (pd.map (·.1)))
      exact List.Perm.cons_inv a
    refine ⟨y, hy, py.trans ?_, by omega⟩
    refine (List.perm_append_singleton _ _).trans ?_
    exact (pe2.cons p).trans (keys_put_new (drop_keys hout))
/-! ### how many states there may be -/
def code : List Int → Nat
  | [] => 0
  | x :: r => (x.toNat + 1) + 7 * code r
theorem code_lt : ∀ {S : List Int}, (∀ x ∈ S, 0 ≤ x ∧ x < 6) → code S < 7 ^ S.length
  | [], _ => by simp [code]
  | x :: r, h => by
    have ih := code_lt (S := r) fun y hy => h y (List.mem_cons_of_mem _ hy)
    have hx := h x List.mem_cons_self
    rw [List.length_cons, Nat.pow_succ]
    unfold code
    omega
theorem code_inj : ∀ {S S' : List Int}, (∀ x ∈ S, 0 ≤ x ∧ x < 6) → (∀ x ∈ S', 0 ≤ x ∧ x < 6) → code S = code S' → S = S'
  | [], [], _, _, _ => rfl
  | [], x :: r, _, _, e => by
    unfold code at e
    omega
  | x :: r, [], _, _, e => by
    unfold code at e
    omega
  | x :: r, y :: k, h, h', e => by
    have hx := h x List.mem_cons_self
    have hy := h' y List.mem_cons_self
    unfold code at e
    have e1 : code r = code k := by omega
    have e2 : x = y := by omega
    rw [e2, code_inj (fun z hz => h z (List.mem_cons_of_mem _ hz)) (fun z hz => h' z (List.mem_cons_of_mem _ hz)) e1]
theorem few {L : Sts} (nd : (L.map (·.1)).Nodup) (h : ∀ x ∈ L, x.1.length ≤ 4 ∧ ∀ p ∈ x.1, 0 ≤ p ∧ p < 6) : L.length ≤ 2401 := by
  have nd2 : ((L.map (·.1)).map code).Nodup := by
    refine List.pairwise_map.mpr (List.Pairwise.imp_of_mem ?_ nd)
    intro a b ha hb ne e
    obtain ⟨x, hx, rfl⟩ := List.mem_map.mp ha
    obtain ⟨y, hy, rfl⟩ := List.mem_map.mp hb
    exact ne (code_inj (h x hx).2 (h y hy).2 e)
  have sub : (L.map (·.1)).map code ⊆ List.range 2401 := by
    intro c hc
    obtain ⟨S, hS, rfl⟩ := List.mem_map.mp hc
    obtain ⟨x, hx, rfl⟩ := List.mem_map.mp hS
    have h1 := code_lt (h x hx).2
    have h2 : 7 ^ x.1.length ≤ 7 ^ 4 := Nat.pow_le_pow_right (by decide) (h x hx).1
    have h3 : (7 : Nat) ^ 4 = 2401 := by decide
    exact List.mem_range.mpr (by omega)
  have := List.Nodup.length_le_of_subset nd2 sub
  simpa using this
end Fm
end
section
set_option autoImplicit false
/-! The stretches as the program finds them. -/
namespace Fm
def lastOf (A : List Int) : Nat → Int → Option Nat
  | 0, _ => none
  | i + 1, p => if A[i]? = some p then some i else lastOf A i p
theorem lastOf_some {A : List Int} {p : Int} : ∀ {i s : Nat}, lastOf A i p = some s ↔ s < i ∧ A[s]? = some p ∧ ∀ k, s < k → k < i → A[k]? ≠ some p
  | 0, s => by simp [lastOf]
  | i + 1, s => by
    unfold lastOf
    by_cases c : A[i]? = some p
    · rw [if_pos c]
      constructor
      · intro e
        obtain rfl := Option.some.inj e
        exact ⟨Nat.lt_succ_self _, c, fun k a b => by omega⟩
      · rintro ⟨h1, h2, h3⟩
        by_cases e : s = i
        · rw [e]
        · exact absurd c (h3 i (by omega) (Nat.lt_succ_self _))
    · rw [if_neg c, lastOf_some]
      constructor
      · rintro ⟨h1, h2, h3⟩
        refine ⟨by omega, h2, fun k a b => ?_⟩
        by_cases e : k = i
        · rw [e]
          exact c
        · exact h3 k a (by omega)
      · rintro ⟨h1, h2, h3⟩
        have e : s ≠ i := fun e => c (e ▸ h2)
        exact ⟨by omega, h2, fun k a b => h3 k a (by omega)⟩
def fnd (A : List Int) : Nat → List Pr
  | 0 => []
  | i + 1 => fnd A i ++ match A[i]? with
    | some p => match lastOf A i p with
      | some s => [(s, i)]
      | none => []
    | none => []
theorem fnd_hit {A : List Int} {i s : Nat} {p : Int} (h : A[i]? = some p) (l : lastOf A i p = some s) : fnd A (i + 1) = fnd A i ++ [(s, i)] := by
  show fnd A i ++ _ = _
  rw [h]
  simp only [l]
theorem fnd_miss {A : List Int} {i : Nat} {p : Int} (h : A[i]? = some p) (l : lastOf A i p = none) : fnd A (i + 1) = fnd A i := by
  show fnd A i ++ _ = _
  rw [h]
  simp only [l, List.append_nil]
theorem mem_fnd {A : List Int} : ∀ {i : Nat} {q : Pr}, i ≤ A.length → (q ∈ fnd A i ↔ IsStr A q.1 q.2 ∧ q.2 < i)
  | 0, q, _ => by simp [fnd]
  | i + 1, q, hi => by
    have hp : A[i]? = some A[i] := List.getElem?_eq_getElem (by omega)
    have ih := mem_fnd (A := A) (i := i) (q := q) (by omega)
    cases l : lastOf A i A[i] with
    | none =>
      rw [fnd_miss hp l, ih]
      constructor
      · rintro ⟨a, b⟩
        exact ⟨a, by omega⟩
      · rintro ⟨a, b⟩
        refine ⟨a, ?_⟩
        by_cases e : q.2 = i
        · obtain ⟨h1, h2, h3, h4⟩ := a
          rw [e] at h1 h3 h4
          rw [hp] at h3
          have : lastOf A i A[i] = some q.1 := lastOf_some.mpr ⟨h1, h3.symm, fun k x y => by rw [h3]; exact h4 k x y⟩
          rw [l] at this
          cases this
        · omega
    | some s =>
      obtain ⟨l1, l2, l3⟩ := lastOf_some.mp l
      rw [fnd_hit hp l, List.mem_append, ih, List.mem_singleton]
      have st : IsStr A s i := ⟨l1, by omega, hp.trans l2.symm, fun k a b => by rw [l2]; exact l3 k a b⟩
      constructor
      · rintro (⟨a, b⟩ | e)
        · exact ⟨a, by omega⟩
        · subst e
          exact ⟨st, Nat.lt_succ_self _⟩
      · rintro ⟨a, b⟩
        by_cases e : q.2 = i
        · right
          obtain ⟨q1, q2⟩ := q
          simp only at e a
          subst e
          rw [str_inj a st]
        · exact .inl ⟨a, by omega⟩
theorem fnd_nodup {A : List Int} : ∀ {i : Nat}, i ≤ A.length → (fnd A i).Nodup
  | 0, _ => List.nodup_nil
  | i + 1, hi => by
    have hp : A[i]? = some A[i] := List.getElem?_eq_getElem (by omega)
    have ih := fnd_nodup (A := A) (i := i) (by omega)
    cases l : lastOf A i A[i] with
    | none =>
      rw [fnd_miss hp l]
      exact ih
    | some s =>
      rw [fnd_hit hp l]
      refine List.nodup_append.mpr ⟨ih, by simp, fun a ha b hb => ?_⟩
      obtain rfl := List.mem_singleton.mp hb
      rintro rfl
      have := ((mem_fnd (by omega)).mp ha).2
      exact Nat.lt_irrefl _ this
theorem fnd_perm (A : List Int) : (strl A).Perm (fnd A A.length) :=
  (List.perm_ext_iff_of_nodup (strs_nodup A) (fnd_nodup (Nat.le_refl _))).mpr fun q => by
    rw [mem_strs, mem_fnd (Nat.le_refl _)]
    exact ⟨fun h => ⟨h, h.2.1⟩, fun h => h.1⟩
theorem fnd_len {A : List Int} : ∀ (i : Nat), (fnd A i).length ≤ i
  | 0 => Nat.le_refl _
  | i + 1 => by
    have ih := fnd_len (A := A) i
    cases hp : A[i]? with
    | none =>
      show (fnd A i ++ _).length ≤ _
      rw [hp]
      simp
      omega
    | some p =>
      cases l : lastOf A i p with
      | none =>
        rw [fnd_miss hp l]
        omega
      | some s =>
        rw [fnd_hit hp l, List.length_append, List.length_singleton]
        omega
abbrev toI (q : Pr) : Int × Int := ((q.1 : Int), (q.2 : Int))
theorem toI_inj {p q : Pr} (h : toI p = toI q) : p = q := by
  obtain ⟨a, b⟩ := p
  obtain ⟨c, d⟩ := q
  simp only [toI, Prod.mk.injEq] at h ⊢
  omega
theorem toI_maps {l : List Pr} {ps : List (Int × Int)} (h : ps.Perm (l.map toI)) : ∃ l' : List Pr, ps = l'.map toI ∧ l'.Perm l := by
  have go : ∀ (ps : List (Int × Int)), (∀ p ∈ ps, ∃ q : Pr, p = toI q) → ∃ l' : List Pr, ps = l'.map toI := by
    intro ps
    induction ps with
    | nil => exact fun _ => ⟨[], rfl⟩
    | cons p ps ih =>
      intro h
      obtain ⟨l', e⟩ := ih fun x hx => h x (List.mem_cons_of_mem _ hx)
      obtain ⟨q, e2⟩ := h p List.mem_cons_self
      exact ⟨q :: l', by rw [e, e2]; rfl⟩
  obtain ⟨l', e⟩ := go ps fun p hp => by
    obtain ⟨q, _, e⟩ := List.mem_map.mp (h.mem_iff.mp hp)
    exact ⟨q, e.symm⟩
  subst e
  refine ⟨l', rfl, ?_⟩
  have inv : ∀ l : List Pr, (l.map toI).map (fun p : Int × Int => (p.1.toNat, p.2.toNat)) = l := by
    intro l
    rw [List.map_map]
    have : ((fun p : Int × Int => (p.1.toNat, p.2.toNat)) ∘ toI) = id := by
      funext q
      simp
    rw [this, List.map_id]
  have := h.map (fun p : Int × Int => (p.1.toNat, p.2.toNat))
  rw [inv, inv] at this
  exact this
theorem put_len (T : Tb) (p : Int) (t : Nat) : (put T p t).length ≤ T.length + 1 := by
  unfold put
  split
  · rw [List.length_map]
    omega
  · simp
theorem drop_len (T : Tb) (q : Int) : (drop T q).length ≤ T.length := List.length_filter_le _ _
theorem Run.len {A : List Int} {m t : Nat} {T : Tb} {F : List Pr} (r : Run A m t T F) : T.length ≤ t ∧ F.length ≤ t := by
  induction r with
  | zero => exact ⟨Nat.le_refl _, Nat.le_refl _⟩
  | hit r e l ih =>
    rename_i t s p T F
    have := put_len T p t
    rw [List.length_append, List.length_singleton]
    omega
  | miss r e l h ih =>
    rename_i t p T F
    have := put_len T p t
    omega
  | evict r e l h hq mx ih =>
    rename_i t s p q T F
    have := put_len (drop T q) p t
    have := drop_len T q
    omega
theorem look_of_mem : ∀ {T : Tb} {p : Int} {s : Nat}, (T.map (·.1)).Nodup → (p, s) ∈ T → look T p = some s
  | [], _, _, _, h => nomatch h
  | y :: T, p, s, nd, h => by
    obtain ⟨n1, n2⟩ := List.nodup_cons.mp (show (y.1 :: T.map (·.1)).Nodup from nd)
    unfold look
    rw [List.find?_cons]
    rcases List.mem_cons.mp h with e | h
    · subst e
      simp
    · have c : ¬ y.1 = p := fun e => n1 (by rw [e]; exact List.mem_map_of_mem (f := (·.1)) h)
      have ih := look_of_mem n2 h
      unfold look at ih
      simp only [c, decide_false]
      exact ih
end Fm
end
section
set_option Elab.async false
set_option linter.all false
set_option maxRecDepth 100000
/-! Rules that the hand layer lacks. -/
namespace Fr
open PySem PySem.Spec PyProof.Rows L2
section
variable {X : Cx}
/-! ### xs[i] op= e of a list -/
def rGetL (K : PySem.W.Frag) : V → V → Hp → VK → Prop := fun o i H Q => ∃ (p : Addr) (xs : List V) (k : Int) (v : V), o = .ref p ∧ i = .int k ∧ 0 ≤ k ∧ SqL K H p xs ∧ xs[k.toNat]? = some v ∧ Q v H
theorem get_list : PGet X (rGetL X.K) := by
  intro pins s σ H o i ov iv Q I ro ri h
  obtain ⟨p, xs, k, v, e1, e2, k0, hq, hv, q⟩ := h
  subst e1
  subst e2
  cases ro
  obtain ⟨t, et⟩ := ri
  subst et
  obtain ⟨its, rv, pl, hz⟩ := I.list hq
  obtain ⟨u, hu, ru⟩ := rv.get hv
  have hk := (List.getElem?_eq_some_iff.mp hv).1
  have hs := sizeLine_eq
  have kf : k < 2 ^ 63 := by omega
  exact wpAny_getItem_list pl.isList k0 kf (x := u) (by simpa using hu) ⟨v, H, I, ru, q⟩
/-! ### x in a tuple of data -/
def rInDT (K : PySem.W.Frag) : R2 := fun x y H Q => ∃ (d : PyData) (ds : List PyData), Dp K H x d ∧ Dp K H y (.tuple ds) ∧ SeqAt.shaped d = true ∧ SeqAt.shaped (.tuple ds) = true ∧ Q (.bl (ds.any fun z => PyData.eqv z d)) H
theorem op_inDT (hu : X.A.units + 65 < cLine) : OpR X (compareOp .In) (rInDT X.K) := by
  intro pins s σ H x y v u Q I rx ry h
  obtain ⟨d, ds, hd, hy, sd, sy, q⟩ := h
  obtain ⟨as, r1⟩ := hd.reads I d x v rx
  obtain ⟨bs, r2⟩ := hy.reads I (.tuple ds) y u ry
  exact SeqAt.in_tuple_reads r2 r1 (SeqAt.canLay_of_shaped sy) (SeqAt.canLay_of_shaped sd) (room_in_shaped sd hu) ⟨.bl _, H, I, rfl, q⟩
end
end Fr
end
section
set_option Elab.async false
set_option linter.all false
set_option maxRecDepth 100000
set_option maxHeartbeats 4000000
namespace Fr
open PySem PySem.Spec PyProof.Rows L2
/-! ### t[::-1] of a tuple -/
section
variable {prog : Program} {w : World} {A : Around} {E : Value → Shared → Prop} {s : Shared}
theorem places_back (n : Nat) : Builtin.Slice.slicePlaces ((n : Int) - 1) (-1) (-1) = n := by
  unfold Builtin.Slice.slicePlaces
  rw [if_neg (by decide)]
  by_cases h : n = 0
  · subst h
    decide
  · rw [if_pos (by omega)]
    have e : (((n : Int) - 1 - -1 - 1) / (- -1) + 1) = (n : Int) := by
      rw [show (- (-1 : Int)) = 1 from rfl, Int.ediv_one]
      omega
    rw [e]
    exact Int.toNat_natCast n
theorem applied_back {sl : Addr} {vl vu vs : Value} {n : Nat} {Q : Int × Int × Nat → Shared → Prop} (hs : s.heap.IsSliceOf sl vl vu vs) (pl : IsPart vl none) (pu : IsPart vu none) (ps : IsPart vs (some (-1)))
    (h : Q ((n : Int) - 1, -1, n) s) : wpAny (model prog w) A (Builtin.Slice.sliceApplied (.ref sl) (pure (n : Int))) Q E s := by
  obtain ⟨os, hos, hcs, hds⟩ := id hs
  unfold Builtin.Slice.sliceApplied Builtin.Slice.sliceFields
  refine wpAny_bind (wpAny_bind (wpAny_field hos hds (x := vl) rfl (wpAny_bind (wpAny_field hos hds (x := vu) rfl (wpAny_bind (wpAny_field hos hds (x := vs) rfl (wpAny_pure ?_)))))))
  refine wpAny_bind (HT.slicePart_ ps ?_)
  show wpAny _ _ (if ((-1 : Int) == 0) = true then _ else _) _ _ s
  rw [if_neg (by decide)]
  refine wpAny_bind (HT.slicePart_ pl (wpAny_bind (HT.slicePart_ pu (wpAny_bind (wpAny_pure ?_)))))
  show wpAny _ _ (pure ((n : Int) - 1, (-1 : Int), Builtin.Slice.slicePlaces ((n : Int) - 1) (-1) (-1))) _ _ s
  rw [places_back]
  exact wpAny_pure h
theorem fm_congr {α β : Type} {f g : α → Option β} : ∀ {l : List α}, (∀ x ∈ l, f x = g x) → l.filterMap f = l.filterMap g
  | [], _ => rfl
  | x :: l, h => by
    rw [List.filterMap_cons, List.filterMap_cons, h x List.mem_cons_self, fm_congr fun y hy => h y (List.mem_cons_of_mem _ hy)]
theorem pick_back (xs : Array Value) : ((List.range xs.size).filterMap fun (k : Nat) => xs[((xs.size : Int) - 1 + (k : Int) * -1).toNat]?).toArray = xs.toList.reverse.toArray := by
  congr 1
  rw [← PySem.W.krv_all xs, ← List.filterMap_reverse, ← PySem.W.krv_range, List.filterMap_map]
  refine fm_congr fun k hk => ?_
  have := List.mem_range.mp hk
  have e : ((xs.size : Int) - 1 + (k : Int) * -1).toNat = xs.size - 1 - k := by omega
  rw [e]
  rfl
theorem getItem_tuple_back {t sl : Addr} {items : Array Value} {vl vu vs : Value} {Q : Value → Shared → Prop} (ht : IsTup s.heap t items) (hs : s.heap.IsSliceOf sl vl vu vs) (pl : IsPart vl none) (pu : IsPart vu none) (ps : IsPart vs (some (-1)))
    (h : Q (.ref s.heap.objs.size) { s with heap := s.heap.push { cls := .type "tuple", data := .seq items.toList.reverse.toArray } }) (hsz : items.size ≤ sizeLine) :
    wpAny (model prog w) A (getItem (.ref t) (.ref sl)) Q E s := by
  have hso : sizeOk (.seq items.toList.reverse.toArray) := by
    show items.toList.reverse.toArray.size ≤ sizeLine
    simpa using hsz
  obtain ⟨os, hos, hcs, hds⟩ := id hs
  have hTs : s.TypeIs (.ref sl) "slice" := ⟨os, hos, hcs⟩
  unfold getItem
  try with_reducible refine wpAny_holding ?_
  first | refine wpAny_bind (wpAny_pure ?_) | skip
  refine wpAny_bind (wpAny_sequenceKey ht.typeIs (by decide) ?_)
  refine wpAny_bind (wpAny_callSpecial?_slot (name := Str.ofString "__getitem__") ht.typeIs PyProof.Rows.slot_tuple_getitem (wpAny_call_entry PyProof.Rows.slot_tuple_getitem ht.typeIs entry_tuple_getitem ?_ (args_tuple_getitem _ _)))
  show wpAny _ _ (Builtin.Tuple.tupleItemsOf (.ref t) >>= _) _ _ s
  refine wpAny_bind (tupleItemsOf_ ht (wpAny_bind (wpAny_typeOf hTs ?_)))
  rw [if_pos (by decide)]
  refine wpAny_bind (applied_back hs pl pu ps ?_)
  have hno : ¬ ((((items.size : Int) - 1) == 0 && (-1 : Int) == 1 && items.size == items.size) = true) := by simp
  show wpAny _ _ (if (((items.size : Int) - 1) == 0 && (-1 : Int) == 1 && items.size == items.size) = true then _ else _) _ _ s
  rw [if_neg hno, pick_back]
  first
    | exact wpAny_bind (m := Builtin.Tuple.tupleExact _) (wpAny_newObj_type (wpAny_pure ⟨_, rfl, wpAny_pure h⟩) hso)
    | exact wpAny_bind (m := Builtin.Tuple.tupleExact _) (wpAny_newObj_type (wpAny_bind (wpAny_pure (wpAny_pure ⟨_, rfl, wpAny_pure h⟩))) hso)
    | exact wpAny_bind (wpAny_bind (m := Builtin.Tuple.tupleExact _) (wpAny_newObj_type (wpAny_pure (wpAny_pure ⟨_, rfl, wpAny_pure h⟩)) hso))
    | exact wpAny_bind (wpAny_bind (m := Builtin.Tuple.tupleExact _) (wpAny_newObj_type (wpAny_pure ⟨_, rfl, wpAny_pure h⟩) hso))
end
section
variable {X : Cx}
def tRevT (K : PySem.W.Frag) (te : TE) : TE := fun σ H Q => te σ H fun x H1 => ∃ (a : Addr) (xs : List V), x = .ref a ∧ SqT K H1 a xs ∧ ∀ p, H1 p = none → Q (.ref p) (upd H1 p (.tup xs.reverse))
theorem pe_revT {e : Expr} {te : TE} {k : Nat} {p1 p2 p3 pos : Pos} (he : PE X e te) : PE X (.Subscript e (.Slice none none (some (.UnaryOp .USub (.Constant (.int 1) k p1) p2)) p3) pos) (tRevT X.K te) := by
  refine ⟨fun pins s σ H Q I h => ?_⟩
  refine Subscript_ (thn (he.run pins s σ H _ I h) fun v s1 ⟨x, H1, I1, r1, a, xs, ex, hx, q⟩ => ?_)
  subst ex
  cases r1
  have hst : PO X (some (.UnaryOp .USub (.Constant (.int 1) k p1) p2)) (tPart (tUn (rU fun i => .int (-i)) (tC (.int 1)))) := po_some (pe_un un_neg pe_int)
  refine wpAny_Slice (thn (po_none.run pins s1 σ H1 (fun o H2 => o = none ∧ H2 = H1) I1 ⟨rfl, rfl⟩) fun vl s2 ⟨l, H2, I2, pl, el, e2⟩ => ?_)
  subst el e2
  refine thn (po_none.run pins s2 σ H2 (fun o H3 => o = none ∧ H3 = H2) I2 ⟨rfl, rfl⟩) fun vu s3 ⟨u, H3, I3, pu, eu, e3⟩ => ?_
  subst eu e3
  refine thn (hst.run pins s3 σ H3 (fun o H4 => o = some (-1) ∧ H4 = H3) I3 ⟨1, rfl, -1, rfl, rfl, rfl⟩) fun vs s4 ⟨o, H4, I4, ps, eo, e4⟩ => ?_
  subst eo e4
  have I5 : Inv X pins σ H4 { s4 with heap := s4.heap.push { cls := .type "slice", data := .fields #[vl, vu, vs] } } := I4.kept (t' := s4.toks) fun b ob q => Heap.get?_push_of_some _ q
  obtain ⟨its, r, ht, hz⟩ := I5.tuple hx
  have hlen := r.length
  show wpAny (model X.prog X.w) X.A (subscriptTail e (.Slice none none (some (.UnaryOp .USub (.Constant (.int 1) k p1) p2)) p3) (.ref a) (.ref s4.heap.objs.size)) (EP X pins σ Q) X.xe _
  refine tail_any (ops := [.ref a, .ref s4.heap.objs.size]) ht.typeIs PyProof.Rows.slot_tuple_getitem.lookup ?_ (by with_unfolding_all rfl)
  refine getItem_tuple_back ht (Heap.IsSliceOf.new _ vl vu vs) pl pu ps ?_ (by rw [List.size_toArray]; omega)
  refine ⟨.ref _, _, I5.laid (t' := s4.toks) (o := .tup xs.reverse) (fun b ob q => Heap.get?_push_of_some _ q) (Nat.le_refl _) ?_, rfl, q _ (I5.hok.fresh (Nat.le_refl _))⟩
  exact ⟨by rw [List.length_reverse]; exact hz, _, r.reverse, IsTup.new _ _⟩
end
/-! ### f(k = v, ..) -/
section
variable {X : Cx} {CX : CXT} {k : Nat} {f : Addr} {fd : FuncData} {ps ks : List Str} {sp : Sp} {E : XK} {x : Str} {p pos : Pos} {kws : List Keyword} {tk : TA} {g : List Value → List Value → List Value} {gV : List V → List V → List V}
theorem pe_callK0 (F : FnOk X.prog X.w X.K X.mg X.base CX k f fd ps sp) (hr : Room k X.A) (hg : Gl X x) (hm : X.mg x = some (.ref f)) (hk : PySem.W.keepIn X.K (.ref f) = true) (hb : KBn X.K fd ps 0 ks g gV) (hx : Passes CX X E)
    (hkw : PK X kws tk) (hall : (backToKw pos (keywordEach kws X.env)).all (·.1.isSome) = true := by rfl) (hks : (backToKw pos (keywordEach kws X.env)).filterMap (·.1) = ks := by rfl) (hdb : (x == ("__debug__" : Str)) = false := by decide)
    (hpl : ((backTo pos (starEach [] X.env)).any (·.1) || (backToKw pos (keywordEach kws X.env)).any (·.1.isNone)) = false := by rfl) : PE X (.Call (.Name x p) [] kws pos) (tCallN 0 ks.length sp gV E tNil tk) := by
  refine ⟨fun pins s σ H Q I h => wpAny_Call_Name_kw (ld_glob I hg hm (PySem.W.callWith_KW0 (h₀ := X.base) I.ok.mod.kin hk hall (thn (hkw.run pos pins s σ H _ I h) fun ws s2 ⟨zs, H2, I2, rz, l1, l2, q2⟩ => ⟨I2.kIn, ?_⟩) hpl) hdb)⟩
  rw [hks]
  exact run_fnN F hr hb hx I2 .nil rz l1 l2 q2
end
end Fr
end
section
set_option Elab.async false
set_option linter.all false
set_option maxRecDepth 100000
set_option maxHeartbeats 4000000
namespace Fr
open PySem PySem.Spec PyProof.Rows L2
/-! ### pairs of ints -/
abbrev PI2 := Int × Int
/-- tuples of two ints, by their addresses -/
abbrev Prs (H : Hp) : List Addr → List PI2 → Prop := Paired fun t p => H t = some (.tup [.int p.1, .int p.2])
theorem Prs.get : ∀ {H : Hp} {ts : List Addr} {ps : List PI2} {i : Nat} {t : Addr}, Prs H ts ps → ts[i]? = some t → ∃ p, ps[i]? = some p ∧ H t = some (.tup [.int p.1, .int p.2])
  | _, _, _, _, _, .nil, e => by simp at e
  | _, _, _, 0, _, .cons r _, e => by
    simp at e
    subst e
    exact ⟨_, rfl, r⟩
  | _, _, _, i + 1, t, .cons _ q, e => by
    obtain ⟨p, h1, h2⟩ := Prs.get (i := i) (t := t) q (by simpa using e)
    exact ⟨p, by simpa using h1, h2⟩
theorem Prs.get' : ∀ {H : Hp} {ts : List Addr} {ps : List PI2} {i : Nat} {p : PI2}, Prs H ts ps → ps[i]? = some p → ∃ t, ts[i]? = some t ∧ H t = some (.tup [.int p.1, .int p.2])
  | _, _, _, _, _, .nil, e => by simp at e
  | _, _, _, 0, _, .cons r _, e => by
    simp at e
    subst e
    exact ⟨_, rfl, r⟩
  | _, _, _, i + 1, t, .cons _ q, e => by
    obtain ⟨p, h1, h2⟩ := Prs.get' (i := i) (p := t) q (by simpa using e)
    exact ⟨p, by simpa using h1, h2⟩
theorem Prs.snoc : ∀ {H : Hp} {ts : List Addr} {ps : List PI2} {t : Addr} {p : PI2}, Prs H ts ps → H t = some (.tup [.int p.1, .int p.2]) → Prs H (ts ++ [t]) (ps ++ [p])
  | _, _, _, _, _, .nil, h => .cons h .nil
  | _, _, _, _, _, .cons r q, h => .cons r (Prs.snoc q h)
theorem Prs.mono {H H' : Hp} {ts : List Addr} {ps : List PI2} (r : Prs H ts ps) (k : ∀ b xs, H b = some (.tup xs) → H' b = some (.tup xs)) : Prs H' ts ps := Paired.mapP r fun _ _ z => k _ _ z
section
variable {X : Cx} {pins : List (Addr × Obj)} {σ : L2.St} {H : Hp} {s : Shared}
theorem holds_pair (I : Inv X pins σ H s) {t : Addr} {p : PI2} (h : H t = some (.tup [.int p.1, .int p.2])) : PySem.W.Holds s.heap (.ref t) p := by
  have d : Dp X.K H (.ref t) (.tuple [.int p.1, .int p.2]) := .tup (SqT.of h) (.cons (.int _) (.cons (.int _) .nil))
  exact d.reads I _ _ _ rfl
theorem hold_all (I : Inv X pins σ H s) : ∀ {ts : List Addr} {ps : List PI2}, Prs H ts ps → PySem.W.HoldAll s.heap (ts.map Value.ref) ps
  | _, _, .nil => .nil
  | _, _, .cons h r => .cons (holds_pair I h) (hold_all I r)
theorem holds_one {h h' : Heap} {v : Value} {p q : PI2} (k : ∀ b o, h.get? b = some o → h'.get? b = some o) (a : PySem.W.Holds h v p) (b : PySem.W.Holds h' v q) : p = q := by
  obtain ⟨as, ra⟩ := a
  obtain ⟨bs, rb⟩ := b
  have e := (PyProof.Rows.reads_det (fun b o e _ => k b o e) ra rb).1
  have e1 : PyData.eqv (PySem.W.Datum.toD p) (PySem.W.Datum.toD q) = decide (p = q) := PySem.W.Datum.eqv p q
  have e2 : PyData.eqv (PySem.W.Datum.toD q) (PySem.W.Datum.toD q) = decide (q = q) := PySem.W.Datum.eqv q q
  rw [← e, e2] at e1
  simpa using e1.symm
end
/-! ### max of pairs of ints -/
def ple (a b : PI2) : Prop := a.1 < b.1 ∨ (a.1 = b.1 ∧ a.2 ≤ b.2)
theorem lt_pair (a b : PI2) : PySem.W.DatumOrd.lt a b = true ↔ (a.1 < b.1 ∨ (a.1 = b.1 ∧ a.2 < b.2)) := by
  have e : PySem.W.DatumOrd.lt a b = if a.1 = b.1 then decide (a.2 < b.2) else decide (a.1 < b.1) := rfl
  rw [e]
  by_cases h : a.1 = b.1
  · rw [if_pos h, decide_eq_true_eq]
    omega
  · rw [if_neg h, decide_eq_true_eq]
    omega
theorem maxOf_ge : ∀ (xs : List PI2) (x : PI2), ple x (PySem.W.maxOf x xs) ∧ ∀ y ∈ xs, ple y (PySem.W.maxOf x xs)
  | [], x => ⟨.inr ⟨rfl, Int.le_refl _⟩, fun y hy => nomatch hy⟩
  | z :: xs, x => by
    have e : PySem.W.maxOf x (z :: xs) = PySem.W.maxOf (if PySem.W.DatumOrd.lt x z = true then z else x) xs := rfl
    rw [e]
    have l := lt_pair x z
    obtain ⟨h1, h2⟩ := maxOf_ge xs (if PySem.W.DatumOrd.lt x z = true then z else x)
    by_cases c : PySem.W.DatumOrd.lt x z = true
    · rw [if_pos c] at h1 h2 ⊢
      have c' := l.mp c
      refine ⟨?_, fun y hy => ?_⟩
      · unfold ple at *
        omega
      · rcases List.mem_cons.mp hy with rfl | hy
        · exact h1
        · exact h2 y hy
    · rw [if_neg c] at h1 h2 ⊢
      have c' : ¬ (x.1 < z.1 ∨ (x.1 = z.1 ∧ x.2 < z.2)) := fun q => c (l.mpr q)
      refine ⟨h1, fun y hy => ?_⟩
      rcases List.mem_cons.mp hy with rfl | hy
      · unfold ple at *
        omega
      · exact h2 y hy
section
variable {X : Cx}
def rMaxP : List V → Hp → VK → Prop := fun vs H Q => ∃ (a : Addr) (ts : List Addr) (ps : List PI2), vs = [V.ref a] ∧ H a = some (.lst (ts.map V.ref)) ∧ Prs H ts ps ∧ ts ≠ [] ∧
  ∀ (j : Nat) (t : Addr) (p : PI2), ts[j]? = some t → ps[j]? = some p → (∀ q ∈ ps, ple q p) → Q (.ref t) H
theorem cr_maxP (hc : X.calm = true) (hu : X.A.units + 64 < cLine) : CallR X (.builtin "max") rMaxP := by
  intro pins s σ H xs us Q I r h
  obtain ⟨a, ts, ps, e, ha, hp, ne, q⟩ := h
  subst e
  have eu := Vals.ref1 r
  subst eu
  obtain ⟨its, rv, pl, hz⟩ := I.list (SqL.of ha)
  have ei := refs_at rv
  subst ei
  have HA := hold_all I hp
  cases hp with
  | nil => exact absurd rfl ne
  | cons h1 h2 =>
    rename_i t0 p0 ts0 ps0
    have dep : X.A.units + 1 + PySem.W.Datum.depth PI2 < cLine := by
      have : PySem.W.Datum.depth PI2 = 1 := rfl
      omega
    refine PySem.W.max_list_datum (x := p0) (xs := ps0) (I.ok.hd hc) pl.isList (by simpa using HA) dep fun i v h' tk hi hv hk => ?_
    have hi' : ((t0 :: ts0).map Value.ref)[i]? = some v := by simpa using hi
    rw [List.getElem?_map] at hi'
    cases et : (t0 :: ts0)[i]? with
    | none => rw [et] at hi'; cases hi'
    | some t =>
      rw [et] at hi'
      obtain rfl : Value.ref t = v := Option.some.inj hi'
      obtain ⟨p, ep, htp⟩ := Prs.get (.cons h1 h2) et
      have e1 := holds_one hk (holds_pair I htp) hv
      obtain ⟨g1, g2⟩ := maxOf_ge ps0 p0
      refine ⟨.ref t, H, I.kept (h' := h') (t' := tk) hk, rfl, q i t p et ep fun z hz => ?_⟩
      rw [e1]
      rcases List.mem_cons.mp hz with rfl | hz
      · exact g1
      · exact g2 z hz
/-! ### tuple(xs), known to the object -/
def rTupF (K : PySem.W.Frag) : List V → Hp → VK → Prop := fun vs H Q => ∃ (p : Addr) (ys : List V), vs = [V.ref p] ∧ SqL K H p ys ∧ ∀ (l : Addr) (o : Obj), o.dict = none → H l = none → Q (.ref l) (upd H l (.frz o (.tup ys)))
theorem call_tupF : CallR X (.type "tuple") (rTupF X.K) := by
  intro pins s σ H xs us Q I r h
  obtain ⟨p, ys, e, hq, q⟩ := h
  subst e
  have eu := Vals.ref1 r
  subst eu
  obtain ⟨its, rv, pl, hz⟩ := I.list hq
  have hlen := rv.length
  refine call_tuple_list pl.isList (fun h' kp => ?_) (by simp only [List.size_toArray]; omega)
  have I1 : Inv X pins σ H { s with heap := h' } := I.kept (t' := s.toks) kp
  have gt : (h'.push { cls := .type "tuple", data := .seq its.toArray }).get? h'.objs.size = some { cls := .type "tuple", data := .seq its.toArray } := Heap.get?_push_size _ rfl
  refine ⟨.ref h'.objs.size, _, I1.laid (t' := s.toks) (o := .frz { cls := .type "tuple", data := .seq its.toArray } (.tup ys)) (fun b o e => Heap.get?_push_of_some _ e) (Nat.le_refl _) ?_, rfl, q _ _ rfl (I1.hok.fresh (Nat.le_refl _))⟩
  exact ⟨gt, hz, its, rv, IsTup.new _ _⟩
/-! ### dict(t), t a tuple of pairs -/
def rDictT : List V → Hp → VK → Prop := fun vs H Q => ∃ (a : Addr) (o : Obj) (ts : List Addr) (ps : List PI2), vs = [V.ref a] ∧ H a = some (.frz o (.tup (ts.map V.ref))) ∧ o.dict = none ∧ Prs H ts ps ∧
  ∀ p, H p = none → Q (.ref p) (upd H p (.dK (mergeK [] (ps.map fun q => (Sum.inl q.1, V.int q.2)))))
theorem pairs_at {pins : List (Addr × Obj)} {σ : L2.St} {H : Hp} {s : Shared} (I : Inv X pins σ H s) : ∀ {ts : List Addr} {ps : List PI2}, Prs H ts ps →
    ∃ zs : List (Value × Value), zs.length = ts.length ∧ ∃ prs : List (Key × Value), prs.length = ts.length ∧ KV (ps.map fun q => ((Sum.inl q.1 : Key), V.int q.2)) prs ∧
      ∀ (j : Nat) (k v : Value), zs[j]? = some (k, v) → ∃ (b : Addr) (kk : Key), ts[j]? = some b ∧ prs[j]? = some (kk, v) ∧ s.heap.IsTuple b #[k, v] ∧ keyIs kk k = true
  | _, _, .nil => ⟨[], rfl, [], rfl, .nil, fun j k v e => by simp at e⟩
  | _, _, .cons (a := t) (b := p) h r => by
    obtain ⟨zs, l1, prs, l2, kv, hz⟩ := pairs_at I r
    obtain ⟨its, rv, ht, _⟩ := I.tuple (SqT.of h)
    obtain ⟨u, y, ei, ru, ry⟩ := Vals.two rv
    subst ei
    obtain ⟨tk, eu⟩ := id ru
    subst eu
    refine ⟨(.int p.1 tk, y) :: zs, by simp [l1], (Sum.inl p.1, y) :: prs, by simp [l2], .cons ⟨rfl, ry⟩ kv, fun j k v e => ?_⟩
    cases j with
    | zero =>
      simp at e
      obtain ⟨rfl, rfl⟩ := e
      exact ⟨t, Sum.inl p.1, rfl, rfl, ht, keyIs_int _ _⟩
    | succ j =>
      obtain ⟨b, kk, e1, e2, e3, e4⟩ := hz j k v (by simpa using e)
      exact ⟨b, kk, by simpa using e1, by simpa using e2, e3, e4⟩
theorem call_dictT (hc : X.calm = true) : CallR X (.type "dict") rDictT := by
  intro pins s σ H xs us Q I r h
  obtain ⟨a, ob, ts, ps, e, ha, hod, hp, q⟩ := h
  subst e
  have eu := Vals.ref1 r
  subst eu
  obtain ⟨gob, hzz, its, rv, ⟨o, ho, hcl, n, hd⟩⟩ := I.hok a _ ha
  have eo : ob = o := Option.some.inj (gob.symm.trans ho)
  subst eo
  have ei := refs_at rv
  subst ei
  rw [List.length_map] at hzz
  obtain ⟨zs, l1, prs, l2, kv, hz⟩ := pairs_at I hp
  have ok : PlainSeq "tuple" s.heap a (ts.map Value.ref).toArray ∧ PairItems s.heap (ts.map Value.ref).toArray (fun j => ts.getD j 0) zs := by
    refine ⟨⟨ob, n, ho, hcl, hod, hd⟩, by simp [l1], fun j k v e => ?_⟩
    obtain ⟨b, kk, e1, e2, e3, e4⟩ := hz j k v e
    have e5 : ts.getD j 0 = b := by simp [List.getD_eq_getElem?_getD, e1]
    dsimp only
    rw [e5]
    exact ⟨by simp [e1], .inl e3⟩
  have have_ : PairsHave (mixKind X.prog X.w) zs.length (PairRel zs) prs := ⟨by omega, fun i key v e => by
    obtain ⟨b, kk, e1, e2, e3, e4⟩ := hz i key v e
    exact ⟨kk, e2, e4⟩⟩
  refine PySem.call_dict_pairs (PairArg.tuple a (ts.map Value.ref).toArray (fun j => ts.getD j 0) zs) (I.ok.hd hc) ok have_ (by omega) fun h' tk hd' k => ?_
  have hm : (s.heap.objs.size == sysModules) = false := beq_eq_false_iff_ne.mpr (Nat.ne_of_gt I.big)
  have hlen : (mergeK [] (ps.map fun q => ((Sum.inl q.1 : Key), V.int q.2))).length ≤ sizeLine := by
    refine Nat.le_trans (length_mergeK _ _) ?_
    rw [kv.length, l2, List.length_nil]
    omega
  refine ⟨.ref s.heap.objs.size, _, I.laid (t' := tk) (o := .dK (mergeK [] (ps.map fun q => ((Sum.inl q.1 : Key), V.int q.2)))) (fun b o e => k b o (by simp) e) (Nat.le_refl _) ?_, rfl, q _ (I.hok.fresh (Nat.le_refl _))⟩
  exact ⟨hlen, hm, _, KV.merge kv .nil, hd'⟩
end
end Fr
end
section
set_option Elab.async false
set_option linter.all false
set_option maxRecDepth 100000
set_option maxHeartbeats 4000000
namespace Fr
open PySem PySem.Spec PyProof.Rows L2
/-! ### for i, x in enumerate(t), t a tuple -/
set_option maxHeartbeats 4000000 in
theorem enum_newB {v : Value} {o : Obj} {G : Heap → Prop} (B : Begins v o G) :
    Meets (Builtin.«enumerate.__new__» ⟨[.type "enumerate", v], []⟩) (fun _ R s => G s.heap ∧
      R (.ok (.ret (.ref (s.heap.push o).objs.size))) { s with heap := (s.heap.push o).push { cls := .type "enumerate", data := .fields #[.none, .bool false, .ref s.heap.objs.size, rawInt 0, .none, .none] } }) :=
  .of_wp fun prog w A R s h => by
    obtain ⟨hp, g, d, tk, os⟩ := s
    obtain ⟨h1, h⟩ := h
    have hsub := sub_enumerate
    have q1 : ∀ {A' : Around} {E : Value → Shared → Prop} {Q : Value → Shared → Prop}, Q (.ref hp.objs.size) ⟨hp.push o, g, d, tk, os⟩ → wpAny (model prog w) A' (pyIter v) Q E ⟨hp, g, d, tk, os⟩ :=
      fun q => B.iter prog w _ _ ⟨hp, g, d, tk, os⟩ _ h1 q
    wp_walk using q1
    refine wpAny_stack_any fun st => wpAny_pure ?_
    split
    · rename_i c _ _ _ _ _
      cases (c == Value.type "enumerate")
      · wp_walk using q1
        exact ⟨_, rfl, h⟩
      · wp_walk using q1
        exact ⟨_, rfl, h⟩
    · wp_walk using q1
      exact ⟨_, rfl, h⟩
section
variable {prog : Program} {w : World} {A : Around} {E : Value → Shared → Prop} {s : Shared}
theorem call_enumB {v : Value} {o : Obj} {G : Heap → Prop} {Q : Value → Shared → Prop} (B : Begins v o G) (h1 : G s.heap)
    (h : ∀ h', IsEnum h' (s.heap.objs.size + 1) s.heap.objs.size 0 .none → h'.get? s.heap.objs.size = some o → (∀ b o, s.heap.get? b = some o → h'.get? b = some o) → Q (.ref (s.heap.objs.size + 1)) { s with heap := h' }) :
    wpAny (model prog w) A (call (.type "enumerate") [v]) Q E s := by
  have hz : (s.heap.push o).objs.size = s.heap.objs.size + 1 := Heap.size_push ..
  have he := Heap.get?_push_size (s.heap.push o) (o := { cls := .type "enumerate", data := .fields #[.none, .bool false, .ref s.heap.objs.size, rawInt 0, .none, .none] }) rfl
  rw [hz] at he
  refine callType_new F.called_enumerate (by decide) (F.typeCall_enumerate_1 _) (F.newCall_enumerate_1 _) (fun obj => F.args_object_init_2 obj _) F.entry_enumerate_new (enum_newB B) ⟨h1, ?_⟩
  show _ ∧ _
  rw [hz]
  exact ⟨⟨_, he, rfl⟩, h _ he (Heap.get?_push_of_some _ (Heap.get?_push_size _ B.free)) fun b o x => Heap.get?_push_of_some _ (Heap.get?_push_of_some _ x)⟩
end
/-- the tuple at a as it stands at each turn, place and item in a new pair -/
def IteT (K : PySem.W.Frag) (a : Addr) : It :=
  ⟨fun i H => ∃ (xs : List V) (x : V), SqT K H a xs ∧ xs[i]? = some x, fun i H v H' => ∃ (T : Addr) (x : V), v = .ref T ∧ H T = none ∧ H' = upd H T (.tup [.int (i : Nat), x]) ∧ ∀ xs, SqT K H a xs → xs[i]? = some x,
    fun i H => ∃ xs : List V, SqT K H a xs ∧ xs.length = i⟩
theorem turn_enumT {P : Program} {w : World} {K : PySem.W.Frag} {elts : List Expr} {kk : Nat} {tpos : Pos} (a e it : Addr) :
    Turn P w K (.Tuple elts kk tpos) (IteT K a) [e, it] e (fun i h => (∃ old, IsEnum h e it ((i : Nat) : Int) old) ∧ h.IsTupleIter it a i ∧ e ≠ it ∧ a ≠ it ∧ a ≠ e) where
  mem := by simp
  obj := fun i h st b hb => by
    obtain ⟨⟨old, he⟩, ⟨o, ho, hc, hd⟩, _⟩ := st
    rcases List.mem_cons.mp hb with z | z
    · rw [z]
      exact ⟨_, he, fun v q => nomatch q⟩
    · rw [List.mem_singleton.mp z]
      exact ⟨o, ho, fun v q => by rw [hd] at q; cases q⟩
  keep := fun i h h' st k => by
    obtain ⟨⟨old, he⟩, ⟨o, ho, hr⟩, hne⟩ := st
    exact ⟨⟨old, k e (by simp) _ he⟩, ⟨o, k it (by simp) _ ho, hr⟩, hne⟩
  item := by
    intro X hP hw hK hc i pins s σ H E I hf st hg
    subst hP hw hK
    obtain ⟨⟨old, he⟩, hit, hne, hai, hae⟩ := st
    obtain ⟨xs, x, hq, hx⟩ := hg
    obtain ⟨its, rv, p, hz⟩ := I.tuple hq
    obtain ⟨u, hu, ru⟩ := rv.get hx
    have hel : e < s.heap.objs.size := Heap.lt_size he
    have hil : it < s.heap.objs.size := by
      obtain ⟨_, q, _⟩ := hit
      exact Heap.lt_size q
    have hlt : i < its.toArray.size := by
      have := (List.getElem?_eq_some_iff.mp hu).1
      simpa using this
    refine wpAny_pyNext_enum_itemD (Draws.tuple (A := X.A.in1) (I.ok.hd hc) it a hai its.toArray) he ⟨hit, p⟩ hlt hne (by simp [hne, Ne.symm hae]) fun y h' tk hy ho hit' hT hsz hk => ?_
    have ey : y = u := by
      have e1 : its.toArray[i]? = some u := by simpa using hu
      exact Option.some.inj (hy.symm.trans e1)
    subst ey
    refine ⟨_, rfl, wpAny_letOwnedTupleGo_enum (s := { s with heap := h', toks := tk + 1 }) ho fun h'' he' sb => ?_⟩
    have hT2 : h''.get? s.heap.objs.size = some { cls := .type "tuple", data := .seq #[.int i tk, y] } := (sb.2 _ (Nat.ne_of_gt hel)).trans hT
    have new : ObjOk X.prog X.w (upd H s.heap.objs.size (.tup [.int (i : Nat), x])) h'' s.heap.objs.size (.tup [.int (i : Nat), x]) :=
      ⟨by show 2 ≤ sizeLine; decide, [.int i tk, y], .cons ⟨_, rfl⟩ (.cons ru .nil), ⟨_, hT2, rfl, _, rfl⟩⟩
    have I1 : Inv X pins σ (upd H s.heap.objs.size (.tup [.int (i : Nat), x])) { s with heap := h'', toks := tk + 1 } :=
      I.turnedNew (ch := [e, it]) (fun b ob hb q => (sb.2 b (fun z => hb (by simp [z]))).trans (hk b ob (fun z => hb (by simp [z])) (fun z => hb (by simp [z])) q)) hf (Nat.le_refl _) new
    refine ⟨.ref s.heap.objs.size, _, I1, rfl, ⟨_, x, rfl, I.hok.fresh (Nat.le_refl _), rfl, fun ys hy => by rw [I.tuple_inj hy hq]; exact hx⟩, ⟨⟨y, ?_⟩, ?_, hne, hai, hae⟩, fun b hb => ?_⟩
    · have e1 : ((i + 1 : Nat) : Int) = (i : Int) + 1 := by omega
      rw [e1]
      exact he'
    · obtain ⟨⟨o, q1, q2⟩, _⟩ := hit'
      exact ⟨o, (sb.2 it (Ne.symm hne)).trans q1, q2⟩
    · have hb' : b < s.heap.objs.size := by
        rcases List.mem_cons.mp hb with z | z
        · rw [z]
          exact hel
        · rw [List.mem_singleton.mp z]
          exact hil
      rw [upd_ne (Nat.ne_of_lt hb')]
      exact (hf b hb).1
  done := by
    intro X hP hw hK hc i pins s σ H E I hf st hg
    subst hP hw hK
    obtain ⟨⟨old, he⟩, hit, hne, hai, hae⟩ := st
    obtain ⟨xs, hq, hx⟩ := hg
    obtain ⟨its, rv, p, hz⟩ := I.tuple hq
    obtain ⟨f0, f1, f2, f3, f4, f5⟩ := hf it (by simp)
    have hl := rv.length
    have hi : its.toArray.size = i := by
      rw [List.size_toArray]
      omega
    refine wpAny_pyNext_enum_endD (Draws.tuple (A := X.A.in1) (I.ok.hd hc) it a hai its.toArray) he ⟨by rw [hi]; exact hit, p⟩ fun h' eb => ⟨rfl, I.turned (t' := s.toks) (fun b o hb q => eb b o hb q) f0 f1 f3 f4 f5⟩
  self := fun A i s Q E st h => by
    obtain ⟨⟨_, he⟩, _⟩ := st
    exact wpAny_pyIter_enum he h
def iEnumT (K : PySem.W.Frag) (ta : TA) : TI := fun σ H R => ta σ H fun vs H1 => ∃ (a : Addr) (xs : List V), vs = [.ref a] ∧ SqT K H1 a xs ∧ R (IteT K a) H1
theorem pi_enumT {X : Cx} {e : Expr} {ta : TA} {p pos tpos : Pos} {elts : List Expr} {kk : Nat} (hg : Gl X "enumerate") (hm : X.mg "enumerate" = none) (ha : PA X [e] ta) (hs : starEach [e] X.env = [(false, eval e X.env)] := by rfl) :
    PI X (.Tuple elts kk tpos) (.Call (.Name "enumerate" p) [e] [] pos) (iEnumT X.K ta) := by
  refine ⟨fun pins s σ H R I h => ?_⟩
  refine Call_ (ld_blt I hg hm boot_enumerate (PyProof.Rows.callWith_type1 (thn (ha.run pos pins s σ H _ I h) fun us s1 ⟨vs, H1, I1, r1, a, xs, ex, hq, q1⟩ => ?_) hs rfl))
  subst ex
  have eu := Vals.ref1 r1
  subst eu
  obtain ⟨its, rv, p', hz⟩ := I1.tuple hq
  have al : a < s1.heap.objs.size := p'.lt
  refine call_enumB (begins_tuple a its.toArray) p' fun h' he hit hk => wpAny_pyIter_enum he ?_
  refine ⟨s1.heap.objs.size + 1, [s1.heap.objs.size + 1, s1.heap.objs.size], _, _, H1, rfl, I1.kept (t' := s1.toks) hk, turn_enumT a (s1.heap.objs.size + 1) s1.heap.objs.size, ⟨⟨.none, he⟩, ⟨_, hit, rfl, rfl⟩, Nat.succ_ne_self _, Nat.ne_of_lt al, Nat.ne_of_lt (Nat.lt_succ_of_lt al)⟩, fun b hb => ?_, q1⟩
  have hle : s1.heap.objs.size ≤ b := by
    rcases List.mem_cons.mp hb with z | z
    · rw [z]
      exact Nat.le_succ _
    · rw [List.mem_singleton.mp z]
      exact Nat.le_refl _
  exact I1.fpOk hle (I1.hok.fresh hle)
theorem walk_enumT {K : PySem.W.Frag} {a : Addr} {xs : List V} : Walk (IteT K a) xs.length (fun H => SqT K H a xs) (YPair (fun i => some (.int (i : Nat))) (fun i => xs[i]?)) :=
  ⟨fun i _ hi q => ⟨xs, xs[i], q, by simp [hi]⟩, fun _ q => ⟨xs, q, rfl⟩, fun i H x H' hi q y => by
    obtain ⟨T, z, e1, e2, e3, e4⟩ := y
    exact ⟨T, .int (i : Nat), z, e1, e2, e3, rfl, e4 xs q⟩⟩
end Fr
end
section
set_option Elab.async false
set_option linter.all false
set_option maxRecDepth 100000
set_option maxHeartbeats 4000000
namespace Fr
open PySem PySem.Spec PyProof.Rows L2
/-! ### repr -/
section
variable {X : Cx}
/-- repr(x), x a list or a tuple of data -/
def rRepr (K : PySem.W.Frag) : List V → Hp → VK → Prop := fun vs H Q => ∃ (a : Addr) (d : PyData), vs = [V.ref a] ∧ Dp K H (.ref a) d ∧ d.showable = true ∧ PyData.layable0 d = true ∧ d.intsShort 13 = true ∧ Q (.str d.shown) H
theorem call_reprD (hg : X.A.guards = some []) (hu : X.A.units + 70 < cLine) : CallR X (.builtin "repr") (rRepr X.K) := by
  intro pins s σ H xs us Q I r h
  obtain ⟨a, d, e, hd, sh, la, sm, q⟩ := h
  subst e
  have eu := Vals.ref1 r
  subst eu
  obtain ⟨as, rd⟩ := hd.reads I d _ _ rfl
  have nd : d.hasDict = false := PyData.hasDict_of_layable la
  have dl : d.depth ≤ 64 := by
    have la' : (PyData.canLay0 d && decide (PyData.depth d ≤ 64) && decide (PyData.weight d ≤ 2 ^ 20)) = true := la
    simp only [Bool.and_eq_true, decide_eq_true_eq] at la'
    exact la'.1.2
  have sz : d.shown.length ≤ sizeLine := by
    have h1 := shown_le13 la sm
    have h2 := sizeLine_eq
    omega
  exact repr_of_reads' rd sh (fun z => by rw [nd] at z; cases z) hg (by omega) (fun _ _ e => e) (fun h' u tk hk => ⟨.str d.shown, H, I.kept (h' := h') (t' := tk) hk, ⟨u, rfl⟩, q⟩) sz
theorem call_reprB : CallR X (.builtin "repr") (fun vs H Q => ∃ b : Bool, vs = [V.bl b] ∧ Q (.str (if b = true then "True" else "False")) H) := by
  intro pins s σ H xs us Q I r h
  obtain ⟨b, e, q⟩ := h
  subst e
  cases r with
  | cons r rr =>
    cases rr
    cases r
    refine P.repr_of_bool ⟨.str (if b then "True" else "False"), H, I.tok _, ⟨_, rfl⟩, ?_⟩
    cases b <;> exact q
end
/-! ### the law's own call: no repr is under way -/
/-- a def's promise, where no repr is under way -/
structure FnG (P : Program) (w : World) (K : PySem.W.Frag) (mg : Str → Option Value) (base : Heap) (k : Nat) (f : Addr) (fd : FuncData) (ps : List Str) (sp : Sp) : Prop where
  run : ∀ (A : Around) (outer : List Env) (s : Shared) (H : Hp) (args : Args) (us : List Value) (vs : List V) (Q : VK) (E : XK), A.guards = some [] → Room k A → Env0 P w K mg base A outer s H → BindsTo s fd args (ps.zip us) → Vals vs us → sp vs H Q E →
    codeAny (model P w) A (.call (.ref f) args) (CR CX0 outer P w H s Q E) s
theorem fn_G {P : Program} {w : World} {K : PySem.W.Frag} {mg : Str → Option Value} {base : Heap} {x qual : Str} {st : Stmt} {f : Addr} {fd : FuncData} {N ps : List Str} {k : Nat} {sp : Sp} (F : Fun K x qual st f fd) (S : FnScope N ps (defScope st))
    (len : ∀ vs H Q E, sp vs H Q E → vs.length = ps.length)
    (hbody : ∀ (cdv : Value) (A : Around) (outer : List Env) (s : Shared) (H : Hp) (vs : List V) (Q : VK) (E : XK), A.guards = some [] → Room k (A.deeper (envOfC qual (defScope st) s.heap.objs.size f cdv)) → sp vs H Q E →
      ∃ t, PSs (cxOf CX0 P w K mg base N qual (defScope st) f cdv A outer s H E).nox (defBody st) t ∧ t { nx := fun _ H' => Q .non H', rt := Q } (start N vs) H) : FnG P w K mg base (k + 1) f fd ps sp := by
  obtain ⟨oc, od, kV, doc, pm, an, cdv, ct, osl, e, lk, hcd⟩ := F.ex
  subst e
  refine ⟨fun A outer s H args us vs Q E gd hr e0 hb rv hsp => ?_⟩
  have kin : K.In s.heap := e0.mod.kin.keeps fun b o q => (e0.bs b o q).1
  have nolim : s.heap.NoLimit := e0.mod.nolimit.keeps fun b o q => (e0.bs b o q).1
  refine codeAny_call_function hr.depth (kin _ _ lk) rfl S.co S.gen rfl (PySem.W.codeRec_of kin hcd) (hb _ _ _ _ ?_)
  refine wpAny_newFunctionEnv_cells S.kind (fun y hy => ?_) fun env henv s1 inC => ?_
  · rcases S.par y.1 (List.of_mem_zip (show (y.1, y.2) ∈ ps.zip us from hy)).1 with q | q
    · exact .inl q
    · exact .inr ⟨q, PySem.W.cellsFrom_some _ _ _ (.inl q)⟩
  subst henv
  refine ⟨nolim.keeps inC.toInCall.keep, codeAny_func ?_⟩
  obtain ⟨t, ht, hq⟩ := hbody cdv A outer s H vs Q E gd (hr.deeper _) hsp
  have I := inv_start (CX := CX0) (E := E) S hr.hd e0 (len _ _ _ _ hsp) rv inC
  refine wpAny_mono (ht.nox.run [] s1 (start N vs) H _ I hq) (fun fl s' hs => ?_) fun e s' hs => hs
  cases fl with
  | ret u =>
    obtain ⟨v, σ', H', J, ru, q⟩ := hs
    exact ⟨v, H', J.os, J.bare, J.base, J.hok, ru, q⟩
  | next =>
    obtain ⟨σ', H', J, q⟩ := hs
    exact ⟨.non, H', J.os, J.bare, J.base, J.hok, rfl, q⟩
  | brk =>
    obtain ⟨_, _, _, q⟩ := hs
    exact q.elim
  | cont =>
    obtain ⟨_, _, _, q⟩ := hs
    exact q.elim
/-- the script's list, known to the object -/
def hScr (K : PySem.W.Frag) (a : Addr) (o : Obj) (xs : List V) : Hp := fun b => if b = a ∧ K.lookup a = none then some (.frz o (.lst xs)) else none
theorem law_callG {P : Program} {w : World} {K : PySem.W.Frag} {mg mb : Str → Option Value} {k : Nat} {fa a : Addr} {fd : FuncData} {x : Str} {sp : Sp} {s1 : Shared} {vs : List Value} {ns : List Int}
    (kin : K.In s1.heap) (hns : s1.heap.Ns mainGlobals mg) (hb : s1.heap.Ns builtinsNs mb) (hbb : ∀ x : Str, x ≠ "__name__" → mb x = bootBuiltins x) (hlim : s1.heap.NoLimit) (hg : s1.gens = #[])
    (ha : s1.heap.get? a = some { cls := .type "list", data := .seq vs.toArray }) (hi : IntsAre vs ns) (hl : ns.length ≤ sizeLine) (hr : Room k callerA)
    (F : ∀ base : Heap, K.In base → base.Ns mainGlobals mg → FnG P w K mg base k fa fd [x] sp) (hbind : ∀ (s : Shared) (u : Value), BindsTo s fd ⟨[u], []⟩ [(x, u)])
    (hsp : ∀ H : Hp, SqL K H a (ns.map V.int) → sp [.ref a] H (fun v _ => v = .bl true) fun _ _ _ => False) :
    codeAny (model P w) callerA (.call (.ref fa) ⟨[.ref a], []⟩) (fun r s' => r = .ok (.ret (.bool true)) ∧ OldK s1.heap s'.heap ∧ s'.os = s1.os ∧ AllBare s'.gens) s1 := by
  have rv := vals_ints hi
  have lv := hi.length
  generalize hH : hScr K a { cls := .type "list", data := .seq vs.toArray } (ns.map V.int) = H
  have at_ : ∀ b u, H b = some u → b = a ∧ K.lookup a = none ∧ u = .frz { cls := .type "list", data := .seq vs.toArray } (.lst (ns.map V.int)) := fun b u e => by
    rw [← hH] at e
    unfold hScr at e
    by_cases c : b = a ∧ K.lookup a = none
    · rw [if_pos c] at e
      exact ⟨c.1, c.2, (Option.some.inj e).symm⟩
    · rw [if_neg c] at e
      cases e
  have hok : HOk P w H s1.heap := fun b u e => by
    obtain ⟨e1, e2, e3⟩ := at_ b u e
    subst e1
    subst e3
    exact ⟨ha, by rw [List.length_map]; exact hl, vs, _, rv, ha⟩
  have scr : SqL K H a (ns.map V.int) := by
    cases e : K.lookup a with
    | none => exact .inl (.inr ⟨{ cls := .type "list", data := .seq vs.toArray }, by rw [← hH]; unfold hScr; rw [if_pos ⟨rfl, e⟩]⟩)
    | some o =>
      obtain rfl : { cls := .type "list", data := .seq vs.toArray } = o := Option.some.inj (ha.symm.trans (kin a o e))
      exact .inr ⟨_, vs.toArray, _, e, rfl, rfl, rfl, by rw [List.size_toArray, lv]; exact hl, by simpa using rv⟩
  have stays : ∀ {b : Addr} {o : Obj}, s1.heap.get? b = some o → H b = none → (hidT s1.heap H).get? b = some o := fun e n => hidT_get e n
  have noDict : ∀ {b : Addr} {o : Obj} {es : Array DictEntry} {ep : Nat}, s1.heap.get? b = some o → o.data = .dict es ep → H b = none := fun {b o es ep} e d => by
    cases q : H b with
    | none => rfl
    | some u =>
      obtain ⟨e1, _, _⟩ := at_ b u q
      subst e1
      rw [ha] at e
      cases e
      cases d
  have nsK : ∀ {b : Addr} {m : Str → Option Value}, s1.heap.Ns b m → (hidT s1.heap H).Ns b m := fun {b m} ⟨o, es, ep, e, d, r⟩ => ⟨o, es, ep, stays e (noDict e d), d, r⟩
  have kinB : K.In (hidT s1.heap H) := fun b o e => stays (kin b o e) (by
    cases q : H b with
    | none => rfl
    | some u =>
      obtain ⟨e1, e2, _⟩ := at_ b u q
      subst e1
      rw [e2] at e
      cases e)
  have nolim : (hidT s1.heap H).NoLimit := by
    obtain ⟨mc, h1, h2⟩ := hlim
    exact ⟨mc, nsK h1, h2⟩
  have e0 : Env0 P w K mg (hidT s1.heap H) callerA [] s1 H := ⟨rfl, ⟨kinB, nsK hns, ⟨mb, nsK hb, hbb⟩, nolim⟩, fun b o e => of_hidT e, Nat.le_of_eq (hidT_size _ _), trivial, fun b hb => (nomatch (show b ∈ ([] : List Addr) from hb)), hok, .of_eq hg⟩
  refine codeAny_mono ((F _ kinB (nsK hns)).run callerA [] s1 H ⟨[.ref a], []⟩ [.ref a] [.ref a] _ _ rfl hr e0 (hbind s1 (.ref a)) (.cons rfl .nil) (hsp H scr)) fun r s' h => ?_
  cases r with
  | error e => exact False.elim h
  | ok fl =>
    cases fl with
    | next => exact False.elim h
    | brk => exact False.elim h
    | cont => exact False.elim h
    | ret u =>
      obtain ⟨v, H', os, bare, un, hok', ru, q⟩ := h
      obtain rfl : v = .bl true := q
      obtain rfl : u = Value.bool true := ru
      refine ⟨rfl, OldK.of_keep fun b o e => ?_, os, bare⟩
      cases q : H b with
      | none => exact un.keep b o e q (fun z => (nomatch (show b ∈ ([] : List Addr) from z))) (fun z => nomatch z)
      | some u =>
        obtain ⟨e1, _, e3⟩ := at_ b u q
        subst e1
        subst e3
        have h1 := (hok' b _ (un.frzs b _ _ q)).1
        rw [ha] at e
        cases e
        exact h1
theorem walk_G {l : PySem.W.OpenLaw} {n k : Nat} {q : Program} {loose : List Str} {XP : (Str → Option Value) → Heap → Prop} {YP : World → Heap → Prop} {d : DefRec} {K : Params → PySem.W.Frag} {sp : PySem.W.Frag → Sp} {x : Str}
    (hn : l.most = some n) (hn2 : n ≤ sizeLine) (hdf : d.params.defaults = []) (hr : Room k callerA) (hY : ∀ (w : World) (h : Heap), YP w h → (K w.params).In h)
    (F : ∀ (w : World) (mg : Str → Option Value) (fa : Addr) (h : Heap), (K w.params).In h → h.Ns mainGlobals mg → mg d.name = some (.ref fa) →
      ∃ fd : FuncData, (∀ (s : Shared) (u : Value), BindsTo s fd ⟨[u], []⟩ [(x, u)]) ∧ ∀ base : Heap, (K w.params).In base → base.Ns mainGlobals mg → FnG l.prog w (K w.params) mg base k fa fd [x] (sp (K w.params)))
    (hsp : ∀ (K : PySem.W.Frag) (H : Hp) (a : Addr) (ns : List Int), ns.length ≤ n → SqL K H a (ns.map V.int) → sp K [.ref a] H (fun v _ => v = .bl true) fun _ _ _ => False) :
    PySem.W.WalkO q loose XP YP l.row.toRowW d [] (fun f vs => PySem.call f vs) := by
  refine Att.attach_call hn hdf fun w s0 s1 mg mb fa o pm cd doc a vs ns G Y ho hd hcd hmg hobj hints hlen hg => ?_
  have kin := hY w _ Y
  obtain ⟨fd, hb, hF⟩ := F w mg fa _ kin G.T.g hmg
  exact law_callG kin G.T.g G.T.b G.T.builtins G.T.nolimit hg hobj hints (Nat.le_trans hlen hn2) hr hF hb fun H hS => hsp _ H a ns hlen hS
end Fr
end
section
set_option Elab.async false
set_option linter.all false
set_option maxRecDepth 100000
set_option maxHeartbeats 4000000
namespace Fr
open PySem PySem.Spec PyProof.Rows L2
/-! ### {k: v} with one key, a tuple -/
def tDisp1 (tk tv : TE) : TE := fun σ H Q => ∀ p, H p = none → tk σ (upd H p (.dT [])) fun x H1 => tv σ H1 fun y H2 => ∃ (b : Addr) (k : List Key), x = .ref b ∧ H2 b = some (.tup (k.map kV)) ∧ H2 p = some (.dT []) ∧ Q (.ref p) (upd H2 p (.dT [(k, y)]))
theorem pe_disp1 {X : Cx} {pos : Pos} {ke ve : Expr} {tk tv : TE} (hu : X.A.units < cLine) (hk : PE X ke tk) (hv : PE X ve tv)
    (hshape : (evalEachOpt [some ke] X.env).zip ((evalEach [ve] X.env).map fun v => do let x ← v; standAt pos; pure x) = (pairTrees [some ke] [ve] X.env pos).map fun p => (some p.1, p.2) := by rfl) :
    PE X (.Dict [some ke] [ve] pos) (tDisp1 tk tv) := by
  refine ⟨fun pins s σ H Q I q => ?_⟩
  have hn := I.hok.fresh (Nat.le_refl s.heap.objs.size)
  have I1 := I.laid (a := s.heap.objs.size) (o := .dT []) (h' := s.heap.push { cls := .type "dict", data := .dict #[] }) (t' := s.toks) (fun _ _ q => Heap.get?_push_of_some _ q) (Nat.le_refl _) (dt_empty s.heap I.big)
  have PP : PPs X pos [some ke] [ve] [(tk, tv)] := pps_cons hk hv pps_nil
  rw [arm_eval_Dict, hshape, dictDisplay_pairs (pairTrees [some ke] [ve] X.env pos) (by intro z; cases z) (show 1 < 17 by decide)]
  refine wpAny_bind (wpAny_standAt (wpAny_bind (wpAny_subDictH (knd := tupleKind (mixKind X.prog X.w)) (Q := fun d s' => wpAny (model X.prog X.w) X.A (pure (Value.ref d)) (EP X pins σ Q) X.xe s') hu (show 1 ≤ 15 by decide) ?_)))
  refine wpAny_mono (PP.run pins _ σ _ (fun ps H2 => ∃ (b : Addr) (k : List Key) (y : V), ps = [(.ref b, y)] ∧ H2 b = some (.tup (k.map kV)) ∧ H2 s.heap.objs.size = some (.dT []) ∧ Q (.ref s.heap.objs.size) (upd H2 s.heap.objs.size (.dT [(k, y)]))) I1 ?_) (fun ws s2 h => ?_) fun _ _ e => e
  · have z := q _ hn
    show tk σ _ _
    refine (?_ : tk σ (upd H s.heap.objs.size (.dT [])) _)
    have cong : (fun x H1 => tv σ H1 fun y H2 => ∃ (b : Addr) (k : List Key), x = V.ref b ∧ H2 b = some (.tup (k.map kV)) ∧ H2 s.heap.objs.size = some (.dT []) ∧ Q (.ref s.heap.objs.size) (upd H2 s.heap.objs.size (.dT [(k, y)]))) =
        fun x H1 => tv σ H1 fun y H2 => tPairs [] σ H2 fun ps H3 => ∃ (b : Addr) (k : List Key) (y' : V), ((x, y) :: ps) = [(V.ref b, y')] ∧ H3 b = some (.tup (k.map kV)) ∧ H3 s.heap.objs.size = some (.dT []) ∧ Q (.ref s.heap.objs.size) (upd H3 s.heap.objs.size (.dT [(k, y')])) := by
      funext x H1
      congr 1
      funext y H2
      refine propext ⟨?_, ?_⟩
      · rintro ⟨b, k, e1, e2, e3, e4⟩
        subst e1
        exact ⟨b, k, y, rfl, e2, e3, e4⟩
      · rintro ⟨b, k, y', e1, e2, e3, e4⟩
        simp only [List.cons.injEq, Prod.mk.injEq, and_true] at e1
        obtain ⟨rfl, rfl⟩ := e1
        exact ⟨b, k, rfl, e2, e3, e4⟩
    rw [cong] at z
    exact z
  · obtain ⟨ps, H2, I2, rel, b, k, y, e, hb, hp, q2⟩ := h
    subst e
    cases rel with
    | cons r rr =>
      cases rr
      rename_i w
      obtain ⟨r1, r2⟩ := r
      obtain ⟨u1, u2⟩ := w
      cases (show u1 = Value.ref b from r1)
      obtain ⟨lz, hd, xs0, kt, dd⟩ := dt_of I2.hok hp
      cases kt
      refine ⟨[(k, b, u2)], ⟨rfl, rfl, key_of I2.hok hb, trivial⟩, dd, fun h' tk' dd' hs => ?_⟩
      refine wpAny_pure ⟨.ref s.heap.objs.size, _, d_write I2 (by rw [hp]; exact True.intro) hs (let ⟨o, _, _, ho, _⟩ := dd'; ⟨o, ho⟩) ?_, rfl, q2⟩
      obtain ⟨o, es, ep, ho, hc, hdat, he, his, hnd⟩ := dd'
      have hb' : b ≠ s.heap.objs.size := fun e => by
        rw [e, hp] at hb
        cases hb
      exact ⟨by show 1 ≤ sizeLine; decide, hd, [(k, b, u2)], .cons ⟨rfl, by rw [upd_ne hb']; exact hb, r2⟩ .nil, o, es, ep, ho, hc, hdat, he, hnd⟩
end Fr
end
section
set_option Elab.async false
set_option linter.all false
set_option maxRecDepth 100000
set_option maxHeartbeats 4000000
namespace Fr
open PySem PySem.Spec PyProof.Rows L2
/-! ### sorted(xs) of pairs of ints -/
def pairAt (H : Hp) (x : V) : PI2 := match x with
  | .ref t => match H t with
    | some (.tup [.int a, .int b]) => (a, b)
    | _ => (0, 0)
  | _ => (0, 0)
theorem pairAt_of {H : Hp} {t : Addr} {p : PI2} (h : H t = some (.tup [.int p.1, .int p.2])) : pairAt H (.ref t) = p := by
  unfold pairAt
  simp only [h]
theorem prs_map {H : Hp} : ∀ {ts : List Addr} {ps : List PI2}, Prs H ts ps → ps = ts.map fun t => pairAt H (.ref t)
  | _, _, .nil => rfl
  | _, _, .cons h r => by rw [List.map_cons, pairAt_of h, ← prs_map r]
theorem prs_of {H : Hp} : ∀ {ts : List Addr}, (∀ t ∈ ts, ∃ p : PI2, H t = some (.tup [.int p.1, .int p.2])) → Prs H ts (ts.map fun t => pairAt H (.ref t))
  | [], _ => .nil
  | t :: ts, h => by
    obtain ⟨p, e⟩ := h t List.mem_cons_self
    have e2 := pairAt_of e
    refine .cons (by dsimp only; rw [e2]; exact e) (prs_of fun u hu => h u (List.mem_cons_of_mem _ hu))
theorem prs_mem {H : Hp} : ∀ {ts : List Addr} {ps : List PI2}, Prs H ts ps → ∀ t ∈ ts, ∃ p : PI2, H t = some (.tup [.int p.1, .int p.2])
  | _, _, .cons h r, t, ht => by
    rcases List.mem_cons.mp ht with e | ht
    · rw [e]
      exact ⟨_, h⟩
    · exact prs_mem r t ht
theorem refs_perm {ts : List Addr} {ys : List V} (h : ys.Perm (ts.map V.ref)) : ∃ ts' : List Addr, ys = ts'.map V.ref ∧ ts'.Perm ts := by
  have go : ∀ ys : List V, (∀ y ∈ ys, ∃ t, y = V.ref t) → ∃ ts' : List Addr, ys = ts'.map V.ref := by
    intro ys
    induction ys with
    | nil => exact fun _ => ⟨[], rfl⟩
    | cons y ys ih =>
      intro h
      obtain ⟨l, e⟩ := ih fun x hx => h x (List.mem_cons_of_mem _ hx)
      obtain ⟨t, e2⟩ := h y List.mem_cons_self
      exact ⟨t :: l, by rw [e, e2]; rfl⟩
  obtain ⟨ts', e⟩ := go ys fun y hy => by
    obtain ⟨t, _, e⟩ := List.mem_map.mp (h.mem_iff.mp hy)
    exact ⟨t, e.symm⟩
  subst e
  refine ⟨ts', rfl, ?_⟩
  have inv : ∀ l : List Addr, (l.map V.ref).map (fun v : V => match v with | .ref t => t | _ => 0) = l := by
    intro l
    rw [List.map_map]
    have : ((fun v : V => match v with | .ref t => t | _ => 0) ∘ V.ref) = id := rfl
    rw [this, List.map_id]
  have := h.map (fun v : V => match v with | .ref t => t | _ => 0)
  rw [inv, inv] at this
  exact this
section
variable {X : Cx}
def rSortP : List V → Hp → VK → Prop := fun vs H Q => ∃ (a : Addr) (ts : List Addr) (ps : List PI2), vs = [V.ref a] ∧ H a = some (.lst (ts.map V.ref)) ∧ Prs H ts ps ∧
  ∀ (ts' : List Addr) (ps' : List PI2) (p : Addr), Prs H ts' ps' → ps'.Perm ps → ps'.Pairwise ple → H p = none → Q (.ref p) (upd H p (.lst (ts'.map V.ref)))
theorem cr_sortP : CallR X (.builtin "sorted") rSortP := by
  intro pins s σ H xs us Q I r h
  obtain ⟨a, ts, ps, e, ha, hp, q⟩ := h
  refine cr_sortedPO pins s σ H xs us Q I r ⟨a, ts.map V.ref, pairAt H, e, SqL.of ha, fun x hx => ?_, fun ys p hs hb hn => ?_⟩
  · obtain ⟨t, ht, ex⟩ := List.mem_map.mp hx
    subst ex
    obtain ⟨z, hz⟩ := prs_mem hp t ht
    exact ⟨t, rfl, by rw [pairAt_of hz]; exact hz⟩
  · obtain ⟨ts', ey, pt⟩ := refs_perm hb.perm
    subst ey
    refine q ts' (ts'.map fun t => pairAt H (.ref t)) p (prs_of fun t ht => prs_mem hp t (pt.mem_iff.mp ht)) ?_ ?_ hn
    · rw [prs_map hp]
      exact pt.map _
    · refine List.pairwise_map.mpr ((List.pairwise_map.mp hs).imp fun {x y} h => ?_)
      unfold ltP SrtO.lexB at h
      unfold ple
      by_cases c : (pairAt H (.ref y)).1 = (pairAt H (.ref x)).1
      · rw [if_pos c, decide_eq_false_iff_not] at h
        right
        exact ⟨c.symm, by omega⟩
      · rw [if_neg c, decide_eq_false_iff_not] at h
        left
        omega
end
end Fr
end
section
set_option Elab.async false
set_option linter.all false
set_option maxRecDepth 100000
set_option maxHeartbeats 4000000
/-! The text: its defs by their places, their names by slots. -/
namespace Fw
open PySem PySem.Spec PyProof.Rows L2
def topS (i : Nat) : Stmt := PySem.Challenge.pw_fewestpours_k35_whole_papers_of_asks.main.body.getD i (.Pass ⟨0, 0, 0, 0⟩)
abbrev s_is_integer : Stmt := topS 1
theorem sc_is_integer : FnScope ["value"] ["value"] (defScope s_is_integer) := ⟨rfl, rfl, rfl, by decide +kernel, rfl, by decide +kernel, by decide +kernel⟩
abbrev s_is_number : Stmt := topS 2
theorem sc_is_number : FnScope ["value"] ["value"] (defScope s_is_number) := ⟨rfl, rfl, rfl, by decide +kernel, rfl, by decide +kernel, by decide +kernel⟩
abbrev s_is_index : Stmt := topS 3
theorem sc_is_index : FnScope ["value", "many"] ["value", "many"] (defScope s_is_index) := ⟨rfl, rfl, rfl, by decide +kernel, rfl, by decide +kernel, by decide +kernel⟩
abbrev s_is_row_of : Stmt := topS 4
theorem sc_is_row_of : FnScope ["value", "sizes"] ["value", "sizes"] (defScope s_is_row_of) := ⟨rfl, rfl, rfl, by decide +kernel, rfl, by decide +kernel, by decide +kernel⟩
abbrev s_is_rising : Stmt := topS 5
theorem sc_is_rising : FnScope ["value", "many", "one", "at"] ["value", "many"] (defScope s_is_rising) := ⟨rfl, rfl, rfl, by decide +kernel, rfl, by decide +kernel, by decide +kernel⟩
abbrev s_is_pair_of : Stmt := topS 6
theorem sc_is_pair_of : FnScope ["value", "first", "second"] ["value", "first", "second"] (defScope s_is_pair_of) := ⟨rfl, rfl, rfl, by decide +kernel, rfl, by decide +kernel, by decide +kernel⟩
abbrev s_stretches : Stmt := topS 8
theorem sc_stretches : FnScope ["asks", "last", "found", "time", "page"] ["asks"] (defScope s_stretches) := ⟨rfl, rfl, rfl, by decide +kernel, rfl, by decide +kernel, by decide +kernel⟩
abbrev s_over_times : Stmt := topS 9
theorem sc_over_times : FnScope ["asks", "kept", "steps", "first", "last", "found", "many", "time"] ["asks", "kept"] (defScope s_over_times) := ⟨rfl, rfl, rfl, by decide +kernel, rfl, by decide +kernel, by decide +kernel⟩
abbrev s_is_kept_lot : Stmt := topS 10
theorem sc_is_kept_lot : FnScope ["asks", "m", "value", "many", "known", "one", "at", "over"] ["asks", "m", "value"] (defScope s_is_kept_lot) := ⟨rfl, rfl, rfl, by decide +kernel, rfl, by decide +kernel, by decide +kernel⟩
abbrev s_furthest : Stmt := topS 12
theorem sc_furthest : FnScope ["asks", "m", "later", "there", "found", "time", "page", "ends", "one", "since"] ["asks", "m"] (defScope s_furthest) := ⟨rfl, rfl, rfl, by decide +kernel, rfl, by decide +kernel, by decide +kernel⟩
abbrev s_ask_bound : Stmt := topS 14
theorem sc_ask_bound : FnScope ["asks", "m", "times", "free", "one", "time"] ["asks", "m", "times"] (defScope s_ask_bound) := ⟨rfl, rfl, rfl, by decide +kernel, rfl, by decide +kernel, by decide +kernel⟩
abbrev s_best_times : Stmt := topS 15
theorem sc_best_times : FnScope ["asks", "m", "later", "many", "least", "ahead", "time", "found", "start", "between", "first", "told", "times"] ["asks", "m"] (defScope s_best_times) := ⟨rfl, rfl, rfl, by decide +kernel, rfl, by decide +kernel, by decide +kernel⟩
abbrev s_ask_paper : Stmt := topS 16
theorem sc_ask_paper : FnScope ["asks", "m"] ["asks", "m"] (defScope s_ask_paper) := ⟨rfl, rfl, rfl, by decide +kernel, rfl, by decide +kernel, by decide +kernel⟩
abbrev s_is_ask_paper : Stmt := topS 17
theorem sc_is_ask_paper : FnScope ["asks", "m", "value"] ["asks", "m", "value"] (defScope s_is_ask_paper) := ⟨rfl, rfl, rfl, by decide +kernel, rfl, by decide +kernel, by decide +kernel⟩
abbrev s_law_draw : Stmt := topS 19
theorem sc_law_draw : FnScope ["_law_script", "_law_salt", "_law_cells", "_law_blend", "_law_cell"] ["_law_script", "_law_salt"] (defScope s_law_draw) := ⟨rfl, rfl, rfl, by decide +kernel, rfl, by decide +kernel, by decide +kernel⟩
abbrev s_law_any : Stmt := topS 20
theorem sc_law_any : FnScope ["_law_deal", "_law_bound_here", "_law_rest"] ["_law_deal", "_law_bound_here"] (defScope s_law_any) := ⟨rfl, rfl, rfl, by decide +kernel, rfl, by decide +kernel, by decide +kernel⟩
abbrev s_law_of : Stmt := topS 21
theorem sc_law_of : FnScope ["_law_deal", "_law_some"] ["_law_deal", "_law_some"] (defScope s_law_of) := ⟨rfl, rfl, rfl, by decide +kernel, rfl, by decide +kernel, by decide +kernel⟩
abbrev s_law_asks : Stmt := topS 22
theorem sc_law_asks : FnScope ["_law_deal", "_law_most", "_law_pages", "_law_found", "_law_turn", "_law_near"] ["_law_deal", "_law_most", "_law_pages"] (defScope s_law_asks) := ⟨rfl, rfl, rfl, by decide +kernel, rfl, by decide +kernel, by decide +kernel⟩
abbrev s_law_stretches : Stmt := topS 23
theorem sc_law_stretches : FnScope ["_law_asks_here", "_law_found", "_law_first", "_law_later", "_law_time"] ["_law_asks_here"] (defScope s_law_stretches) := ⟨rfl, rfl, rfl, by decide +kernel, rfl, by decide +kernel, by decide +kernel⟩
abbrev s_law_fits : Stmt := topS 24
theorem sc_law_fits : FnScope ["_law_asks_here", "_law_m", "_law_lot", "_law_time", "_law_one"] ["_law_asks_here", "_law_m", "_law_lot"] (defScope s_law_fits) := ⟨rfl, rfl, rfl, by decide +kernel, rfl, by decide +kernel, by decide +kernel⟩
abbrev s_law_is_kept : Stmt := topS 25
theorem sc_law_is_kept : FnScope ["_law_asks_here", "_law_m", "_law_value", "_law_times_here", "_law_one", "_law_time"] ["_law_asks_here", "_law_m", "_law_value"] (defScope s_law_is_kept) := ⟨rfl, rfl, rfl, by decide +kernel, rfl, by decide +kernel, by decide +kernel⟩
abbrev s_law_spared : Stmt := topS 26
theorem sc_law_spared : FnScope ["_law_asks_here", "_law_costs", "_law_m", "_law_states", "_law_page", "_law_later", "_law_state", "_law_spared_here", "_law_rest", "_law_some", "_law_one", "_law_new", "_law_at"] ["_law_asks_here", "_law_costs", "_law_m"] (defScope s_law_spared) := ⟨rfl, rfl, rfl, by decide +kernel, rfl, by decide +kernel, by decide +kernel⟩
abbrev s_law_odd_thing : Stmt := topS 27
theorem sc_law_odd_thing : FnScope ["_law_deal", "_law_value", "_law_some", "_law_more", "_law_at"] ["_law_deal", "_law_value"] (defScope s_law_odd_thing) := ⟨rfl, rfl, rfl, by decide +kernel, rfl, by decide +kernel, by decide +kernel⟩
abbrev s_law_times : Stmt := topS 28
theorem sc_law_times : FnScope ["_law_deal", "_law_asks_here", "_law_many", "_law_time"] ["_law_deal", "_law_asks_here"] (defScope s_law_times) := ⟨rfl, rfl, rfl, by decide +kernel, rfl, by decide +kernel, by decide +kernel⟩
abbrev s_law_bound : Stmt := topS 29
theorem sc_law_bound : FnScope ["_law_asks_here", "_law_m", "_law_times_here", "_law_free", "_law_one", "_law_time"] ["_law_asks_here", "_law_m", "_law_times_here"] (defScope s_law_bound) := ⟨rfl, rfl, rfl, by decide +kernel, rfl, by decide +kernel, by decide +kernel⟩
abbrev s_law_due : Stmt := topS 30
theorem sc_law_due : FnScope ["_law_asks_here", "_law_m", "_law_value", "_law_times_here", "_law_time"] ["_law_asks_here", "_law_m", "_law_value"] (defScope s_law_due) := ⟨rfl, rfl, rfl, by decide +kernel, rfl, by decide +kernel, by decide +kernel⟩
abbrev s_law : Stmt := topS 31
theorem sc_law : FnScope ["_law_script", "_law_deal", "_law_turn", "_law_asks_here", "_law_m", "_law_told", "_law_most", "_law_some", "_law_value", "_law_due_here", "_law_times_here", "_law_again"] ["_law_script"] (defScope s_law) := ⟨rfl, rfl, rfl, by decide +kernel, rfl, by decide +kernel, by decide +kernel⟩
end Fw
end
section
set_option Elab.async false
set_option linter.all false
set_option maxRecDepth 100000
set_option maxHeartbeats 4000000
namespace Fw
open PySem PySem.Spec PyProof.Rows L2 Fr
/-! ### data that stands -/
theorem sqL_mono {K : PySem.W.Frag} {H H' : Hp} (k : Same H H') {a : Addr} {xs : List V} (h : SqL K H a xs) : SqL K H' a xs := k.seq h
theorem sqT_mono {K : PySem.W.Frag} {H H' : Hp} (k : Same H H') {a : Addr} {xs : List V} (h : SqT K H a xs) : SqT K H' a xs := by
  rcases h with (z | ⟨o, z⟩) | z
  · exact .inl (.inl (k _ _ z))
  · exact .inl (.inr ⟨o, k _ _ z⟩)
  · exact .inr z
mutual
theorem dp_mono {K : PySem.W.Frag} {H H' : Hp} (k : Same H H') : ∀ {v : V} {d : PyData}, Dp K H v d → Dp K H' v d
  | _, _, .non => .non
  | _, _, .bl b => .bl b
  | _, _, .int i => .int i
  | _, _, .str x => .str x
  | _, _, .lst h r => .lst (sqL_mono k h) (dpAll_mono k r)
  | _, _, .tup h r => .tup (sqT_mono k h) (dpAll_mono k r)
theorem dpAll_mono {K : PySem.W.Frag} {H H' : Hp} (k : Same H H') : ∀ {vs : List V} {ds : List PyData}, DpAll K H vs ds → DpAll K H' vs ds
  | _, _, .nil => .nil
  | _, _, .cons h r => .cons (dp_mono k h) (dpAll_mono k r)
end
theorem dpAll_len {K : PySem.W.Frag} {H : Hp} : ∀ {vs : List V} {ds : List PyData}, DpAll K H vs ds → vs.length = ds.length
  | _, _, .nil => rfl
  | _, _, .cons _ r => by rw [List.length_cons, List.length_cons, dpAll_len r]
theorem dpAll_get {K : PySem.W.Frag} {H : Hp} : ∀ {vs : List V} {ds : List PyData} {i : Nat} {v : V}, DpAll K H vs ds → vs[i]? = some v → ∃ d, ds[i]? = some d ∧ Dp K H v d
  | _, _, _, _, .nil, e => by simp at e
  | _, _, 0, _, .cons h _, e => by
    simp at e
    subst e
    exact ⟨_, rfl, h⟩
  | _, _, i + 1, v, .cons _ r, e => by
    obtain ⟨d, h1, h2⟩ := dpAll_get (i := i) (v := v) r (by simpa using e)
    exact ⟨d, by simpa using h1, h2⟩
theorem same_refl (H : Hp) : Same H H := fun _ _ e => e
theorem same_new {H : Hp} {p : Addr} {o : HO} (h : H p = none) : Same H (upd H p o) := fun b x e => by
  rw [upd_ne (ne_of_none e h)]
  exact e
/-- a value's type by its data -/
def tyN : PyData → String
  | .none => "NoneType"
  | .bool _ => "bool"
  | .int _ => "int"
  | .str _ => "str"
  | .list _ => "list"
  | .tuple _ => "tuple"
  | .dict _ => "dict"
theorem ty_of {K : PySem.W.Frag} {H : Hp} {v : V} {d : PyData} (h : Dp K H v d) : TyX K H v (.type (tyN d)) := by
  cases h with
  | non => exact .base .non
  | bl b => exact .base (.bl b)
  | int i => exact .base (.int i)
  | str x => exact .base (.str x)
  | lst h r =>
    rcases h with (z | ⟨o, z⟩) | ⟨o, its, n, h1, h2, _⟩
    · exact .base (.lst z)
    · exact .base (.frz z)
    · exact .kList h1 h2
  | tup h r =>
    rcases h with (z | ⟨o, z⟩) | ⟨o, its, n, h1, h2, _⟩
    · exact .base (.tup z)
    · exact .fTuple z
    · exact .kTuple h1 h2
/-- built-in names that the text uses -/
structure Nm (mg : Str → Option Value) : Prop where
  isinstance : mg "isinstance" = none
  int : mg "int" = none
  bool : mg "bool" = none
  tuple : mg "tuple" = none
  len : mg "len" = none
  all : mg "all" = none
  any : mg "any" = none
  range : mg "range" = none
  sorted : mg "sorted" = none
  enumerate : mg "enumerate" = none
  dict : mg "dict" = none
  max : mg "max" = none
  min : mg "min" = none
  abs : mg "abs" = none
  list : mg "list" = none
  repr : mg "repr" = none
def isI : PyData → Bool
  | .bool _ => true
  | .int _ => true
  | _ => false
def isB : PyData → Bool
  | .bool _ => true
  | _ => false
def isT : PyData → Bool
  | .tuple _ => true
  | _ => false
theorem kit_int : ∀ {d : PyData}, (∀ x, d ≠ .dict x) → kitB (tyN d) "int" = some (isI d)
  | .none, _ => (by decide +kernel : kitB "NoneType" "int" = some false)
  | .bool _, _ => (by decide +kernel : kitB "bool" "int" = some true)
  | .int _, _ => (by decide +kernel : kitB "int" "int" = some true)
  | .str _, _ => (by decide +kernel : kitB "str" "int" = some false)
  | .list _, _ => (by decide +kernel : kitB "list" "int" = some false)
  | .tuple _, _ => (by decide +kernel : kitB "tuple" "int" = some false)
  | .dict x, h => absurd rfl (h x)
theorem kit_bool : ∀ {d : PyData}, (∀ x, d ≠ .dict x) → kitB (tyN d) "bool" = some (isB d)
  | .none, _ => (by decide +kernel : kitB "NoneType" "bool" = some false)
  | .bool _, _ => (by decide +kernel : kitB "bool" "bool" = some true)
  | .int _, _ => (by decide +kernel : kitB "int" "bool" = some false)
  | .str _, _ => (by decide +kernel : kitB "str" "bool" = some false)
  | .list _, _ => (by decide +kernel : kitB "list" "bool" = some false)
  | .tuple _, _ => (by decide +kernel : kitB "tuple" "bool" = some false)
  | .dict x, h => absurd rfl (h x)
theorem kit_tuple : ∀ {d : PyData}, (∀ x, d ≠ .dict x) → kitB (tyN d) "tuple" = some (isT d)
  | .none, _ => (by decide +kernel : kitB "NoneType" "tuple" = some false)
  | .bool _, _ => (by decide +kernel : kitB "bool" "tuple" = some false)
  | .int _, _ => (by decide +kernel : kitB "int" "tuple" = some false)
  | .str _, _ => (by decide +kernel : kitB "str" "tuple" = some false)
  | .list _, _ => (by decide +kernel : kitB "list" "tuple" = some false)
  | .tuple _, _ => (by decide +kernel : kitB "tuple" "tuple" = some true)
  | .dict x, h => absurd rfl (h x)
theorem dp_noDict {K : PySem.W.Frag} {H : Hp} {v : V} {d : PyData} (h : Dp K H v d) : ∀ x, d ≠ .dict x := fun x e => by
  subst e
  cases h
section
variable {P : Program} {w : World} {K : PySem.W.Frag} {mg : Str → Option Value} {base : Heap}
/-! ### is_integer -/
def isInt : PyData → Bool
  | .int _ => true
  | _ => false
def sp_is_integer (K : PySem.W.Frag) : Sp := fun vs H Q _ => ∃ (v : V) (d : PyData), vs = [v] ∧ Dp K H v d ∧ Q (.bl (isInt d)) H
theorem ok_is_integer {f : Addr} {fd : FuncData} {k : Nat} (F : Fun K "is_integer" "is_integer" s_is_integer f fd) (T : Nm mg) : FnOk P w K mg base CX0 (k + 1) f fd ["value"] (sp_is_integer K) := by
  refine F.ok sc_is_integer (fun vs H Q E h => ?_) (fun cdv A outer s H vs Q E hr h => ?_)
  · obtain ⟨v, d, rfl, _⟩ := h
    rfl
  · obtain ⟨v, d, rfl, hd, q⟩ := h
    refine ⟨_, pss_one (ps_ret (pe_and (pe_callB call_isi (by rfl) T.isinstance (by decide +kernel) (pa_cons (pv 0) (pa_cons (pe_bltn (v := .ty "int") (by rfl) T.int (by decide +kernel) rfl) pa_nil)))
      (pe_one (pe_not (pe_callB call_isi (by rfl) T.isinstance (by decide +kernel) (pa_cons (pv 0) (pa_cons (pe_bltn (v := .ty "bool") (by rfl) T.bool (by decide +kernel) rfl) pa_nil))))))), ?_⟩
    have nd := dp_noDict hd
    refine ⟨v, rfl, v, _, _, _, _, rfl, .ty "int", ty_of hd, kit_ty (kit_int nd), _, rfl, ?_⟩
    refine ite2 (fun c => ?_) (fun c => ?_)
    · refine ⟨v, rfl, v, _, _, _, _, rfl, .ty "bool", ty_of hd, kit_ty (kit_bool nd), _, rfl, ?_⟩
      cases d <;> first | exact q | (cases c)
    · cases d <;> first | exact q | (exact absurd rfl c)
/-- a def of the text, for its callers -/
structure Dn (K : PySem.W.Frag) (mg : Str → Option Value) (x : Str) (f : Addr) (fd : FuncData) (ps : List Str) : Prop where
  g : mg x = some (.ref f)
  kp : PySem.W.keepIn K (.ref f) = true
  b : Binds K fd ps []
/-! ### is_number, is_index -/
def isNum : PyData → Bool
  | .int i => decide (0 ≤ i)
  | _ => false
def isIdx (d : PyData) (n : Int) : Bool := match d with
  | .int i => decide (0 ≤ i) && decide (i < n)
  | _ => false
def sp_is_number (K : PySem.W.Frag) : Sp := fun vs H Q _ => ∃ (v : V) (d : PyData), vs = [v] ∧ Dp K H v d ∧ Q (.bl (isNum d)) H
def sp_is_index (K : PySem.W.Frag) : Sp := fun vs H Q _ => ∃ (v : V) (d : PyData) (n : Int), vs = [v, .int n] ∧ Dp K H v d ∧ Q (.bl (isIdx d n)) H
theorem isInt_iff {d : PyData} : isInt d = true ↔ ∃ i, d = .int i := by
  cases d <;> simp [isInt]
theorem ok_is_number {f f1 : Addr} {fd fd1 : FuncData} {k : Nat} (F : Fun K "is_number" "is_number" s_is_number f fd) (G1 : FnOk P w K mg base CX0 k f1 fd1 ["value"] (sp_is_integer K)) (D1 : Dn K mg "is_integer" f1 fd1 ["value"]) :
    FnOk P w K mg base CX0 (k + 1) f fd ["value"] (sp_is_number K) := by
  refine F.ok sc_is_number (fun vs H Q E h => ?_) (fun cdv A outer s H vs Q E hr h => ?_)
  · obtain ⟨v, d, rfl, _⟩ := h
    rfl
  · obtain ⟨v, d, rfl, hd, q⟩ := h
    refine ⟨_, pss_one (ps_ret (pe_and (pe_call G1 hr (by rfl) D1.g D1.kp D1.b .nil pass0 (pa_cons (pv 0) pa_nil)) (pe_one (pe_cmpR op_ge (pv 0) pe_int (nomark _))))), ?_⟩
    refine ⟨v, rfl, v, d, rfl, hd, _, rfl, ?_⟩
    refine ite2 (fun c => ?_) (fun c => ?_)
    · obtain ⟨i, rfl⟩ := isInt_iff.mp c
      cases hd
      exact ⟨_, rfl, i, 0, rfl, rfl, q⟩
    · cases d <;> first | exact q | (exact absurd rfl c)
theorem isNum_iff {d : PyData} : isNum d = true ↔ ∃ i, d = .int i ∧ 0 ≤ i := by
  cases d <;> simp [isNum]
theorem isIdx_iff {d : PyData} {n : Int} : isIdx d n = true ↔ ∃ i, d = .int i ∧ 0 ≤ i ∧ i < n := by
  cases d <;> simp [isIdx]
theorem ok_is_index {f f1 : Addr} {fd fd1 : FuncData} {k : Nat} (F : Fun K "is_index" "is_index" s_is_index f fd) (G1 : FnOk P w K mg base CX0 k f1 fd1 ["value"] (sp_is_number K)) (D1 : Dn K mg "is_number" f1 fd1 ["value"]) :
    FnOk P w K mg base CX0 (k + 1) f fd ["value", "many"] (sp_is_index K) := by
  refine F.ok sc_is_index (fun vs H Q E h => ?_) (fun cdv A outer s H vs Q E hr h => ?_)
  · obtain ⟨v, d, n, rfl, _⟩ := h
    rfl
  · obtain ⟨v, d, n, rfl, hd, q⟩ := h
    refine ⟨_, pss_one (ps_ret (pe_and (pe_call G1 hr (by rfl) D1.g D1.kp D1.b .nil pass0 (pa_cons (pv 0) pa_nil)) (pe_one (pe_cmpR op_lt (pv 0) (pv 1) (nomark _))))), ?_⟩
    refine ⟨v, rfl, v, d, rfl, hd, _, rfl, ?_⟩
    refine ite2 (fun c => ?_) (fun c => ?_)
    · obtain ⟨i, rfl, i0⟩ := isNum_iff.mp c
      cases hd
      have e : isIdx (.int i) n = decide (i < n) := by simp [isIdx, i0]
      rw [e] at q
      exact ⟨_, rfl, _, rfl, i, n, rfl, rfl, q⟩
    · have e : isIdx d n = false := by
        rw [← Bool.not_eq_true]
        intro z
        obtain ⟨i, e, i0, _⟩ := isIdx_iff.mp z
        exact c (isNum_iff.mpr ⟨i, e, i0⟩)
      rw [e] at q
      exact q
/-! ### is_row_of, is_pair_of -/
def isRow2 : PyData → Bool
  | .tuple [_, _] => true
  | _ => false
theorem isRow2_iff {d : PyData} : isRow2 d = true ↔ ∃ x y, d = .tuple [x, y] := by
  cases d with
  | tuple ds =>
    match ds with
    | [] => simp [isRow2]
    | [_] => simp [isRow2]
    | [_, _] => simp [isRow2]
    | _ :: _ :: _ :: _ => simp [isRow2]
  | _ => simp [isRow2]
def sp_is_row_of (K : PySem.W.Frag) : Sp := fun vs H Q _ => ∃ (v : V) (d : PyData) (t : Addr), vs = [v, .ref t] ∧ Dp K H v d ∧ H t = some (.tup [.int 2]) ∧ Q (.bl (isRow2 d)) H
theorem ok_is_row_of {f : Addr} {fd : FuncData} {k : Nat} (F : Fun K "is_row_of" "is_row_of" s_is_row_of f fd) (T : Nm mg) : FnOk P w K mg base CX0 (k + 1) f fd ["value", "sizes"] (sp_is_row_of K) := by
  refine F.ok sc_is_row_of (fun vs H Q E h => ?_) (fun cdv A outer s H vs Q E hr h => ?_)
  · obtain ⟨v, d, t, rfl, _⟩ := h
    rfl
  · obtain ⟨v, d, t, rfl, hd, ht, q⟩ := h
    refine ⟨_, pss_one (ps_ret (pe_and (pe_callB call_isi (by rfl) T.isinstance (by decide +kernel) (pa_cons (pv 0) (pa_cons (pe_bltn (v := .ty "tuple") (by rfl) T.tuple (by decide +kernel) rfl) pa_nil)))
      (pe_one (pe_cmpR op_in_seq (pe_callB call_len_seq (by rfl) T.len PySem.boot_len (pa_cons (pv 0) pa_nil)) (pv 1) (by rfl))))), ?_⟩
    refine ⟨v, rfl, v, _, _, _, _, rfl, .ty "tuple", ty_of hd, kit_ty (kit_tuple (dp_noDict hd)), _, rfl, ?_⟩
    refine ite2 (fun c => ?_) (fun c => ?_)
    · cases hd with
      | tup hs ha =>
        rename_i a xs ds
        refine ⟨_, rfl, a, xs, rfl, .inr hs, _, rfl, t, [.int 2], rfl, .inr (SqT.of ht), rfl, rfl, ?_⟩
        have hl := dpAll_len ha
        have e : isRow2 (.tuple ds) = inV (.int (xs.length : Int)) [.int 2] := by
          rw [hl]
          match ds with
          | [] => rfl
          | [_] => rfl
          | [_, _] => rfl
          | _ :: _ :: _ :: r =>
            simp only [isRow2, inV, List.any_cons, List.any_nil, eqV, List.length_cons, Bool.or_false]
            symm
            rw [beq_eq_false_iff_ne]
            omega
        rw [e] at q
        exact q
      | _ => cases c
    · cases d <;> first | exact q | (exact absurd rfl c)
def isPair (d : PyData) (a b : Int) : Bool := match d with
  | .tuple [x, y] => isIdx x a && isIdx y b
  | _ => false
def sp_is_pair_of (K : PySem.W.Frag) : Sp := fun vs H Q _ => ∃ (v : V) (d : PyData) (a b : Int), vs = [v, .int a, .int b] ∧ Dp K H v d ∧ ∀ H', Same H H' → Q (.bl (isPair d a b)) H'
theorem ok_is_pair_of {f f1 f2 : Addr} {fd fd1 fd2 : FuncData} {k : Nat} (F : Fun K "is_pair_of" "is_pair_of" s_is_pair_of f fd) (G1 : FnOk P w K mg base CX0 k f1 fd1 ["value", "sizes"] (sp_is_row_of K)) (D1 : Dn K mg "is_row_of" f1 fd1 ["value", "sizes"])
    (G2 : FnOk P w K mg base CX0 k f2 fd2 ["value", "many"] (sp_is_index K)) (D2 : Dn K mg "is_index" f2 fd2 ["value", "many"]) : FnOk P w K mg base CX0 (k + 1) f fd ["value", "first", "second"] (sp_is_pair_of K) := by
  refine F.ok sc_is_pair_of (fun vs H Q E h => ?_) (fun cdv A outer s H vs Q E hr h => ?_)
  · obtain ⟨v, d, a, b, rfl, _⟩ := h
    rfl
  · obtain ⟨v, d, a, b, rfl, hd, q⟩ := h
    refine ⟨_, pss_one (ps_ret (pe_and (pe_call G1 hr (by rfl) D1.g D1.kp D1.b .nil pass0 (pa_cons (pv 0) (pa_cons (pe_tup (pa_cons pe_int pa_nil)) pa_nil)))
      (pe_and (pe_call G2 hr (by rfl) D2.g D2.kp D2.b .nil pass0 (pa_cons (pe_ix ix_tup (pv 0) pe_int (fun _ _ => rfl)) (pa_cons (pv 1) pa_nil)))
      (pe_one (pe_call G2 hr (by rfl) D2.g D2.kp D2.b .nil pass0 (pa_cons (pe_ix ix_tup (pv 0) pe_int (fun _ _ => rfl)) (pa_cons (pv 2) pa_nil))))))), ?_⟩
    refine ⟨v, rfl, by show 1 ≤ sizeLine; decide, fun t nt => ?_⟩
    have s1 : Same H (upd H t (.tup [.int 2])) := same_new nt
    have hd1 := dp_mono s1 hd
    refine ⟨v, d, t, rfl, hd1, upd_same, _, rfl, ?_⟩
    refine ite2 (fun c => ?_) (fun c => ?_)
    · obtain ⟨x, y, rfl⟩ := isRow2_iff.mp c
      cases hd1 with
      | tup hs ha =>
        cases ha with
        | cons hx ha =>
          cases ha with
          | cons hy ha =>
            cases ha
            rename_i a' v1 v2
            have e1 : isPair (.tuple [x, y]) a b = (isIdx x a && isIdx y b) := rfl
            refine ⟨_, rfl, a', _, 0, v1, rfl, rfl, hs, rfl, _, rfl, v1, x, a, rfl, hx, _, rfl, ?_⟩
            refine ite2 (fun c1 => ?_) (fun c1 => ?_)
            · refine ⟨_, rfl, a', _, 1, v2, rfl, rfl, hs, rfl, _, rfl, v2, y, b, rfl, hy, ?_⟩
              have := q _ s1
              rw [e1, c1] at this
              exact this
            · have := q _ s1
              rw [e1, Bool.not_eq_true _ |>.mp c1] at this
              exact this
    · have e : isPair d a b = false := by
        match d, c with
        | .tuple [], _ => rfl
        | .tuple [_], _ => rfl
        | .tuple [_, _], c => exact absurd rfl c
        | .tuple (_ :: _ :: _ :: _), _ => rfl
        | .none, _ => rfl
        | .bool _, _ => rfl
        | .int _, _ => rfl
        | .str _, _ => rfl
        | .list _, _ => rfl
        | .dict _, _ => rfl
      have := q _ s1
      rw [e] at this
      exact this
end
end Fw
end
section
set_option Elab.async false
set_option linter.all false
set_option maxRecDepth 100000
set_option maxHeartbeats 4000000
namespace Fw
open PySem PySem.Spec PyProof.Rows L2 Fr
theorem same_tr {H H1 H2 : Hp} (a : Same H H1) (b : Same H1 H2) : Same H H2 := fun c o e => b c o (a c o e)
/-- an item is put behind the list at D, which is new -/
theorem same_app {H H1 : Hp} {D : Addr} {o : HO} (n : H D = none) (k : Same H H1) : Same H (upd H1 D o) := fun b x e => by
  rw [upd_ne (ne_of_none e n)]
  exact k b x e
theorem atI_eq {α : Type} {xs : List α} {i : Int} {j : Nat} {v : α} (e : i = (j : Int)) (h : xs[j]? = some v) : atI xs i = some v := by
  rw [e]
  exact atI_nat h
theorem small_line {n : Nat} (h : n ≤ 100000) : n < sizeLine := by
  have := sizeLine_eq
  omega
theorem take_snoc {α β : Type} {xs : List α} {f : α → β} {i : Nat} {x : α} (h : xs[i]? = some x) : (xs.take (i + 1)).map f = (xs.take i).map f ++ [f x] := by
  rw [List.take_add_one, h, List.map_append]
  rfl
section
variable {P : Program} {w : World} {K : PySem.W.Frag} {mg : Str → Option Value} {base : Heap}
/-! ### is_rising -/
def RisD (d : PyData) (n : Nat) : Prop := ∃ Ts : List Nat, d = .tuple (Ts.map fun t : Nat => .int (t : Int)) ∧ (∀ u ∈ Ts, u < n) ∧ Ts.Pairwise (· < ·)
def sp_is_rising (K : PySem.W.Frag) : Sp := fun vs H Q _ => ∃ (v : V) (d : PyData) (n : Nat), vs = [v, .int n] ∧ Dp K H v d ∧ (∀ ds, d = .tuple ds → ds.length ≤ 100000) ∧ ∀ b H', Same H H' → (b = true ↔ RisD d n) → Q (.bl b) H'
theorem pw_step {α : Type} {R : α → α → Prop} (tr : ∀ a b c, R a b → R b c → R a c) : ∀ {l : List α}, (∀ (i : Nat) (x y : α), l[i]? = some x → l[i + 1]? = some y → R x y) → l.Pairwise R
  | [], _ => .nil
  | [x], _ => by simp
  | x :: y :: l, h => by
    have ih : (y :: l).Pairwise R := pw_step tr fun i a b e1 e2 => h (i + 1) a b (by simpa using e1) (by simpa using e2)
    have h0 : R x y := h 0 x y rfl rfl
    refine List.pairwise_cons.mpr ⟨fun z hz => ?_, ih⟩
    rcases List.mem_cons.mp hz with e | hz
    · rw [e]
      exact h0
    · exact tr _ _ _ h0 ((List.pairwise_cons.mp ih).1 z hz)
theorem step_pw {α : Type} {R : α → α → Prop} {l : List α} (h : l.Pairwise R) {i : Nat} {x y : α} (e1 : l[i]? = some x) (e2 : l[i + 1]? = some y) : R x y := by
  obtain ⟨h1, e1⟩ := List.getElem?_eq_some_iff.mp e1
  obtain ⟨h2, e2⟩ := List.getElem?_eq_some_iff.mp e2
  have := (List.pairwise_iff_getElem.mp h) i (i + 1) h1 h2 (Nat.lt_succ_self _)
  rw [e1, e2] at this
  exact this
theorem nats_of {n : Int} : ∀ {ds : List PyData}, (∀ d ∈ ds, isIdx d n = true) → ∃ Ts : List Nat, ds = Ts.map (fun t : Nat => .int (t : Int)) ∧ ∀ u ∈ Ts, (u : Int) < n
  | [], _ => ⟨[], rfl, fun u hu => nomatch hu⟩
  | d :: ds, h => by
    obtain ⟨Ts, e, hT⟩ := nats_of fun x hx => h x (List.mem_cons_of_mem _ hx)
    obtain ⟨i, e1, i0, i1⟩ := isIdx_iff.mp (h d List.mem_cons_self)
    refine ⟨i.toNat :: Ts, by rw [e, e1, List.map_cons, Int.toNat_of_nonneg i0], fun u hu => ?_⟩
    rcases List.mem_cons.mp hu with z | hu
    · rw [z, Int.toNat_of_nonneg i0]
      exact i1
    · exact hT u hu
theorem ok_is_rising {f f1 : Addr} {fd fd1 : FuncData} {k : Nat} (F : Fun K "is_rising" "is_rising" s_is_rising f fd) (T : Nm mg) (G1 : FnOk P w K mg base CX0 k f1 fd1 ["value", "many"] (sp_is_index K)) (D1 : Dn K mg "is_index" f1 fd1 ["value", "many"]) :
    FnOk P w K mg base CX0 (k + 1) f fd ["value", "many"] (sp_is_rising K) := by
  refine F.ok sc_is_rising (fun vs H Q E h => ?_) (fun cdv A outer s H vs Q E hr h => ?_)
  · obtain ⟨v, d, n, rfl, _⟩ := h
    rfl
  · obtain ⟨v, d, n, rfl, hd, hlen, q⟩ := h
    refine ⟨_, pss_cons (ps_if (PW.pt (pw_or (pt_not (pt_val (pe_callB call_isi (by rfl) T.isinstance (by decide +kernel) (pa_cons (pv 0) (pa_cons (pe_bltn (v := .ty "tuple") (by rfl) T.tuple (by decide +kernel) rfl) pa_nil)))))
      (pw_or1 (pt_not (pt_val (pe_callB (cr_all rfl) (by rfl) T.all (by decide +kernel) (pa_cons (pe_lc (own := [("one", 2)]) (g := gName 2) (tt := tYes) rfl sc_is_rising.nd (pi_tup (pv 0)) (blkOk_by (N := ["value", "many", "one", "at"]) (sc := defScope s_is_rising) (by decide +kernel))
        (fun _ _ _ _ _ => pg_name (i := 2) sc_is_rising.nd rfl (Or.inl rfl)) (fun _ _ _ _ _ => pts_nil) (fun _ _ _ _ _ => pe_call G1 hr (by rfl) D1.g D1.kp D1.b .nil pass0 (pa_cons (pv 2) (pa_cons (pv 1) pa_nil)))) pa_nil)))))))
        (pss_one (ps_ret pe_bl)) pss_nil)
      (pss_one (ps_ret (pe_callB (cr_all rfl) (by rfl) T.all (by decide +kernel) (pa_cons (pe_lc (own := [("at", 3)]) (g := gName 3) (tt := tYes) rfl sc_is_rising.nd (pi_range1 (by rfl) T.range (pa_cons (pe_op op_sub (pe_callB call_len_seq (by rfl) T.len PySem.boot_len (pa_cons (pv 0) pa_nil)) pe_int) pa_nil))
        (blkOk_by (N := ["value", "many", "one", "at"]) (sc := defScope s_is_rising) (by decide +kernel))
        (fun _ _ _ _ _ => pg_name (i := 3) sc_is_rising.nd rfl (Or.inl rfl)) (fun _ _ _ _ _ => pts_nil) (fun _ _ _ _ _ => pe_cmpR op_lt (pe_ix (r := rIxT K) ix_tup (pv 0) (pv 3) (fun _ _ => rfl)) (pe_ix (r := rIxT K) ix_tup (pv 0) (pe_op op_add (pv 3) pe_int) (fun _ _ => rfl)) (nomark _))) pa_nil)))), ?_⟩
    refine ⟨v, rfl, v, _, _, _, _, rfl, .ty "tuple", ty_of hd, kit_ty (kit_tuple (dp_noDict hd)), _, rfl, ?_⟩
    have hr0 : ∀ x (H' : Hp), d = x → isT x = false → Same H H' → Q (.bl false) H' := fun x H' e c sm => q false H' sm ⟨fun z => (nomatch z), fun ⟨Ts, e2, _⟩ => by
      rw [← e, e2] at c
      cases c⟩
    cases hT : isT d with
    | false =>
      refine iteT (iteT ?_)
      exact hr0 d _ rfl hT (same_refl H)
    | true =>
      refine iteF ?_
      cases hd with
      | tup hs ha =>
        rename_i a xs ds
        have hl := dpAll_len ha
        have lim : xs.length ≤ 100000 := by
          rw [hl]
          exact hlen ds rfl
        refine ⟨_, rfl, a, rfl, ⟨xs, hs⟩, fun D nD => lc_tup (K := K) (a := a) (xs := xs) (fun i H1 => Same H H1 ∧ H1 D = some (.lst (((ds.take i).map fun x => isIdx x n).map V.bl)))
          ⟨same_new nD, upd_same⟩ (fun i H1 _ hp => sqT_mono hp.1 hs) (fun i x H1 hi hp => ?_) (fun H1 hp => ?_)⟩
        · obtain ⟨sm, hD⟩ := hp
          obtain ⟨y, hy, dy⟩ := dpAll_get ha hi
          have il : i < xs.length := (List.getElem?_eq_some_iff.mp hi).1
          refine ⟨rfl, x, rfl, _, rfl, x, y, n, rfl, dp_mono sm dy, _, hD, ?_, same_app nD sm, ?_⟩
          · rw [List.length_map, List.length_map, List.length_take]
            exact small_line (by omega)
          · rw [upd_same, take_snoc hy, List.map_append]
            rfl
        · obtain ⟨sm, hD⟩ := hp
          rw [hl, List.take_length] at hD
          refine ⟨D, _, rfl, SqL.of hD, _, rfl, ?_⟩
          cases hA : (ds.map fun x => isIdx x (n : Int)).all id with
          | false =>
            refine iteT ?_
            refine q false H1 sm ⟨fun z => (nomatch z), fun ⟨Ts, e2, h2, _⟩ => ?_⟩
            rw [List.all_map] at hA
            rw [← hA, List.all_eq_true]
            intro y hy
            injection e2 with e2
            rw [e2] at hy
            obtain ⟨u, hu, rfl⟩ := List.mem_map.mp hy
            have := h2 u hu
            exact isIdx_iff.mpr ⟨u, rfl, by omega, by omega⟩
          | true =>
            refine iteF ?_
            rw [List.all_map, List.all_eq_true] at hA
            obtain ⟨Ts, eT, hT2⟩ := nats_of hA
            subst eT
            rw [List.length_map] at hl
            have hs1 := sqT_mono sm hs
            refine ⟨_, rfl, a, xs, rfl, .inr hs1, _, _, rfl, rfl, _, rfl, by omega, by omega, fun D2 nD2 => lc_range (lo := 0) (n := ((xs.length : Int) - 1).toNat) (fun i H2 => Same H H2 ∧ H2 D2 = some (.lst (((List.range i).map fun j => decide (Ts.getD j 0 < Ts.getD (j + 1) 0)).map V.bl)))
              ⟨same_tr sm (same_new nD2), upd_same⟩ (fun i H2 hi hp => ?_) (fun H2 hp => ?_)⟩
            · obtain ⟨sm2, hD2⟩ := hp
              have hi1 : i + 1 < Ts.length := by omega
              have at_ : ∀ j, j < Ts.length → xs[j]? = some (.int ((Ts.getD j 0 : Nat) : Int)) := fun j hj => by
                have hx : xs[j]? = some xs[j] := List.getElem?_eq_getElem (by omega)
                obtain ⟨d', e1, e2⟩ := dpAll_get ha hx
                rw [List.getElem?_map, List.getElem?_eq_getElem hj] at e1
                have e1' := Option.some.inj e1
                subst e1'
                have e3 : Ts.getD j 0 = Ts[j] := by simp [List.getD_eq_getElem?_getD, List.getElem?_eq_getElem hj]
                rw [hx, e3]
                generalize xs[j] = z at e2
                cases e2
                rfl
              have hs2 := sqT_mono sm2 hs
              refine ⟨rfl, _, rfl, _, rfl, a, xs, _, _, rfl, rfl, hs2, atI_eq (j := i) (by omega) (at_ i (by omega)), _, rfl, _, rfl, _, _, rfl, rfl, a, xs, _, _, rfl, rfl, hs2, atI_eq (j := i + 1) (by omega) (at_ (i + 1) hi1), _, _, rfl, rfl, _, hD2, ?_, same_app (sm.free nD2) sm2, ?_⟩
              · rw [List.length_map, List.length_map, List.length_range]
                exact small_line (by omega)
              · rw [upd_same, List.range_succ, List.map_append, List.map_append]
                simp only [List.map_cons, List.map_nil, Int.ofNat_lt]
            · obtain ⟨sm2, hD2⟩ := hp
              refine ⟨D2, _, rfl, SqL.of hD2, q _ H2 sm2 ?_⟩
              rw [List.all_map, List.all_eq_true]
              constructor
              · intro hh
                refine ⟨Ts, rfl, fun u hu => by have := hT2 u hu; omega, pw_step (R := fun a b : Nat => a < b) (fun _ _ _ => Nat.lt_trans) fun i x y e1 e2 => ?_⟩
                have h2 := (List.getElem?_eq_some_iff.mp e2).1
                have this : decide (Ts.getD i 0 < Ts.getD (i + 1) 0) = true := hh i (List.mem_range.mpr (by omega))
                have g1 : Ts.getD i 0 = x := by simp [List.getD_eq_getElem?_getD, e1]
                have g2 : Ts.getD (i + 1) 0 = y := by simp [List.getD_eq_getElem?_getD, e2]
                rw [g1, g2] at this
                exact of_decide_eq_true this
              · rintro ⟨Ts', e, _, hp⟩ i hi
                have hi' := List.mem_range.mp hi
                injection e with e
                have e' : Ts = Ts' := by
                  have : ∀ l l' : List Nat, l.map (fun t : Nat => PyData.int (t : Int)) = l'.map (fun t : Nat => PyData.int (t : Int)) → l = l' := by
                    intro l
                    induction l with
                    | nil =>
                      intro l' h
                      cases l' with
                      | nil => rfl
                      | cons _ _ => cases h
                    | cons x l ih =>
                      intro l' h
                      cases l' with
                      | nil => cases h
                      | cons y l' =>
                        rw [List.map_cons, List.map_cons] at h
                        injection h with h1 h2
                        injection h1 with h1
                        rw [ih l' h2, Int.ofNat.inj h1]
                  exact this _ _ e
                subst e'
                have h2 : i + 1 < Ts.length := by omega
                have := step_pw hp (List.getElem?_eq_getElem (show i < Ts.length by omega)) (List.getElem?_eq_getElem h2)
                have g1 : Ts.getD i 0 = Ts[i] := by simp [List.getD_eq_getElem?_getD, List.getElem?_eq_getElem (show i < Ts.length by omega)]
                have g2 : Ts.getD (i + 1) 0 = Ts[i + 1] := by simp [List.getD_eq_getElem?_getD, List.getElem?_eq_getElem h2]
                show decide (Ts.getD i 0 < Ts.getD (i + 1) 0) = true
                rw [g1, g2]
                exact decide_eq_true this
      | _ => cases hT
end
end Fw
end
section
set_option Elab.async false
set_option linter.all false
set_option maxRecDepth 100000
set_option maxHeartbeats 4000000
namespace Fw
open PySem PySem.Spec PyProof.Rows L2 Fr Fm
/-- a change of the list or dict at p, which was new -/
theorem same_chg {H H1 : Hp} {p : Addr} {o : HO} (n : H p = none) (k : Same H H1) : Same H (upd H1 p o) := same_app n k
theorem prs_chg {H : Hp} {ts : List Addr} {ps : List PI2} (h : Prs H ts ps) {p : Addr} {o u : HO} (e : H p = some u) (nt : ∀ xs, u ≠ .tup xs) : Prs (upd H p o) ts ps := h.mono fun b xs eb => by
  rw [upd_ne (fun z => nt xs (by rw [z, e] at eb; exact Option.some.inj eb))]
  exact eb
theorem prs_new {H : Hp} {ts : List Addr} {ps : List PI2} (h : Prs H ts ps) {p : Addr} {o : HO} (e : H p = none) : Prs (upd H p o) ts ps := h.mono fun b xs eb => by
  rw [upd_ne (ne_of_none eb e)]
  exact eb
theorem prs_len {H : Hp} : ∀ {ts : List Addr} {ps : List PI2}, Prs H ts ps → ts.length = ps.length
  | _, _, .nil => rfl
  | _, _, .cons _ r => by rw [List.length_cons, List.length_cons, prs_len r]
section
variable {P : Program} {w : World} {K : PySem.W.Frag} {mg : Str → Option Value} {base : Heap}
/-! ### stretches -/
/-- a tuple of the stretches, known to its object -/
def StrAt (H : Hp) (a : Addr) (S : List Pr) : Prop := ∃ (o : Obj) (ts : List Addr), H a = some (.frz o (.tup (ts.map V.ref))) ∧ o.dict = none ∧ Prs H ts (S.map toI)
def sp_stretches (K : PySem.W.Frag) : Sp := fun vs H Q _ => ∃ (a : Addr) (A : List Int), vs = [.ref a] ∧ SqT K H a (A.map V.int) ∧ A.length ≤ 1000 ∧ ∀ p H', Same H H' → StrAt H' p (strl A) → Q (.ref p) H'
structure StI (K : PySem.W.Frag) (H0 : Hp) (a dl fl : Addr) (A : List Int) (i : Nat) (σ : L2.St) (H : Hp) : Prop where
  sig : ∃ y3 y4, σ = [some (.ref a), some (.ref dl), some (.ref fl), y3, y4]
  sm : Same H0 H
  d : ∃ kvs : List (Key × V), H dl = some (.dK kvs) ∧ kvs.length ≤ i ∧ ∀ p : Int, valV kvs (Sum.inl p : Key) = (lastOf A i p).map fun s : Nat => V.int (s : Int)
  l : ∃ ts : List Addr, H fl = some (.lst (ts.map V.ref)) ∧ Prs H ts ((fnd A i).map toI)
theorem ok_stretches {f : Addr} {fd : FuncData} {k : Nat} (F : Fun K "stretches" "stretches" s_stretches f fd) (T : Nm mg) : FnOk P w K mg base CX0 (k + 1) f fd ["asks"] (sp_stretches K) := by
  refine F.ok sc_stretches (fun vs H Q E h => ?_) (fun cdv A' outer s H vs Q E hr h => ?_)
  · obtain ⟨a, A, rfl, _⟩ := h
    rfl
  · obtain ⟨a, A, rfl, hA, hlen, q⟩ := h
    have hu := hu_of hr
    refine ⟨_, pss_cons (ps_par (i := 1) (j := 2) rfl sc_stretches.nd rfl rfl (by decide) rfl rfl (pa_cons pe_dnewK (pa_cons (pe_lst pa_nil) pa_nil)) (by rfl))
      (pss_cons (ps_for PassesOwn.never rfl (pi_enumT (by rfl) T.enumerate (pa_cons (pv 0) pa_nil)) (pg_tup rfl (pgs_cons (pg_name (i := 3) sc_stretches.nd rfl (.inl rfl)) (pgs_cons (pg_name (i := 4) sc_stretches.nd rfl (.inl rfl)) pgs_nil)))
        (pss_cons (ps_if (pt_cmp (pc_din hu (pv 4) (pv 1))) (pss_one (ps_expr (pe_bm PySem.F.plainAttrs_list PySem.F.slot_list_append PySem.F.type_list_append mt_append (pv 2) (pa_cons (pe_tup (pa_cons (pe_dget hu (pv 1) (pv 4) (fun _ _ => rfl)) (pa_cons (pv 3) pa_nil))) pa_nil)))) pss_nil)
        (pss_one (ps_dput hu (pv 1) (pv 4) (pv 3) rfl))))
      (pss_one (ps_ret (pe_callTy call_tupF (by rfl) T.tuple (by decide +kernel) (pa_cons (pe_callB cr_sortP (by rfl) T.sorted (by decide +kernel) (pa_cons (pv 2) pa_nil)) pa_nil))))), ?_⟩
    intro dl ndl
    refine ⟨Nat.zero_le _, fun fl nfl => ⟨_, _, rfl, ?_⟩⟩
    have s1 : Same H (upd H dl (.dK [])) := same_new ndl
    have s2 : Same H (upd (upd H dl (.dK [])) fl (.lst [])) := same_tr s1 (same_new nfl)
    have nfl0 : H fl = none := s1.free nfl
    have nfd : dl ≠ fl := fun e => by
      rw [← e, upd_same] at nfl
      cases nfl
    refine ⟨.ref a, rfl, a, A.map V.int, rfl, sqT_mono s2 hA, for_it walk_enumT (StI K H a dl fl A) ⟨⟨none, none, rfl⟩, s2, ⟨[], by rw [upd_ne nfd, upd_same], Nat.le_refl _, fun p => rfl⟩, ⟨[], upd_same, .nil⟩⟩ (fun i σ H1 _ I => sqT_mono I.sm hA) (fun i x σ H1 H2 hi I hy => ?_) (fun σ H1 I => ?_)⟩
    · obtain ⟨⟨y3, y4, rfl⟩, sm, ⟨kvs, hd, hkl, hv⟩, ⟨ts, hl, hp⟩⟩ := I
      obtain ⟨t, x1, x2, rfl, nt, rfl, e1, e2⟩ := hy
      obtain rfl := Option.some.inj e1
      rw [List.length_map] at hi
      have hAi : A[i]? = some A[i] := List.getElem?_eq_getElem hi
      have e2' : (A.map V.int)[i]? = some x2 := e2
      rw [List.getElem?_map, hAi] at e2'
      obtain rfl : V.int A[i] = x2 := Option.some.inj e2'
      have ntd : dl ≠ t := ne_of_none hd nt
      have ntl : fl ≠ t := ne_of_none hl nt
      refine ⟨t, [.int (i : Nat), .int A[i]], rfl, SqT.of upd_same, rfl, _, [_], rfl, _, [], rfl, rfl, ?_⟩
      have hd' : (upd H1 t (.tup [.int (i : Nat), .int A[i]])) dl = some (.dK kvs) := by
        rw [upd_ne ntd]
        exact hd
      have hl' : (upd H1 t (.tup [.int (i : Nat), .int A[i]])) fl = some (.lst (ts.map V.ref)) := by
        rw [upd_ne ntl]
        exact hl
      have sm' : Same H (upd H1 t (.tup [.int (i : Nat), .int A[i]])) := same_tr sm (same_new nt)
      have hp' := prs_new (o := .tup [.int (i : Nat), .int A[i]]) hp nt
      generalize upd H1 t (.tup [.int (i : Nat), .int A[i]]) = H2 at hd' hl' sm' hp'
      have put : ∀ j : Int, valV (putK kvs (Sum.inl A[i] : Key) (.int (i : Nat))) (Sum.inl j : Key) = (lastOf A (i + 1) j).map fun s : Nat => V.int (s : Int) := fun j => by
        rw [valV_put]
        unfold lastOf
        rw [hAi]
        by_cases c : A[i] = j
        · subst c
          rw [if_pos rfl, if_pos rfl]
          rfl
        · rw [if_neg (fun z => c (Sum.inl.inj z).symm), if_neg (fun z => c (Option.some.inj z))]
          exact hv j
      have lk : (putK kvs (Sum.inl A[i] : Key) (.int (i : Nat))).length ≤ i + 1 := Nat.le_trans (length_putK _ _ _) (Nat.succ_le_succ hkl)
      have dlfl : dl ≠ fl := nfd
      refine ⟨_, rfl, _, rfl, dl, _, rfl, DGet.k (k := Sum.inl A[i]) hd', _, rfl, ?_⟩
      cases l : lastOf A i A[i] with
      | none =>
        rw [hv, l]
        refine iteF ?_
        refine ⟨_, rfl, _, rfl, _, rfl, dl, _, rfl, DPut.k (k := Sum.inl A[i]) hd' (small_line (by omega)), ?_⟩
        refine ⟨⟨_, _, rfl⟩, same_chg ndl sm', ⟨_, upd_same, lk, put⟩, ⟨ts, by rw [upd_ne (Ne.symm dlfl)]; exact hl', ?_⟩⟩
        rw [fnd_miss hAi l]
        exact prs_chg hp' hd' (fun xs z => nomatch z)
      | some s0 =>
        have hv2 := hv A[i]
        rw [l] at hv2
        rw [hv2]
        refine iteT ?_
        have hv3 : valV kvs (Sum.inl A[i] : Key) = some (.int (s0 : Nat)) := hv2
        have gd : DGet H2 dl (.int A[i]) (some (.int (s0 : Nat))) := by
          rw [← hv3]
          exact DGet.k (k := Sum.inl A[i]) hd'
        refine ⟨.ref fl, rfl, .inl ⟨rfl, _, SqL.of hl'⟩, .ref dl, rfl, .int A[i], rfl, dl, _, rfl, gd, .int (i : Nat), rfl, by show 2 ≤ sizeLine; decide, fun t2 nt2 => ?_⟩
        have ne1 : fl ≠ t2 := ne_of_none hl' nt2
        have ne2 : dl ≠ t2 := ne_of_none hd' nt2
        have hl3 : (upd H2 t2 (.tup [.int (s0 : Nat), .int (i : Nat)])) fl = some (.lst (ts.map V.ref)) := by
          rw [upd_ne ne1]
          exact hl'
        have tl : ts.length ≤ i := by
          have := prs_len hp
          rw [List.length_map] at this
          have := fnd_len (A := A) i
          omega
        refine ⟨fl, _, _, rfl, rfl, hl3, by rw [List.length_map]; exact small_line (by omega), ?_⟩
        have hd4 : (upd (upd H2 t2 (.tup [.int (s0 : Nat), .int (i : Nat)])) fl (.lst (ts.map V.ref ++ [.ref t2]))) dl = some (.dK kvs) := by
          rw [upd_ne dlfl, upd_ne ne2]
          exact hd'
        refine ⟨_, rfl, _, rfl, _, rfl, dl, _, rfl, DPut.k (k := Sum.inl A[i]) hd4 (small_line (by omega)), ?_⟩
        have sm3 : Same H (upd (upd H2 t2 (.tup [.int (s0 : Nat), .int (i : Nat)])) fl (.lst (ts.map V.ref ++ [.ref t2]))) := same_chg nfl0 (same_tr sm' (same_new nt2))
        refine ⟨⟨_, _, rfl⟩, same_chg ndl sm3, ⟨_, upd_same, lk, put⟩, ⟨ts ++ [t2], by rw [upd_ne (Ne.symm dlfl), upd_same, List.map_append]; rfl, ?_⟩⟩
        rw [fnd_hit hAi l, List.map_append]
        have hp3 : Prs (upd H2 t2 (.tup [.int (s0 : Nat), .int (i : Nat)])) (ts ++ [t2]) ((fnd A i).map toI ++ [toI (s0, i)]) := Prs.snoc (prs_new hp' nt2) upd_same
        have hp4 := prs_chg (o := .lst (ts.map V.ref ++ [.ref t2])) hp3 hl3 (fun xs z => nomatch z)
        exact prs_chg hp4 hd4 (fun xs z => nomatch z)
    · obtain ⟨⟨y3, y4, rfl⟩, sm, _, ⟨ts, hl, hp⟩⟩ := I
      rw [List.length_map] at hp
      refine ⟨.ref fl, rfl, fl, ts, _, rfl, hl, hp, fun ts' ps' p hp' pp pw np => ?_⟩
      obtain ⟨l', el, pl⟩ := toI_maps pp
      subst el
      have e : l' = strl A := sorted_one (F := fnd A A.length) ((List.pairwise_map.mp pw).imp fun {a b} z => by
        unfold ple at z
        simp only at z
        omega) ((strs_pw A).imp fun {a b} z => Or.inl z) pl (fnd_perm A)
      subst e
      refine ⟨p, _, rfl, SqL.of upd_same, fun l o od nl => ?_⟩
      refine q l _ (same_tr (same_tr sm (same_new np)) (same_new nl)) ⟨o, ts', upd_same, od, prs_new (prs_new hp' np) nl⟩
end
end Fw
end
section
set_option Elab.async false
set_option linter.all false
set_option maxRecDepth 100000
set_option maxHeartbeats 4000000
namespace Fw
open PySem PySem.Spec PyProof.Rows L2 Fr Fm
/-! ### the table of pages as a dict -/
abbrev kOf (T : Tb) : List (Key × V) := T.map fun y => ((Sum.inl y.1 : Key), V.int (y.2 : Int))
theorem val_kOf (p : Int) : ∀ T : Tb, valV (kOf T) (Sum.inl p : Key) = (look T p).map fun s : Nat => V.int (s : Int)
  | [] => rfl
  | y :: T => by
    have ih := val_kOf p T
    show valV (((Sum.inl y.1 : Key), V.int (y.2 : Int)) :: kOf T) _ = _
    unfold look
    rw [List.find?_cons]
    by_cases h : y.1 = p
    · rw [valV_pos (p := ((Sum.inl y.1 : Key), V.int (y.2 : Int))) (by rw [h])]
      simp [h]
    · rw [valV_neg (p := ((Sum.inl y.1 : Key), V.int (y.2 : Int))) (fun z => h (Sum.inl.inj z)), ih]
      simp only [h, decide_false]
      rfl
theorem any_kOf (p : Int) (T : Tb) : ((kOf T).any fun kv => decide (kv.1 = (Sum.inl p : Key))) = T.any fun y => decide (y.1 = p) := by
  rw [List.any_map]
  congr 1
  funext y
  show decide ((Sum.inl y.1 : Key) = Sum.inl p) = _
  rw [decide_eq_decide]
  exact ⟨fun z => Sum.inl.inj z, fun z => by rw [z]⟩
theorem put_kOf (T : Tb) (p : Int) (t : Nat) : putK (kOf T) (Sum.inl p : Key) (V.int (t : Int)) = kOf (put T p t) := by
  unfold putK put
  rw [any_kOf]
  by_cases h : (T.any fun y => decide (y.1 = p)) = true
  · rw [if_pos h, if_pos h]
    unfold kOf
    rw [List.map_map, List.map_map]
    refine List.map_congr_left fun y _ => ?_
    show (if (Sum.inl y.1 : Key) = Sum.inl p then ((Sum.inl y.1 : Key), V.int (t : Int)) else ((Sum.inl y.1 : Key), V.int (y.2 : Int))) = _
    by_cases c : y.1 = p
    · simp [c]
    · have c2 : ¬ (Sum.inl y.1 : Key) = Sum.inl p := fun z => c (Sum.inl.inj z)
      simp [c, c2]
  · rw [if_neg h, if_neg h]
    unfold kOf
    rw [List.map_append]
    rfl
theorem drop_kOf (T : Tb) (q : Int) : dropK (kOf T) (Sum.inl q : Key) = kOf (drop T q) := by
  unfold dropK drop kOf
  rw [List.filter_map]
  congr 1
  refine List.filter_congr fun y _ => ?_
  show decide ((Sum.inl y.1 : Key) ≠ Sum.inl q) = decide (y.1 ≠ q)
  rw [decide_eq_decide]
  exact ⟨fun h z => h (by rw [z]), fun h z => h (Sum.inl.inj z)⟩
/-! ### dict(stretches): what comes next -/
theorem val_merge_out {k : Key} : ∀ {more acc : List (Key × V)}, (∀ q ∈ more, q.1 ≠ k) → valV (mergeK acc more) k = valV acc k
  | [], _, _ => rfl
  | q :: more, acc, h => by
    show valV (mergeK (putK acc q.1 q.2) more) k = _
    rw [val_merge_out fun x hx => h x (List.mem_cons_of_mem _ hx), valV_put, if_neg fun z => h q List.mem_cons_self z.symm]
theorem val_merge_in {k : Key} {v : V} : ∀ {more acc : List (Key × V)}, (more.map (·.1)).Nodup → (k, v) ∈ more → valV (mergeK acc more) k = some v
  | q :: more, acc, nd, h => by
    obtain ⟨n1, n2⟩ := List.nodup_cons.mp (show (q.1 :: more.map (·.1)).Nodup from nd)
    show valV (mergeK (putK acc q.1 q.2) more) k = _
    rcases List.mem_cons.mp h with e | h
    · subst e
      rw [val_merge_out fun x hx z => n1 (List.mem_map.mpr ⟨x, hx, z⟩), valV_put, if_pos rfl]
    · exact val_merge_in n2 h
abbrev nxtK (A : List Int) : List (Key × V) := mergeK [] ((strl A).map toI |>.map fun q => ((Sum.inl q.1 : Key), V.int q.2))
theorem val_nxtK (A : List Int) (s : Nat) : valV (nxtK A) (Sum.inl (s : Int) : Key) = (nxt A s).map fun e : Nat => V.int (e : Int) := by
  unfold nxtK
  rw [List.map_map]
  cases h : nxt A s with
  | none =>
    rw [val_merge_out]
    · rfl
    · intro q hq z
      obtain ⟨r, hr, e⟩ := List.mem_map.mp hq
      subst e
      have z' : (r.1 : Int) = (s : Int) := Sum.inl.inj z
      have z2 : r.1 = s := by omega
      have := nxt_some.mpr (mem_strs.mp hr)
      rw [z2, h] at this
      cases this
  | some e =>
    refine val_merge_in ?_ ?_
    · rw [List.map_map]
      refine List.pairwise_map.mpr ((strs_pw A).imp fun {a b} z y => ?_)
      have y' : (a.1 : Int) = (b.1 : Int) := Sum.inl.inj y
      omega
    · exact List.mem_map.mpr ⟨(s, e), mem_strs.mpr (nxt_some.mp h), rfl⟩
theorem get_nxtK (A : List Int) (s : Nat) : (valV (nxtK A) (Sum.inl (s : Int) : Key)).getD (V.int (A.length : Nat)) = V.int (ende A s : Nat) := by
  rw [val_nxtK]
  unfold ende
  cases nxt A s <;> rfl
theorem len_nxtK (A : List Int) : (nxtK A).length ≤ (strl A).length := by
  have := length_mergeK ((strl A).map toI |>.map fun q => ((Sum.inl q.1 : Key), V.int q.2)) []
  rw [List.length_map, List.length_map, List.length_nil, Nat.zero_add] at this
  exact this
/-! ### furthest -/
section
variable {P : Program} {w : World} {K : PySem.W.Frag} {mg : Str → Option Value} {base : Heap}
abbrev lexP (a b : Pr) : Prop := a.1 < b.1 ∨ (a.1 = b.1 ∧ a.2 ≤ b.2)
/-- a tuple of pairs -/
def PrsAt (H : Hp) (a : Addr) (L : List Pr) : Prop := ∃ ts : List Addr, H a = some (.tup (ts.map V.ref)) ∧ Prs H ts (L.map toI)
def sp_furthest (K : PySem.W.Frag) : Sp := fun vs H Q _ => ∃ (a : Addr) (A : List Int) (m : Nat), vs = [.ref a, .int m] ∧ SqT K H a (A.map V.int) ∧ A.length ≤ 1000 ∧ 1 ≤ m ∧
  ∀ p L T F H', Same H H' → PrsAt H' p L → Run A m A.length T F → L.Perm F → L.Pairwise lexP → Q (.ref p) H'
structure FuI (H0 : Hp) (a dl dt fl : Addr) (A : List Int) (m i : Nat) (σ : L2.St) (H : Hp) : Prop where
  sig : ∃ y5 y6 y7, σ = [some (.ref a), some (.int m), some (.ref dl), some (.ref dt), some (.ref fl), y5, y6, y7, none, none]
  sm : Same H0 H
  d : H dl = some (.dK (nxtK A))
  r : ∃ (T : Tb) (F : List Pr), Run A m i T F ∧ H dt = some (.dK (kOf T)) ∧ ∃ ts : List Addr, H fl = some (.lst (ts.map V.ref)) ∧ Prs H ts (F.map toI)
theorem ok_furthest {f f1 : Addr} {fd fd1 : FuncData} {k : Nat} (F : Fun K "furthest" "furthest" s_furthest f fd) (T : Nm mg) (G1 : FnOk P w K mg base CX0 k f1 fd1 ["asks"] (sp_stretches K)) (D1 : Dn K mg "stretches" f1 fd1 ["asks"]) :
    FnOk P w K mg base CX0 (k + 1) f fd ["asks", "m"] (sp_furthest K) := by
  refine F.ok sc_furthest (fun vs H Q E h => ?_) (fun cdv A' outer s H vs Q E hr h => ?_)
  · obtain ⟨a, A, m, rfl, _⟩ := h
    rfl
  · obtain ⟨a, A, m, rfl, hA, hlen, hm, q⟩ := h
    have hu := hu_of hr
    have hu64 := hr.units
    have nd := sc_furthest.nd
    refine ⟨_, pss_cons (ps_asg (pe_tup (pa_cons (pe_callTy (call_dictT rfl) (by rfl) T.dict (by decide +kernel) (pa_cons (pe_call G1 hr (by rfl) D1.g D1.kp D1.b .nil pass0 (pa_cons (pv 0) pa_nil)) pa_nil)) (pa_cons pe_dnewK (pa_cons (pe_lst pa_nil) pa_nil))))
        (pg_tup rfl (pgs_cons (pg_name (i := 2) nd rfl (.inr rfl)) (pgs_cons (pg_name (i := 3) nd rfl (.inl rfl)) (pgs_cons (pg_name (i := 4) nd rfl (.inl rfl)) pgs_nil)))))
      (pss_cons (ps_for PassesOwn.never rfl (pi_enumT (by rfl) T.enumerate (pa_cons (pv 0) pa_nil)) (pg_tup rfl (pgs_cons (pg_name (i := 5) nd rfl (.inl rfl)) (pgs_cons (pg_name (i := 6) nd rfl (.inl rfl)) pgs_nil)))
        (pss_cons (ps_if (pt_cmp (pc_din hu (pv 6) (pv 3))) (pss_one (ps_expr (pe_bm PySem.F.plainAttrs_list PySem.F.slot_list_append PySem.F.type_list_append mt_append (pv 4) (pa_cons (pe_tup (pa_cons (pe_dget hu (pv 3) (pv 6) (fun _ _ => rfl)) (pa_cons (pv 5) pa_nil))) pa_nil))))
          (pss_one (ps_if (pt_cmpR op_eq (pe_callB call_lenD (by rfl) T.len PySem.boot_len (pa_cons (pv 3) pa_nil)) (pv 1) (nomark _))
            (pss_cons (ps_lock (ps_setLc (i := 7) (own := [("one", 8), ("since", 9)]) (g := gTup K 2 (gCons (gName 8) (gCons (gName 9) gNil))) (tt := tYes) rfl nd rfl rfl (sw_true rfl rfl rfl (by decide +kernel)) (pi_items (pv 3))
                (blkOk_by (N := ["asks", "m", "later", "there", "found", "time", "page", "ends", "one", "since"]) (sc := defScope s_furthest) (by decide +kernel))
                (fun _ _ _ _ _ => pg_tup rfl (pgs_cons (pg_name (i := 8) nd rfl (.inl rfl)) (pgs_cons (pg_name (i := 9) nd rfl (.inl rfl)) pgs_nil))) (fun _ _ _ _ _ => pts_nil)
                (fun _ _ _ _ _ => pe_tup (pa_cons (pe_dget2 hu (pv 2) (pv 9) (pe_callB (r := fun xs H Q => ∃ p ys, xs = [.ref p] ∧ (SqL K H p ys ∨ SqT K H p ys) ∧ Q (.int ys.length) H) call_len_seq (by rfl) T.len PySem.boot_len (pa_cons (pv 0) pa_nil)) ⟨rfl, rfl, rfl, rfl⟩) (pa_cons (pv 8) pa_nil)))))
            (pss_one (ps_expr (pe_dpop1 (pv 3) (pe_ix ix_tup (pe_callB (cr_maxP rfl hu64) (by rfl) T.max (by decide +kernel) (pa_cons (pv 7) pa_nil)) pe_int (fun _ _ => rfl)) ⟨rfl, rfl, rfl, rfl⟩)))) pss_nil)))
        (pss_one (ps_dput hu (pv 3) (pv 6) (pv 5) rfl))))
      (pss_one (ps_ret (pe_callTy call_tuple_of (by rfl) T.tuple (by decide +kernel) (pa_cons (pe_callB cr_sortP (by rfl) T.sorted (by decide +kernel) (pa_cons (pv 4) pa_nil)) pa_nil))))), ?_⟩
    -- later, there, found = ..
    refine ⟨.ref a, rfl, a, A, rfl, hA, hlen, fun p H1 sm1 hS => ?_⟩
    obtain ⟨ob, ts0, hp0, od, pr0⟩ := hS
    refine ⟨p, ob, ts0, _, rfl, hp0, od, pr0, fun dl ndl => ?_⟩
    have sm2 : Same H (upd H1 dl (.dK (nxtK A))) := same_tr sm1 (same_new ndl)
    intro dt ndt
    have sm3 := same_tr sm2 (same_new (o := .dK []) ndt)
    refine ⟨Nat.zero_le _, fun fl nfl => ?_⟩
    have sm4 := same_tr sm3 (same_new (o := .lst []) nfl)
    have n1 : dl ≠ dt := ne_of_none upd_same ndt
    have n2 : dl ≠ fl := ne_of_none (by rw [upd_ne n1, upd_same]) nfl
    have n3 : dt ≠ fl := ne_of_none upd_same nfl
    refine ⟨by show 3 ≤ sizeLine; decide, fun t3 nt3 => ?_⟩
    have sm5 := same_tr sm4 (same_new (o := .tup [.ref dl, .ref dt, .ref fl]) nt3)
    have n4 : dl ≠ t3 := ne_of_none (by rw [upd_ne n2, upd_ne n1, upd_same]) nt3
    have n5 : dt ≠ t3 := ne_of_none (by rw [upd_ne n3, upd_same]) nt3
    have n6 : fl ≠ t3 := ne_of_none upd_same nt3
    refine ⟨t3, _, rfl, SqT.of upd_same, rfl, _, _, rfl, _, _, rfl, _, _, rfl, rfl, ?_⟩
    -- new addresses, seen from the entry
    have fdl : H dl = none := sm1.free ndl
    have fdt : H dt = none := sm2.free ndt
    have ffl : H fl = none := sm3.free nfl
    refine ⟨.ref a, rfl, a, A.map V.int, rfl, sqT_mono sm5 hA, for_it walk_enumT (FuI H a dl dt fl A m)
      ⟨⟨none, none, none, rfl⟩, sm5, by rw [upd_ne n4, upd_ne n2, upd_ne n1, upd_same], [], [], .zero, by rw [upd_ne n5, upd_ne n3, upd_same]; rfl, [], by rw [upd_ne n6, upd_same]; rfl, .nil⟩
      (fun i σ H1 _ I => sqT_mono I.sm hA) (fun i x σ H2 H3 hi I hy => ?_) (fun σ H2 I => ?_)⟩
    · obtain ⟨⟨y5, y6, y7, rfl⟩, sm, hd, Tb, Fd, run, ht, ts, hl, hp⟩ := I
      obtain ⟨t, x1, x2, rfl, nt, rfl, e1, e2⟩ := hy
      obtain rfl := Option.some.inj e1
      rw [List.length_map] at hi
      have hAi : A[i]? = some A[i] := List.getElem?_eq_getElem hi
      have e2' : (A.map V.int)[i]? = some x2 := e2
      rw [List.getElem?_map, hAi] at e2'
      obtain rfl : V.int A[i] = x2 := Option.some.inj e2'
      refine ⟨t, [.int (i : Nat), .int A[i]], rfl, SqT.of upd_same, rfl, _, [_], rfl, _, [], rfl, rfl, ?_⟩
      have hd' : (upd H2 t (.tup [.int (i : Nat), .int A[i]])) dl = some (.dK (nxtK A)) := by
        rw [upd_ne (ne_of_none hd nt)]
        exact hd
      have ht' : (upd H2 t (.tup [.int (i : Nat), .int A[i]])) dt = some (.dK (kOf Tb)) := by
        rw [upd_ne (ne_of_none ht nt)]
        exact ht
      have hl' : (upd H2 t (.tup [.int (i : Nat), .int A[i]])) fl = some (.lst (ts.map V.ref)) := by
        rw [upd_ne (ne_of_none hl nt)]
        exact hl
      have sm' : Same H (upd H2 t (.tup [.int (i : Nat), .int A[i]])) := same_tr sm (same_new nt)
      have hp' := prs_new (o := .tup [.int (i : Nat), .int A[i]]) hp nt
      generalize upd H2 t (.tup [.int (i : Nat), .int A[i]]) = H4 at hd' ht' hl' sm' hp'
      have Tl : Tb.length ≤ i := run.len.1
      refine ⟨_, rfl, _, rfl, dt, _, rfl, DGet.k (k := Sum.inl A[i]) ht', _, rfl, ?_⟩
      rw [val_kOf]
      cases lk : look Tb A[i] with
      | some s0 =>
        refine iteT ?_
        have gd : DGet H4 dt (.int A[i]) (some (.int (s0 : Nat))) := by
          have e : valV (kOf Tb) (Sum.inl A[i] : Key) = some (.int (s0 : Nat)) := by
            rw [val_kOf, lk]
            rfl
          rw [← e]
          exact DGet.k (k := Sum.inl A[i]) ht'
        refine ⟨.ref fl, rfl, .inl ⟨rfl, _, SqL.of hl'⟩, .ref dt, rfl, .int A[i], rfl, dt, _, rfl, gd, .int (i : Nat), rfl, by show 2 ≤ sizeLine; decide, fun t2 nt2 => ?_⟩
        have hl3 : (upd H4 t2 (.tup [.int (s0 : Nat), .int (i : Nat)])) fl = some (.lst (ts.map V.ref)) := by
          rw [upd_ne (ne_of_none hl' nt2)]
          exact hl'
        have tl : ts.length ≤ i := by
          have h1 := prs_len hp
          rw [List.length_map] at h1
          have h2 := run.len.2
          omega
        refine ⟨fl, _, _, rfl, rfl, hl3, by rw [List.length_map]; exact small_line (by omega), ?_⟩
        have ht4 : (upd (upd H4 t2 (.tup [.int (s0 : Nat), .int (i : Nat)])) fl (.lst (ts.map V.ref ++ [.ref t2]))) dt = some (.dK (kOf Tb)) := by
          rw [upd_ne n3, upd_ne (ne_of_none ht' nt2)]
          exact ht'
        refine ⟨_, rfl, _, rfl, _, rfl, dt, _, rfl, DPut.k (k := Sum.inl A[i]) ht4 (by rw [List.length_map]; exact small_line (by omega)), ?_⟩
        have hp3 : Prs (upd H4 t2 (.tup [.int (s0 : Nat), .int (i : Nat)])) (ts ++ [t2]) (Fd.map toI ++ [toI (s0, i)]) := Prs.snoc (prs_new hp' nt2) upd_same
        have hp4 := prs_chg (o := .lst (ts.map V.ref ++ [.ref t2])) hp3 hl3 (fun xs z => nomatch z)
        refine ⟨⟨_, _, _, rfl⟩, same_chg fdt (same_chg ffl (same_tr sm' (same_new nt2))), ?_, put Tb A[i] i, Fd ++ [(s0, i)], run.hit hAi lk, ?_, ts ++ [t2], ?_, ?_⟩
        · rw [upd_ne n1, upd_ne n2, upd_ne (ne_of_none hd' nt2)]
          exact hd'
        · rw [upd_same, put_kOf]
        · rw [upd_ne (Ne.symm n3), upd_same, List.map_append]
          rfl
        · rw [List.map_append]
          exact prs_chg hp4 ht4 (fun xs z => nomatch z)
      | none =>
        refine iteF ?_
        refine ⟨_, rfl, dt, _, rfl, ht', _, rfl, rfl, _, rfl, ite2 (fun c => ?_) (fun c => ?_)⟩
        · have c' : Tb.length = m := by
            have z := of_decide_eq_true c
            injection z with z
            rw [List.length_map] at z
            omega
          refine ⟨dt, .dK (kOf Tb), ht', True.intro, fun od2 => ?_⟩
          generalize h5 : upd H4 dt (.frz od2 (.dK (kOf Tb))) = H5
          have smd : ∀ b o, b ≠ dt → H4 b = some o → H5 b = some o := fun b o nb e => by
            rw [← h5, upd_ne nb]
            exact e
          have sm5 : Same H H5 := by
            rw [← h5]
            exact same_chg fdt sm'
          have ht5 : H5 dt = some (.frz od2 (.dK (kOf Tb))) := by
            rw [← h5]
            exact upd_same
          have hd5 := smd _ _ n1 hd'
          refine ⟨.ref dt, rfl, dt, od2, kOf Tb, rfl, ht5, fun D nD => lc_it walk_items (fun j H6 => Same H5 H6 ∧ ∃ us : List Addr, H6 D = some (.lst (us.map V.ref)) ∧ Prs H6 us ((Tb.take j).map fun y => ((ende A y.2 : Int), y.1)))
            ⟨same_new nD, [], upd_same, .nil⟩ (fun j H6 _ hP => hP.1 _ _ ht5) (fun j x H6 H7 hj hP hY => ?_) (fun H6 hP => ?_)⟩
          · obtain ⟨sm6, us, hD, hpr⟩ := hP
            obtain ⟨t4, z1, z2, rfl, nt4, rfl, f1, f2⟩ := hY
            rw [List.length_map] at hj
            have hTj : Tb[j]? = some Tb[j] := List.getElem?_eq_getElem hj
            have f1' : ((kOf Tb)[j]?.map fun kv => kV kv.1) = some z1 := f1
            have f2' : (kOf Tb)[j]?.map Prod.snd = some z2 := f2
            rw [List.getElem?_map, hTj] at f1' f2'
            obtain rfl : V.int Tb[j].1 = z1 := Option.some.inj f1'
            obtain rfl : V.int (Tb[j].2 : Int) = z2 := Option.some.inj f2'
            refine ⟨t4, [_, _], rfl, SqT.of upd_same, rfl, _, [_], rfl, _, [], rfl, rfl, rfl, ?_⟩
            have sm7 : Same H5 (upd H6 t4 (.tup [.int Tb[j].1, .int (Tb[j].2 : Int)])) := same_tr sm6 (same_new nt4)
            have hd7 := sm7 _ _ hd5
            refine ⟨_, rfl, dl, rfl, .inl ⟨_, .inl hd7⟩, _, rfl, .ref a, rfl, a, A.map V.int, rfl, .inr (sqT_mono (same_tr sm5 sm7) hA), _, DGet.k (k := Sum.inl (Tb[j].2 : Int)) hd7, _, rfl, by show 2 ≤ sizeLine; decide, fun t5 nt5 => ?_⟩
            rw [List.length_map, get_nxtK]
            have hD7 : (upd H6 t4 (.tup [.int Tb[j].1, .int (Tb[j].2 : Int)])) D = some (.lst (us.map V.ref)) := by
              rw [upd_ne (ne_of_none hD nt4)]
              exact hD
            refine ⟨us.map V.ref, by rw [upd_ne (ne_of_none hD7 nt5)]; exact hD7, ?_, same_chg nD (same_tr sm7 (same_new nt5)), us ++ [t5], by rw [upd_same, List.map_append]; rfl, ?_⟩
            · have := prs_len hpr
              rw [List.length_map, List.length_take] at this
              rw [List.length_map]
              exact small_line (by omega)
            · rw [take_snoc hTj]
              have hpr2 : Prs (upd (upd H6 t4 (.tup [.int Tb[j].1, .int (Tb[j].2 : Int)])) t5 (.tup [.int (ende A Tb[j].2 : Int), .int Tb[j].1])) (us ++ [t5]) (((Tb.take j).map fun y => ((ende A y.2 : Int), y.1)) ++ [((ende A Tb[j].2 : Int), Tb[j].1)]) :=
                Prs.snoc (prs_new (prs_new hpr nt4) nt5) upd_same
              exact prs_chg (u := .lst (us.map V.ref)) hpr2 (by rw [upd_ne (ne_of_none hD7 nt5)]; exact hD7) (fun xs z => nomatch z)
          · obtain ⟨sm6, us, hD, hpr⟩ := hP
            have e0 : (Tb.take (kOf Tb).length) = Tb := by
              rw [List.length_map, List.take_length]
            rw [e0] at hpr
            have ul : us.length = Tb.length := by
              have := prs_len hpr
              rw [List.length_map] at this
              exact this
            refine ⟨sm6 _ _ ht5, ?_⟩
            have nDt : D ≠ dt := fun e => by
              rw [e, ht5] at nD
              cases nD
            have smU : Same H (upd H6 dt (.dK (kOf Tb))) := same_chg fdt (same_tr sm5 sm6)
            have hprU : Prs (upd H6 dt (.dK (kOf Tb))) us (Tb.map fun y => ((ende A y.2 : Int), y.1)) := prs_chg hpr (sm6 _ _ ht5) (fun xs z => nomatch z)
            have hDU : (upd H6 dt (.dK (kOf Tb))) D = some (.lst (us.map V.ref)) := by
              rw [upd_ne nDt]
              exact hD
            have hdU : (upd H6 dt (.dK (kOf Tb))) dl = some (.dK (nxtK A)) := by
              rw [upd_ne n1]
              exact sm6 _ _ hd5
            have hlU : (upd H6 dt (.dK (kOf Tb))) fl = some (.lst (ts.map V.ref)) := by
              rw [upd_ne (Ne.symm n3)]
              exact sm6 _ _ (smd _ _ (Ne.symm n3) hl')
            have hpU : Prs (upd H6 dt (.dK (kOf Tb))) ts (Fd.map toI) := by
              refine hp'.mono fun b xs eb => ?_
              have nb : b ≠ dt := fun e => by
                rw [e, ht'] at eb
                cases eb
              rw [upd_ne nb]
              exact sm6 _ _ (smd _ _ nb eb)
            have htU : (upd H6 dt (.dK (kOf Tb))) dt = some (.dK (kOf Tb)) := upd_same
            generalize upd H6 dt (.dK (kOf Tb)) = H7 at smU hprU hDU hdU hlU hpU htU
            refine ⟨.ref dt, rfl, dt, rfl, .inl ⟨_, .inl htU⟩, .ref D, rfl, D, us, _, rfl, hDU, hprU, fun e => ?_, fun j t5 p5 g1 g2 mx => ?_⟩
            · rw [e] at ul
              have : Tb.length = 0 := ul.symm
              omega
            · obtain ⟨p6, g3, g4⟩ := Prs.get hprU g1
              obtain rfl := Option.some.inj (g2.symm.trans g3)
              rw [List.getElem?_map] at g2
              cases gy : Tb[j]? with
              | none => rw [gy] at g2; cases g2
              | some y =>
                rw [gy] at g2
                obtain rfl : ((ende A y.2 : Int), y.1) = p5 := Option.some.inj g2
                have my : y ∈ Tb := List.mem_of_getElem? gy
                have gr := run.gr
                have ly : look Tb y.1 = some y.2 := look_of_mem gr.nd my
                refine ⟨t5, [.int (ende A y.2 : Int), .int y.1], 1, .int y.1, rfl, rfl, SqT.of g4, rfl, kOf Tb, Sum.inl y.1, .int (y.2 : Int), htU, rfl, by rw [val_kOf, ly]; rfl, ?_⟩
                rw [drop_kOf]
                refine ⟨_, rfl, _, rfl, _, rfl, dt, _, rfl, DPut.k (k := Sum.inl A[i]) upd_same (by rw [List.length_map]; exact small_line (by have := drop_len Tb y.1; omega)), ?_⟩
                refine ⟨⟨_, _, _, rfl⟩, same_chg fdt (same_chg fdt smU), ?_, put (drop Tb y.1) A[i] i, Fd, run.evict hAi lk c' my fun z hz => ?_, ?_, ts, ?_, ?_⟩
                · rw [upd_ne n1, upd_ne n1]
                  exact hdU
                · have := mx ((ende A z.2 : Int), z.1) (List.mem_map.mpr ⟨z, hz, rfl⟩)
                  unfold ple at this
                  simp only at this
                  unfold pairLe
                  omega
                · rw [upd_same, put_kOf]
                · rw [upd_ne (Ne.symm n3), upd_ne (Ne.symm n3)]
                  exact hlU
                · exact prs_chg (prs_chg hpU htU (fun xs z => nomatch z)) upd_same (fun xs z => nomatch z)
        · have c' : Tb.length ≠ m := fun z => c (by rw [List.length_map, z]; exact decide_eq_true rfl)
          refine ⟨_, rfl, _, rfl, _, rfl, dt, _, rfl, DPut.k (k := Sum.inl A[i]) ht' (by rw [List.length_map]; exact small_line (by omega)), ?_⟩
          refine ⟨⟨_, _, _, rfl⟩, same_chg fdt sm', ?_, put Tb A[i] i, Fd, run.miss hAi lk c', ?_, ts, ?_, ?_⟩
          · rw [upd_ne n1]
            exact hd'
          · rw [upd_same, put_kOf]
          · rw [upd_ne (Ne.symm n3)]
            exact hl'
          · exact prs_chg hp' ht' (fun xs z => nomatch z)
    · obtain ⟨⟨y5, y6, y7, rfl⟩, sm, hd, Tb, Fd, run, ht, ts, hl, hp⟩ := I
      rw [List.length_map] at run
      refine ⟨.ref fl, rfl, fl, ts, _, rfl, hl, hp, fun ts' ps' p2 hp' pp pw np => ?_⟩
      obtain ⟨l', el, pl⟩ := toI_maps pp
      subst el
      refine ⟨p2, _, rfl, .inl ⟨SqL.of upd_same, fun l nl => ?_⟩⟩
      refine q l l' Tb Fd _ (same_tr (same_tr sm (same_new np)) (same_new nl)) ⟨ts', upd_same, prs_new (prs_new hp' np) nl⟩ run pl ((List.pairwise_map.mp pw).imp fun {a b} z => ?_)
      unfold ple at z
      simp only at z
      unfold lexP
      omega
end
end Fw
end
section
set_option Elab.async false
set_option linter.all false
set_option maxRecDepth 100000
set_option maxHeartbeats 4000000
namespace Fw
open PySem PySem.Spec PyProof.Rows L2 Fr Fm
/-- the scope of a comprehension that a statement stores -/
def asgScope (st : Stmt) : Scope := match st with
  | .Assign _ (.ListComp _ _ sc _) _ => sc
  | _ => defScope s_is_integer
def bodyAt (st : Stmt) (i : Nat) : Stmt := (defBody st).getD i (.Pass ⟨0, 0, 0, 0⟩)
section
variable {P : Program} {w : World} {K : PySem.W.Frag} {mg : Str → Option Value} {base : Heap}
/-! ### ask_bound -/
abbrev timesV (Ts : List Nat) : List V := Ts.map fun u : Nat => V.int (u : Int)
theorem chain_read {Q : VK} {a b c : Int} {H : Hp} (h : Q (.bl (decide (a < b) && decide (b < c))) H) : ∃ k, V.bl (decide (a < b)) = .bl k ∧ if k = true then Q (.bl (decide (b < c))) H else Q (.bl false) H := by
  refine ⟨_, rfl, ?_⟩
  by_cases c1 : a < b
  · rw [decide_eq_true c1] at h ⊢
    exact h
  · rw [decide_eq_false c1] at h ⊢
    exact h
theorem over_int (u : Nat) (q : Pr) : (decide ((q.1 : Int) < (u : Int)) && decide ((u : Int) < (q.2 : Int))) = over u q := by
  unfold over
  simp only [Int.ofNat_lt]
theorem any_over (Ts : List Nat) (q : Pr) : ((Ts.map fun u => over u q).any id) = crossed Ts q := by
  rw [List.any_map]
  rfl
def sp_ask_bound (K : PySem.W.Frag) : Sp := fun vs H Q _ => ∃ (a t : Addr) (A : List Int) (m : Nat) (Ts : List Nat), vs = [.ref a, .int m, .ref t] ∧ SqT K H a (A.map V.int) ∧ A.length ≤ 1000 ∧ 1 ≤ m ∧ m ≤ 1000 ∧ SqT K H t (timesV Ts) ∧ Ts.length ≤ 100000 ∧
  ∀ H', Same H H' → Q (.int (bnd A m Ts : Nat)) H'
theorem ok_ask_bound {f f1 : Addr} {fd fd1 : FuncData} {k : Nat} (F : Fun K "ask_bound" "ask_bound" s_ask_bound f fd) (T : Nm mg) (G1 : FnOk P w K mg base CX0 k f1 fd1 ["asks"] (sp_stretches K)) (D1 : Dn K mg "stretches" f1 fd1 ["asks"]) :
    FnOk P w K mg base CX0 (k + 1) f fd ["asks", "m", "times"] (sp_ask_bound K) := by
  refine F.ok sc_ask_bound (fun vs H Q E h => ?_) (fun cdv A' outer s H vs Q E hr h => ?_)
  · obtain ⟨a, t, A, m, Ts, rfl, _⟩ := h
    rfl
  · obtain ⟨a, t, A, m, Ts, rfl, hA, hlen, hm, hm2, hT, hTl, q⟩ := h
    have nd := sc_ask_bound.nd
    refine ⟨_, pss_cons (ps_setLc (i := 3) (own := [("one", 4)]) (g := gName 4) (tt := tNot (tB (tCB (rAny K) (tCons (tLc (iTup K (tVar 2)) (gName 5) tYes (tChain (rI0 fun i j => .bl (decide (i < j))) (rI0 fun i j => .bl (decide (i < j))) (tOp (rIxT K) (tVar 4) (tC (.int 0))) (tVar 5) (tOp (rIxT K) (tVar 4) (tC (.int 1)))) [5]) tNil)))) rfl nd rfl rfl (sw_true rfl rfl rfl (by decide +kernel))
        (pi_tup (pe_call G1 hr (by rfl) D1.g D1.kp D1.b .nil pass0 (pa_cons (pv 0) pa_nil))) (blkOk_by (N := ["asks", "m", "times", "free", "one", "time"]) (sc := defScope s_ask_bound) (by decide +kernel)) (fun _ _ _ _ _ => pg_name (i := 4) nd rfl (.inr rfl))
        (fun _ _ _ _ _ => pts_one (pt_not (pt_val (pe_callB (r := rAny K) (cr_any rfl) (by rfl) T.any (by decide +kernel) (pa_cons (pe_lc (own := [("time", 5)]) (wi := iTup K (tVar 2)) (g := gName 5) (tt := tYes) rfl nd (pi_tup (pv 2))
          (blkOk_by (N := ["asks", "m", "times", "free", "one", "time"]) (sc := relS (asgScope (bodyAt s_ask_bound 0)) (defScope s_ask_bound)) (by decide +kernel)) (fun _ _ _ _ _ => pg_name (i := 5) nd rfl (.inl rfl)) (fun _ _ _ _ _ => pts_nil)
          (fun _ _ _ _ _ => pe_chain op_lt op_lt (pe_ix (r := rIxT K) ix_tup (pv 4) pe_int (fun _ _ => rfl)) (pv 5) (pe_ix (r := rIxT K) ix_tup (pv 4) pe_int (fun _ _ => rfl)))) pa_nil)))))
        (fun _ _ _ _ _ => pv 4))
      (pss_one (ps_ret (pe_op op_add (pe_op op_mul (pe_op op_sub (pv 1) pe_int) (pe_callB call_len_seq (by rfl) T.len PySem.boot_len (pa_cons (pv 2) pa_nil))) (pe_callB call_len_seq (by rfl) T.len PySem.boot_len (pa_cons (pv 3) pa_nil))))), ?_⟩
    refine ⟨.ref a, rfl, a, A, rfl, hA, hlen, fun p H1 sm1 hS => ?_⟩
    obtain ⟨ob, ts, hp0, od, pr0⟩ := hS
    have hs0 : SqT K H1 p (ts.map V.ref) := .inl (.inr ⟨ob, hp0⟩)
    have tl : ts.length = (strl A).length := by
      have := prs_len pr0
      rw [List.length_map] at this
      exact this
    have sl : (strl A).length ≤ 1000 := by
      rw [(fnd_perm A).length_eq]
      have := fnd_len (A := A) A.length
      omega
    refine ⟨p, rfl, ⟨_, hs0⟩, fun D nD => lc_tup (K := K) (a := p) (xs := ts.map V.ref) (fun i H2 => Same H1 H2 ∧ ∃ us : List V, H2 D = some (.lst us) ∧ us.length = ((strl A).take i).countP fun q => !crossed Ts q)
      ⟨same_new nD, [], upd_same, rfl⟩ (fun i H2 _ hP => sqT_mono hP.1 hs0) (fun i x H2 hi hP => ?_) (fun H2 hP => ?_)⟩
    · obtain ⟨sm2, us, hD, hus⟩ := hP
      rw [List.getElem?_map] at hi
      cases ht : ts[i]? with
      | none => rw [ht] at hi; cases hi
      | some t1 =>
        rw [ht] at hi
        obtain rfl : V.ref t1 = x := Option.some.inj hi
        obtain ⟨q0, e0, htq⟩ := Prs.get pr0 ht
        rw [List.getElem?_map] at e0
        cases eq : (strl A)[i]? with
        | none => rw [eq] at e0; cases e0
        | some q1 =>
          rw [eq] at e0
          obtain rfl : toI q1 = q0 := Option.some.inj e0
          have il := (List.getElem?_eq_some_iff.mp eq).1
          have smT : Same H H2 := same_tr sm1 sm2
          refine ⟨rfl, _, rfl, t, rfl, ⟨_, sqT_mono smT hT⟩, fun D2 nD2 => lc_tup (K := K) (a := t) (xs := timesV Ts) (fun j H3 => Same H2 H3 ∧ H3 D2 = some (.lst (((Ts.take j).map fun u => over u q1).map V.bl)))
            ⟨same_new nD2, upd_same⟩ (fun j H3 _ hP => sqT_mono (same_tr smT hP.1) hT) (fun j y H3 hj hP => ?_) (fun H3 hP => ?_)⟩
          · obtain ⟨sm3, hD2⟩ := hP
            rw [List.getElem?_map] at hj
            cases hu : Ts[j]? with
            | none => rw [hu] at hj; cases hj
            | some u =>
              rw [hu] at hj
              obtain rfl : V.int (u : Int) = y := Option.some.inj hj
              have jl := (List.getElem?_eq_some_iff.mp hu).1
              have ht3 := SqT.of (K := K) (same_tr sm2 sm3 _ _ htq)
              have fin : ∃ acc, H3 D2 = some (.lst acc) ∧ acc.length < sizeLine ∧ (Same H2 (upd H3 D2 (.lst (acc ++ [.bl (over u q1)]))) ∧ (upd H3 D2 (.lst (acc ++ [.bl (over u q1)]))) D2 = some (.lst (((Ts.take (j + 1)).map fun u => over u q1).map V.bl))) := by
                refine ⟨_, hD2, ?_, same_chg nD2 sm3, ?_⟩
                · rw [List.length_map, List.length_map, List.length_take]
                  exact small_line (by omega)
                · rw [upd_same, take_snoc hu, List.map_append]
                  rfl
              rw [← over_int] at fin
              refine ⟨rfl, _, rfl, t1, _, 0, _, rfl, rfl, ht3, rfl, .int (u : Int), rfl, _, _, rfl, rfl, _, rfl, ite2 (fun c => ?_) (fun c => ?_)⟩
              · have c' := of_decide_eq_true c
                rw [decide_eq_true c', Bool.true_and] at fin
                exact ⟨_, rfl, t1, _, 1, _, rfl, rfl, ht3, rfl, _, _, rfl, rfl, fin⟩
              · have c' : ¬ (q1.1 : Int) < (u : Int) := fun z => c (decide_eq_true z)
                rw [decide_eq_false c', Bool.false_and] at fin
                exact fin
          · obtain ⟨sm3, hD2⟩ := hP
            rw [List.length_map, List.take_length] at hD2
            refine ⟨D2, _, rfl, SqL.of hD2, _, rfl, ?_⟩
            rw [any_over]
            have nD3 : D ≠ D2 := ne_of_none hD nD2
            have hD3 := sm3 _ _ hD
            cases hc : crossed Ts q1 with
            | true =>
              refine iteF ⟨same_tr sm2 sm3, us, hD3, ?_⟩
              rw [hus, List.take_add_one, eq, List.countP_append]
              simp [hc]
            | false =>
              refine iteT ⟨_, rfl, us, hD3, ?_, same_chg nD (same_tr sm2 sm3), us ++ [.ref t1], upd_same, ?_⟩
              · have : us.length ≤ ((strl A).take i).length := by
                  rw [hus]
                  exact List.countP_le_length
                rw [List.length_take] at this
                exact small_line (by omega)
              · rw [List.length_append, hus, List.take_add_one, eq, List.countP_append]
                simp [hc]
    · obtain ⟨sm2, us, hD, hus⟩ := hP
      rw [List.length_map, tl, List.take_length] at hus
      have hT2 := sqT_mono (same_tr sm1 sm2) hT
      refine ⟨_, rfl, _, _, rfl, rfl, _, rfl, t, _, rfl, .inr hT2, _, _, rfl, rfl, .inl ⟨by omega, by omega⟩, _, rfl, D, us, rfl, .inl (SqL.of hD), _, _, rfl, rfl, ?_⟩
      have e : ((bnd A m Ts : Nat) : Int) = ((m : Int) - 1) * ((timesV Ts).length : Int) + (us.length : Int) := by
        have e1 : ((m : Int) - 1) = ((m - 1 : Nat) : Int) := by omega
        rw [e1, hus, List.length_map]
        unfold bnd
        rw [← Int.natCast_mul, ← Int.natCast_add]
      show Q (V.int (((m : Int) - 1) * ((timesV Ts).length : Int) + (us.length : Int))) H2
      rw [← e]
      exact q H2 (same_tr sm1 sm2)
end
end Fw
end
section
set_option Elab.async false
set_option linter.all false
set_option maxRecDepth 100000
set_option maxHeartbeats 4000000
namespace Fw
open PySem PySem.Spec PyProof.Rows L2 Fr Fm
/-! ### the stretches between two times, one time further back -/
theorem btw_step (A : List Int) (f i : Nat) : btw A (f : Int) i = btw A ((f : Int) + 1) i + if endle A f i = true then 1 else 0 := by
  have e1 : btw A (f : Int) i = btw A ((f : Int) + 1) i + (strl A).countP fun q => decide (q.1 = f) && (decide (q.2 ≤ i) && true) := by
    unfold btw
    rw [← countP_or_eq]
    · refine List.countP_congr fun q _ => ?_
      simp only [Bool.and_eq_true, Bool.or_eq_true, decide_eq_true_eq, and_true]
      omega
    · intro q _ a b
      simp only [Bool.and_eq_true, decide_eq_true_eq] at a b
      omega
  have h1 := count_at A f i fun _ => true
  have h2 : endle A f i = true → 1 ≤ (strl A).countP fun q => decide (q.1 = f) && (decide (q.2 ≤ i) && true) := by
    intro h
    unfold endle at h
    cases e : nxt A f with
    | none => rw [e] at h; cases h
    | some j =>
      rw [e] at h
      exact List.countP_pos_iff.mpr ⟨(f, j), mem_strs.mpr (nxt_some.mp e), by simpa using h⟩
  rw [e1]
  by_cases c : endle A f i = true
  · rw [if_pos c] at h1 ⊢
    have := h2 c
    omega
  · rw [if_neg c] at h1 ⊢
    omega
theorem endle_min (A : List Int) (f i : Nat) (hi : i ≤ A.length) : decide ((ende A f : Int) ≤ (if ((A.length : Int) - 1) < (i : Int) then ((A.length : Int) - 1) else (i : Int))) = endle A f i := by
  unfold ende endle
  cases e : nxt A f with
  | none =>
    simp only [Option.getD_none]
    rw [decide_eq_false_iff_not]
    split <;> omega
  | some j =>
    have := (nxt_some.mp e).2.1
    simp only [Option.getD_some]
    rw [decide_eq_decide]
    split <;> omega
theorem btw_end (A : List Int) (i : Nat) : btw A (i : Int) i = 0 := by
  unfold btw
  rw [List.countP_eq_zero]
  intro q hq o
  simp only [Bool.and_eq_true, decide_eq_true_eq] at o
  have := (mem_strs.mp hq).1
  omega
section
variable {P : Program} {w : World} {K : PySem.W.Frag} {mg : Str → Option Value} {base : Heap}
def sp_best_times (K : PySem.W.Frag) : Sp := fun vs H Q _ => ∃ (a : Addr) (A : List Int) (m : Nat), vs = [.ref a, .int m] ∧ SqT K H a (A.map V.int) ∧ A.length ≤ 1000 ∧ 1 ≤ m ∧
  ∀ p least ahead g r H', Same H H' → H' p = some (.tup (timesV r.reverse)) → Rows A m least ahead (A.length + 1) → ahead[A.length]? = some g → Chain ahead g r → Q (.ref p) H'
theorem rI0_eq {g : Int → Int → V} {x y : V} {H : Hp} {Q : VK} (i j : Int) (v : V) (e1 : x = .int i) (e2 : y = .int j) (e : g i j = v) (q : Q v H) : rI0 g x y H Q := ⟨i, j, e1, e2, by rw [e]; exact q⟩
structure BtI (H0 : Hp) (a dl ll al : Addr) (A : List Int) (m i : Nat) (σ : L2.St) (H : Hp) : Prop where
  sig : ∃ y6 y7 y8 y9 y10 y11, σ = [some (.ref a), some (.int m), some (.ref dl), some (.int (A.length : Nat)), some (.ref ll), some (.ref al), y6, y7, y8, y9, y10, y11, none]
  sm : Same H0 H
  d : H dl = some (.dK (nxtK A))
  r : ∃ least ahead : List Int, Rows A m least ahead i ∧ H ll = some (.lst (least.map V.int)) ∧ H al = some (.lst (ahead.map V.int))
/-- what the inner loop has found among the last j firsts -/
def Found (A : List Int) (least : List Int) (i j : Nat) (x y : V) : Prop := (j = 0 ∧ x = .non ∧ y = .non) ∨
  ∃ f : Int, (i : Int) - j ≤ f ∧ -1 ≤ f ∧ f < i ∧ x = .int (cst A least f i) ∧ y = .int f ∧ (∀ g : Int, (i : Int) - j ≤ g → g < i → cst A least f i ≤ cst A least g i) ∧ ∀ g : Int, f < g → g < i → cst A least f i < cst A least g i
theorem Found.first {A least : List Int} {i : Nat} (hi : (-1 : Int) ≤ (i : Int) - 1) : Found A least i 1 (.int (cst A least ((i : Int) - 1) i)) (.int ((i : Int) - 1)) :=
  .inr ⟨(i : Int) - 1, by omega, hi, by omega, rfl, rfl, fun g h1 h2 => by
    have : g = (i : Int) - 1 := by omega
    rw [this]
    exact Int.le_refl _, fun g h1 h2 => by omega⟩
theorem Found.take {A least : List Int} {i j : Nat} {x y : V} {F : Int} (h : Found A least i j x y) (e : F = (i : Int) - (j : Int) - 1) (lo : -1 ≤ F) (c : ∀ v, x = .int v → cst A least F i < v) : Found A least i (j + 1) (.int (cst A least F i)) (.int F) := by
  refine .inr ⟨F, by omega, lo, by omega, rfl, rfl, fun g h1 h2 => ?_, fun g h1 h2 => ?_⟩
  · by_cases z : g = F
    · rw [z]
      exact Int.le_refl _
    · rcases h with ⟨h0, _⟩ | ⟨f, f1, f2, f3, ex, ey, m1, m2⟩
      · omega
      · have := c _ ex
        have := m1 g (by omega) h2
        omega
  · rcases h with ⟨h0, _⟩ | ⟨f, f1, f2, f3, ex, ey, m1, m2⟩
    · omega
    · have := c _ ex
      have := m1 g (by omega) h2
      omega
theorem Found.keep {A least : List Int} {i j : Nat} {y : V} {v F : Int} (h : Found A least i j (.int v) y) (e : F = (i : Int) - (j : Int) - 1) (c : ¬ cst A least F i < v) : Found A least i (j + 1) (.int v) y := by
  rcases h with ⟨_, h1, _⟩ | ⟨f, f1, f2, f3, ex, ey, m1, m2⟩
  · cases h1
  · injection ex with ex
    refine .inr ⟨f, by omega, f2, f3, by rw [ex], ey, fun g h1 h2 => ?_, m2⟩
    by_cases z : g = F
    · rw [z, ← ex]
      omega
    · exact m1 g (by omega) h2
theorem ok_best_times {f f1 : Addr} {fd fd1 : FuncData} {k : Nat} (F : Fun K "best_times" "best_times" s_best_times f fd) (T : Nm mg) (G1 : FnOk P w K mg base CX0 k f1 fd1 ["asks"] (sp_stretches K)) (D1 : Dn K mg "stretches" f1 fd1 ["asks"]) :
    FnOk P w K mg base CX0 (k + 1) f fd ["asks", "m"] (sp_best_times K) := by
  refine F.ok sc_best_times (fun vs H Q E h => ?_) (fun cdv A' outer s H vs Q E hr h => ?_)
  · obtain ⟨a, A, m, rfl, _⟩ := h
    rfl
  · obtain ⟨a, A, m, rfl, hA, hlen, hm, q⟩ := h
    have hu := hu_of hr
    have nd := sc_best_times.nd
    refine ⟨_, pss_cons (ps_par (i := 2) (j := 3) rfl nd rfl rfl (by decide) rfl rfl (pa_cons (pe_callTy (call_dictT rfl) (by rfl) T.dict (by decide +kernel) (pa_cons (pe_call G1 hr (by rfl) D1.g D1.kp D1.b .nil pass0 (pa_cons (pv 0) pa_nil)) pa_nil))
          (pa_cons (pe_callB call_len_seq (by rfl) T.len PySem.boot_len (pa_cons (pv 0) pa_nil)) pa_nil)) (by rfl))
      (pss_cons (ps_par (i := 4) (j := 5) rfl nd rfl rfl (by decide) rfl rfl (pa_cons (pe_lst pa_nil) (pa_cons (pe_lst pa_nil) pa_nil)) (by rfl))
      (pss_cons (ps_for PassesOwn.never rfl (pi_range1 (by rfl) T.range (pa_cons (pe_op op_add (pv 3) pe_int) pa_nil)) (pg_name (i := 6) nd rfl (.inl rfl))
        (pss_cons (ps_asg (pe_tup (pa_cons pe_non (pa_cons pe_non (pa_cons pe_int pa_nil)))) (pg_tup rfl (pgs_cons (pg_name (i := 7) nd rfl (.inl rfl)) (pgs_cons (pg_name (i := 8) nd rfl (.inl rfl)) (pgs_cons (pg_name (i := 9) nd rfl (.inl rfl)) pgs_nil)))))
        (pss_cons (ps_for PassesOwn.never rfl (pi_range3 (by rfl) T.range (pa_cons (pe_op op_sub (pv 6) pe_int) (pa_cons (pe_un un_neg pe_int) (pa_cons (pe_un un_neg pe_int) pa_nil)))) (pg_name (i := 10) nd rfl (.inl rfl))
          (pss_cons (ps_set (i := 9) nd rfl (.inl rfl) (pe_op op_add (pv 9) (pe_ifExp (PW.pt (pw_and (pt_cmpR op_ge (pv 10) pe_int (nomark _)) (pw_and1 (pt_cmpR op_le (pe_dget2 hu (pv 2) (pv 10) (pv 3) ⟨rfl, rfl, rfl, rfl⟩) (pe_callB (call_min2 rfl) (by rfl) T.min (by decide +kernel) (pa_cons (pv 6) (pa_cons (pe_op op_sub (pv 3) pe_int) pa_nil))) (nomark _))))) pe_int pe_int)))
          (pss_cons (ps_set (i := 11) nd rfl (.inl rfl) (pe_op op_add (pv 9) (pe_ifExp (pt_cmpR op_ge (pv 10) pe_int (nomark _)) (pe_ix ix_list (pv 4) (pv 10) (fun _ _ => rfl)) pe_int)))
          (pss_one (ps_if (PW.pt (pw_or (pt_cmpR op_isN (pv 7) pe_non (nomark _)) (pw_or1 (pt_cmpR op_lt (pv 11) (pv 7) (nomark _))))) (pss_one (ps_par (i := 7) (j := 8) rfl nd rfl rfl (by decide) rfl rfl (pa_cons (pv 11) (pa_cons (pv 10) pa_nil)) (by rfl))) pss_nil)))))
        (pss_cons (ps_expr (pe_bm PySem.F.plainAttrs_list PySem.F.slot_list_append PySem.F.type_list_append mt_append (pv 4) (pa_cons (pe_op op_add (pv 7) (pe_ifExp (pt_cmpR op_lt (pv 6) (pv 3) (nomark _)) (pe_op op_sub (pv 1) pe_int) pe_int)) pa_nil)))
        (pss_one (ps_expr (pe_bm PySem.F.plainAttrs_list PySem.F.slot_list_append PySem.F.type_list_append mt_append (pv 5) (pa_cons (pv 8) pa_nil))))))))
      (pss_cons (ps_par (i := 12) (j := 6) rfl nd rfl rfl (by decide) rfl rfl (pa_cons (pe_lst pa_nil) (pa_cons (pe_ix ix_list (pv 5) (pv 3) (fun _ _ => rfl)) pa_nil)) (by rfl))
      (pss_cons (ps_while PassesOwn.never (pt_cmpR op_ge (pv 6) pe_int (nomark _)) (pss_cons (ps_expr (pe_bm PySem.F.plainAttrs_list PySem.F.slot_list_append PySem.F.type_list_append mt_append (pv 12) (pa_cons (pv 6) pa_nil)))
        (pss_one (ps_set (i := 6) nd rfl (.inl rfl) (pe_ix ix_list (pv 5) (pv 6) (fun _ _ => rfl))))))
      (pss_one (ps_ret (pe_callTy call_tuple_of (by rfl) T.tuple (by decide +kernel) (pa_cons (pe_revL (pv 12)) pa_nil)))))))), ?_⟩
    refine ⟨.ref a, rfl, a, A, rfl, hA, hlen, fun p H1 sm1 hS => ?_⟩
    obtain ⟨ob, ts0, hp0, od, pr0⟩ := hS
    refine ⟨p, ob, ts0, _, rfl, hp0, od, pr0, fun dl ndl => ?_⟩
    have sm2 : Same H (upd H1 dl (.dK (nxtK A))) := same_tr sm1 (same_new ndl)
    refine ⟨.ref a, rfl, a, A.map V.int, rfl, .inr (sqT_mono sm2 hA), _, _, rfl, ?_⟩
    rw [List.length_map]
    refine ⟨Nat.zero_le _, fun ll nll => ⟨Nat.zero_le _, fun al nal => ⟨_, _, rfl, ?_⟩⟩⟩
    have sm3 := same_tr sm2 (same_new (o := .lst []) nll)
    have sm4 := same_tr sm3 (same_new (o := .lst []) nal)
    have n1 : dl ≠ ll := ne_of_none upd_same nll
    have n2 : dl ≠ al := ne_of_none (by rw [upd_ne n1, upd_same]) nal
    have n3 : ll ≠ al := ne_of_none upd_same nal
    have fdl : H dl = none := sm1.free ndl
    have fll : H ll = none := sm2.free nll
    have fal : H al = none := sm3.free nal
    have en : ((A.length : Int) + 1).toNat = A.length + 1 := by omega
    refine ⟨_, rfl, _, _, rfl, rfl, _, rfl, by omega, by omega, for_range (lo := 0) (n := ((A.length : Int) + 1).toNat) (BtI H a dl ll al A m)
      ⟨⟨none, none, none, none, none, none, rfl⟩, sm4, by rw [upd_ne n2, upd_ne n1, upd_same], [], [], Rows.nil A m, by rw [upd_ne n3, upd_same]; rfl, upd_same⟩ (fun i σ H2 hi I => ?_) (fun σ H2 I => ?_)⟩
    · obtain ⟨⟨y6, y7, y8, y9, y10, y11, rfl⟩, sm, hd, least, ahead, R, hl, ha⟩ := I
      have hin : i ≤ A.length := by omega
      rw [Int.zero_add]
      refine ⟨by show 3 ≤ sizeLine; decide, fun t nt => ⟨t, _, rfl, SqT.of upd_same, rfl, _, _, rfl, _, _, rfl, _, _, rfl, rfl, ?_⟩⟩
      have hd' : (upd H2 t (.tup [.non, .non, .int 0])) dl = some (.dK (nxtK A)) := by
        rw [upd_ne (ne_of_none hd nt)]
        exact hd
      have hl' : (upd H2 t (.tup [.non, .non, .int 0])) ll = some (.lst (least.map V.int)) := by
        rw [upd_ne (ne_of_none hl nt)]
        exact hl
      have ha' : (upd H2 t (.tup [.non, .non, .int 0])) al = some (.lst (ahead.map V.int)) := by
        rw [upd_ne (ne_of_none ha nt)]
        exact ha
      have sm' : Same H (upd H2 t (.tup [.non, .non, .int 0])) := same_tr sm (same_new nt)
      generalize upd H2 t (.tup [.non, .non, .int 0]) = H3 at hd' hl' ha' sm'
      have rg : RgC ((i : Int) - 1) (-2) (-1) ((i : Int) - 1 - -2).toNat := RgC.neg (by omega) (by omega) (by omega) (by omega)
      have ei : ((i : Int) - 1 - -2).toNat = i + 1 := by omega
      rw [ei] at rg
      have l1 := R.l1
      have l2 := R.l2
      refine ⟨_, rfl, _, _, rfl, rfl, 2, rfl, 1, rfl, _, _, _, _, rfl, rg, for_rangeC (fun j σ H4 => ∃ x y y10 y11, σ = [some (.ref a), some (.int m), some (.ref dl), some (.int (A.length : Nat)), some (.ref ll), some (.ref al), some (.int (i : Nat)), some x, some y, some (.int (btw A ((i : Int) - (j : Int)) i : Nat)), y10, y11, none] ∧ Found A least i j x y ∧ H4 = H3)
        ⟨.non, .non, y10, y11, ?_, .inl ⟨rfl, rfl, rfl⟩, rfl⟩ (fun j σ H4 hj hP => ?_) (fun σ H4 hP => ?_)⟩
      · have e : btw A ((i : Int) - ((0 : Nat) : Int)) i = 0 := by
          have e2 : (i : Int) - ((0 : Nat) : Int) = (i : Int) := by omega
          rw [e2, btw_end]
        rw [e]
        rfl
      · obtain ⟨x, y, y10, y11, rfl, fo, rfl⟩ := hP
        have eF : (i : Int) - 1 + (j : Nat) * -1 = (i : Int) - ((j + 1 : Nat) : Int) := by omega
        rw [eF]
        generalize hF : (i : Int) - ((j + 1 : Nat) : Int) = Fi
        have hlo : -1 ≤ Fi := by omega
        have ej : (i : Int) - (j : Int) = Fi + 1 := by omega
        rw [ej]
        -- what stands behind the two sums
        have fin : ∃ x' y' z10 z11, Found A least i (j + 1) x' y' ∧ ((x = .non ∨ ∃ v, x = .int v ∧ cst A least Fi i < v) → x' = .int (cst A least Fi i) ∧ y' = .int Fi) ∧ ((∃ v, x = .int v ∧ ¬ cst A least Fi i < v) → x' = x ∧ y' = y) ∧ z10 = some (V.int Fi) ∧ z11 = some (V.int (cst A least Fi i)) := by
          by_cases c : x = .non ∨ ∃ v, x = .int v ∧ cst A least Fi i < v
          · refine ⟨_, _, _, _, fo.take (F := Fi) (by omega) hlo fun v ev => ?_, fun _ => ⟨rfl, rfl⟩, fun ⟨v, e1, e2⟩ => ?_, rfl, rfl⟩
            · rcases c with c | ⟨v', e1, e2⟩
              · rw [c] at ev
                cases ev
              · rw [e1] at ev
                injection ev with ev
                omega
            · rcases c with c | ⟨v', e3, e4⟩
              · rw [c] at e1
                cases e1
              · rw [e1] at e3
                injection e3 with e3
                omega
          · have hx : ∃ v, x = .int v := by
              rcases fo with ⟨_, e, _⟩ | ⟨f, _, _, _, e, _⟩
              · exact absurd (.inl e) c
              · exact ⟨_, e⟩
            obtain ⟨v, ev⟩ := hx
            subst ev
            have c2 : ¬ cst A least Fi i < v := fun z => c (.inr ⟨v, rfl, z⟩)
            exact ⟨_, _, _, _, fo.keep (F := Fi) (by omega) c2, fun z => absurd z c, fun _ => ⟨rfl, rfl⟩, rfl, rfl⟩
        obtain ⟨x', y', z10, z11, fo', fT, fK, rfl, rfl⟩ := fin
        have hx2 : x = .non ∨ ∃ v, x = .int v := by
          rcases fo with ⟨_, e, _⟩ | ⟨f, _, _, _, e, _⟩
          · exact .inl e
          · exact .inr ⟨_, e⟩
        by_cases c0 : 0 ≤ Fi
        · obtain ⟨fi, rfl⟩ := Int.eq_ofNat_of_zero_le c0
          have hfi : fi < i := by omega
          refine ⟨_, rfl, _, rfl, _, _, rfl, rfl, _, rfl, ?_⟩
          rw [decide_eq_true c0]
          refine iteT ⟨_, rfl, dl, rfl, .inl ⟨_, .inl hd'⟩, _, rfl, _, rfl, _, DGet.k (k := Sum.inl (fi : Int)) hd', ?_⟩
          rw [get_nxtK]
          refine ⟨_, rfl, _, rfl, _, _, rfl, rfl, _, _, rfl, _, _, rfl, rfl, _, rfl, ?_⟩
          rw [endle_min A fi i hin]
          have bs := btw_step A fi i
          have lf : least[fi]? = some least[fi] := List.getElem?_eq_getElem (by omega)
          have ec : cst A least (fi : Int) i = (btw A (fi : Int) i : Int) + least[fi] := by
            unfold cst
            rw [lv_nat lf]
          have ll' : (least.map V.int)[fi]? = some (.int least[fi]) := by
            rw [List.getElem?_map, lf]
            rfl
          cases hc : endle A fi i with
          | true =>
            rw [hc, if_pos rfl] at bs
            refine iteT ⟨_, _, rfl, rfl, ?_⟩
            refine ⟨_, rfl, _, rfl, _, _, rfl, rfl, _, rfl, ?_⟩
            rw [decide_eq_true c0]
            refine iteT ⟨_, rfl, _, rfl, ll, _, _, _, rfl, rfl, SqL.of hl', atI_nat ll', _, _, rfl, rfl, ?_⟩
            have e1 : ((btw A ((fi : Int) + 1) i : Nat) : Int) + 1 = ((btw A (fi : Int) i : Nat) : Int) := by omega
            have e2 := ec.symm
            rcases hx2 with rfl | ⟨v0, rfl⟩
            · obtain ⟨rfl, rfl⟩ := fT (.inl rfl)
              refine ⟨_, rfl, rfl, _, rfl, ite2 (fun _ => ⟨_, rfl, _, rfl, _, _, rfl, _, _, some (.int (fi : Int)), some (.int (cst A least (fi : Int) i)), ?_, fo', rfl⟩) (fun z => absurd (decide_eq_true rfl) z)⟩
              simp only [List.set_cons_succ, List.set_cons_zero, e1, e2]
            · refine ⟨_, rfl, rfl, _, rfl, ite2 (fun z => (nomatch (of_decide_eq_true z))) (fun _ => ⟨_, rfl, _, rfl, _, _, rfl, rfl, _, rfl, ite2 (fun z => ?_) (fun z => ?_)⟩)⟩
              · have z' := of_decide_eq_true z
                rw [e1, e2] at z'
                obtain ⟨rfl, rfl⟩ := fT (.inr ⟨v0, rfl, z'⟩)
                refine ⟨_, rfl, _, rfl, _, _, rfl, _, _, some (.int (fi : Int)), some (.int (cst A least (fi : Int) i)), ?_, fo', rfl⟩
                simp only [List.set_cons_succ, List.set_cons_zero, e1, e2]
              · rw [e1, e2] at z
                obtain ⟨rfl, rfl⟩ := fK ⟨v0, rfl, fun h => z (decide_eq_true h)⟩
                refine ⟨_, _, some (.int (fi : Int)), some (.int (cst A least (fi : Int) i)), ?_, fo', rfl⟩
                simp only [List.set_cons_succ, List.set_cons_zero, e1, e2]
          | false =>
            rw [hc, if_neg Bool.false_ne_true] at bs
            refine iteF ⟨_, _, rfl, rfl, ?_⟩
            refine ⟨_, rfl, _, rfl, _, _, rfl, rfl, _, rfl, ?_⟩
            rw [decide_eq_true c0]
            refine iteT ⟨_, rfl, _, rfl, ll, _, _, _, rfl, rfl, SqL.of hl', atI_nat ll', _, _, rfl, rfl, ?_⟩
            have e1 : ((btw A ((fi : Int) + 1) i : Nat) : Int) + 0 = ((btw A (fi : Int) i : Nat) : Int) := by omega
            have e2 := ec.symm
            rcases hx2 with rfl | ⟨v0, rfl⟩
            · obtain ⟨rfl, rfl⟩ := fT (.inl rfl)
              refine ⟨_, rfl, rfl, _, rfl, ite2 (fun _ => ⟨_, rfl, _, rfl, _, _, rfl, _, _, some (.int (fi : Int)), some (.int (cst A least (fi : Int) i)), ?_, fo', rfl⟩) (fun z => absurd (decide_eq_true rfl) z)⟩
              simp only [List.set_cons_succ, List.set_cons_zero, e1, e2]
            · refine ⟨_, rfl, rfl, _, rfl, ite2 (fun z => (nomatch (of_decide_eq_true z))) (fun _ => ⟨_, rfl, _, rfl, _, _, rfl, rfl, _, rfl, ite2 (fun z => ?_) (fun z => ?_)⟩)⟩
              · have z' := of_decide_eq_true z
                rw [e1, e2] at z'
                obtain ⟨rfl, rfl⟩ := fT (.inr ⟨v0, rfl, z'⟩)
                refine ⟨_, rfl, _, rfl, _, _, rfl, _, _, some (.int (fi : Int)), some (.int (cst A least (fi : Int) i)), ?_, fo', rfl⟩
                simp only [List.set_cons_succ, List.set_cons_zero, e1, e2]
              · rw [e1, e2] at z
                obtain ⟨rfl, rfl⟩ := fK ⟨v0, rfl, fun h => z (decide_eq_true h)⟩
                refine ⟨_, _, some (.int (fi : Int)), some (.int (cst A least (fi : Int) i)), ?_, fo', rfl⟩
                simp only [List.set_cons_succ, List.set_cons_zero, e1, e2]
        · have eF1 : Fi = -1 := by omega
          have ec : cst A least Fi i = (btw A Fi i : Int) + 0 := by
            unfold cst
            rw [lv_neg (by omega)]
          have bs : btw A (Fi + 1) i = btw A Fi i := by
            rw [btw_neg A (f := Fi) (by omega) i]
            have : Fi + 1 = 0 := by omega
            rw [this]
            unfold btw
            refine List.countP_congr fun q0 _ => ?_
            have h1 : (0 : Int) ≤ (q0.1 : Int) := by omega
            have h2 : (-1 : Int) ≤ (q0.1 : Int) := by omega
            simp [h1, h2]
          refine ⟨_, rfl, _, rfl, _, _, rfl, rfl, _, rfl, ?_⟩
          rw [decide_eq_false c0]
          refine iteF (iteF ⟨_, _, rfl, rfl, ?_⟩)
          refine ⟨_, rfl, _, rfl, _, _, rfl, rfl, _, rfl, ?_⟩
          rw [decide_eq_false c0]
          refine iteF ⟨_, _, rfl, rfl, ?_⟩
          have e1 : ((btw A (Fi + 1) i : Nat) : Int) + 0 = ((btw A Fi i : Nat) : Int) := by omega
          have e2 := ec.symm
          rcases hx2 with rfl | ⟨v0, rfl⟩
          · obtain ⟨rfl, rfl⟩ := fT (.inl rfl)
            refine ⟨_, rfl, rfl, _, rfl, ite2 (fun _ => ⟨_, rfl, _, rfl, _, _, rfl, _, _, some (.int Fi), some (.int (cst A least Fi i)), ?_, fo', rfl⟩) (fun z => absurd (decide_eq_true rfl) z)⟩
            simp only [List.set_cons_succ, List.set_cons_zero, e1, e2]
          · refine ⟨_, rfl, rfl, _, rfl, ite2 (fun z => (nomatch (of_decide_eq_true z))) (fun _ => ⟨_, rfl, _, rfl, _, _, rfl, rfl, _, rfl, ite2 (fun z => ?_) (fun z => ?_)⟩)⟩
            · have z' := of_decide_eq_true z
              rw [e1, e2] at z'
              obtain ⟨rfl, rfl⟩ := fT (.inr ⟨v0, rfl, z'⟩)
              refine ⟨_, rfl, _, rfl, _, _, rfl, _, _, some (.int Fi), some (.int (cst A least Fi i)), ?_, fo', rfl⟩
              simp only [List.set_cons_succ, List.set_cons_zero, e1, e2]
            · rw [e1, e2] at z
              obtain ⟨rfl, rfl⟩ := fK ⟨v0, rfl, fun h => z (decide_eq_true h)⟩
              refine ⟨_, _, some (.int Fi), some (.int (cst A least Fi i)), ?_, fo', rfl⟩
              simp only [List.set_cons_succ, List.set_cons_zero, e1, e2]
      · obtain ⟨x, y, y10, y11, rfl, fo, rfl⟩ := hP
        rcases fo with ⟨h0, _⟩ | ⟨f, f1, f2, f3, rfl, rfl, m1, m2⟩
        · omega
        have R' : Rows A m (least ++ [cst A least f i + pen A m i]) (ahead ++ [f]) (i + 1) := R.snoc f2 f3 (fun g g1 g2 => m1 g (by omega) g2) m2
        refine ⟨.ref ll, rfl, .inl ⟨rfl, _, SqL.of hl'⟩, _, rfl, _, rfl, _, rfl, _, _, rfl, rfl, _, rfl, ?_⟩
        have fin : ∀ z : Int, z = cst A least f i + pen A m i → BtI H a dl ll al A m (i + 1) [some (.ref a), some (.int m), some (.ref dl), some (.int (A.length : Nat)), some (.ref ll), some (.ref al), some (.int (i : Nat)), some (.int (cst A least f i)), some (.int f), some (.int (btw A ((i : Int) - ((i + 1 : Nat) : Int)) i : Nat)), y10, y11, none]
            (upd (upd H4 ll (.lst (least.map V.int ++ [.int z]))) al (.lst (ahead.map V.int ++ [.int f]))) := fun z ez => by
          subst ez
          refine ⟨⟨_, _, _, _, _, _, rfl⟩, same_chg fal (same_chg fll sm'), by rw [upd_ne n2, upd_ne n1]; exact hd', _, _, R', ?_, ?_⟩
          · rw [upd_ne n3, upd_same, List.map_append]
            rfl
          · rw [upd_same, List.map_append]
            rfl
        have hall : (upd H4 ll (.lst (least.map V.int ++ [.int (cst A least f i + pen A m i)]))) al = some (.lst (ahead.map V.int)) := by
          rw [upd_ne (Ne.symm n3)]
          exact ha'
        have sz1 : (least.map V.int).length < sizeLine := by
          rw [List.length_map]
          exact small_line (by omega)
        have sz2 : (ahead.map V.int).length < sizeLine := by
          rw [List.length_map]
          exact small_line (by omega)
        by_cases c : i < A.length
        · have ep : pen A m i = (m : Int) - 1 := by
            unfold pen
            rw [if_pos c]
          rw [ep] at fin hall
          rw [decide_eq_true (by omega)]
          refine iteT ⟨_, rfl, _, _, rfl, rfl, _, _, rfl, rfl, ll, _, _, rfl, rfl, hl', sz1, ?_⟩
          exact ⟨.ref al, rfl, .inl ⟨rfl, _, SqL.of hall⟩, _, rfl, al, _, _, rfl, rfl, hall, sz2, fin _ rfl⟩
        · have ep : pen A m i = 0 := by
            unfold pen
            rw [if_neg c]
          rw [ep] at fin hall
          rw [decide_eq_false (by omega)]
          refine iteF ⟨_, _, rfl, rfl, ll, _, _, rfl, rfl, hl', sz1, ?_⟩
          exact ⟨.ref al, rfl, .inl ⟨rfl, _, SqL.of hall⟩, _, rfl, al, _, _, rfl, rfl, hall, sz2, fin _ rfl⟩
    · obtain ⟨⟨y6, y7, y8, y9, y10, y11, rfl⟩, sm, hd, least, ahead, R, hl, ha⟩ := I
      rw [en] at R
      obtain ⟨g, rg⟩ := R.row A.length (Nat.lt_succ_self _)
      have g1 := rg.lo
      have g2 := rg.hi
      refine ⟨Nat.zero_le _, fun tl ntl => ?_⟩
      have ha' : (upd H2 tl (.lst [])) al = some (.lst (ahead.map V.int)) := by
        rw [upd_ne (ne_of_none ha ntl)]
        exact ha
      have gA : (ahead.map V.int)[A.length]? = some (.int g) := by
        rw [List.getElem?_map, rg.at_]
        rfl
      have n5 : al ≠ tl := ne_of_none ha ntl
      have ftl : H tl = none := sm.free ntl
      refine ⟨_, rfl, _, rfl, al, _, _, _, rfl, rfl, SqL.of ha', atI_nat gA, _, _, rfl, ?_⟩
      refine while_by (fun σ H3 => ∃ (f : Int) (done : List Nat), σ = [some (.ref a), some (.int m), some (.ref dl), some (.int (A.length : Nat)), some (.ref ll), some (.ref al), some (.int f), y7, y8, y9, y10, y11, some (.ref tl)] ∧ Same H H3 ∧ H3 tl = some (.lst (timesV done)) ∧ H3 al = some (.lst (ahead.map V.int)) ∧
          -1 ≤ f ∧ (done.length : Int) + f + 1 ≤ A.length ∧ ∀ r, Chain ahead f r → Chain ahead g (done ++ r))
        (fun σ _ => match σ[6]? with
          | some (some (V.int f)) => (f + 1).toNat
          | _ => 0) ⟨g, [], rfl, same_tr sm (same_new ntl), upd_same, ha', g1, by simp; omega, fun r c => c⟩ (fun σ H3 hP => ?_) (fun σ H3 Q1 Q2 hQ hc => ?_)
      · obtain ⟨f, done, rfl, sm3, ht, ha3, f1, fl, ch⟩ := hP
        refine ⟨_, rfl, _, _, rfl, rfl, _, rfl, ite2 (fun c => ?_) (fun c => ?_)⟩
        · have c' := of_decide_eq_true c
          obtain ⟨fi, rfl⟩ := Int.eq_ofNat_of_zero_le c'
          obtain ⟨g', rg'⟩ := R.row fi (by omega)
          have h1 := rg'.lo
          have h2 := rg'.hi
          have gA' : (ahead.map V.int)[fi]? = some (.int g') := by
            rw [List.getElem?_map, rg'.at_]
            rfl
          have ha4 : (upd H3 tl (.lst (timesV done ++ [.int (fi : Nat)]))) al = some (.lst (ahead.map V.int)) := by
            rw [upd_ne n5]
            exact ha3
          refine ⟨.ref tl, rfl, .inl ⟨rfl, _, SqL.of ht⟩, _, rfl, tl, _, _, rfl, rfl, ht, by rw [List.length_map]; exact small_line (by omega), _, rfl, _, rfl, al, _, _, _, rfl, rfl, SqL.of ha4, atI_nat gA', ⟨g', done ++ [fi], rfl, same_chg ftl sm3, ?_, ha4, h1, ?_, fun r c2 => ?_⟩, ?_⟩
          · show _ = some (HO.lst (List.map _ (done ++ [fi])))
            rw [upd_same, List.map_append]
            rfl
          · rw [List.length_append, List.length_singleton]
            omega
          · rw [List.append_assoc]
            exact ch _ (.step rg'.at_ c2)
          · show (g' + 1).toNat < ((fi : Int) + 1).toNat
            omega
        · have c' : ¬ 0 ≤ f := fun z => c (decide_eq_true z)
          refine ⟨_, rfl, tl, _, rfl, SqL.of ht, fun p2 np2 => ⟨p2, _, rfl, .inl ⟨SqL.of upd_same, fun l nl => ?_⟩⟩⟩
          have cd := ch [] (.stop (by omega))
          rw [List.append_nil] at cd
          refine q l least ahead g done _ (same_tr (same_tr sm3 (same_new np2)) (same_new nl)) ?_ R rg.at_ cd
          show _ = some (HO.tup (List.map _ done.reverse))
          rw [upd_same, List.map_reverse]
      · obtain ⟨v, e, i1, j1, e1, e2, k1, e3, q1⟩ := hc
        exact ⟨v, e, i1, j1, e1, e2, k1, e3, hQ _ _ q1⟩
end
end Fw
end
section
set_option Elab.async false
set_option linter.all false
set_option maxRecDepth 100000
set_option maxHeartbeats 4000000
namespace Fw
open PySem PySem.Spec PyProof.Rows L2 Fr Fm
/-! ### data of a small depth -/
inductive Od : Nat → PyData → Prop
  | non {k : Nat} : Od k .none
  | bl {k : Nat} (b : Bool) : Od k (.bool b)
  | int {k : Nat} (i : Int) : Od k (.int i)
  | str {k : Nat} (s : Str) : PyData.strOk s = true → Od k (.str s)
  | lst {k : Nat} {ds : List PyData} : (∀ d ∈ ds, Od k d) → ds.length ≤ 1000 → Od (k + 1) (.list ds)
  | tup {k : Nat} {ds : List PyData} : (∀ d ∈ ds, Od k d) → ds.length ≤ 1000 → Od (k + 1) (.tuple ds)
theorem Od.up : ∀ {k : Nat} {d : PyData}, Od k d → Od (k + 1) d
  | _, _, .non => .non
  | _, _, .bl b => .bl b
  | _, _, .int i => .int i
  | _, _, .str s h => .str s h
  | _, _, .lst h l => .lst (fun d hd => Od.up (h d hd)) l
  | _, _, .tup h l => .tup (fun d hd => Od.up (h d hd)) l
theorem Od.mono {k j : Nat} {d : PyData} (h : Od k d) (l : k ≤ j) : Od j d := by
  induction l with
  | refl => exact h
  | step _ ih => exact ih.up
theorem can_all : ∀ {ds : List PyData}, (∀ d ∈ ds, d.canLay0 = true) → PyData.canLayAll0 ds = true
  | [], _ => rfl
  | d :: ds, h => by
    have h1 := h d List.mem_cons_self
    have h2 := can_all fun x hx => h x (List.mem_cons_of_mem _ hx)
    simp [PyData.canLayAll0, h1, h2]
theorem dep_all {k : Nat} : ∀ {ds : List PyData}, (∀ d ∈ ds, d.depth ≤ k) → PyData.depthAll ds ≤ k
  | [], _ => by simp [PyData.depthAll]
  | d :: ds, h => by
    have h1 := h d List.mem_cons_self
    have h2 := dep_all fun x hx => h x (List.mem_cons_of_mem _ hx)
    simp only [PyData.depthAll]
    omega
theorem Od.can : ∀ {k : Nat} {d : PyData}, Od k d → d.canLay0 = true ∧ d.depth ≤ k + 1
  | _, _, .non => ⟨rfl, by simp [PyData.depth]⟩
  | _, _, .bl _ => ⟨rfl, by simp [PyData.depth]⟩
  | _, _, .int _ => ⟨rfl, by simp [PyData.depth]⟩
  | _, _, .str s h => ⟨by simpa [PyData.canLay0] using h, by simp [PyData.depth]⟩
  | _, _, .lst h _ => by
    have h1 := can_all fun d hd => (Od.can (h d hd)).1
    have h2 := dep_all fun d hd => (Od.can (h d hd)).2
    refine ⟨by simpa [PyData.canLay0] using h1, ?_⟩
    simp only [PyData.depth]
    omega
  | _, _, .tup h _ => by
    have h1 := can_all fun d hd => (Od.can (h d hd)).1
    have h2 := dep_all fun d hd => (Od.can (h d hd)).2
    refine ⟨by simpa [PyData.canLay0] using h1, ?_⟩
    simp only [PyData.depth]
    omega
theorem Od.shaped {k : Nat} {d : PyData} (h : Od k d) (l : k ≤ 60) : SeqAt.shaped d = true := by
  obtain ⟨h1, h2⟩ := h.can
  unfold SeqAt.shaped
  rw [h1, Bool.true_and]
  exact decide_eq_true (by omega)
/-! ### lots as data -/
abbrev pairD (q : Pr) : PyData := .tuple [.int (q.1 : Int), .int (q.2 : Int)]
abbrev pairsD (L : List Pr) : PyData := .tuple (L.map pairD)
abbrev timesD (Ts : List Nat) : PyData := .tuple (Ts.map fun t : Nat => .int (t : Int))
def Asc (L : List Pr) : Prop := L.Pairwise fun a b => a.1 < b.1 ∨ (a.1 = b.1 ∧ a.2 < b.2)
def KeptD (A : List Int) (m : Nat) (d : PyData) : Prop := ∃ L : List Pr, d = pairsD L ∧ Asc L ∧ Kept A m L
theorem dp_pair {K : PySem.W.Frag} {H : Hp} {v : V} {q : Pr} (h : Dp K H v (pairD q)) : ∃ t, v = .ref t ∧ SqT K H t [.int (q.1 : Int), .int (q.2 : Int)] := by
  cases h with
  | tup hs ha =>
    rename_i t xs
    cases ha with
    | cons h1 ha =>
      cases ha with
      | cons h2 ha =>
        cases ha
        cases h1
        cases h2
        exact ⟨t, rfl, hs⟩
theorem dp_pairs {K : PySem.W.Frag} {H : Hp} {v : V} {L : List Pr} (h : Dp K H v (pairsD L)) : ∃ t xs, v = .ref t ∧ SqT K H t xs ∧ xs.length = L.length ∧ DpAll K H xs (L.map pairD) := by
  cases h with
  | tup hs ha =>
    have := dpAll_len ha
    rw [List.length_map] at this
    exact ⟨_, _, rfl, hs, this, ha⟩
theorem dp_get {K : PySem.W.Frag} {H : Hp} {xs : List V} {L : List Pr} (h : DpAll K H xs (L.map pairD)) {i : Nat} {x : V} (e : xs[i]? = some x) : ∃ q t, L[i]? = some q ∧ x = .ref t ∧ SqT K H t [.int (q.1 : Int), .int (q.2 : Int)] := by
  obtain ⟨d, e1, hd⟩ := dpAll_get h e
  rw [List.getElem?_map] at e1
  cases eq : L[i]? with
  | none => rw [eq] at e1; cases e1
  | some q =>
    rw [eq] at e1
    obtain rfl := Option.some.inj e1
    obtain ⟨t, h1, h2⟩ := dp_pair hd
    exact ⟨q, t, rfl, h1, h2⟩
theorem prs_dp {K : PySem.W.Frag} {H : Hp} : ∀ {ts : List Addr} {L : List Pr}, Prs H ts (L.map toI) → DpAll K H (ts.map V.ref) (L.map pairD)
  | [], [], .nil => .nil
  | t :: ts, q :: L, .cons h r => .cons (.tup (SqT.of h) (.cons (.int _) (.cons (.int _) .nil))) (prs_dp r)
/-! ### over_times -/
/-- what is added at u -/
def stp (L : List Pr) (u : Nat) : Int := (L.countP fun q => decide (q.1 + 1 = u) : Nat) - (L.countP fun q => decide (q.2 = u) : Nat)
theorem stp_over : ∀ {L : List Pr}, (∀ q ∈ L, q.1 < q.2) → ∀ t : Nat, ((L.countP (over (t + 1)) : Nat) : Int) = (L.countP (over t) : Nat) + stp L (t + 1)
  | [], _, t => rfl
  | q :: L, h, t => by
    have ih := stp_over (L := L) (fun x hx => h x (List.mem_cons_of_mem _ hx)) t
    have hq := h q List.mem_cons_self
    unfold stp at *
    simp only [List.countP_cons]
    have e : (if over (t + 1) q = true then (1 : Int) else 0) = (if over t q = true then 1 else 0) + (if decide (q.1 + 1 = t + 1) = true then 1 else 0) - (if decide (q.2 = t + 1) = true then 1 else 0) := by
      unfold over
      simp only [Bool.and_eq_true, decide_eq_true_eq]
      repeat' split
      all_goals omega
    have c : ∀ b : Bool, (((if b = true then 1 else 0 : Nat)) : Int) = if b = true then 1 else 0 := fun b => by cases b <;> rfl
    simp only [Int.natCast_add, c]
    omega
theorem over_zero (L : List Pr) (h : ∀ q ∈ L, q.1 < q.2) : L.countP (over 0) = 0 ∧ stp L 0 = 0 := by
  have h1 : L.countP (over 0) = 0 := by
    rw [List.countP_eq_zero]
    intro q _ o
    unfold over at o
    simp at o
  have h2 : (L.countP fun q => decide (q.1 + 1 = 0)) = 0 := by
    rw [List.countP_eq_zero]
    intro q _ o
    simp at o
  have h3 : (L.countP fun q => decide (q.2 = 0)) = 0 := by
    rw [List.countP_eq_zero]
    intro q hq o
    have := h q hq
    simp only [decide_eq_true_eq] at o
    omega
  refine ⟨h1, ?_⟩
  unfold stp
  rw [h2, h3]
  rfl
theorem over_step (L : List Pr) (h : ∀ q ∈ L, q.1 < q.2) (t : Nat) : ((L.countP (over t) : Nat) : Int) = (if t = 0 then 0 else ((L.countP (over (t - 1)) : Nat) : Int)) + stp L t := by
  cases t with
  | zero =>
    obtain ⟨h1, h2⟩ := over_zero L h
    rw [h1, h2]
    rfl
  | succ t =>
    rw [if_neg (Nat.succ_ne_zero t)]
    exact stp_over h t
abbrev stpV (n : Nat) (L : List Pr) : List V := (List.range (n + 1)).map fun u => V.int (stp L u)
theorem stpV_get (n : Nat) (L : List Pr) {u : Nat} (h : u ≤ n) : (stpV n L)[u]? = some (.int (stp L u)) := by
  rw [List.getElem?_map, List.getElem?_range (by omega)]
  rfl
theorem stpV_snoc (n : Nat) (L : List Pr) (q : Pr) (h1 : q.1 + 1 ≤ n) (h2 : q.2 ≤ n) (v : Int) (hv : (((stpV n L).set (q.1 + 1) (.int (stp L (q.1 + 1) + 1)))[q.2]? = some (.int v))) :
    (((stpV n L).set (q.1 + 1) (.int (stp L (q.1 + 1) + 1))).set q.2 (.int (v - 1))) = stpV n (L ++ [q]) := by
  have key : ∀ u : Nat, stp (L ++ [q]) u = stp L u + (if q.1 + 1 = u then 1 else 0) - (if q.2 = u then 1 else 0) := fun u => by
    unfold stp
    simp only [List.countP_append, List.countP_cons, List.countP_nil, decide_eq_true_eq]
    repeat' split
    all_goals omega
  have len : (stpV n L).length = n + 1 := by rw [List.length_map, List.length_range]
  refine List.ext_getElem? fun u => ?_
  by_cases hu : u ≤ n
  · rw [stpV_get n _ hu, key, List.getElem?_set, List.getElem?_set]
    rw [List.getElem?_set] at hv
    simp only [List.length_set, len] at hv ⊢
    by_cases c2 : q.2 = u
    · subst c2
      rw [if_pos rfl, if_pos (by omega), if_pos rfl]
      by_cases c1 : q.1 + 1 = q.2
      · rw [if_pos c1, if_pos (by omega)] at hv
        rw [if_pos c1]
        injection hv with hv
        injection hv with hv
        rw [← c1] at *
        rw [← hv]
      · rw [if_neg c1, stpV_get n L hu] at hv
        rw [if_neg c1]
        injection hv with hv
        injection hv with hv
        rw [← hv]
        congr 2
        omega
    · rw [if_neg c2, if_neg c2]
      by_cases c1 : q.1 + 1 = u
      · subst c1
        rw [if_pos rfl, if_pos (by omega), if_pos rfl]
        congr 2
        omega
      · rw [if_neg c1, if_neg c1, stpV_get n L hu]
        congr 2
        omega
  · rw [List.getElem?_eq_none, List.getElem?_eq_none]
    · rw [List.length_map, List.length_range]
      omega
    · rw [List.length_set, List.length_set, len]
      omega
section
variable {P : Program} {w : World} {K : PySem.W.Frag} {mg : Str → Option Value} {base : Heap}
def sp_over_times (K : PySem.W.Frag) : Sp := fun vs H Q _ => ∃ (a : Addr) (A : List Int) (v : V) (L : List Pr), vs = [.ref a, v] ∧ SqT K H a (A.map V.int) ∧ A.length ≤ 1000 ∧ Dp K H v (pairsD L) ∧ (∀ q ∈ L, q.1 < q.2 ∧ q.2 < A.length) ∧
  ∀ p H', Same H H' → H' p = some (.lst ((List.range A.length).map fun u => V.int (L.countP (over u) : Nat))) → Q (.ref p) H'
theorem ok_over_times {f : Addr} {fd : FuncData} {k : Nat} (F : Fun K "over_times" "over_times" s_over_times f fd) (T : Nm mg) : FnOk P w K mg base CX0 (k + 1) f fd ["asks", "kept"] (sp_over_times K) := by
  refine F.ok sc_over_times (fun vs H Q E h => ?_) (fun cdv A' outer s H vs Q E hr h => ?_)
  · obtain ⟨a, A, v, L, rfl, _⟩ := h
    rfl
  · obtain ⟨a, A, v, L, rfl, hA, hlen, hv, hL, q⟩ := h
    have nd := sc_over_times.nd
    obtain ⟨tv, xs, rfl, hxs, xl, hall⟩ := dp_pairs hv
    refine ⟨_, pss_cons (ps_asg (pe_op op_rep (pe_lst (pa_cons pe_int pa_nil)) (pe_op op_add (pe_callB call_len_seq (by rfl) T.len PySem.boot_len (pa_cons (pv 0) pa_nil)) pe_int)) (pg_name (i := 2) nd rfl (.inl rfl)))
      (pss_cons (ps_for PassesOwn.never rfl (pi_tup (pv 1)) (pg_tup rfl (pgs_cons (pg_name (i := 3) nd rfl (.inl rfl)) (pgs_cons (pg_name (i := 4) nd rfl (.inl rfl)) pgs_nil)))
        (pss_cons (ps_augS (pv 2) (pe_op op_add (pv 3) pe_int) get_list pe_int ip_add set_list) (pss_one (ps_augS (pv 2) (pv 4) get_list pe_int ip_sub set_list))))
      (pss_cons (ps_par (i := 5) (j := 6) rfl nd rfl rfl (by decide) rfl rfl (pa_cons (pe_lst pa_nil) (pa_cons pe_int pa_nil)) (by rfl))
      (pss_cons (ps_for PassesOwn.never rfl (pi_range1 (by rfl) T.range (pa_cons (pe_callB call_len_seq (by rfl) T.len PySem.boot_len (pa_cons (pv 0) pa_nil)) pa_nil)) (pg_name (i := 7) nd rfl (.inl rfl))
        (pss_cons (ps_asg (pe_op op_add (pv 6) (pe_ix (r := rIxL K) ix_list (pv 2) (pv 7) (fun _ _ => rfl))) (pg_name (i := 6) nd rfl (.inl rfl)))
        (pss_one (ps_expr (pe_bm PySem.F.plainAttrs_list PySem.F.slot_list_append PySem.F.type_list_append mt_append (pv 5) (pa_cons (pv 6) pa_nil))))))
      (pss_one (ps_ret (pv 5)))))), ?_⟩
    refine ⟨Nat.le_of_ble_eq_true rfl, fun l0 n0 => ⟨_, rfl, a, _, rfl, .inr (sqT_mono (same_new n0) hA), _, _, rfl, rfl, l0, _, _, rfl, rfl, upd_same, ?_, ?_, ?_, fun sl nsl => ?_⟩⟩
    · rw [List.length_map]; omega
    · rw [List.length_map]; omega
    · have := sizeLine_eq
      rw [List.length_map, List.length_singleton]
      omega
    have sm1 : Same H (upd (upd H l0 (.lst [.int 0])) sl (.lst (List.replicate ((A.map V.int).length + 1 : Int).toNat [V.int 0]).flatten)) := same_tr (same_new n0) (same_new nsl)
    have fsl : H sl = none := (same_new n0).free nsl
    have e0 : (List.replicate ((A.map V.int).length + 1 : Int).toNat [V.int 0]).flatten = stpV A.length [] := by
      have : ((A.map V.int).length + 1 : Int).toNat = A.length + 1 := by
        rw [List.length_map]
        omega
      rw [this]
      refine List.ext_getElem? fun u => ?_
      have e1 : (List.replicate (A.length + 1) [V.int 0]).flatten = List.replicate (A.length + 1) (V.int 0) := by
        rw [List.flatten_replicate_singleton]
      rw [e1, List.getElem?_replicate]
      by_cases h : u ≤ A.length
      · rw [stpV_get _ _ h, if_pos (by omega)]
        rfl
      · rw [if_neg (by omega), List.getElem?_eq_none]
        rw [List.length_map, List.length_range]
        omega
    rw [e0] at sm1 ⊢
    have hs1 : (upd (upd H l0 (.lst [.int 0])) sl (.lst (stpV A.length []))) sl = some (.lst (stpV A.length [])) := upd_same
    generalize upd (upd H l0 (.lst [.int 0])) sl (.lst (stpV A.length [])) = H1 at sm1 hs1
    refine ⟨.ref tv, rfl, tv, rfl, ⟨_, sqT_mono sm1 hxs⟩, for_tup (K := K) (fun i σ H2 => (∃ y3 y4, σ = [some (.ref a), some (.ref tv), some (.ref sl), y3, y4, none, none, none]) ∧ Same H H2 ∧ H2 sl = some (.lst (stpV A.length (L.take i))))
      ⟨⟨none, none, rfl⟩, sm1, hs1⟩ (fun i σ H2 _ hP => sqT_mono hP.2.1 hxs) (fun i x σ H2 hi hP => ?_) (fun σ H2 hP => ?_)⟩
    · obtain ⟨⟨y3, y4, rfl⟩, sm, hs⟩ := hP
      obtain ⟨q1, t, eq, rfl, ht⟩ := dp_get hall hi
      obtain ⟨lt, ln⟩ := hL q1 (List.mem_of_getElem? eq)
      refine ⟨t, _, rfl, sqT_mono sm ht, rfl, _, [_], rfl, _, [], rfl, rfl, ?_⟩
      have g1 := stpV_get A.length (L.take i) (u := q1.1 + 1) (by omega)
      have len : (stpV A.length (L.take i)).length = A.length + 1 := by rw [List.length_map, List.length_range]
      refine ⟨_, rfl, _, rfl, _, _, rfl, rfl, sl, _, _, _, rfl, rfl, by omega, SqL.of hs, by rw [show ((q1.1 : Int) + 1).toNat = q1.1 + 1 by omega]; exact g1, _, _, rfl, rfl, sl, _, _, q1.1 + 1, rfl, rfl, hs, ?_, ?_⟩
      · unfold ixN
        rw [if_pos (by omega), if_pos (by omega)]
        congr 1
      obtain ⟨v, hv⟩ : ∃ v : Int, ((stpV A.length (L.take i)).set (q1.1 + 1) (.int (stp (L.take i) (q1.1 + 1) + 1)))[q1.2]? = some (.int v) := by
        rw [List.getElem?_set]
        by_cases c : q1.1 + 1 = q1.2
        · rw [if_pos c, if_pos (by omega)]
          exact ⟨_, rfl⟩
        · rw [if_neg c, stpV_get _ _ (by omega)]
          exact ⟨_, rfl⟩
      refine ⟨_, rfl, _, rfl, sl, _, _, _, rfl, rfl, by omega, SqL.of upd_same, by rw [show ((q1.2 : Int)).toNat = q1.2 by omega]; exact hv, _, _, rfl, rfl, sl, _, _, q1.2, rfl, rfl, upd_same, ?_, ⟨_, _, rfl⟩, same_chg fsl (same_chg fsl sm), ?_⟩
      · unfold ixN
        rw [List.length_set, if_pos (by omega), if_pos (by omega)]
        congr 1
      · rw [upd_same, stpV_snoc _ _ _ (by omega) (by omega) v hv, List.take_add_one, eq]
        rfl
    · obtain ⟨⟨y3, y4, rfl⟩, sm, hs⟩ := hP
      rw [xl, List.take_length] at hs
      refine ⟨Nat.zero_le _, fun fl nfl => ⟨_, _, rfl, ?_⟩⟩
      have sm2 : Same H (upd H2 fl (.lst [])) := same_tr sm (same_new nfl)
      have ffl : H fl = none := sm.free nfl
      have ns : sl ≠ fl := ne_of_none hs nfl
      refine ⟨_, rfl, a, _, rfl, .inr (sqT_mono sm2 hA), _, rfl, ?_, ?_, for_range (lo := 0) (n := ((A.map V.int).length : Int).toNat) (fun i σ H3 => (∃ y7, σ = [some (.ref a), some (.ref tv), some (.ref sl), y3, y4, some (.ref fl), some (.int (if i = 0 then 0 else ((L.countP (over (i - 1)) : Nat) : Int))), y7]) ∧ Same H H3 ∧ H3 sl = some (.lst (stpV A.length L)) ∧
        H3 fl = some (.lst ((List.range i).map fun u => V.int (L.countP (over u) : Nat)))) ⟨⟨none, rfl⟩, sm2, by rw [upd_ne ns]; exact hs, upd_same⟩ (fun i σ H3 hi hP => ?_) (fun σ H3 hP => ?_)⟩
      · rw [List.length_map]; omega
      · rw [List.length_map]; omega
      · obtain ⟨⟨y7, rfl⟩, sm3, hs3, hf3⟩ := hP
        rw [List.length_map] at hi
        have g := stpV_get A.length L (u := i) (by omega)
        have os := over_step L (fun q hq => (hL q hq).1) i
        refine ⟨_, rfl, _, rfl, _, rfl, sl, _, _, _, rfl, rfl, SqL.of hs3, atI_eq (j := i) (by omega) g, _, _, rfl, rfl, .ref fl, rfl, .inl ⟨rfl, _, SqL.of hf3⟩, _, rfl, fl, _, _, rfl, rfl, hf3, ?_, ⟨some (.int (0 + (i : Int))), ?_⟩, same_chg ffl sm3, ?_, ?_⟩
        · rw [List.length_map, List.length_range]
          exact small_line (by omega)
        · rw [if_neg (Nat.succ_ne_zero i), Nat.add_sub_cancel, os]
          rfl
        · rw [upd_ne ns]
          exact hs3
        · rw [upd_same, List.range_succ, List.map_append]
          show some (HO.lst (_ ++ [V.int ((if i = 0 then 0 else ((L.countP (over (i - 1)) : Nat) : Int)) + stp L i)])) = _
          rw [← os]
          rfl
      · obtain ⟨⟨y7, rfl⟩, sm3, hs3, hf3⟩ := hP
        refine ⟨_, rfl, q fl H3 sm3 ?_⟩
        have e : ((A.map V.int).length : Int).toNat = A.length := by
          rw [List.length_map]
          rfl
        rw [e] at hf3
        exact hf3
end
end Fw
end
section
set_option Elab.async false
set_option linter.all false
set_option maxRecDepth 100000
set_option maxHeartbeats 4000000
namespace Fw
open PySem PySem.Spec PyProof.Rows L2 Fr Fm
theorem u65 {k : Nat} {A : Around} (h : Room k A) : A.units + 65 < cLine := by
  have := h.un
  omega
theorem pairs_of {n : Int} : ∀ {ds : List PyData}, (∀ d ∈ ds, isPair d n n = true) → ∃ L : List Pr, ds = L.map pairD
  | [], _ => ⟨[], rfl⟩
  | d :: ds, h => by
    obtain ⟨L, e⟩ := pairs_of fun x hx => h x (List.mem_cons_of_mem _ hx)
    have h1 := h d List.mem_cons_self
    match d, h1 with
    | .tuple [x, y], h1 =>
      have h1' : (isIdx x n && isIdx y n) = true := h1
      rw [Bool.and_eq_true] at h1'
      obtain ⟨i, rfl, i0, i1⟩ := isIdx_iff.mp h1'.1
      obtain ⟨j, rfl, j0, j1⟩ := isIdx_iff.mp h1'.2
      refine ⟨(i.toNat, j.toNat) :: L, ?_⟩
      rw [e, List.map_cons]
      unfold pairD
      simp only
      rw [Int.toNat_of_nonneg i0, Int.toNat_of_nonneg j0]
    | .tuple [], h1 => cases h1
    | .tuple [_], h1 => cases h1
    | .tuple (_ :: _ :: _ :: _), h1 => cases h1
    | .none, h1 => cases h1
    | .bool _, h1 => cases h1
    | .int _, h1 => cases h1
    | .str _, h1 => cases h1
    | .list _, h1 => cases h1
    | .dict _, h1 => cases h1
theorem pairD_inj {p q : Pr} (h : pairD p = pairD q) : p = q := by
  obtain ⟨a, b⟩ := p
  obtain ⟨c, d⟩ := q
  unfold pairD at h
  injection h with h
  injection h with h1 h2
  injection h2 with h2 _
  injection h1 with h1
  injection h2 with h2
  simp only at h1 h2
  rw [Prod.mk.injEq]
  omega
theorem map_pairD_inj : ∀ {L M : List Pr}, L.map pairD = M.map pairD → L = M
  | [], [], _ => rfl
  | p :: L, q :: M, h => by
    rw [List.map_cons, List.map_cons] at h
    injection h with h1 h2
    rw [pairD_inj h1, map_pairD_inj h2]
theorem pairsD_inj {L M : List Pr} (h : pairsD L = pairsD M) : L = M := by
  injection h with h
  exact map_pairD_inj h
theorem eqv_pair (p q : Pr) : PyData.eqv (pairD p) (pairD q) = decide (p = q) := by
  obtain ⟨a, b⟩ := p
  obtain ⟨c, d⟩ := q
  unfold pairD
  simp only [PyData.eqv, PyData.eqvAll, Bool.and_true]
  rw [Bool.eq_iff_iff]
  simp only [Bool.and_eq_true, beq_iff_eq, decide_eq_true_eq, Prod.mk.injEq]
  omega
theorem any_pair (S : List Pr) (q : Pr) : ((S.map pairD).any fun z => PyData.eqv z (pairD q)) = decide (q ∈ S) := by
  rw [List.any_map]
  rw [Bool.eq_iff_iff, List.any_eq_true, decide_eq_true_eq]
  constructor
  · rintro ⟨p, hp, e⟩
    have e' : PyData.eqv (pairD p) (pairD q) = true := e
    rw [eqv_pair, decide_eq_true_eq] at e'
    rw [← e']
    exact hp
  · intro h
    refine ⟨q, h, ?_⟩
    show PyData.eqv (pairD q) (pairD q) = true
    rw [eqv_pair]
    exact decide_eq_true rfl
theorem Od.pair (q : Pr) (k : Nat) : Od (k + 1) (pairD q) := .tup (fun d hd => by
  rcases List.mem_cons.mp hd with rfl | hd
  · exact .int _
  · rw [List.mem_singleton.mp hd]
    exact .int _) (by show 2 ≤ 1000; omega)
theorem Od.pairs {L : List Pr} (h : L.length ≤ 1000) (k : Nat) : Od (k + 2) (pairsD L) := .tup (fun d hd => by
  obtain ⟨q, _, rfl⟩ := List.mem_map.mp hd
  exact Od.pair q k) (by rw [List.length_map]; exact h)
def ltP2 (a b : Pr) : Bool := HT.lexLt [(a.1 : Int), (a.2 : Int)] [(b.1 : Int), (b.2 : Int)]
theorem ltP2_iff {a b : Pr} : ltP2 a b = true ↔ (a.1 < b.1 ∨ (a.1 = b.1 ∧ a.2 < b.2)) := by
  unfold ltP2
  simp only [HT.lexLt]
  obtain ⟨a1, a2⟩ := a
  obtain ⟨b1, b2⟩ := b
  simp only
  by_cases c : (a1 : Int) < b1
  · simp [c]
    omega
  · by_cases c2 : (b1 : Int) < a1
    · simp [c, c2]
      omega
    · have : a1 = b1 := by omega
      subst this
      simp
      omega
theorem asc_step {L : List Pr} : Asc L ↔ ∀ i, i < L.length - 1 → ltP2 (L.getD i (0, 0)) (L.getD (i + 1) (0, 0)) = true := by
  constructor
  · intro h i hi
    have e1 : L[i]? = some (L.getD i (0, 0)) := by simp [List.getD_eq_getElem?_getD, List.getElem?_eq_getElem (show i < L.length by omega)]
    have e2 : L[i + 1]? = some (L.getD (i + 1) (0, 0)) := by simp [List.getD_eq_getElem?_getD, List.getElem?_eq_getElem (show i + 1 < L.length by omega)]
    exact ltP2_iff.mpr (step_pw h e1 e2)
  · intro h
    refine pw_step (fun a b c h1 h2 => by omega) fun i x y e1 e2 => ?_
    have h2 := (List.getElem?_eq_some_iff.mp e2).1
    have := ltP2_iff.mp (h i (by omega))
    rw [List.getD_eq_getElem?_getD, List.getD_eq_getElem?_getD, e1, e2] at this
    exact this
theorem Asc.le {L : List Pr} (h : Asc L) : L.Pairwise fun a b => a.1 < b.1 ∨ (a.1 = b.1 ∧ a.2 ≤ b.2) := h.imp fun {a b} z => by omega
theorem Asc.nd {L : List Pr} (h : Asc L) : L.Nodup := h.imp fun {a b} z e => by
  subst e
  omega
section
variable {P : Program} {w : World} {K : PySem.W.Frag} {mg : Str → Option Value} {base : Heap}
def sp_is_kept_lot (K : PySem.W.Frag) : Sp := fun vs H Q _ => ∃ (a : Addr) (A : List Int) (m : Nat) (v : V) (d : PyData), vs = [.ref a, .int m, v] ∧ SqT K H a (A.map V.int) ∧ A.length ≤ 1000 ∧ Dp K H v d ∧ Od 9 d ∧
  ∀ b H', Same H H' → (b = true ↔ KeptD A m d) → Q (.bl b) H'
theorem ok_is_kept_lot {f f1 f2 f3 : Addr} {fd fd1 fd2 fd3 : FuncData} {k : Nat} (F : Fun K "is_kept_lot" "is_kept_lot" s_is_kept_lot f fd) (T : Nm mg) (G1 : FnOk P w K mg base CX0 k f1 fd1 ["asks"] (sp_stretches K)) (D1 : Dn K mg "stretches" f1 fd1 ["asks"])
    (G2 : FnOk P w K mg base CX0 k f2 fd2 ["value", "first", "second"] (sp_is_pair_of K)) (D2 : Dn K mg "is_pair_of" f2 fd2 ["value", "first", "second"]) (G3 : FnOk P w K mg base CX0 k f3 fd3 ["asks", "kept"] (sp_over_times K)) (D3 : Dn K mg "over_times" f3 fd3 ["asks", "kept"]) :
    FnOk P w K mg base CX0 (k + 1) f fd ["asks", "m", "value"] (sp_is_kept_lot K) := by
  refine F.ok sc_is_kept_lot (fun vs H Q E h => ?_) (fun cdv A' outer s H vs Q E hr h => ?_)
  · obtain ⟨a, A, m, v, d, rfl, _⟩ := h
    rfl
  · obtain ⟨a, A, m, v, d, rfl, hA, hlen, hd, od, q⟩ := h
    have nd := sc_is_kept_lot.nd
    refine ⟨_, pss_cons (ps_asg (pe_tup (pa_cons (pe_callB call_len_seq (by rfl) T.len PySem.boot_len (pa_cons (pv 0) pa_nil)) (pa_cons (pe_call G1 hr (by rfl) D1.g D1.kp D1.b .nil pass0 (pa_cons (pv 0) pa_nil)) pa_nil))) (pg_tup rfl (pgs_cons (pg_name (i := 3) nd rfl (.inr rfl)) (pgs_cons (pg_name (i := 4) nd rfl (.inr rfl)) pgs_nil))))
      (pss_cons (ps_if (PW.pt (pw_or (pt_not (pt_val (pe_callB call_isi (by rfl) T.isinstance (by decide +kernel) (pa_cons (pv 2) (pa_cons (pe_bltn (v := .ty "tuple") (by rfl) T.tuple (by decide +kernel) rfl) pa_nil)))))
      (pw_or1 (pt_not (pt_val (pe_callB (r := rAll K) (cr_all rfl) (by rfl) T.all (by decide +kernel) (pa_cons (pe_lc (wi := iTup K (tVar 2)) (own := [("one", 5)]) (g := gName 5) (tt := tYes) rfl nd (pi_tup (pv 2)) (blkOk_by (N := ["asks", "m", "value", "many", "known", "one", "at", "over"]) (sc := defScope s_is_kept_lot) (by decide +kernel))
        (fun _ _ _ _ _ => pg_name (i := 5) nd rfl (Or.inl rfl)) (fun _ _ _ _ _ => pts_nil) (fun _ _ _ _ _ => pe_call G2 hr (by rfl) D2.g D2.kp D2.b .nil pass0 (pa_cons (pv 5) (pa_cons (pv 3) (pa_cons (pv 3) pa_nil))))) pa_nil)))))))
        (pss_one (ps_ret pe_bl)) pss_nil)
      (pss_cons (ps_if (pt_not (pt_val (pe_callB (r := rAll K) (cr_all rfl) (by rfl) T.all (by decide +kernel) (pa_cons (pe_lc (wi := iTup K (tVar 2)) (own := [("one", 5)]) (g := gName 5) (tt := tYes) rfl nd (pi_tup (pv 2)) (blkOk_by (N := ["asks", "m", "value", "many", "known", "one", "at", "over"]) (sc := defScope s_is_kept_lot) (by decide +kernel))
        (fun _ _ _ _ _ => pg_name (i := 5) nd rfl (Or.inl rfl)) (fun _ _ _ _ _ => pts_nil) (fun _ _ _ _ _ => pe_cmpR (r := rInDT K) (op_inDT (u65 hr)) (pv 5) (pv 4) (by rfl))) pa_nil))))
        (pss_one (ps_ret pe_bl)) pss_nil)
      (pss_cons (ps_if (pt_not (pt_val (pe_callB (r := rAll K) (cr_all rfl) (by rfl) T.all (by decide +kernel) (pa_cons (pe_lc (own := [("at", 6)]) (g := gName 6) (tt := tYes) rfl nd (pi_range1 (by rfl) T.range (pa_cons (pe_op op_sub (pe_callB call_len_seq (by rfl) T.len PySem.boot_len (pa_cons (pv 2) pa_nil)) pe_int) pa_nil)) (blkOk_by (N := ["asks", "m", "value", "many", "known", "one", "at", "over"]) (sc := defScope s_is_kept_lot) (by decide +kernel))
        (fun _ _ _ _ _ => pg_name (i := 6) nd rfl (Or.inl rfl)) (fun _ _ _ _ _ => pts_nil) (fun _ _ _ _ _ => pe_cmpR (r := rLtT K) (op_ltT hr.units0) (pe_ix (r := rIxT K) ix_tup (pv 2) (pv 6) (fun _ _ => rfl)) (pe_ix (r := rIxT K) ix_tup (pv 2) (pe_op op_add (pv 6) pe_int) (fun _ _ => rfl)) (nomark _))) pa_nil))))
        (pss_one (ps_ret pe_bl)) pss_nil)
      (pss_one (ps_ret (pe_callB (r := rAll K) (cr_all rfl) (by rfl) T.all (by decide +kernel) (pa_cons (pe_lc (own := [("over", 7)]) (g := gName 7) (tt := tYes) rfl nd (pi_list (pe_call G3 hr (by rfl) D3.g D3.kp D3.b .nil pass0 (pa_cons (pv 0) (pa_cons (pv 2) pa_nil)))) (blkOk_by (N := ["asks", "m", "value", "many", "known", "one", "at", "over"]) (sc := defScope s_is_kept_lot) (by decide +kernel))
        (fun _ _ _ _ _ => pg_name (i := 7) nd rfl (Or.inl rfl)) (fun _ _ _ _ _ => pts_nil) (fun _ _ _ _ _ => pe_cmpR op_lt (pv 7) (pv 1) (nomark _))) pa_nil))))))), ?_⟩
    refine ⟨.ref a, rfl, a, _, rfl, .inr hA, .ref a, rfl, a, A, rfl, hA, hlen, fun kp H1 sm1 hS => ?_⟩
    obtain ⟨ob, kts, hkp, _, pr0⟩ := hS
    refine ⟨by show 2 ≤ sizeLine; decide, fun tt ntt => ⟨tt, _, rfl, SqT.of upd_same, rfl, _, [_], rfl, _, [], rfl, rfl, ?_⟩⟩
    have sm2 : Same H (upd H1 tt (.tup [.int ((A.map V.int).length : Nat), .ref kp])) := same_tr sm1 (same_new ntt)
    have dk : Dp K (upd H1 tt (.tup [.int ((A.map V.int).length : Nat), .ref kp])) (.ref kp) (pairsD (strl A)) :=
      dp_mono (same_new ntt) (.tup (.inl (.inr ⟨ob, hkp⟩)) (prs_dp pr0))
    generalize upd H1 tt (.tup [.int ((A.map V.int).length : Nat), .ref kp]) = H2 at sm2 dk
    have sl : (strl A).length ≤ 1000 := by
      rw [(fnd_perm A).length_eq]
      have := fnd_len (A := A) A.length
      omega
    refine ⟨v, rfl, v, _, _, _, _, rfl, .ty "tuple", ty_of (dp_mono sm2 hd), kit_ty (kit_tuple (dp_noDict hd)), _, rfl, ?_⟩
    cases hT : isT d with
    | false =>
      refine iteT (iteT (q false H2 sm2 ⟨fun z => (nomatch z), fun ⟨L, e, _⟩ => ?_⟩))
      rw [e] at hT
      cases hT
    | true =>
      refine iteF ?_
      cases hd with
      | tup hs ha =>
        rename_i tv xs ds
        have hl := dpAll_len ha
        have dl : ds.length ≤ 1000 := by
          cases od with
          | tup _ h => exact h
        have len : (A.map V.int).length = A.length := List.length_map _
        refine ⟨_, rfl, tv, rfl, ⟨xs, sqT_mono sm2 hs⟩, fun D nD => lc_tup (K := K) (a := tv) (xs := xs) (fun i H3 => Same H H3 ∧ Same H2 H3 ∧ H3 D = some (.lst (((ds.take i).map fun x => isPair x A.length A.length).map V.bl)))
          ⟨same_tr sm2 (same_new nD), same_new nD, upd_same⟩ (fun i H3 _ hp => sqT_mono hp.1 hs) (fun i x H3 hi hp => ?_) (fun H3 hp => ?_)⟩
        · obtain ⟨sm, smk, hD⟩ := hp
          obtain ⟨y, hy, dy⟩ := dpAll_get ha hi
          have il : i < xs.length := (List.getElem?_eq_some_iff.mp hi).1
          refine ⟨rfl, x, rfl, _, rfl, _, rfl, x, y, _, _, rfl, dp_mono sm dy, fun H4 sm4 => ?_⟩
          have hD4 := sm4 _ _ hD
          rw [len]
          refine ⟨_, hD4, ?_, same_chg (sm2.free nD) (same_tr sm sm4), same_chg nD (same_tr smk sm4), ?_⟩
          · rw [List.length_map, List.length_map, List.length_take]
            exact small_line (by omega)
          · rw [upd_same, take_snoc hy, List.map_append]
            rfl
        · obtain ⟨sm, smk, hD⟩ := hp
          rw [hl, List.take_length] at hD
          refine ⟨D, _, rfl, SqL.of hD, _, rfl, ?_⟩
          cases hA1 : (ds.map fun x => isPair x (A.length : Int) (A.length : Int)).all id with
          | false =>
            refine iteT (q false H3 sm ⟨fun z => (nomatch z), fun ⟨L, e2, _, kk⟩ => ?_⟩)
            rw [← hA1, List.all_map, List.all_eq_true]
            intro y hy
            injection e2 with e2
            rw [e2] at hy
            obtain ⟨u, hu, rfl⟩ := List.mem_map.mp hy
            have st := mem_strs.mp (kk.sub u hu)
            have h1 := st.1
            have h2 := st.2.1
            show (isIdx (.int (u.1 : Int)) A.length && isIdx (.int (u.2 : Int)) A.length) = true
            rw [Bool.and_eq_true]
            exact ⟨isIdx_iff.mpr ⟨_, rfl, by omega, by omega⟩, isIdx_iff.mpr ⟨_, rfl, by omega, by omega⟩⟩
          | true =>
            refine iteF ?_
            rw [List.all_map, List.all_eq_true] at hA1
            obtain ⟨L, eL⟩ := pairs_of hA1
            subst eL
            rw [List.length_map] at hl dl
            -- known
            refine ⟨_, rfl, tv, rfl, ⟨xs, sqT_mono sm hs⟩, fun D2 nD2 => lc_tup (K := K) (a := tv) (xs := xs) (fun i H4 => Same H3 H4 ∧ H4 D2 = some (.lst (((L.take i).map fun x => decide (x ∈ strl A)).map V.bl)))
              ⟨same_new nD2, upd_same⟩ (fun i H4 _ hp => sqT_mono (same_tr sm hp.1) hs) (fun i x H4 hi hp => ?_) (fun H4 hp => ?_)⟩
            · obtain ⟨sm4, hD2⟩ := hp
              obtain ⟨y, hy, dy⟩ := dpAll_get ha hi
              have il : i < xs.length := (List.getElem?_eq_some_iff.mp hi).1
              rw [List.getElem?_map] at hy
              cases hq : L[i]? with
              | none => rw [hq] at hy; cases hy
              | some q1 =>
                rw [hq] at hy
                obtain rfl : pairD q1 = y := Option.some.inj hy
                refine ⟨rfl, x, rfl, _, rfl, _, _, dp_mono (same_tr sm sm4) dy, dp_mono (same_tr smk sm4) dk, (Od.pair q1 0).shaped (by omega), (Od.pairs sl 0).shaped (by omega), ?_⟩
                rw [any_pair]
                refine ⟨_, hD2, ?_, same_chg nD2 sm4, ?_⟩
                · rw [List.length_map, List.length_map, List.length_take]
                  exact small_line (by omega)
                · rw [upd_same, take_snoc hq, List.map_append]
                  rfl
            · obtain ⟨sm4, hD2⟩ := hp
              rw [hl, List.take_length] at hD2
              refine ⟨D2, _, rfl, SqL.of hD2, _, rfl, ?_⟩
              have sm5 := same_tr sm sm4
              cases hA2 : (L.map fun x => decide (x ∈ strl A)).all id with
              | false =>
                refine iteT (q false H4 sm5 ⟨fun z => (nomatch z), fun ⟨L', e2, _, kk⟩ => ?_⟩)
                obtain rfl := pairsD_inj e2
                rw [← hA2, List.all_map, List.all_eq_true]
                exact fun x hx => decide_eq_true (kk.sub x hx)
              | true =>
                refine iteF ?_
                rw [List.all_map, List.all_eq_true] at hA2
                have sub : ∀ x ∈ L, x ∈ strl A := fun x hx => of_decide_eq_true (hA2 x hx)
                -- ascending
                refine ⟨_, rfl, tv, xs, rfl, .inr (sqT_mono sm5 hs), _, _, rfl, rfl, _, rfl, by omega, by omega, fun D3 nD3 => lc_range (lo := 0) (n := ((xs.length : Int) - 1).toNat) (fun i H5 => Same H4 H5 ∧ H5 D3 = some (.lst (((List.range i).map fun j => ltP2 (L.getD j (0, 0)) (L.getD (j + 1) (0, 0))).map V.bl)))
                  ⟨same_new nD3, upd_same⟩ (fun i H5 hi hp => ?_) (fun H5 hp => ?_)⟩
                · obtain ⟨sm6, hD3⟩ := hp
                  have hi1 : i + 1 < L.length := by omega
                  have hs5 := sqT_mono (same_tr sm5 sm6) hs
                  have at_ : ∀ j, j < L.length → ∃ t, xs[j]? = some (.ref t) ∧ SqT K H5 t ([((L.getD j (0, 0)).1 : Int), ((L.getD j (0, 0)).2 : Int)].map V.int) := fun j hj => by
                    have hx : xs[j]? = some xs[j] := List.getElem?_eq_getElem (by omega)
                    obtain ⟨q1, t, e1, e2, e3⟩ := dp_get ha hx
                    rw [List.getD_eq_getElem?_getD, e1]
                    refine ⟨t, by rw [hx, e2], sqT_mono (same_tr sm5 sm6) e3⟩
                  obtain ⟨t1, g1, g2⟩ := at_ i (by omega)
                  obtain ⟨t2, g3, g4⟩ := at_ (i + 1) hi1
                  refine ⟨rfl, _, rfl, _, rfl, tv, xs, _, _, rfl, rfl, hs5, atI_eq (j := i) (by omega) g1, _, rfl, _, rfl, _, _, rfl, rfl, tv, xs, _, _, rfl, rfl, hs5, atI_eq (j := i + 1) (by omega) g3, _, _, _, _, rfl, rfl, g2, g4, _, hD3, ?_, same_chg nD3 sm6, ?_⟩
                  · rw [List.length_map, List.length_map, List.length_range]
                    exact small_line (by omega)
                  · rw [upd_same, List.range_succ, List.map_append, List.map_append]
                    rfl
                · obtain ⟨sm6, hD3⟩ := hp
                  refine ⟨D3, _, rfl, SqL.of hD3, _, rfl, ?_⟩
                  have sm7 := same_tr sm5 sm6
                  cases hA3 : ((List.range ((xs.length : Int) - 1).toNat).map fun j => ltP2 (L.getD j (0, 0)) (L.getD (j + 1) (0, 0))).all id with
                  | false =>
                    refine iteT (q false H5 sm7 ⟨fun z => (nomatch z), fun ⟨L', e2, asc, kk⟩ => ?_⟩)
                    obtain rfl := pairsD_inj e2
                    rw [← hA3, List.all_map, List.all_eq_true]
                    intro j hj
                    have := List.mem_range.mp hj
                    exact asc_step.mp asc j (by omega)
                  | true =>
                    refine iteF ?_
                    rw [List.all_map, List.all_eq_true] at hA3
                    have asc : Asc L := asc_step.mpr fun i hi => hA3 i (List.mem_range.mpr (by omega))
                    refine ⟨_, rfl, _, rfl, a, A, .ref tv, L, rfl, sqT_mono sm7 hA, hlen, dp_mono sm7 (.tup hs ha), fun x hx => ?_, fun op H6 sm8 hop => ?_⟩
                    · have st := mem_strs.mp (sub x hx)
                      exact ⟨st.1, st.2.1⟩
                    · refine ⟨op, rfl, ⟨_, SqL.of hop⟩, fun D4 nD4 => lc_list (K := K) (a := op) (xs := (List.range A.length).map fun u => V.int (L.countP (over u) : Nat)) (fun i H7 => Same H6 H7 ∧ H7 D4 = some (.lst (((List.range i).map fun u => decide (((L.countP (over u) : Nat) : Int) < (m : Int))).map V.bl)))
                        ⟨same_new nD4, upd_same⟩ (fun i H7 _ hp => SqL.of (hp.1 _ _ hop)) (fun i x H7 hi hp => ?_) (fun H7 hp => ?_)⟩
                      · obtain ⟨sm9, hD4⟩ := hp
                        have il := (List.getElem?_eq_some_iff.mp hi).1
                        rw [List.length_map, List.length_range] at il
                        rw [List.getElem?_map, List.getElem?_range il] at hi
                        obtain rfl := Option.some.inj hi
                        refine ⟨rfl, _, rfl, _, rfl, _, _, rfl, rfl, _, hD4, ?_, same_chg nD4 sm9, ?_⟩
                        · rw [List.length_map, List.length_map, List.length_range]
                          exact small_line (by omega)
                        · rw [upd_same, List.range_succ, List.map_append, List.map_append]
                          rfl
                      · obtain ⟨sm9, hD4⟩ := hp
                        rw [List.length_map, List.length_range] at hD4
                        refine ⟨D4, _, rfl, SqL.of hD4, q _ H7 (same_tr (same_tr sm7 sm8) sm9) ?_⟩
                        rw [List.all_map, List.all_eq_true]
                        constructor
                        · intro hh
                          refine ⟨L, rfl, asc, sub, asc.nd, fun u hu => ?_⟩
                          have := of_decide_eq_true (hh u (List.mem_range.mpr hu))
                          omega
                        · rintro ⟨L', e2, _, kk⟩ u hu
                          obtain rfl := pairsD_inj e2
                          have := kk.cap u (List.mem_range.mp hu)
                          exact decide_eq_true (by omega)
      | _ => cases hT
end
end Fw
end
section
set_option Elab.async false
set_option linter.all false
set_option maxRecDepth 100000
set_option maxHeartbeats 4000000
namespace Fw
open PySem PySem.Spec PyProof.Rows L2 Fr Fm
/-- what ask_paper tells -/
def Told (A : List Int) (m : Nat) (L : List Pr) (Ts : List Nat) : Prop := ∃ T F least ahead g r, Run A m A.length T F ∧ L.Perm F ∧ L.Pairwise lexP ∧ Rows A m least ahead (A.length + 1) ∧ ahead[A.length]? = some g ∧ Chain ahead g r ∧ Ts = r.reverse
theorem Told.one {A : List Int} {m : Nat} {L L' : List Pr} {Ts Ts' : List Nat} (h : Told A m L Ts) (h' : Told A m L' Ts') : L = L' ∧ Ts = Ts' := by
  obtain ⟨T, F, least, ahead, g, r, h1, h2, h3, h4, h5, h6, h7⟩ := h
  obtain ⟨T', F', least', ahead', g', r', k1, k2, k3, k4, k5, k6, k7⟩ := h'
  obtain ⟨_, rfl⟩ := h1.one k1
  obtain ⟨rfl, rfl⟩ := h4.one k4
  obtain rfl := Option.some.inj (h5.symm.trans k5)
  obtain rfl := h6.one k6
  exact ⟨sorted_one (h3.imp fun {a b} z => z) (k3.imp fun {a b} z => z) h2 k2, h7.trans k7.symm⟩
abbrev paperD (L : List Pr) (Ts : List Nat) : PyData := .tuple [pairsD L, timesD Ts]
def DueP (A : List Int) (m : Nat) (d : PyData) : Prop := ∃ L Ts, d = paperD L Ts ∧ Asc L ∧ Kept A m L ∧ (∀ u ∈ Ts, u < A.length) ∧ Ts.Pairwise (· < ·) ∧ L.length = bnd A m Ts
theorem timesD_inj {Ts Ts' : List Nat} (e4 : timesD Ts = timesD Ts') : Ts = Ts' := by
  injection e4 with e4
  have inj : ∀ l l' : List Nat, l.map (fun t : Nat => PyData.int (t : Int)) = l'.map (fun t : Nat => PyData.int (t : Int)) → l = l' := by
    intro l
    induction l with
    | nil =>
      intro l' h
      cases l' with
      | nil => rfl
      | cons _ _ => cases h
    | cons x l ih =>
      intro l' h
      cases l' with
      | nil => cases h
      | cons y l' =>
        rw [List.map_cons, List.map_cons] at h
        injection h with h1 h2
        injection h1 with h1
        rw [ih l' h2, Int.ofNat.inj h1]
  exact inj _ _ e4
theorem dp_times {K : PySem.W.Frag} {H : Hp} {v : V} {Ts : List Nat} (h : Dp K H v (timesD Ts)) : ∃ t, v = .ref t ∧ SqT K H t (timesV Ts) := by
  cases h with
  | tup hs ha =>
    rename_i t xs
    refine ⟨t, rfl, ?_⟩
    have : ∀ (Ts : List Nat) (xs : List V), DpAll K H xs (Ts.map fun t : Nat => PyData.int (t : Int)) → xs = timesV Ts := by
      intro Ts
      induction Ts with
      | nil =>
        intro xs h
        cases h
        rfl
      | cons u Ts ih =>
        intro xs h
        cases h with
        | cons h1 h2 =>
          cases h1
          rw [ih _ h2]
          rfl
    rw [← this Ts xs ha]
    exact hs
theorem times_dp {K : PySem.W.Frag} {H : Hp} {t : Addr} {Ts : List Nat} (h : SqT K H t (timesV Ts)) : Dp K H (.ref t) (timesD Ts) := by
  refine .tup h ?_
  have : ∀ Ts : List Nat, DpAll K H (timesV Ts) (Ts.map fun t : Nat => PyData.int (t : Int)) := by
    intro Ts
    induction Ts with
    | nil => exact .nil
    | cons u Ts ih => exact .cons (.int _) ih
  exact this Ts
section
variable {P : Program} {w : World} {K : PySem.W.Frag} {mg : Str → Option Value} {base : Heap}
def sp_ask_paper (K : PySem.W.Frag) : Sp := fun vs H Q _ => ∃ (a : Addr) (A : List Int) (m : Nat), vs = [.ref a, .int m] ∧ SqT K H a (A.map V.int) ∧ A.length ≤ 1000 ∧ 1 ≤ m ∧
  ∀ p L Ts H', Same H H' → Dp K H' (.ref p) (paperD L Ts) → Told A m L Ts → Q (.ref p) H'
theorem ok_ask_paper {f f1 f2 : Addr} {fd fd1 fd2 : FuncData} {k : Nat} (F : Fun K "ask_paper" "ask_paper" s_ask_paper f fd) (G1 : FnOk P w K mg base CX0 k f1 fd1 ["asks", "m"] (sp_furthest K)) (D1 : Dn K mg "furthest" f1 fd1 ["asks", "m"])
    (G2 : FnOk P w K mg base CX0 k f2 fd2 ["asks", "m"] (sp_best_times K)) (D2 : Dn K mg "best_times" f2 fd2 ["asks", "m"]) : FnOk P w K mg base CX0 (k + 1) f fd ["asks", "m"] (sp_ask_paper K) := by
  refine F.ok sc_ask_paper (fun vs H Q E h => ?_) (fun cdv A' outer s H vs Q E hr h => ?_)
  · obtain ⟨a, A, m, rfl, _⟩ := h
    rfl
  · obtain ⟨a, A, m, rfl, hA, hlen, hm, q⟩ := h
    refine ⟨_, pss_one (ps_ret (pe_tup (pa_cons (pe_call G1 hr (by rfl) D1.g D1.kp D1.b .nil pass0 (pa_cons (pv 0) (pa_cons (pv 1) pa_nil))) (pa_cons (pe_call G2 hr (by rfl) D2.g D2.kp D2.b .nil pass0 (pa_cons (pv 0) (pa_cons (pv 1) pa_nil))) pa_nil)))), ?_⟩
    refine ⟨_, rfl, _, rfl, a, A, m, rfl, hA, hlen, hm, fun p1 L T F1 H1 sm1 hp1 run perm pw => ?_⟩
    refine ⟨_, rfl, _, rfl, a, A, m, rfl, sqT_mono sm1 hA, hlen, hm, fun p2 least ahead g r H2 sm2 hp2 R hg ch => ?_⟩
    refine ⟨by show 2 ≤ sizeLine; decide, fun t nt => ?_⟩
    obtain ⟨ts, hts, pr⟩ := hp1
    have d1 : Dp K H1 (.ref p1) (pairsD L) := .tup (SqT.of hts) (prs_dp pr)
    refine q t L r.reverse _ (same_tr (same_tr sm1 sm2) (same_new nt)) ?_ ⟨T, F1, least, ahead, g, r, run, perm, pw, R, hg, ch, rfl⟩
    exact .tup (SqT.of upd_same) (.cons (dp_mono (same_tr sm2 (same_new nt)) d1) (.cons (dp_mono (same_new nt) (times_dp (SqT.of hp2))) .nil))
def sp_is_ask_paper (K : PySem.W.Frag) : Sp := fun vs H Q _ => ∃ (a : Addr) (A : List Int) (m : Nat) (v : V) (d : PyData), vs = [.ref a, .int m, v] ∧ SqT K H a (A.map V.int) ∧ A.length ≤ 1000 ∧ 1 ≤ m ∧ m ≤ 1000 ∧ Dp K H v d ∧ Od 9 d ∧
  ∀ b H', Same H H' → (b = true ↔ DueP A m d) → Q (.bl b) H'
theorem dp_len {K : PySem.W.Frag} {H : Hp} {v : V} {ds : List PyData} (h : Dp K H v (.tuple ds)) : ∃ t xs, v = .ref t ∧ SqT K H t xs ∧ xs.length = ds.length := by
  cases h with
  | tup hs ha => exact ⟨_, _, rfl, hs, dpAll_len ha⟩
theorem ok_is_ask_paper {f f1 f2 f3 f4 : Addr} {fd fd1 fd2 fd3 fd4 : FuncData} {k : Nat} (F : Fun K "is_ask_paper" "is_ask_paper" s_is_ask_paper f fd) (T : Nm mg) (G1 : FnOk P w K mg base CX0 k f1 fd1 ["value", "sizes"] (sp_is_row_of K)) (D1 : Dn K mg "is_row_of" f1 fd1 ["value", "sizes"])
    (G2 : FnOk P w K mg base CX0 k f2 fd2 ["asks", "m", "value"] (sp_is_kept_lot K)) (D2 : Dn K mg "is_kept_lot" f2 fd2 ["asks", "m", "value"]) (G3 : FnOk P w K mg base CX0 k f3 fd3 ["value", "many"] (sp_is_rising K)) (D3 : Dn K mg "is_rising" f3 fd3 ["value", "many"])
    (G4 : FnOk P w K mg base CX0 k f4 fd4 ["asks", "m", "times"] (sp_ask_bound K)) (D4 : Dn K mg "ask_bound" f4 fd4 ["asks", "m", "times"]) : FnOk P w K mg base CX0 (k + 1) f fd ["asks", "m", "value"] (sp_is_ask_paper K) := by
  refine F.ok sc_is_ask_paper (fun vs H Q E h => ?_) (fun cdv A' outer s H vs Q E hr h => ?_)
  · obtain ⟨a, A, m, v, d, rfl, _⟩ := h
    rfl
  · obtain ⟨a, A, m, v, d, rfl, hA, hlen, hm, hm2, hd, od, q⟩ := h
    refine ⟨_, pss_cons (ps_if (PW.pt (pw_or (pt_not (pt_val (pe_call G1 hr (by rfl) D1.g D1.kp D1.b .nil pass0 (pa_cons (pv 2) (pa_cons (pe_tup (pa_cons pe_int pa_nil)) pa_nil)))))
        (pw_or (pt_not (pt_val (pe_call G2 hr (by rfl) D2.g D2.kp D2.b .nil pass0 (pa_cons (pv 0) (pa_cons (pv 1) (pa_cons (pe_ix ix_tup (pv 2) pe_int (fun _ _ => rfl)) pa_nil))))))
        (pw_or1 (pt_not (pt_val (pe_call G3 hr (by rfl) D3.g D3.kp D3.b .nil pass0 (pa_cons (pe_ix ix_tup (pv 2) pe_int (fun _ _ => rfl)) (pa_cons (pe_callB call_len_seq (by rfl) T.len PySem.boot_len (pa_cons (pv 0) pa_nil)) pa_nil))))))))) (pss_one (ps_ret pe_bl)) pss_nil)
      (pss_one (ps_ret (pe_cmpR op_eq (pe_callB call_len_seq (by rfl) T.len PySem.boot_len (pa_cons (pe_ix ix_tup (pv 2) pe_int (fun _ _ => rfl)) pa_nil)) (pe_call G4 hr (by rfl) D4.g D4.kp D4.b .nil pass0 (pa_cons (pv 0) (pa_cons (pv 1) (pa_cons (pe_ix ix_tup (pv 2) pe_int (fun _ _ => rfl)) pa_nil)))) (nomark _)))), ?_⟩
    refine ⟨v, rfl, by show 1 ≤ sizeLine; decide, fun t nt => ⟨v, d, t, rfl, dp_mono (same_new nt) hd, upd_same, _, rfl, ?_⟩⟩
    have sm1 : Same H (upd H t (.tup [.int 2])) := same_new nt
    generalize upd H t (.tup [.int 2]) = H1 at sm1
    have hno : (isRow2 d = true → DueP A m d → False) → ∀ H', Same H H' → Q (.bl false) H' := fun h H' sm => q false H' sm ⟨fun z => (nomatch z), fun z => (h (by
      obtain ⟨L, Ts, rfl, _⟩ := z
      rfl) z).elim⟩
    cases hR : isRow2 d with
    | false => exact iteT (iteT (hno (fun z => by rw [hR] at z; cases z) _ sm1))
    | true =>
      refine iteF ?_
      obtain ⟨x, y, rfl⟩ := isRow2_iff.mp hR
      cases hd with
      | tup hs ha =>
        cases ha with
        | cons hx ha =>
          cases ha with
          | cons hy ha =>
            cases ha
            rename_i tv v1 v2
            obtain ⟨ox, oy⟩ : Od 8 x ∧ Od 8 y := by
              cases od with
              | tup h _ => exact ⟨h x (by simp), h y (by simp)⟩
            refine ⟨_, rfl, _, rfl, _, rfl, tv, _, 0, v1, rfl, rfl, sqT_mono sm1 hs, rfl, a, A, m, v1, x, rfl, sqT_mono sm1 hA, hlen, dp_mono sm1 hx, ox.up, fun b1 H2 sm2 hb1 => ⟨_, rfl, ?_⟩⟩
            have sm3 := same_tr sm1 sm2
            cases b1 with
            | false =>
              refine iteT (iteT (hno (fun _ ⟨L, Ts, e, h1, h2, _⟩ => ?_) _ sm3))
              injection e with e
              injection e with e1 e2
              exact nomatch hb1.mpr ⟨L, e1, h1, h2⟩
            | true =>
              refine iteF ?_
              obtain ⟨L, rfl, asc, kept⟩ := hb1.mp rfl
              refine ⟨_, rfl, tv, _, 1, v2, rfl, rfl, sqT_mono sm3 hs, rfl, _, rfl, a, _, rfl, .inr (sqT_mono sm3 hA), v2, y, A.length, by rw [List.length_map]; rfl, dp_mono sm3 hy, fun ds e => ?_, fun b2 H3 sm4 hb2 => ⟨_, rfl, ?_⟩⟩
              · subst e
                cases oy with
                | tup _ h => omega
              have sm5 := same_tr sm3 sm4
              cases b2 with
              | false =>
                refine iteT (hno (fun _ ⟨L', Ts, e, h1, h2, h3, h4, _⟩ => ?_) _ sm5)
                injection e with e
                injection e with e1 e2
                injection e2 with e2
                exact nomatch hb2.mpr ⟨Ts, e2, h3, h4⟩
              | true =>
                refine iteF ?_
                obtain ⟨Ts, rfl, h3, h4⟩ := hb2.mp rfl
                obtain ⟨t1, xs1, rfl, hs1, l1⟩ := dp_len (dp_mono sm5 hx)
                obtain ⟨t2, rfl, hs2⟩ := dp_times (dp_mono sm5 hy)
                have lt : Ts.length ≤ 1000 := by
                  cases oy with
                  | tup _ h => rwa [List.length_map] at h
                refine ⟨_, rfl, tv, _, 0, _, rfl, rfl, sqT_mono sm5 hs, rfl, t1, xs1, rfl, .inr hs1, _, rfl, _, rfl, _, rfl, tv, _, 1, _, rfl, rfl, sqT_mono sm5 hs, rfl, a, t2, A, m, Ts, rfl, sqT_mono sm5 hA, hlen, hm, hm2, hs2, by omega, fun H4 sm6 => ⟨rfl, q _ H4 (same_tr sm5 sm6) ?_⟩⟩
                rw [l1, List.length_map, decide_eq_true_eq]
                constructor
                · intro e
                  injection e with e
                  exact ⟨L, Ts, rfl, asc, kept, h3, h4, by omega⟩
                · rintro ⟨L', Ts', e, _, _, _, _, e2⟩
                  injection e with e
                  injection e with e1 e3
                  injection e3 with e3
                  obtain rfl := pairsD_inj e1
                  have e4 : timesD Ts = timesD Ts' := e3
                  have : Ts = Ts' := timesD_inj e4
                  subst this
                  rw [e2]
end
end Fw
end
section
set_option Elab.async false
set_option linter.all false
set_option maxRecDepth 100000
set_option maxHeartbeats 4000000
namespace Fw
open PySem PySem.Spec PyProof.Rows L2 Fr Fm
/-! ### the law's stretches -/
/-- the times behind i at which the same is asked, among the first j behind it -/
def lat (A : List Int) (i j : Nat) : List Nat := ((List.range j).map fun u => i + 1 + u).filter fun t => decide (A[t]? = A[i]?)
theorem lat_head (A : List Int) {i : Nat} (hi : i < A.length) : (lat A i (A.length - (i + 1))).take 1 = (nxt A i).toList := by
  have h : (lat A i (A.length - (i + 1))).head? = nxt A i := by
    unfold lat
    rw [List.head?_filter]
    cases e : nxt A i with
    | none =>
      rw [List.find?_eq_none]
      intro t ht z
      obtain ⟨u, hu, rfl⟩ := List.mem_map.mp ht
      have := List.mem_range.mp hu
      simp only [decide_eq_true_eq] at z
      unfold nxt at e
      rw [List.find?_eq_none] at e
      have := e (i + 1 + u) (List.mem_range.mpr (by omega))
      simp only [Bool.and_eq_true, decide_eq_true_eq, not_and] at this
      exact this (by omega) z
    | some j =>
      have st := nxt_some.mp e
      rw [List.find?_map, Option.map_eq_some_iff]
      refine ⟨j - (i + 1), ?_, by have := st.1; omega⟩
      rw [List.find?_range_eq_some]
      have h1 := st.1
      have h2 := st.2.1
      refine ⟨?_, List.mem_range.mpr (by omega), fun k hk => ?_⟩
      · show decide (A[i + 1 + (j - (i + 1))]? = A[i]?) = true
        rw [show i + 1 + (j - (i + 1)) = j by omega]
        exact decide_eq_true st.2.2.1
      · show (!decide (A[i + 1 + k]? = A[i]?)) = true
        rw [decide_eq_false (st.2.2.2 (i + 1 + k) (by omega) (by omega))]
        rfl
  cases l : lat A i (A.length - (i + 1)) with
  | nil =>
    rw [l] at h
    rw [← h]
    rfl
  | cons x r =>
    rw [l] at h
    rw [← h]
    rfl
theorem lat_snoc (A : List Int) (i j : Nat) : lat A i (j + 1) = lat A i j ++ if A[i + 1 + j]? = A[i]? then [i + 1 + j] else [] := by
  unfold lat
  rw [List.range_succ, List.map_append, List.filter_append, List.map_singleton, List.filter_cons]
  by_cases c : A[i + 1 + j]? = A[i]?
  · rw [if_pos (decide_eq_true c), if_pos c]
    rfl
  · rw [if_neg (fun z => c (of_decide_eq_true z)), if_neg c]
    rfl
theorem lat_len (A : List Int) (i j : Nat) : (lat A i j).length ≤ j := by
  unfold lat
  refine Nat.le_trans (List.length_filter_le _ _) ?_
  rw [List.length_map, List.length_range]
  exact Nat.le_refl _
/-- the stretches that begin ahead of i -/
def strU (A : List Int) (i : Nat) : List Pr := (List.range i).filterMap fun i => (nxt A i).map fun j => (i, j)
theorem strU_snoc (A : List Int) (i : Nat) : strU A (i + 1) = strU A i ++ (nxt A i).toList.map fun j => (i, j) := by
  unfold strU
  rw [List.range_succ, List.filterMap_append]
  congr 1
  rw [List.filterMap_cons]
  cases nxt A i <;> rfl
theorem strU_len (A : List Int) (i : Nat) : (strU A i).length ≤ i := by
  unfold strU
  refine Nat.le_trans (List.length_filterMap_le _ _) ?_
  rw [List.length_range]
  exact Nat.le_refl _
theorem cut_one (xs : List V) : cutV xs none (some 1) = xs.take 1 := by
  unfold cutV HT.sIx
  cases xs with
  | nil => simp
  | cons x r => simp
theorem Prs.app : ∀ {H : Hp} {ts us : List Addr} {ps qs : List PI2}, Prs H ts ps → Prs H us qs → Prs H (ts ++ us) (ps ++ qs)
  | _, _, _, _, _, .nil, h => h
  | _, _, _, _, _, .cons r q, h => .cons r (Prs.app q h)
section
variable {P : Program} {w : World} {K : PySem.W.Frag} {mg : Str → Option Value} {base : Heap}
def sp_law_stretches (K : PySem.W.Frag) : Sp := fun vs H Q _ => ∃ (a : Addr) (A : List Int), vs = [.ref a] ∧ SqT K H a (A.map V.int) ∧ A.length ≤ 1000 ∧
  ∀ p ts H', Same H H' → H' p = some (.lst (ts.map V.ref)) → Prs H' ts ((strl A).map toI) → Q (.ref p) H'
theorem ok_law_stretches {f : Addr} {fd : FuncData} {k : Nat} (F : Fun K "_law_stretches" "_law_stretches" s_law_stretches f fd) (T : Nm mg) : FnOk P w K mg base CX0 (k + 1) f fd ["_law_asks_here"] (sp_law_stretches K) := by
  refine F.ok sc_law_stretches (fun vs H Q E h => ?_) (fun cdv A' outer s H vs Q E hr h => ?_)
  · obtain ⟨a, A, rfl, _⟩ := h
    rfl
  · obtain ⟨a, A, rfl, hA, hlen, q⟩ := h
    have nd := sc_law_stretches.nd
    refine ⟨_, pss_cons (ps_asg (pe_lst pa_nil) (pg_name (i := 1) nd rfl (.inl rfl)))
      (pss_cons (ps_for PassesOwn.never rfl (pi_range1 (by rfl) T.range (pa_cons (pe_callB call_len_seq (by rfl) T.len PySem.boot_len (pa_cons (pv 0) pa_nil)) pa_nil)) (pg_name (i := 2) nd rfl (.inr rfl))
        (pss_cons (ps_setLc (i := 3) (own := [("_law_time", 4)]) (g := gName 4) (tt := tTest (tOp rEq (tOp (rIxT K) (tVar 0) (tVar 4)) (tOp (rIxT K) (tVar 0) (tVar 2)))) rfl nd rfl rfl (sw_true rfl rfl rfl (by decide +kernel))
          (pi_range2 (by rfl) T.range (pa_cons (pe_op op_add (pv 2) pe_int) (pa_cons (pe_callB call_len_seq (by rfl) T.len PySem.boot_len (pa_cons (pv 0) pa_nil)) pa_nil)))
          (blkOk_by (N := ["_law_asks_here", "_law_found", "_law_first", "_law_later", "_law_time"]) (sc := defScope s_law_stretches) (by decide +kernel)) (fun _ _ _ _ _ => pg_name (i := 4) nd rfl (.inl rfl))
          (fun _ _ _ _ _ => pts_one (pt_cmpR op_eq (pe_ix (r := rIxT K) ix_tup (pv 0) (pv 4) (fun _ _ => rfl)) (pe_ix (r := rIxT K) ix_tup (pv 0) (pv 2) (fun _ _ => rfl)) (nomark _)))
          (fun _ _ _ _ _ => pv 4))
        (pss_one (ps_asg (pe_op op_cat (pv 1) (pe_lc (own := [("_law_time", 4)]) (g := gName 4) (tt := tYes) rfl nd (pi_list (pe_slice sl_list (pv 3) po_none (po_some pe_int)))
          (blkOk_by (N := ["_law_asks_here", "_law_found", "_law_first", "_law_later", "_law_time"]) (sc := defScope s_law_stretches) (by decide +kernel)) (fun _ _ _ _ _ => pg_name (i := 4) nd rfl (.inl rfl))
          (fun _ _ _ _ _ => pts_nil) (fun _ _ _ _ _ => pe_tup (pa_cons (pv 2) (pa_cons (pv 4) pa_nil))))) (pg_name (i := 1) nd rfl (.inl rfl))))))
      (pss_one (ps_ret (pv 1)))), ?_⟩
    refine ⟨Nat.zero_le _, fun l0 n0 => ?_⟩
    have sm0 : Same H (upd H l0 (.lst [])) := same_new n0
    have len : (A.map V.int).length = A.length := List.length_map _
    refine ⟨_, rfl, a, _, rfl, .inr (sqT_mono sm0 hA), _, rfl, by omega, by omega, for_range (lo := 0) (n := ((A.map V.int).length : Int).toNat) (fun i σ H1 => ∃ l ts y2 y3 y4, σ = [some (.ref a), some (.ref l), y2, y3, y4] ∧ Same H H1 ∧ H1 l = some (.lst (ts.map V.ref)) ∧ Prs H1 ts ((strU A i).map toI))
      ⟨l0, [], none, none, none, rfl, sm0, upd_same, .nil⟩ (fun i σ H1 hi hP => ?_) (fun σ H1 hP => ?_)⟩
    · obtain ⟨l, ts, y2, y3, y4, rfl, sm, hl, pr⟩ := hP
      have hi' : i < A.length := by omega
      have hA1 := sqT_mono sm hA
      refine ⟨_, rfl, _, _, rfl, rfl, _, rfl, a, _, rfl, .inr hA1, _, _, rfl, by omega, fun D nD => lc_range (lo := (0 + (i : Int) + 1)) (n := (((A.map V.int).length : Int) - (0 + (i : Int) + 1)).toNat) (fun j H2 => Same H1 H2 ∧ H2 D = some (.lst (timesV (lat A i j))))
        ⟨same_new nD, upd_same⟩ (fun j H2 hj hP => ?_) (fun H2 hP => ?_)⟩
      · obtain ⟨sm2, hD⟩ := hP
        have hij : i + 1 + j < A.length := by omega
        have at_ : ∀ u, u < A.length → ∃ z, A[u]? = some z ∧ (A.map V.int)[u]? = some (.int z) := fun u hu => by
          have e : A[u]? = some A[u] := List.getElem?_eq_getElem hu
          exact ⟨_, e, by rw [List.getElem?_map, e]; rfl⟩
        obtain ⟨z1, g1, g2⟩ := at_ (i + 1 + j) hij
        obtain ⟨z2, g3, g4⟩ := at_ i hi'
        have hA2 := sqT_mono (same_tr sm sm2) hA
        have ll := lat_len A i j
        refine ⟨rfl, _, rfl, _, rfl, a, _, _, _, rfl, rfl, hA2, atI_eq (j := i + 1 + j) (by omega) g2, _, rfl, _, rfl, a, _, _, _, rfl, rfl, hA2, atI_eq (j := i) (by omega) g4, rfl, _, rfl, ?_⟩
        by_cases c : z1 = z2
        · rw [decide_eq_true (by rw [c])]
          refine iteT ⟨_, rfl, _, hD, ?_, same_chg nD sm2, ?_⟩
          · rw [List.length_map]
            exact small_line (by omega)
          · rw [upd_same, lat_snoc, g1, g3, if_pos (by rw [c])]
            show _ = some (HO.lst (List.map _ (_ ++ [i + 1 + j])))
            rw [List.map_append]
            congr 3
            rw [show (0 + (i : Int) + 1 + (j : Int)) = ((i + 1 + j : Nat) : Int) by omega]
            rfl
        · rw [decide_eq_false (fun z => c (V.int.inj z))]
          refine iteF ⟨sm2, ?_⟩
          rw [hD, lat_snoc, g1, g3, if_neg (fun z => c (Option.some.inj z)), List.append_nil]
      · obtain ⟨sm2, hD⟩ := hP
        have e : (((A.map V.int).length : Int) - (0 + (i : Int) + 1)).toNat = A.length - (i + 1) := by omega
        rw [e] at hD
        have sm3 := same_tr sm sm2
        refine ⟨_, rfl, _, rfl, _, rfl, D, _, rfl, SqL.of hD, fun p np => ?_⟩
        have ec : cutV (timesV (lat A i (A.length - (i + 1)))) none (some 1) = timesV (nxt A i).toList := by
          rw [← lat_head A hi']
          rw [cut_one]
          exact (List.map_take ..).symm
        rw [ec]
        generalize el : (nxt A i).toList = l1
        have smp : Same H (upd H2 p (.lst (timesV l1))) := same_tr sm3 (same_new np)
        have hl4 : (upd H2 p (.lst (timesV l1))) l = some (.lst (ts.map V.ref)) := same_new np _ _ (sm2 _ _ hl)
        have pr4 : Prs (upd H2 p (.lst (timesV l1))) ts ((strU A i).map toI) := prs_new (pr.mono fun b xs e => sm2 _ _ e) np
        have hp4 : (upd H2 p (.lst (timesV l1))) p = some (.lst (timesV l1)) := upd_same
        have ll : l1.length ≤ 1 := by
          rw [← el]
          cases nxt A i <;> simp
        generalize upd H2 p (.lst (timesV l1)) = H4 at smp hl4 pr4 hp4
        refine ⟨p, rfl, ⟨_, SqL.of hp4⟩, fun D2 nD2 => lc_list (K := K) (a := p) (xs := timesV l1) (fun j H3 => Same H4 H3 ∧ ∃ us : List Addr, H3 D2 = some (.lst (us.map V.ref)) ∧ Prs H3 us ((l1.take j).map fun t => toI (i, t)))
          ⟨same_new nD2, [], upd_same, .nil⟩ (fun j H3 _ hP => SqL.of (hP.1 _ _ hp4)) (fun j x H3 hj hP => ?_) (fun H3 hP => ?_)⟩
        · obtain ⟨sm5, us, hD2, pu⟩ := hP
          rw [List.getElem?_map] at hj
          cases ht : l1[j]? with
          | none => rw [ht] at hj; cases hj
          | some t =>
            rw [ht] at hj
            obtain rfl : V.int (t : Int) = x := Option.some.inj hj
            have jl := (List.getElem?_eq_some_iff.mp ht).1
            refine ⟨rfl, _, rfl, _, rfl, by show 2 ≤ sizeLine; decide, fun t2 nt2 => ?_⟩
            have hD3 : (upd H3 t2 (.tup [.int (0 + (i : Int)), .int (t : Int)])) D2 = some (.lst (us.map V.ref)) := same_new nt2 _ _ hD2
            have ul := prs_len pu
            rw [List.length_map, List.length_take] at ul
            refine ⟨_, hD3, by rw [List.length_map]; exact small_line (by omega), same_chg nD2 (same_tr sm5 (same_new nt2)), us ++ [t2], by rw [upd_same, List.map_append]; rfl, ?_⟩
            rw [take_snoc ht]
            have e0 : (0 + (i : Int)) = (i : Int) := by omega
            exact prs_chg (Prs.snoc (prs_new pu nt2) (by rw [upd_same, e0])) hD3 (fun xs z => nomatch z)
        · obtain ⟨sm5, us, hD2, pu⟩ := hP
          rw [List.length_map, List.take_length] at pu
          have ul := prs_len pu
          rw [List.length_map] at ul
          have tl := prs_len pr
          have sl := strU_len A i
          rw [List.length_map] at tl
          refine ⟨l, D2, _, _, rfl, rfl, sm5 _ _ hl4, hD2, ?_, fun l' nl' => ?_⟩
          · have := sizeLine_eq
            rw [List.length_map, List.length_map]
            omega
          · refine ⟨l', ts ++ us, _, _, _, rfl, same_tr (same_tr smp sm5) (same_new nl'), by rw [upd_same, List.map_append], ?_⟩
            rw [strU_snoc, List.map_append, el, List.map_map]
            exact prs_new (Prs.app (pr4.mono fun b xs e => sm5 _ _ e) pu) nl'
    · obtain ⟨l, ts, y2, y3, y4, rfl, sm, hl, pr⟩ := hP
      have e : ((A.map V.int).length : Int).toNat = A.length := by omega
      rw [e] at pr
      exact ⟨_, rfl, q l ts H1 sm hl pr⟩
end
end Fw
end
section
set_option Elab.async false
set_option linter.all false
set_option maxRecDepth 100000
set_option maxHeartbeats 4000000
namespace Fw
open PySem PySem.Spec PyProof.Rows L2 Fr Fm
theorem eqv_nil (ds : List PyData) : PyData.eqv (.list ds) (.list []) = ds.isEmpty := by cases ds <;> rfl
theorem len_lot {L : List Pr} (j : Nat) (p : Pr → Bool) : ((L.take j).countP p) ≤ j := by
  refine Nat.le_trans List.countP_le_length ?_
  rw [List.length_take]
  omega
theorem take_count {α : Type} {L : List α} {p : α → Bool} {j : Nat} {x : α} (h : L[j]? = some x) : (L.take (j + 1)).countP p = (L.take j).countP p + if p x = true then 1 else 0 := by
  rw [List.take_add_one, h, List.countP_append]
  rw [Option.toList_some, List.countP_singleton]
theorem take_filter {α : Type} {L : List α} {p : α → Bool} {j : Nat} {x : α} (h : L[j]? = some x) : (L.take (j + 1)).filter p = (L.take j).filter p ++ if p x = true then [x] else [] := by
  rw [List.take_add_one, h, List.filter_append, Option.toList_some, List.filter_cons]
  rfl
abbrev tLtC (K : PySem.W.Frag) (one time : Nat) : TT := tTest (tChain (rI0 fun i j => .bl (decide (i < j))) (rI0 fun i j => .bl (decide (i < j))) (tOp (rIxT K) (tVar one) (tC (.int 0))) (tVar time) (tOp (rIxT K) (tVar one) (tC (.int 1))))
section
variable {P : Program} {w : World} {K : PySem.W.Frag} {mg : Str → Option Value} {base : Heap}
def sp_law_fits (K : PySem.W.Frag) : Sp := fun vs H Q _ => ∃ (a : Addr) (A : List Int) (m : Nat) (v : V) (L : List Pr), vs = [.ref a, .int m, v] ∧ SqT K H a (A.map V.int) ∧ A.length ≤ 1000 ∧ Dp K H v (pairsD L) ∧ L.length ≤ 1000 ∧
  ∀ b H', Same H H' → (b = true ↔ ∀ u, u < A.length → L.countP (over u) < m) → Q (.bl b) H'
theorem ok_law_fits {f : Addr} {fd : FuncData} {k : Nat} (F : Fun K "_law_fits" "_law_fits" s_law_fits f fd) (T : Nm mg) : FnOk P w K mg base CX0 (k + 1) f fd ["_law_asks_here", "_law_m", "_law_lot"] (sp_law_fits K) := by
  refine F.ok sc_law_fits (fun vs H Q E h => ?_) (fun cdv A' outer s H vs Q E hr h => ?_)
  · obtain ⟨a, A, m, v, L, rfl, _⟩ := h
    rfl
  · obtain ⟨a, A, m, v, L, rfl, hA, hlen, hv, hl, q⟩ := h
    have nd := sc_law_fits.nd
    obtain ⟨tv, xs, rfl, hxs, xl, hall⟩ := dp_pairs hv
    refine ⟨_, pss_cons (ps_for PassesOwn.never rfl (pi_range1 (by rfl) T.range (pa_cons (pe_callB call_len_seq (by rfl) T.len PySem.boot_len (pa_cons (pv 0) pa_nil)) pa_nil)) (pg_name (i := 3) nd rfl (.inr rfl))
        (pss_one (ps_if (pt_cmpR op_ge (pe_callB call_len_seq (by rfl) T.len PySem.boot_len (pa_cons (pe_lc (own := [("_law_one", 4)]) (wi := iTup K (tVar 2)) (g := gName 4) (tt := tLtC K 4 3) rfl nd (pi_tup (pv 2)) (blkOk_by (N := ["_law_asks_here", "_law_m", "_law_lot", "_law_time", "_law_one"]) (sc := defScope s_law_fits) (by decide +kernel))
          (fun _ _ _ _ _ => pg_name (i := 4) nd rfl (.inl rfl)) (fun _ _ _ _ _ => pts_one (pt_chain op_lt op_lt (pe_ix (r := rIxT K) ix_tup (pv 4) pe_int (fun _ _ => rfl)) (pv 3) (pe_ix (r := rIxT K) ix_tup (pv 4) pe_int (fun _ _ => rfl)))) (fun _ _ _ _ _ => pv 4)) pa_nil)) (pv 1) (nomark _))
          (pss_one (ps_ret pe_bl)) pss_nil)))
      (pss_one (ps_ret pe_bl)), ?_⟩
    have len : (A.map V.int).length = A.length := List.length_map _
    refine ⟨_, rfl, a, _, rfl, .inr hA, _, rfl, by omega, by omega, for_range (lo := 0) (n := ((A.map V.int).length : Int).toNat) (fun i σ H1 => (∃ y3 y4, σ = [some (.ref a), some (.int m), some (.ref tv), y3, y4]) ∧ Same H H1 ∧ ∀ u, u < i → L.countP (over u) < m)
      ⟨⟨none, none, rfl⟩, same_refl H, fun u hu => absurd hu (Nat.not_lt_zero _)⟩ (fun i σ H1 hi hP => ?_) (fun σ H1 hP => ?_)⟩
    · obtain ⟨⟨y3, y4, rfl⟩, sm, hc⟩ := hP
      refine ⟨_, rfl, tv, rfl, ⟨_, sqT_mono sm hxs⟩, fun D nD => lc_tup (K := K) (a := tv) (xs := xs) (fun j H2 => Same H1 H2 ∧ ∃ us : List V, H2 D = some (.lst us) ∧ us.length = (L.take j).countP (over i))
        ⟨same_new nD, [], upd_same, rfl⟩ (fun j H2 _ hP => sqT_mono (same_tr sm hP.1) hxs) (fun j x H2 hj hP => ?_) (fun H2 hP => ?_)⟩
      · obtain ⟨sm2, us, hD, hus⟩ := hP
        obtain ⟨q1, t, eq, rfl, ht⟩ := dp_get hall hj
        have ht2 := sqT_mono (same_tr sm sm2) ht
        have jl := (List.getElem?_eq_some_iff.mp eq).1
        have hcl := len_lot (L := L) j (over i)
        have tc := take_count (p := over i) eq
        have fin : ∀ b : Bool, b = over i q1 → if b = true then tVar 4 [some (.ref a), some (.int m), some (.ref tv), some (.int (0 + (i : Int))), some (.ref t)] H2 (fun y H4 => ∃ acc, H4 D = some (.lst acc) ∧ acc.length < sizeLine ∧ (Same H1 (upd H4 D (.lst (acc ++ [y]))) ∧ ∃ us : List V, (upd H4 D (.lst (acc ++ [y]))) D = some (.lst us) ∧ us.length = (L.take (j + 1)).countP (over i))) else
            (Same H1 H2 ∧ ∃ us : List V, H2 D = some (.lst us) ∧ us.length = (L.take (j + 1)).countP (over i)) := fun b eb => by
          cases b with
          | true =>
            rw [← eb, if_pos rfl] at tc
            exact iteT ⟨_, rfl, us, hD, small_line (by omega), same_chg nD sm2, _, upd_same, by rw [List.length_append, hus, tc]; rfl⟩
          | false =>
            rw [← eb, if_neg Bool.false_ne_true] at tc
            exact iteF ⟨sm2, us, hD, by rw [hus, tc]; rfl⟩
        have o1 := over_int i q1
        refine ⟨rfl, _, rfl, t, _, 0, _, rfl, rfl, ht2, rfl, _, rfl, _, _, rfl, rfl, _, rfl, ite2 (fun c => ?_) (fun c => ?_)⟩
        · have c' := of_decide_eq_true c
          refine ⟨_, rfl, t, _, 1, _, rfl, rfl, ht2, rfl, _, _, rfl, rfl, _, rfl, fin _ ?_⟩
          rw [← o1]
          have e0 : (0 + (i : Int)) = (i : Int) := by omega
          rw [e0] at c' ⊢
          rw [decide_eq_true c', Bool.true_and]
        · refine ⟨_, rfl, fin false ?_⟩
          rw [← o1]
          have e0 : (0 + (i : Int)) = (i : Int) := by omega
          have c' : ¬ (q1.1 : Int) < (i : Int) := fun z => c (decide_eq_true (by rw [e0]; exact z))
          rw [decide_eq_false c', Bool.false_and]
      · obtain ⟨sm2, us, hD, hus⟩ := hP
        rw [xl, List.take_length] at hus
        refine ⟨D, us, rfl, .inl (SqL.of hD), _, rfl, _, _, rfl, rfl, _, rfl, ite2 (fun c => ?_) (fun c => ?_)⟩
        · have c' := of_decide_eq_true c
          refine q false H2 (same_tr sm sm2) ⟨fun z => (nomatch z), fun z => ?_⟩
          have := z i (by omega)
          omega
        · have c' : ¬ (m : Int) ≤ (us.length : Int) := fun z => c (decide_eq_true z)
          refine ⟨⟨_, _, rfl⟩, same_tr sm sm2, fun u hu => ?_⟩
          by_cases e : u = i
          · subst e
            omega
          · exact hc u (by omega)
    · obtain ⟨⟨y3, y4, rfl⟩, sm, hc⟩ := hP
      exact q true H1 sm ⟨fun _ u hu => hc u (by omega), fun _ => rfl⟩
end
end Fw
end
section
set_option Elab.async false
set_option linter.all false
set_option maxRecDepth 100000
set_option maxHeartbeats 4000000
namespace Fw
open PySem PySem.Spec PyProof.Rows L2 Fr Fm
theorem ints_dp {K : PySem.W.Frag} {H : Hp} : ∀ (Ts : List Nat), DpAll K H (timesV Ts) (Ts.map fun t : Nat => PyData.int (t : Int))
  | [] => .nil
  | u :: Ts => .cons (.int _) (ints_dp Ts)
theorem Od.ints {Ts : List Nat} (h : Ts.length ≤ 1000) (k : Nat) : Od (k + 1) (.list (Ts.map fun t : Nat => PyData.int (t : Int))) := .lst (fun d hd => by
  obtain ⟨q, _, rfl⟩ := List.mem_map.mp hd
  exact .int _) (by rw [List.length_map]; exact h)
theorem filter_none {Ts : List Nat} {q : Pr} : ((Ts.filter fun u => over u q).map fun t : Nat => PyData.int (t : Int)).isEmpty = !crossed Ts q := by
  unfold crossed
  rw [List.isEmpty_map]
  cases e : Ts.filter fun u => over u q with
  | nil =>
    have h : (Ts.any fun u => over u q) = false := by
      rw [← Bool.not_eq_true, List.any_eq_true]
      rintro ⟨u, hu, z⟩
      have : u ∈ Ts.filter fun u => over u q := List.mem_filter.mpr ⟨hu, z⟩
      rw [e] at this
      cases this
    rw [h]
    rfl
  | cons x r =>
    have hx : x ∈ Ts.filter fun u => over u q := by
      rw [e]
      exact List.mem_cons_self
    obtain ⟨h1, h2⟩ := List.mem_filter.mp hx
    have h : (Ts.any fun u => over u q) = true := List.any_eq_true.mpr ⟨x, h1, h2⟩
    rw [h]
    rfl
section
variable {P : Program} {w : World} {K : PySem.W.Frag} {mg : Str → Option Value} {base : Heap}
def sp_law_bound (K : PySem.W.Frag) : Sp := fun vs H Q _ => ∃ (a t : Addr) (A : List Int) (m : Nat) (Ts : List Nat), vs = [.ref a, .int m, .ref t] ∧ SqT K H a (A.map V.int) ∧ A.length ≤ 1000 ∧ 1 ≤ m ∧ m ≤ 1000 ∧ SqT K H t (timesV Ts) ∧ Ts.length ≤ 1000 ∧
  ∀ H', Same H H' → Q (.int (bnd A m Ts : Nat)) H'
theorem ok_law_bound {f f1 : Addr} {fd fd1 : FuncData} {k : Nat} (F : Fun K "_law_bound" "_law_bound" s_law_bound f fd) (T : Nm mg) (G1 : FnOk P w K mg base CX0 k f1 fd1 ["_law_asks_here"] (sp_law_stretches K)) (D1 : Dn K mg "_law_stretches" f1 fd1 ["_law_asks_here"]) :
    FnOk P w K mg base CX0 (k + 1) f fd ["_law_asks_here", "_law_m", "_law_times_here"] (sp_law_bound K) := by
  refine F.ok sc_law_bound (fun vs H Q E h => ?_) (fun cdv A' outer s H vs Q E hr h => ?_)
  · obtain ⟨a, t, A, m, Ts, rfl, _⟩ := h
    rfl
  · obtain ⟨a, t, A, m, Ts, rfl, hA, hlen, hm, hm2, hT, hTl, q⟩ := h
    have nd := sc_law_bound.nd
    refine ⟨_, pss_cons (ps_setLc (i := 3) (own := [("_law_one", 4)]) (g := gName 4) (tt := tTest (tOp (rEqD K) (tLc (iTup K (tVar 2)) (gName 5) (tLtC K 4 5) (tVar 5) [5]) (tLst tNil))) rfl nd rfl rfl (sw_true rfl rfl rfl (by decide +kernel))
        (pi_list (pe_call G1 hr (by rfl) D1.g D1.kp D1.b .nil pass0 (pa_cons (pv 0) pa_nil))) (blkOk_by (N := ["_law_asks_here", "_law_m", "_law_times_here", "_law_free", "_law_one", "_law_time"]) (sc := defScope s_law_bound) (by decide +kernel)) (fun _ _ _ _ _ => pg_name (i := 4) nd rfl (.inr rfl))
        (fun _ _ _ _ _ => pts_one (pt_cmpR (r := rEqD K) (op_eqD hr.units) (pe_lc (own := [("_law_time", 5)]) (wi := iTup K (tVar 2)) (g := gName 5) (tt := tLtC K 4 5) rfl nd (pi_tup (pv 2))
          (blkOk_by (N := ["_law_asks_here", "_law_m", "_law_times_here", "_law_free", "_law_one", "_law_time"]) (sc := relS (asgScope (bodyAt s_law_bound 0)) (defScope s_law_bound)) (by decide +kernel)) (fun _ _ _ _ _ => pg_name (i := 5) nd rfl (.inl rfl))
          (fun _ _ _ _ _ => pts_one (pt_chain op_lt op_lt (pe_ix (r := rIxT K) ix_tup (pv 4) pe_int (fun _ _ => rfl)) (pv 5) (pe_ix (r := rIxT K) ix_tup (pv 4) pe_int (fun _ _ => rfl))))
          (fun _ _ _ _ _ => pv 5)) (pe_lst pa_nil) (nomark _)))
        (fun _ _ _ _ _ => pv 4))
      (pss_one (ps_ret (pe_op op_add (pe_op op_mul (pe_op op_sub (pv 1) pe_int) (pe_callB call_len_seq (by rfl) T.len PySem.boot_len (pa_cons (pv 2) pa_nil))) (pe_callB call_len_seq (by rfl) T.len PySem.boot_len (pa_cons (pv 3) pa_nil))))), ?_⟩
    refine ⟨.ref a, rfl, a, A, rfl, hA, hlen, fun p ts H1 sm1 hp0 pr0 => ?_⟩
    have tl : ts.length = (strl A).length := by
      have := prs_len pr0
      rw [List.length_map] at this
      exact this
    have sl : (strl A).length ≤ 1000 := by
      rw [(fnd_perm A).length_eq]
      have := fnd_len (A := A) A.length
      omega
    refine ⟨p, rfl, ⟨_, SqL.of hp0⟩, fun D nD => lc_list (K := K) (a := p) (xs := ts.map V.ref) (fun i H2 => Same H1 H2 ∧ ∃ us : List V, H2 D = some (.lst us) ∧ us.length = ((strl A).take i).countP fun q => !crossed Ts q)
      ⟨same_new nD, [], upd_same, rfl⟩ (fun i H2 _ hP => SqL.of (hP.1 _ _ hp0)) (fun i x H2 hi hP => ?_) (fun H2 hP => ?_)⟩
    · obtain ⟨sm2, us, hD, hus⟩ := hP
      rw [List.getElem?_map] at hi
      cases ht : ts[i]? with
      | none => rw [ht] at hi; cases hi
      | some t1 =>
        rw [ht] at hi
        obtain rfl : V.ref t1 = x := Option.some.inj hi
        obtain ⟨q0, e0, htq⟩ := Prs.get pr0 ht
        rw [List.getElem?_map] at e0
        cases eq : (strl A)[i]? with
        | none => rw [eq] at e0; cases e0
        | some q1 =>
          rw [eq] at e0
          obtain rfl : toI q1 = q0 := Option.some.inj e0
          have il := (List.getElem?_eq_some_iff.mp eq).1
          have smT : Same H H2 := same_tr sm1 sm2
          have tc := take_count (p := fun q => !crossed Ts q) eq
          refine ⟨rfl, _, rfl, t, rfl, ⟨_, sqT_mono smT hT⟩, fun D2 nD2 => lc_tup (K := K) (a := t) (xs := timesV Ts) (fun j H3 => Same H2 H3 ∧ H3 D2 = some (.lst (timesV ((Ts.take j).filter fun u => over u q1))))
            ⟨same_new nD2, upd_same⟩ (fun j H3 _ hP => sqT_mono (same_tr smT hP.1) hT) (fun j y H3 hj hP => ?_) (fun H3 hP => ?_)⟩
          · obtain ⟨sm3, hD2⟩ := hP
            rw [List.getElem?_map] at hj
            cases hu : Ts[j]? with
            | none => rw [hu] at hj; cases hj
            | some u =>
              rw [hu] at hj
              obtain rfl : V.int (u : Int) = y := Option.some.inj hj
              have jl := (List.getElem?_eq_some_iff.mp hu).1
              have ht3 := SqT.of (K := K) (same_tr sm2 sm3 _ _ htq)
              have tf := take_filter (p := fun u => over u q1) hu
              have fl : ((Ts.take j).filter fun u => over u q1).length ≤ j := by
                refine Nat.le_trans (List.length_filter_le _ _) ?_
                rw [List.length_take]
                omega
              have fin : ∀ b : Bool, b = over u q1 → if b = true then tVar 5 ((wipe [some (.ref a), some (.int m), some (.ref t), none, some (.ref t1), none] [5]).set 5 (some (.int (u : Int)))) H3 (fun y H4 => ∃ acc, H4 D2 = some (.lst acc) ∧ acc.length < sizeLine ∧ (Same H2 (upd H4 D2 (.lst (acc ++ [y]))) ∧ (upd H4 D2 (.lst (acc ++ [y]))) D2 = some (.lst (timesV ((Ts.take (j + 1)).filter fun u => over u q1))))) else
                  (Same H2 H3 ∧ H3 D2 = some (.lst (timesV ((Ts.take (j + 1)).filter fun u => over u q1)))) := fun b eb => by
                cases b with
                | true =>
                  have eb' : over u q1 = true := eb.symm
                  rw [if_pos eb'] at tf
                  refine iteT ⟨_, rfl, _, hD2, ?_, same_chg nD2 sm3, ?_⟩
                  · rw [List.length_map]
                    exact small_line (by omega)
                  · rw [upd_same, tf]
                    show _ = some (HO.lst (List.map _ (_ ++ [u])))
                    rw [List.map_append]
                    rfl
                | false =>
                  have eb' : ¬ over u q1 = true := by rw [← eb]; exact Bool.false_ne_true
                  rw [if_neg eb', List.append_nil] at tf
                  exact iteF ⟨sm3, by rw [tf]; exact hD2⟩
              have o1 := over_int u q1
              refine ⟨rfl, _, rfl, t1, _, 0, _, rfl, rfl, ht3, rfl, .int (u : Int), rfl, _, _, rfl, rfl, _, rfl, ite2 (fun c => ?_) (fun c => ?_)⟩
              · have c' := of_decide_eq_true c
                refine ⟨_, rfl, t1, _, 1, _, rfl, rfl, ht3, rfl, _, _, rfl, rfl, _, rfl, fin _ ?_⟩
                rw [← o1, decide_eq_true c', Bool.true_and]
              · have c' : ¬ (q1.1 : Int) < (u : Int) := fun z => c (decide_eq_true z)
                refine ⟨_, rfl, fin false ?_⟩
                rw [← o1, decide_eq_false c', Bool.false_and]
          · obtain ⟨sm3, hD2⟩ := hP
            rw [List.length_map, List.take_length] at hD2
            have fl : (Ts.filter fun u => over u q1).length ≤ 1000 := Nat.le_trans (List.length_filter_le _ _) hTl
            refine ⟨Nat.zero_le _, fun l nl => ?_⟩
            have hD3 := same_new (o := .lst []) nl _ _ hD2
            refine ⟨_, _, .lst (SqL.of hD3) (ints_dp _), .lst (SqL.of upd_same) .nil, (Od.ints fl 0).shaped (by omega), rfl, _, rfl, ?_⟩
            rw [eqv_nil, filter_none]
            have sm4 : Same H1 (upd H3 l (.lst [])) := same_tr (same_tr sm2 sm3) (same_new nl)
            have hDD : (upd H3 l (.lst [])) D = some (.lst us) := same_new nl _ _ (sm3 _ _ hD)
            cases hc : crossed Ts q1 with
            | true =>
              rw [hc] at tc
              exact iteF ⟨sm4, us, hDD, by rw [hus, tc]; rfl⟩
            | false =>
              rw [hc] at tc
              refine iteT ⟨_, rfl, us, hDD, ?_, same_chg nD sm4, us ++ [.ref t1], upd_same, by rw [List.length_append, hus, tc]; rfl⟩
              have : us.length ≤ ((strl A).take i).length := by
                rw [hus]
                exact List.countP_le_length
              rw [List.length_take] at this
              exact small_line (by omega)
    · obtain ⟨sm2, us, hD, hus⟩ := hP
      rw [List.length_map, tl, List.take_length] at hus
      have hT2 := sqT_mono (same_tr sm1 sm2) hT
      refine ⟨_, rfl, _, _, rfl, rfl, _, rfl, t, _, rfl, .inr hT2, _, _, rfl, rfl, .inl ⟨by omega, by omega⟩, _, rfl, D, us, rfl, .inl (SqL.of hD), _, _, rfl, rfl, ?_⟩
      have e : ((bnd A m Ts : Nat) : Int) = ((m : Int) - 1) * ((timesV Ts).length : Int) + (us.length : Int) := by
        have e1 : ((m : Int) - 1) = ((m - 1 : Nat) : Int) := by omega
        rw [e1, hus, List.length_map]
        unfold bnd
        rw [← Int.natCast_mul, ← Int.natCast_add]
      show Q (V.int (((m : Int) - 1) * ((timesV Ts).length : Int) + (us.length : Int))) H2
      rw [← e]
      exact q H2 (same_tr sm1 sm2)
end
end Fw
end
section
set_option Elab.async false
set_option linter.all false
set_option maxRecDepth 100000
set_option maxHeartbeats 4000000
namespace Fw
open PySem PySem.Spec PyProof.Rows L2 Fr Fm
theorem dpAll_snoc {K : PySem.W.Frag} {H : Hp} : ∀ {vs : List V} {ds : List PyData} {v : V} {d : PyData}, DpAll K H vs ds → Dp K H v d → DpAll K H (vs ++ [v]) (ds ++ [d])
  | _, _, _, _, .nil, h => .cons h .nil
  | _, _, _, _, .cons h r, k => .cons h (dpAll_snoc r k)
theorem dpAll_app {K : PySem.W.Frag} {H : Hp} : ∀ {vs us : List V} {ds es : List PyData}, DpAll K H vs ds → DpAll K H us es → DpAll K H (vs ++ us) (ds ++ es)
  | _, _, _, _, .nil, h => h
  | _, _, _, _, .cons h r, k => .cons h (dpAll_app r k)
/-- a filtered list of data, under way -/
def FltI (K : PySem.W.Frag) (H1 : Hp) (D : Addr) (ds : List PyData) (p : PyData → Bool) (i : Nat) (H : Hp) : Prop := Same H1 H ∧ ∃ ys, H D = some (.lst ys) ∧ DpAll K H1 ys ((ds.take i).filter p)
theorem FltI.zero {K : PySem.W.Frag} {H1 : Hp} {D : Addr} (ds : List PyData) (p : PyData → Bool) (nD : H1 D = none) : FltI K H1 D ds p 0 (upd H1 D (.lst [])) := ⟨same_new nD, [], upd_same, .nil⟩
theorem FltI.keep {K : PySem.W.Frag} {H1 H : Hp} {D : Addr} {ds : List PyData} {p : PyData → Bool} {i : Nat} {x : V} {d : PyData} (nD : H1 D = none) (I : FltI K H1 D ds p i H) (e : ds[i]? = some d) (hp : p d = true) (hx : Dp K H1 x d) (l : ds.length ≤ 100000) :
    ∃ acc, H D = some (.lst acc) ∧ acc.length < sizeLine ∧ FltI K H1 D ds p (i + 1) (upd H D (.lst (acc ++ [x]))) := by
  obtain ⟨sm, ys, hD, hy⟩ := I
  have il := (List.getElem?_eq_some_iff.mp e).1
  refine ⟨ys, hD, ?_, same_chg nD sm, ys ++ [x], upd_same, ?_⟩
  · rw [dpAll_len hy]
    refine small_line (Nat.le_trans (List.length_filter_le _ _) ?_)
    rw [List.length_take]
    omega
  · rw [take_filter e, if_pos hp]
    exact dpAll_snoc hy hx
theorem FltI.skip {K : PySem.W.Frag} {H1 H : Hp} {D : Addr} {ds : List PyData} {p : PyData → Bool} {i : Nat} {d : PyData} (I : FltI K H1 D ds p i H) (e : ds[i]? = some d) (hp : p d = false) : FltI K H1 D ds p (i + 1) H := by
  obtain ⟨sm, ys, hD, hy⟩ := I
  refine ⟨sm, ys, hD, ?_⟩
  rw [take_filter e, hp, if_neg Bool.false_ne_true, List.append_nil]
  exact hy
theorem filter_empty {ds : List PyData} {p : PyData → Bool} : (ds.filter p).isEmpty = true ↔ ∀ d ∈ ds, p d = false := by
  rw [List.isEmpty_iff, List.filter_eq_nil_iff]
  simp
theorem Od.all {k : Nat} {ds : List PyData} (h : ∀ d ∈ ds, Od k d) (l : ds.length ≤ 1000) (p : PyData → Bool) : Od (k + 1) (.list (ds.filter p)) := .lst (fun d hd => h d (List.mem_filter.mp hd).1) (Nat.le_trans (List.length_filter_le _ _) l)
abbrev ipD (p : PI2) : PyData := .tuple [.int p.1, .int p.2]
theorem rows_of : ∀ {ds : List PyData}, (∀ d ∈ ds, isRow2 d = true) → ∃ rs : List (PyData × PyData), ds = rs.map fun r => .tuple [r.1, r.2]
  | [], _ => ⟨[], rfl⟩
  | d :: ds, h => by
    obtain ⟨rs, e⟩ := rows_of fun x hx => h x (List.mem_cons_of_mem _ hx)
    obtain ⟨x, y, e1⟩ := isRow2_iff.mp (h d List.mem_cons_self)
    exact ⟨(x, y) :: rs, by rw [e, e1]; rfl⟩
theorem ips_of : ∀ {rs : List (PyData × PyData)}, (∀ d ∈ rs.map (·.1) ++ rs.map (·.2), isInt d = true) → ∃ ps : List PI2, (rs.map fun r => PyData.tuple [r.1, r.2]) = ps.map ipD
  | [], _ => ⟨[], rfl⟩
  | (x, y) :: rs, h => by
    obtain ⟨ps, e⟩ := ips_of (rs := rs) fun d hd => by
      rcases List.mem_append.mp hd with z | z
      · exact h d (List.mem_append_left _ (List.mem_cons_of_mem _ z))
      · exact h d (List.mem_append_right _ (List.mem_cons_of_mem _ z))
    obtain ⟨i, rfl⟩ := isInt_iff.mp (h x (List.mem_append_left _ List.mem_cons_self))
    obtain ⟨j, rfl⟩ := isInt_iff.mp (h y (List.mem_append_right _ List.mem_cons_self))
    refine ⟨(i, j) :: ps, ?_⟩
    rw [List.map_cons, List.map_cons, e]
theorem eqv_ip (p q : PI2) : PyData.eqv (ipD p) (ipD q) = decide (p = q) := by
  obtain ⟨a, b⟩ := p
  obtain ⟨c, d⟩ := q
  unfold ipD
  simp only [PyData.eqv, PyData.eqvAll, Bool.and_true]
  rw [Bool.eq_iff_iff]
  simp only [Bool.and_eq_true, beq_iff_eq, decide_eq_true_eq, Prod.mk.injEq]
theorem eqv_ips : ∀ ps qs : List PI2, PyData.eqvAll (ps.map ipD) (qs.map ipD) = decide (ps = qs)
  | [], [] => rfl
  | [], _ :: _ => rfl
  | _ :: _, [] => rfl
  | p :: ps, q :: qs => by
    have h1 := eqv_ip p q
    have h2 := eqv_ips ps qs
    have e : PyData.eqvAll ((p :: ps).map ipD) ((q :: qs).map ipD) = (PyData.eqv (ipD p) (ipD q) && PyData.eqvAll (ps.map ipD) (qs.map ipD)) := rfl
    rw [e, h1, h2, Bool.eq_iff_iff]
    simp only [Bool.and_eq_true, decide_eq_true_eq, List.cons.injEq]
theorem any_ip (ps : List PI2) (q : PI2) : ((ps.map ipD).any fun z => PyData.eqv z (ipD q)) = decide (q ∈ ps) := by
  rw [List.any_map, Bool.eq_iff_iff, List.any_eq_true, decide_eq_true_eq]
  constructor
  · rintro ⟨p, hp, e⟩
    have e' : PyData.eqv (ipD p) (ipD q) = true := e
    rw [eqv_ip, decide_eq_true_eq] at e'
    rw [← e']
    exact hp
  · intro h
    refine ⟨q, h, ?_⟩
    show PyData.eqv (ipD q) (ipD q) = true
    rw [eqv_ip]
    exact decide_eq_true rfl
theorem ipD_inj {ps qs : List PI2} (h : ps.map ipD = qs.map ipD) : ps = qs := by
  have e := eqv_ips ps qs
  rw [h, eqv_ips] at e
  simpa using e
theorem toI_inj {q r : Pr} (h : toI q = toI r) : q = r := by
  obtain ⟨a, b⟩ := q
  obtain ⟨c, d⟩ := r
  unfold toI at h
  simp only [Prod.mk.injEq] at h ⊢
  omega
theorem map_ip (L : List Pr) : (L.map toI).map ipD = L.map pairD := by
  rw [List.map_map]
  rfl
/-- the law's word for a kept lot -/
theorem kept_word {A : List Int} {m : Nat} {ps : List PI2} : KeptD A m (.tuple (ps.map ipD)) ↔ ps = ((strl A).filter fun q => decide (toI q ∈ ps)).map toI ∧ ∀ u, u < A.length → ((strl A).filter fun q => decide (toI q ∈ ps)).countP (over u) < m := by
  constructor
  · rintro ⟨L, e, asc, k⟩
    injection e with e
    rw [← map_ip] at e
    have e1 := ipD_inj e
    subst e1
    have e2 : ((strl A).filter fun q => decide (toI q ∈ L.map toI)) = L := by
      rw [k.filter asc.le]
      refine List.filter_congr fun q _ => ?_
      rw [← k.filter asc.le, decide_eq_decide]
      constructor
      · intro h
        obtain ⟨r, hr, e⟩ := List.mem_map.mp h
        rw [← toI_inj e]
        exact hr
      · exact fun h => List.mem_map_of_mem h
    rw [e2]
    exact ⟨rfl, k.cap⟩
  · rintro ⟨e, c⟩
    refine ⟨(strl A).filter fun q => decide (toI q ∈ ps), ?_, ((strs_pw A).imp fun {a b} z => Or.inl z).filter _, fun q hq => (List.mem_filter.mp hq).1, (strs_nodup A).filter _, c⟩
    show PyData.tuple (ps.map ipD) = PyData.tuple _
    congr 1
    rw [← map_ip, ← e]
theorem kept_rows {A : List Int} {m : Nat} {d : PyData} (h : KeptD A m d) : ∃ ps : List PI2, d = .tuple (ps.map ipD) := by
  obtain ⟨L, e, _⟩ := h
  exact ⟨L.map toI, by rw [e, map_ip]⟩
end Fw
end
section
set_option Elab.async false
set_option linter.all false
set_option maxRecDepth 100000
set_option maxHeartbeats 4000000
namespace Fw
open PySem PySem.Spec PyProof.Rows L2 Fr Fm
abbrev tIsi (K : PySem.W.Frag) (i : Nat) (T : String) : TE := tCB (rIsi K) (tCons (tVar i) (tCons (tC (.ty T)) tNil))
abbrev rLen (K : PySem.W.Frag) : List V → Hp → VK → Prop := fun xs H Q => ∃ p ys, xs = [V.ref p] ∧ (SqL K H p ys ∨ SqT K H p ys) ∧ Q (V.int ys.length) H
theorem isRow2_len {ds : List PyData} : isRow2 (.tuple ds) = decide (ds.length = 2) := by
  match ds with
  | [] => rfl
  | [_] => rfl
  | [_, _] => rfl
  | _ :: _ :: _ :: r =>
    symm
    show decide (r.length + 1 + 1 + 1 = 2) = false
    rw [decide_eq_false_iff_not]
    omega
theorem shaped_list {k : Nat} {ds : List PyData} (h : ∀ d ∈ ds, Od k d) (l : k ≤ 60) : SeqAt.shaped (.list ds) = true := by
  have h1 := can_all fun d hd => (h d hd).can.1
  have h2 := dep_all fun d hd => (h d hd).can.2
  unfold SeqAt.shaped
  have e1 : (PyData.list ds).canLay0 = true := by simpa [PyData.canLay0] using h1
  have e2 : (PyData.list ds).depth ≤ 64 := by
    simp only [PyData.depth]
    omega
  rw [e1, Bool.true_and]
  exact decide_eq_true e2
theorem isT_of {d : PyData} (h : isT d = true) : ∃ ds, d = .tuple ds := by
  cases d <;> first | exact ⟨_, rfl⟩ | (cases h)
theorem row_notT {d : PyData} (h : isT d = false) : isRow2 d = false := by
  cases d <;> first | rfl | (cases h)
theorem dp_row {K : PySem.W.Frag} {H : Hp} {v : V} {x y : PyData} (h : Dp K H v (.tuple [x, y])) : ∃ t a b, v = .ref t ∧ SqT K H t [a, b] ∧ Dp K H a x ∧ Dp K H b y := by
  cases h with
  | tup hs ha =>
    cases ha with
    | cons h1 ha =>
      cases ha with
      | cons h2 ha =>
        cases ha
        exact ⟨_, _, _, rfl, hs, h1, h2⟩
theorem known_word (S : List Pr) (ps : List PI2) : (S.map pairD).filter (fun z => (ps.map ipD).any fun y => PyData.eqv y z) = ((S.filter fun q => decide (toI q ∈ ps)).map toI).map ipD := by
  rw [List.filter_map, map_ip]
  congr 1
  refine List.filter_congr fun q _ => ?_
  exact any_ip ps (toI q)
/-- a filter's turn over data: what is not whole -/
theorem notInt_word (d : PyData) : (!isI d || isB d) = !isInt d := by
  cases d <;> rfl
section
variable {P : Program} {w : World} {K : PySem.W.Frag} {mg : Str → Option Value} {base : Heap}
def sp_law_is_kept (K : PySem.W.Frag) : Sp := fun vs H Q _ => ∃ (a : Addr) (A : List Int) (m : Nat) (v : V) (d : PyData), vs = [.ref a, .int m, v] ∧ SqT K H a (A.map V.int) ∧ A.length ≤ 1000 ∧ Dp K H v d ∧ Od 9 d ∧
  ∀ b H', Same H H' → (b = true ↔ KeptD A m d) → Q (.bl b) H'
abbrev NKept : List Str := ["_law_asks_here", "_law_m", "_law_value", "_law_times_here", "_law_one", "_law_time"]
theorem ok_law_is_kept {f f1 f2 : Addr} {fd fd1 fd2 : FuncData} {k : Nat} (F : Fun K "_law_is_kept" "_law_is_kept" s_law_is_kept f fd) (T : Nm mg) (G1 : FnOk P w K mg base CX0 k f1 fd1 ["_law_asks_here"] (sp_law_stretches K)) (D1 : Dn K mg "_law_stretches" f1 fd1 ["_law_asks_here"])
    (G2 : FnOk P w K mg base CX0 k f2 fd2 ["_law_asks_here", "_law_m", "_law_lot"] (sp_law_fits K)) (D2 : Dn K mg "_law_fits" f2 fd2 ["_law_asks_here", "_law_m", "_law_lot"]) :
    FnOk P w K mg base CX0 (k + 1) f fd ["_law_asks_here", "_law_m", "_law_value"] (sp_law_is_kept K) := by
  refine F.ok sc_law_is_kept (fun vs H Q E h => ?_) (fun cdv A' outer s H vs Q E hr h => ?_)
  · obtain ⟨a, A, m, v, d, rfl, _⟩ := h
    rfl
  · obtain ⟨a, A, m, v, d, rfl, hA, hlen, hd, od, q⟩ := h
    have nd := sc_law_is_kept.nd
    refine ⟨_, pss_cons (ps_if (PW.pt (pw_or (pt_not (pt_val (pe_callB call_isi (by rfl) T.isinstance (by decide +kernel) (pa_cons (pv 2) (pa_cons (pe_bltn (v := .ty "tuple") (by rfl) T.tuple (by decide +kernel) rfl) pa_nil)))))
        (pw_or1 (pt_cmpR (op_neD hr.units) (pe_lc (own := [("_law_one", 4)]) (wi := iTup K (tVar 2)) (g := gName 4) (tt := tOr (tNot (tB (tIsi K 4 "tuple"))) (tTest (tOp rNe (tCB (rLen K) (tCons (tVar 4) tNil)) (tC (.int 2))))) rfl nd (pi_tup (pv 2))
          (blkOk_by (N := NKept) (sc := defScope s_law_is_kept) (by decide +kernel)) (fun _ _ _ _ _ => pg_name (i := 4) nd rfl (Or.inl rfl))
          (fun _ _ _ _ _ => pts_one (PW.pt (pw_or (pt_not (pt_val (pe_callB (r := rIsi K) call_isi (by rfl) T.isinstance (by decide +kernel) (pa_cons (pv 4) (pa_cons (pe_bltn (v := .ty "tuple") (by rfl) T.tuple (by decide +kernel) rfl) pa_nil)))))
            (pw_or1 (pt_cmpR op_ne (pe_callB (r := rLen K) call_len_seq (by rfl) T.len PySem.boot_len (pa_cons (pv 4) pa_nil)) pe_int (nomark _))))))
          (fun _ _ _ _ _ => pv 4)) (pe_lst pa_nil) (nomark _))))) (pss_one (ps_ret pe_bl)) pss_nil)
      (pss_cons (ps_asg (pe_op op_cat
          (pe_lc (own := [("_law_one", 4)]) (wi := iTup K (tVar 2)) (g := gName 4) (tt := tYes) (te := tOp (rIxT K) (tVar 4) (tC (.int 0))) rfl nd (pi_tup (pv 2)) (blkOk_by (N := NKept) (sc := defScope s_law_is_kept) (by decide +kernel)) (fun _ _ _ _ _ => pg_name (i := 4) nd rfl (Or.inl rfl)) (fun _ _ _ _ _ => pts_nil)
            (fun _ _ _ _ _ => pe_ix (r := rIxT K) ix_tup (pv 4) pe_int (fun _ _ => rfl)))
          (pe_lc (own := [("_law_one", 4)]) (wi := iTup K (tVar 2)) (g := gName 4) (tt := tYes) (te := tOp (rIxT K) (tVar 4) (tC (.int 1))) rfl nd (pi_tup (pv 2)) (blkOk_by (N := NKept) (sc := defScope s_law_is_kept) (by decide +kernel)) (fun _ _ _ _ _ => pg_name (i := 4) nd rfl (Or.inl rfl)) (fun _ _ _ _ _ => pts_nil)
            (fun _ _ _ _ _ => pe_ix (r := rIxT K) ix_tup (pv 4) pe_int (fun _ _ => rfl)))) (pg_name (i := 3) nd rfl (.inl rfl)))
      (pss_cons (ps_if (pt_cmpR (op_neD hr.units) (pe_lc (own := [("_law_time", 5)]) (g := gName 5) (tt := tOr (tNot (tB (tIsi K 5 "int"))) (tB (tIsi K 5 "bool"))) rfl nd (pi_list (pv 3)) (blkOk_by (N := NKept) (sc := defScope s_law_is_kept) (by decide +kernel)) (fun _ _ _ _ _ => pg_name (i := 5) nd rfl (Or.inl rfl))
          (fun _ _ _ _ _ => pts_one (PW.pt (pw_or (pt_not (pt_val (pe_callB (r := rIsi K) call_isi (by rfl) T.isinstance (by decide +kernel) (pa_cons (pv 5) (pa_cons (pe_bltn (v := .ty "int") (by rfl) T.int (by decide +kernel) rfl) pa_nil)))))
            (pw_or1 (pt_val (pe_callB (r := rIsi K) call_isi (by rfl) T.isinstance (by decide +kernel) (pa_cons (pv 5) (pa_cons (pe_bltn (v := .ty "bool") (by rfl) T.bool (by decide +kernel) rfl) pa_nil))))))))
          (fun _ _ _ _ _ => pv 5)) (pe_lst pa_nil) (nomark _)) (pss_one (ps_ret pe_bl)) pss_nil)
      (pss_one (ps_ret (pe_and (pe_cmpR (op_eqD hr.units) (pe_callTy call_list_of (by rfl) T.list (by decide +kernel) (pa_cons (pv 2) pa_nil))
          (pe_lc (own := [("_law_one", 4)]) (g := gName 4) (tt := tTest (tOp (rInDT K) (tVar 4) (tVar 2))) rfl nd (pi_list (pe_call G1 hr (by rfl) D1.g D1.kp D1.b .nil pass0 (pa_cons (pv 0) pa_nil))) (blkOk_by (N := NKept) (sc := defScope s_law_is_kept) (by decide +kernel)) (fun _ _ _ _ _ => pg_name (i := 4) nd rfl (Or.inl rfl))
            (fun _ _ _ _ _ => pts_one (pt_cmpR (r := rInDT K) (op_inDT (u65 hr)) (pv 4) (pv 2) (by rfl))) (fun _ _ _ _ _ => pv 4)) (nomark _))
        (pe_one (pe_call G2 hr (by rfl) D2.g D2.kp D2.b .nil pass0 (pa_cons (pv 0) (pa_cons (pv 1) (pa_cons (pv 2) pa_nil)))))))))), ?_⟩
    -- value is a tuple
    refine ⟨v, rfl, v, _, _, _, _, rfl, .ty "tuple", ty_of hd, kit_ty (kit_tuple (dp_noDict hd)), _, rfl, ?_⟩
    have no : (KeptD A m d → False) → ∀ H', Same H H' → Q (.bl false) H' := fun h H' sm => q false H' sm ⟨fun z => (nomatch z), fun z => (h z).elim⟩
    cases hT : isT d with
    | false =>
      refine iteT (iteT (no (fun ⟨L, e, _⟩ => ?_) _ (same_refl H)))
      rw [e] at hT
      cases hT
    | true =>
    obtain ⟨ds, rfl⟩ := isT_of hT
    obtain ⟨odl, odk⟩ : ds.length ≤ 1000 ∧ ∀ d ∈ ds, Od 8 d := by
      cases od with
      | tup h l => exact ⟨l, h⟩
    obtain ⟨tv, xs, rfl, hs, ha⟩ : ∃ tv xs, v = .ref tv ∧ SqT K H tv xs ∧ DpAll K H xs ds := by
      cases hd with
      | tup hs ha => exact ⟨_, _, rfl, hs, ha⟩
    have hl := dpAll_len ha
    refine iteF ⟨_, rfl, tv, rfl, ⟨xs, hs⟩, fun D nD => lc_tup (K := K) (a := tv) (xs := xs) (fun i H1 => FltI K H D ds (fun d => !isRow2 d) i H1)
      (FltI.zero ds _ nD) (fun i H1 _ I => sqT_mono I.1 hs) (fun i x H1 hi I => ?_) (fun H1 I => ?_)⟩
    · obtain ⟨d1, e1, hx⟩ := dpAll_get ha hi
      have hx1 := dp_mono I.1 hx
      have fin : ∀ b : Bool, b = (!isRow2 d1) → if b = true then tVar 4 [some (.ref a), some (.int m), some (.ref tv), none, some x, none] H1 (fun y H4 => ∃ acc, H4 D = some (.lst acc) ∧ acc.length < sizeLine ∧ FltI K H D ds (fun d => !isRow2 d) (i + 1) (upd H4 D (.lst (acc ++ [y])))) else
          FltI K H D ds (fun d => !isRow2 d) (i + 1) H1 := fun b eb => by
        cases b with
        | true => exact iteT ⟨_, rfl, I.keep nD e1 eb.symm hx (by omega)⟩
        | false => exact iteF (I.skip e1 eb.symm)
      refine ⟨rfl, x, rfl, x, _, _, _, _, rfl, .ty "tuple", ty_of hx1, kit_ty (kit_tuple (dp_noDict hx1)), _, rfl, ?_⟩
      cases h1 : isT d1 with
      | false => exact iteT (fin true (by rw [row_notT h1]; rfl))
      | true =>
        obtain ⟨es, rfl⟩ := isT_of h1
        obtain ⟨t1, ys, rfl, hs1, l1⟩ := dp_len hx1
        refine iteF ⟨_, rfl, t1, ys, rfl, .inr hs1, rfl, _, rfl, fin _ ?_⟩
        rw [isRow2_len, l1]
        congr 1
        rw [decide_eq_decide]
        constructor
        · intro z
          injection z with z
          omega
        · intro z
          rw [z]
          rfl
    · obtain ⟨sm1, ys, hD, hy⟩ := I
      rw [hl, List.take_length] at hy
      refine ⟨Nat.zero_le _, fun l nl => ?_⟩
      have sm2 : Same H (upd H1 l (.lst [])) := same_tr sm1 (same_new nl)
      refine ⟨_, _, .lst (SqL.of (same_new nl _ _ hD)) (dpAll_mono sm2 hy), .lst (SqL.of upd_same) .nil, (Od.all odk odl _).shaped (by omega), rfl, _, rfl, ?_⟩
      rw [eqv_nil]
      generalize upd H1 l (.lst []) = H2 at sm2
      cases hE : (ds.filter fun d => !isRow2 d).isEmpty with
      | false =>
        refine iteT (no (fun z => ?_) _ sm2)
        obtain ⟨ps, e⟩ := kept_rows z
        injection e with e
        have : (ds.filter fun d => !isRow2 d).isEmpty = true := filter_empty.mpr fun d hd => by
          rw [e] at hd
          obtain ⟨p, _, rfl⟩ := List.mem_map.mp hd
          rfl
        rw [hE] at this
        cases this
      | true =>
      have rows := filter_empty.mp hE
      obtain ⟨rs, rfl⟩ := rows_of fun d hd => by simpa using rows d hd
      rw [List.length_map] at hl odl
      have row_at : ∀ (i : Nat) (x : V) (H3 : Hp), Same H H3 → xs[i]? = some x → ∃ r t a b, rs[i]? = some r ∧ x = .ref t ∧ SqT K H3 t [a, b] ∧ Dp K H a r.1 ∧ Dp K H b r.2 := fun i x H3 sm e => by
        obtain ⟨d1, e1, hx⟩ := dpAll_get ha e
        rw [List.getElem?_map] at e1
        cases er : rs[i]? with
        | none => rw [er] at e1; cases e1
        | some r =>
          rw [er] at e1
          obtain rfl := Option.some.inj e1
          obtain ⟨t, a, b, h1, h2, h3, h4⟩ := dp_row hx
          exact ⟨r, t, a, b, rfl, h1, sqT_mono sm h2, h3, h4⟩
      refine iteF ⟨_, rfl, tv, rfl, ⟨xs, sqT_mono sm2 hs⟩, fun D1 nD1 => lc_tup (K := K) (a := tv) (xs := xs) (fun i H3 => Same H2 H3 ∧ ∃ us : List V, H3 D1 = some (.lst us) ∧ DpAll K H us ((rs.take i).map (·.1)))
        ⟨same_new nD1, [], upd_same, .nil⟩ (fun i H3 _ hP => sqT_mono (same_tr sm2 hP.1) hs) (fun i x H3 hi hP => ?_) (fun H3 hP => ?_)⟩
      · obtain ⟨sm3, us, hD1, hu⟩ := hP
        obtain ⟨r, t, va, vb, er, rfl, ht, h3, h4⟩ := row_at i x H3 (same_tr sm2 sm3) hi
        have il := (List.getElem?_eq_some_iff.mp er).1
        have ul := dpAll_len hu
        rw [List.length_map, List.length_take] at ul
        refine ⟨rfl, _, rfl, t, _, 0, va, rfl, rfl, ht, rfl, us, hD1, small_line (by omega), same_chg nD1 sm3, us ++ [va], upd_same, ?_⟩
        rw [take_snoc er]
        exact dpAll_snoc hu h3
      · obtain ⟨sm3, us, hD1, hu⟩ := hP
        rw [hl, List.take_length] at hu
        have sm4 := same_tr sm2 sm3
        refine ⟨_, rfl, tv, rfl, ⟨xs, sqT_mono sm4 hs⟩, fun D2 nD2 => lc_tup (K := K) (a := tv) (xs := xs) (fun i H4 => Same H3 H4 ∧ ∃ us : List V, H4 D2 = some (.lst us) ∧ DpAll K H us ((rs.take i).map (·.2)))
          ⟨same_new nD2, [], upd_same, .nil⟩ (fun i H4 _ hP => sqT_mono (same_tr sm4 hP.1) hs) (fun i x H4 hi hP => ?_) (fun H4 hP => ?_)⟩
        · obtain ⟨sm5, us2, hD2, hu2⟩ := hP
          obtain ⟨r, t, va, vb, er, rfl, ht, h3, h4⟩ := row_at i x H4 (same_tr sm4 sm5) hi
          have il := (List.getElem?_eq_some_iff.mp er).1
          have ul := dpAll_len hu2
          rw [List.length_map, List.length_take] at ul
          refine ⟨rfl, _, rfl, t, _, 1, vb, rfl, rfl, ht, rfl, us2, hD2, small_line (by omega), same_chg nD2 sm5, us2 ++ [vb], upd_same, ?_⟩
          rw [take_snoc er]
          exact dpAll_snoc hu2 h4
        · obtain ⟨sm5, us2, hD2, hu2⟩ := hP
          rw [hl, List.take_length] at hu2
          have ul := dpAll_len hu
          have ul2 := dpAll_len hu2
          rw [List.length_map] at ul ul2
          have hu3 := dpAll_app hu hu2
          refine ⟨D1, D2, us, us2, rfl, rfl, sm5 _ _ hD1, hD2, by have := sizeLine_eq; omega, fun tl ntl => ?_⟩
          have sm6 : Same H (upd H4 tl (.lst (us ++ us2))) := same_tr (same_tr sm4 sm5) (same_new ntl)
          have htl : (upd H4 tl (.lst (us ++ us2))) tl = some (.lst (us ++ us2)) := upd_same
          generalize upd H4 tl (.lst (us ++ us2)) = H5 at sm6 htl
          have hu5 := dpAll_mono sm6 hu3
          have odt : ∀ d ∈ rs.map (·.1) ++ rs.map (·.2), Od 7 d := fun d hd => by
            have key : ∀ r ∈ rs, Od 7 r.1 ∧ Od 7 r.2 := fun r hr => by
              have := odk _ (List.mem_map_of_mem (f := fun r : PyData × PyData => PyData.tuple [r.1, r.2]) hr)
              cases this with
              | tup h _ => exact ⟨h _ (by simp), h _ (by simp)⟩
            rcases List.mem_append.mp hd with z | z
            · obtain ⟨r, hr, rfl⟩ := List.mem_map.mp z
              exact (key r hr).1
            · obtain ⟨r, hr, rfl⟩ := List.mem_map.mp z
              exact (key r hr).2
          have ll : (us ++ us2).length = (rs.map (·.1) ++ rs.map (·.2)).length := dpAll_len hu5
          have ll2 : (rs.map (·.1) ++ rs.map (·.2)).length ≤ 2000 := by
            rw [List.length_append, List.length_map, List.length_map]
            omega
          refine ⟨_, rfl, tl, rfl, ⟨_, SqL.of htl⟩, fun D3 nD3 => lc_list (K := K) (a := tl) (xs := us ++ us2) (fun i H6 => FltI K H5 D3 (rs.map (·.1) ++ rs.map (·.2)) (fun d => !isInt d) i H6)
            (FltI.zero _ _ nD3) (fun i H6 _ I => SqL.of (I.1 _ _ htl)) (fun i x H6 hi I => ?_) (fun H6 I => ?_)⟩
          · obtain ⟨d1, e1, hx⟩ := dpAll_get hu5 hi
            have hx1 := dp_mono I.1 hx
            have fin : ∀ b : Bool, b = (!isInt d1) → if b = true then tVar 5 [some (.ref a), some (.int m), some (.ref tv), some (.ref tl), none, some x] H6 (fun y H4 => ∃ acc, H4 D3 = some (.lst acc) ∧ acc.length < sizeLine ∧ FltI K H5 D3 (rs.map (·.1) ++ rs.map (·.2)) (fun d => !isInt d) (i + 1) (upd H4 D3 (.lst (acc ++ [y])))) else
                FltI K H5 D3 (rs.map (·.1) ++ rs.map (·.2)) (fun d => !isInt d) (i + 1) H6 := fun b eb => by
              cases b with
              | true => exact iteT ⟨_, rfl, I.keep nD3 e1 eb.symm hx (by omega)⟩
              | false => exact iteF (I.skip e1 eb.symm)
            rw [← notInt_word] at fin
            refine ⟨rfl, x, rfl, x, _, _, _, _, rfl, .ty "int", ty_of hx1, kit_ty (kit_int (dp_noDict hx1)), _, rfl, ?_⟩
            cases h1 : isI d1 with
            | false => exact iteT (fin true (by rw [h1]; rfl))
            | true =>
              refine iteF ⟨x, rfl, x, _, _, _, _, rfl, .ty "bool", ty_of hx1, kit_ty (kit_bool (dp_noDict hx1)), _, rfl, fin _ ?_⟩
              rw [h1]
              rfl
          · obtain ⟨sm7, ys2, hD3, hy2⟩ := I
            rw [ll, List.take_length] at hy2
            refine ⟨Nat.zero_le _, fun l2 nl2 => ?_⟩
            have sm8 : Same H5 (upd H6 l2 (.lst [])) := same_tr sm7 (same_new nl2)
            have odf := shaped_list (k := 7) (fun d hd => odt d (List.mem_filter.mp hd).1 : ∀ d ∈ (rs.map (·.1) ++ rs.map (·.2)).filter fun d => !isInt d, Od 7 d) (by omega)
            refine ⟨_, _, .lst (SqL.of (same_new nl2 _ _ hD3)) (dpAll_mono sm8 hy2), .lst (SqL.of upd_same) .nil, odf, rfl, _, rfl, ?_⟩
            rw [eqv_nil]
            have sm9 := same_tr sm6 sm8
            generalize upd H6 l2 (.lst []) = H7 at sm8 sm9
            cases hE2 : ((rs.map (·.1) ++ rs.map (·.2)).filter fun d => !isInt d).isEmpty with
            | false =>
              refine iteT (no (fun z => ?_) _ sm9)
              obtain ⟨ps, e⟩ := kept_rows z
              injection e with e
              have : ((rs.map (·.1) ++ rs.map (·.2)).filter fun d => !isInt d).isEmpty = true := filter_empty.mpr fun d hd => by
                have key : ∀ r ∈ rs, isInt r.1 = true ∧ isInt r.2 = true := fun r hr => by
                  have h1 := List.mem_map_of_mem (f := fun r : PyData × PyData => PyData.tuple [r.1, r.2]) hr
                  rw [e] at h1
                  obtain ⟨p, _, e2⟩ := List.mem_map.mp h1
                  injection e2 with e2
                  injection e2 with e2 e3
                  injection e3 with e3
                  rw [← e2, ← e3]
                  exact ⟨rfl, rfl⟩
                rcases List.mem_append.mp hd with z | z
                · obtain ⟨r, hr, rfl⟩ := List.mem_map.mp z
                  rw [(key r hr).1]
                  rfl
                · obtain ⟨r, hr, rfl⟩ := List.mem_map.mp z
                  rw [(key r hr).2]
                  rfl
              rw [hE2] at this
              cases this
            | true =>
            have allI := filter_empty.mp hE2
            obtain ⟨ps, eps⟩ := ips_of (rs := rs) fun d hd => by simpa using allI d hd
            rw [eps] at ha odk od q no
            have pl : ps.length = rs.length := by
              have := congrArg List.length eps
              rw [List.length_map, List.length_map] at this
              exact this.symm
            refine iteF ⟨_, rfl, tv, xs, rfl, .inr (sqT_mono sm9 hs), fun lp nlp => ?_⟩
            have sm10 : Same H (upd H7 lp (.lst xs)) := same_tr sm9 (same_new nlp)
            have hlp : (upd H7 lp (.lst xs)) lp = some (.lst xs) := upd_same
            generalize upd H7 lp (.lst xs) = H8 at sm10 hlp
            refine ⟨_, rfl, a, A, rfl, sqT_mono sm10 hA, hlen, fun sp sts H9 sm11 hsp prs => ⟨sp, rfl, ⟨_, SqL.of hsp⟩, fun D4 nD4 => lc_list (K := K) (a := sp) (xs := sts.map V.ref) (fun i H10 => FltI K H9 D4 ((strl A).map pairD) (fun z => (ps.map ipD).any fun y => PyData.eqv y z) i H10)
              (FltI.zero _ _ nD4) (fun i H10 _ I => SqL.of (I.1 _ _ hsp)) (fun i x H10 hi I => ?_) (fun H10 I => ?_)⟩⟩
            · have sm12 := same_tr sm10 sm11
              have hall := prs_dp (K := K) prs
              obtain ⟨d1, e1, hx⟩ := dpAll_get hall hi
              have hx1 := dp_mono I.1 hx
              have e1' := e1
              rw [List.getElem?_map] at e1'
              cases eq : (strl A)[i]? with
              | none => rw [eq] at e1'; cases e1'
              | some q1 =>
                rw [eq] at e1'
                obtain rfl : pairD q1 = d1 := Option.some.inj e1'
                have sl : (strl A).length ≤ 1000 := by
                  rw [(fnd_perm A).length_eq]
                  have := fnd_len (A := A) A.length
                  omega
                have fin : ∀ b : Bool, b = ((ps.map ipD).any fun y => PyData.eqv y (pairD q1)) → if b = true then tVar 4 [some (.ref a), some (.int m), some (.ref tv), some (.ref tl), some x, none] H10 (fun y H4 => ∃ acc, H4 D4 = some (.lst acc) ∧ acc.length < sizeLine ∧ FltI K H9 D4 ((strl A).map pairD) (fun z => (ps.map ipD).any fun y => PyData.eqv y z) (i + 1) (upd H4 D4 (.lst (acc ++ [y])))) else
                    FltI K H9 D4 ((strl A).map pairD) (fun z => (ps.map ipD).any fun y => PyData.eqv y z) (i + 1) H10 := fun b eb => by
                  cases b with
                  | true => exact iteT ⟨_, rfl, I.keep nD4 e1 eb.symm hx (by rw [List.length_map]; omega)⟩
                  | false => exact iteF (I.skip e1 eb.symm)
                refine ⟨rfl, x, rfl, _, rfl, pairD q1, ps.map ipD, hx1, .tup (sqT_mono (same_tr sm12 I.1) hs) (dpAll_mono (same_tr sm12 I.1) ha), (Od.pair q1 0).shaped (by omega), (Od.tup odk (by rw [List.length_map]; omega)).shaped (by omega), _, rfl, fin _ rfl⟩
            · obtain ⟨sm12, ys3, hD4, hy3⟩ := I
              have stl : sts.length = (strl A).length := by
                have := prs_len prs
                rw [List.length_map] at this
                exact this
              have e3 : (((strl A).map pairD).take (sts.map V.ref).length) = (strl A).map pairD := by
                refine List.take_of_length_le ?_
                rw [List.length_map, List.length_map]
                omega
              rw [e3, known_word] at hy3
              have sm13 := same_tr sm10 (same_tr sm11 sm12)
              have sl2 : SeqAt.shaped (.list (((((strl A).filter fun q => decide (toI q ∈ ps)).map toI)).map ipD)) = true := shaped_list (k := 1) (fun d hd => by
                rw [map_ip] at hd
                obtain ⟨q1, _, rfl⟩ := List.mem_map.mp hd
                exact Od.pair q1 0) (by omega)
              refine ⟨_, _, .lst (SqL.of (same_tr sm11 sm12 _ _ hlp)) (dpAll_mono sm13 ha), .lst (SqL.of hD4) (dpAll_mono sm12 hy3), shaped_list odk (by omega), sl2, ?_⟩
              have ee : PyData.eqv (.list (ps.map ipD)) (.list (((((strl A).filter fun q => decide (toI q ∈ ps)).map toI)).map ipD)) = decide (ps = ((strl A).filter fun q => decide (toI q ∈ ps)).map toI) := eqv_ips _ _
              rw [ee]
              refine ⟨_, rfl, ?_⟩
              by_cases c : ps = ((strl A).filter fun q => decide (toI q ∈ ps)).map toI
              · rw [decide_eq_true c]
                have dd : Dp K H (.ref tv) (pairsD ((strl A).filter fun q => decide (toI q ∈ ps))) := .tup hs (by rw [← map_ip, ← c]; exact ha)
                have fl : ((strl A).filter fun q => decide (toI q ∈ ps)).length ≤ 1000 := by
                  have := congrArg List.length c
                  rw [List.length_map] at this
                  omega
                refine iteT ⟨_, rfl, _, rfl, _, rfl, a, A, m, .ref tv, _, rfl, sqT_mono sm13 hA, hlen, dp_mono sm13 dd, fl, fun b H11 sm14 hb => q b H11 (same_tr sm13 sm14) ?_⟩
                rw [hb, kept_word]
                exact ⟨fun z => ⟨c, z⟩, fun z => z.2⟩
              · rw [decide_eq_false c]
                exact iteF (no (fun z => c (kept_word.mp z).1) _ sm13)
end
end Fw
end
section
set_option Elab.async false
set_option linter.all false
set_option maxRecDepth 100000
set_option maxHeartbeats 4000000
namespace Fw
open PySem PySem.Spec PyProof.Rows L2 Fr Fm
theorem ascN_one {l l' : List Nat} (h : l.Pairwise (· < ·)) (h' : l'.Pairwise (· < ·)) (m : ∀ x, x ∈ l ↔ x ∈ l') : l = l' :=
  List.Perm.eq_of_pairwise (fun a b _ _ h1 h2 => by omega) h h' ((List.perm_ext_iff_of_nodup (h.imp fun {a b} z => Nat.ne_of_lt z) (h'.imp fun {a b} z => Nat.ne_of_lt z)).mpr m)
abbrev iD (l : List Int) : List PyData := l.map PyData.int
theorem eqv_iD : ∀ l l' : List Int, PyData.eqvAll (iD l) (iD l') = decide (l = l')
  | [], [] => rfl
  | [], _ :: _ => rfl
  | _ :: _, [] => rfl
  | i :: l, j :: l' => by
    have e : PyData.eqvAll (iD (i :: l)) (iD (j :: l')) = ((i == j) && PyData.eqvAll (iD l) (iD l')) := rfl
    rw [e, eqv_iD l l', Bool.eq_iff_iff]
    simp only [Bool.and_eq_true, decide_eq_true_eq, List.cons.injEq, beq_iff_eq]
theorem iD_of : ∀ {ds : List PyData}, (∀ d ∈ ds, isInt d = true) → ∃ l, ds = iD l
  | [], _ => ⟨[], rfl⟩
  | d :: ds, h => by
    obtain ⟨l, e⟩ := iD_of fun x hx => h x (List.mem_cons_of_mem _ hx)
    obtain ⟨i, e1⟩ := isInt_iff.mp (h d List.mem_cons_self)
    exact ⟨i :: l, by rw [e, e1]; rfl⟩
theorem dp_iD {K : PySem.W.Frag} {H : Hp} : ∀ {l : List Int} {xs : List V}, DpAll K H xs (iD l) → xs = l.map V.int
  | [], _, .nil => rfl
  | i :: l, _, .cons h r => by
    cases h
    rw [dp_iD r]
    rfl
theorem iD_dp {K : PySem.W.Frag} {H : Hp} : ∀ (l : List Int), DpAll K H (l.map V.int) (iD l)
  | [] => .nil
  | i :: l => .cons (.int i) (iD_dp l)
theorem inV_int (i : Int) (l : List Int) : inV (.int i) (l.map V.int) = decide (i ∈ l) := by
  unfold inV
  rw [List.any_map, Bool.eq_iff_iff, List.any_eq_true, decide_eq_true_eq]
  constructor
  · rintro ⟨j, hj, e⟩
    have e' : (j == i) = true := e
    rw [beq_iff_eq] at e'
    rw [← e']
    exact hj
  · intro h
    exact ⟨i, h, (by show (i == i) = true; simp)⟩
abbrev castL (Ts : List Nat) : List Int := Ts.map fun t : Nat => (t : Int)
theorem castL_inj : ∀ {a b : List Nat}, castL a = castL b → a = b
  | [], [], _ => rfl
  | x :: a, y :: b, h => by
    have h' : (x : Int) :: castL a = (y : Int) :: castL b := h
    injection h' with h1 h2
    rw [castL_inj h2, Int.ofNat.inj h1]
theorem timesD_iD (Ts : List Nat) : timesD Ts = .tuple (iD (castL Ts)) := by
  have : (castL Ts).map PyData.int = Ts.map fun t : Nat => PyData.int (t : Int) := by
    rw [List.map_map]
    rfl
  exact congrArg PyData.tuple this.symm
theorem ris_word {l : List Int} {n : Nat} : RisD (.tuple (iD l)) n ↔ l = castL ((List.range n).filter fun t => decide ((t : Int) ∈ l)) := by
  constructor
  · rintro ⟨Ts, e, h1, h2⟩
    have e1 : l = castL Ts := by
      have e' : PyData.tuple (iD l) = .tuple (iD (castL Ts)) := e.trans (timesD_iD Ts)
      injection e' with e'
      have := eqv_iD l (castL Ts)
      rw [e', eqv_iD] at this
      simpa using this
    subst e1
    congr 1
    refine ascN_one h2 (List.pairwise_lt_range.filter _) fun x => ?_
    rw [List.mem_filter, List.mem_range, decide_eq_true_eq]
    constructor
    · intro hx
      exact ⟨h1 x hx, List.mem_map_of_mem (f := fun t : Nat => (t : Int)) hx⟩
    · rintro ⟨_, hx⟩
      obtain ⟨y, hy, e⟩ := List.mem_map.mp hx
      have : y = x := by omega
      rw [← this]
      exact hy
  · intro e
    refine ⟨(List.range n).filter fun t => decide ((t : Int) ∈ l), ?_, fun u hu => List.mem_range.mp (List.mem_filter.mp hu).1, List.pairwise_lt_range.filter _⟩
    have := timesD_iD ((List.range n).filter fun t => decide ((t : Int) ∈ l))
    rw [← e] at this
    exact this.symm
section
variable {P : Program} {w : World} {K : PySem.W.Frag} {mg : Str → Option Value} {base : Heap}
def sp_law_due (K : PySem.W.Frag) : Sp := fun vs H Q _ => ∃ (a : Addr) (A : List Int) (m : Nat) (v : V) (d : PyData), vs = [.ref a, .int m, v] ∧ SqT K H a (A.map V.int) ∧ A.length ≤ 1000 ∧ 1 ≤ m ∧ m ≤ 1000 ∧ Dp K H v d ∧ Od 9 d ∧
  ∀ b H', Same H H' → (b = true ↔ DueP A m d) → Q (.bl b) H'
abbrev NDue : List Str := ["_law_asks_here", "_law_m", "_law_value", "_law_times_here", "_law_time"]
theorem ok_law_due {f f1 f2 : Addr} {fd fd1 fd2 : FuncData} {k : Nat} (F : Fun K "_law_due" "_law_due" s_law_due f fd) (T : Nm mg) (G1 : FnOk P w K mg base CX0 k f1 fd1 ["_law_asks_here", "_law_m", "_law_value"] (sp_law_is_kept K)) (D1 : Dn K mg "_law_is_kept" f1 fd1 ["_law_asks_here", "_law_m", "_law_value"])
    (G2 : FnOk P w K mg base CX0 k f2 fd2 ["_law_asks_here", "_law_m", "_law_times_here"] (sp_law_bound K)) (D2 : Dn K mg "_law_bound" f2 fd2 ["_law_asks_here", "_law_m", "_law_times_here"]) :
    FnOk P w K mg base CX0 (k + 1) f fd ["_law_asks_here", "_law_m", "_law_value"] (sp_law_due K) := by
  refine F.ok sc_law_due (fun vs H Q E h => ?_) (fun cdv A' outer s H vs Q E hr h => ?_)
  · obtain ⟨a, A, m, v, d, rfl, _⟩ := h
    rfl
  · obtain ⟨a, A, m, v, d, rfl, hA, hlen, hm, hm2, hd, od, q⟩ := h
    have nd := sc_law_due.nd
    refine ⟨_, pss_cons (ps_if (PW.pt (pw_or (pt_not (pt_val (pe_callB call_isi (by rfl) T.isinstance (by decide +kernel) (pa_cons (pv 2) (pa_cons (pe_bltn (v := .ty "tuple") (by rfl) T.tuple (by decide +kernel) rfl) pa_nil)))))
        (pw_or (pt_cmpR op_ne (pe_callB call_len_seq (by rfl) T.len PySem.boot_len (pa_cons (pv 2) pa_nil)) pe_int (nomark _))
        (pw_or (pt_not (pt_val (pe_call G1 hr (by rfl) D1.g D1.kp D1.b .nil pass0 (pa_cons (pv 0) (pa_cons (pv 1) (pa_cons (pe_ix ix_tup (pv 2) pe_int (fun _ _ => rfl)) pa_nil))))))
        (pw_or1 (pt_not (pt_val (pe_callB call_isi (by rfl) T.isinstance (by decide +kernel) (pa_cons (pe_ix ix_tup (pv 2) pe_int (fun _ _ => rfl)) (pa_cons (pe_bltn (v := .ty "tuple") (by rfl) T.tuple (by decide +kernel) rfl) pa_nil))))))))))
        (pss_one (ps_ret pe_bl)) pss_nil)
      (pss_cons (ps_asg (pe_ix ix_tup (pv 2) pe_int (fun _ _ => rfl)) (pg_name (i := 3) nd rfl (.inr rfl)))
      (pss_cons (ps_if (pt_cmpR (op_neD hr.units) (pe_lc (own := [("_law_time", 4)]) (wi := iTup K (tVar 3)) (g := gName 4) (tt := tOr (tNot (tB (tIsi K 4 "int"))) (tB (tIsi K 4 "bool"))) rfl nd (pi_tup (pv 3)) (blkOk_by (N := NDue) (sc := defScope s_law_due) (by decide +kernel)) (fun _ _ _ _ _ => pg_name (i := 4) nd rfl (Or.inl rfl))
          (fun _ _ _ _ _ => pts_one (PW.pt (pw_or (pt_not (pt_val (pe_callB (r := rIsi K) call_isi (by rfl) T.isinstance (by decide +kernel) (pa_cons (pv 4) (pa_cons (pe_bltn (v := .ty "int") (by rfl) T.int (by decide +kernel) rfl) pa_nil)))))
            (pw_or1 (pt_val (pe_callB (r := rIsi K) call_isi (by rfl) T.isinstance (by decide +kernel) (pa_cons (pv 4) (pa_cons (pe_bltn (v := .ty "bool") (by rfl) T.bool (by decide +kernel) rfl) pa_nil))))))))
          (fun _ _ _ _ _ => pv 4)) (pe_lst pa_nil) (nomark _)) (pss_one (ps_ret pe_bl)) pss_nil)
      (pss_cons (ps_if (pt_cmpR (op_neD hr.units) (pe_callTy call_list_of (by rfl) T.list (by decide +kernel) (pa_cons (pv 3) pa_nil))
          (pe_lc (own := [("_law_time", 4)]) (g := gName 4) (tt := tTest (tOp (rIn K false) (tVar 4) (tVar 3))) rfl nd (pi_range1 (by rfl) T.range (pa_cons (pe_callB call_len_seq (by rfl) T.len PySem.boot_len (pa_cons (pv 0) pa_nil)) pa_nil)) (blkOk_by (N := NDue) (sc := defScope s_law_due) (by decide +kernel)) (fun _ _ _ _ _ => pg_name (i := 4) nd rfl (Or.inl rfl))
            (fun _ _ _ _ _ => pts_one (pt_cmpR (r := rIn K false) op_in_seq (pv 4) (pv 3) (by rfl))) (fun _ _ _ _ _ => pv 4)) (nomark _)) (pss_one (ps_ret pe_bl)) pss_nil)
      (pss_one (ps_ret (pe_cmpR op_eq (pe_callB call_len_seq (by rfl) T.len PySem.boot_len (pa_cons (pe_ix ix_tup (pv 2) pe_int (fun _ _ => rfl)) pa_nil)) (pe_call G2 hr (by rfl) D2.g D2.kp D2.b .nil pass0 (pa_cons (pv 0) (pa_cons (pv 1) (pa_cons (pv 3) pa_nil)))) (nomark _))))))), ?_⟩
    refine ⟨v, rfl, v, _, _, _, _, rfl, .ty "tuple", ty_of hd, kit_ty (kit_tuple (dp_noDict hd)), _, rfl, ?_⟩
    have no : (DueP A m d → False) → ∀ H', Same H H' → Q (.bl false) H' := fun h H' sm => q false H' sm ⟨fun z => (nomatch z), fun z => (h z).elim⟩
    cases hT : isT d with
    | false =>
      refine iteT (iteT (no (fun ⟨L, Ts, e, _⟩ => ?_) _ (same_refl H)))
      rw [e] at hT
      cases hT
    | true =>
    obtain ⟨ds, rfl⟩ := isT_of hT
    obtain ⟨tv, xs, rfl, hs, xl⟩ := dp_len hd
    refine iteF ⟨_, rfl, tv, xs, rfl, .inr hs, rfl, _, rfl, ?_⟩
    by_cases h2 : ds.length = 2
    case neg =>
      have e : decide (V.int (xs.length : Int) = V.int 2) = false := decide_eq_false fun z => h2 (by injection z with z; omega)
      rw [e]
      refine iteT (iteT (no (fun ⟨L, Ts, e, _⟩ => ?_) _ (same_refl H)))
      injection e with e
      rw [e] at h2
      exact h2 rfl
    case pos =>
    have e : decide (V.int (xs.length : Int) = V.int 2) = true := decide_eq_true (by rw [xl, h2]; rfl)
    rw [e]
    refine iteF ?_
    obtain ⟨x, y, exy⟩ := isRow2_iff.mp (by rw [isRow2_len]; exact decide_eq_true h2 : isRow2 (.tuple ds) = true)
    injection exy with exy
    subst exy
    obtain ⟨ox, oy⟩ : Od 8 x ∧ Od 8 y := by
      cases od with
      | tup h _ => exact ⟨h x (by simp), h y (by simp)⟩
    obtain ⟨tv', v1, v2, e0, hs, hx, hy⟩ := dp_row hd
    obtain rfl : tv = tv' := V.ref.inj e0
    refine ⟨_, rfl, _, rfl, _, rfl, tv, _, 0, v1, rfl, rfl, hs, rfl, a, A, m, v1, x, rfl, hA, hlen, hx, ox.up, fun b1 H2 sm2 hb1 => ⟨_, rfl, ?_⟩⟩
    cases b1 with
    | false =>
      refine iteT (iteT (no (fun ⟨L, Ts, e, h1, h2, _⟩ => ?_) _ sm2))
      injection e with e
      injection e with e1 e2
      exact nomatch hb1.mpr ⟨L, e1, h1, h2⟩
    | true =>
    obtain ⟨L, rfl, asc, kept⟩ := hb1.mp rfl
    have hs2 := sqT_mono sm2 hs
    have hy2 := dp_mono sm2 hy
    refine iteF ⟨_, rfl, tv, _, 1, v2, rfl, rfl, hs2, rfl, v2, _, _, _, _, rfl, .ty "tuple", ty_of hy2, kit_ty (kit_tuple (dp_noDict hy2)), _, rfl, ?_⟩
    cases hT2 : isT y with
    | false =>
      refine iteT (no (fun ⟨L, Ts, e, _⟩ => ?_) _ sm2)
      injection e with e
      injection e with e1 e2
      injection e2 with e2
      rw [e2] at hT2
      cases hT2
    | true =>
    obtain ⟨es, rfl⟩ := isT_of hT2
    obtain ⟨t2, ys, rfl, hys, hya⟩ : ∃ t2 ys, v2 = .ref t2 ∧ SqT K H t2 ys ∧ DpAll K H ys es := by
      cases hy with
      | tup hs' ha' => exact ⟨_, _, rfl, hs', ha'⟩
    have yl := dpAll_len hya
    obtain ⟨el, ek⟩ : es.length ≤ 1000 ∧ ∀ d ∈ es, Od 7 d := by
      cases oy with
      | tup h l => exact ⟨l, h⟩
    refine iteF ⟨_, rfl, tv, _, 1, _, rfl, rfl, hs2, rfl, ?_⟩
    refine ⟨_, rfl, t2, rfl, ⟨ys, sqT_mono sm2 hys⟩, fun D nD => lc_tup (K := K) (a := t2) (xs := ys) (fun i H6 => FltI K H2 D es (fun d => !isInt d) i H6)
      (FltI.zero _ _ nD) (fun i H6 _ I => sqT_mono (same_tr sm2 I.1) hys) (fun i x H6 hi I => ?_) (fun H6 I => ?_)⟩
    · obtain ⟨d1, e1, hx0⟩ := dpAll_get hya hi
      have hx := dp_mono sm2 hx0
      have hx1 := dp_mono I.1 hx
      have fin : ∀ b : Bool, b = (!isInt d1) → if b = true then tVar 4 [some (.ref a), some (.int m), some (.ref tv), some (.ref t2), some x] H6 (fun y H4 => ∃ acc, H4 D = some (.lst acc) ∧ acc.length < sizeLine ∧ FltI K H2 D es (fun d => !isInt d) (i + 1) (upd H4 D (.lst (acc ++ [y])))) else
          FltI K H2 D es (fun d => !isInt d) (i + 1) H6 := fun b eb => by
        cases b with
        | true => exact iteT ⟨_, rfl, I.keep nD e1 eb.symm hx (by omega)⟩
        | false => exact iteF (I.skip e1 eb.symm)
      rw [← notInt_word] at fin
      refine ⟨rfl, x, rfl, x, _, _, _, _, rfl, .ty "int", ty_of hx1, kit_ty (kit_int (dp_noDict hx1)), _, rfl, ?_⟩
      cases h1 : isI d1 with
      | false => exact iteT (fin true (by rw [h1]; rfl))
      | true =>
        refine iteF ⟨x, rfl, x, _, _, _, _, rfl, .ty "bool", ty_of hx1, kit_ty (kit_bool (dp_noDict hx1)), _, rfl, fin _ ?_⟩
        rw [h1]
        rfl
    · obtain ⟨sm7, ys2, hD, hy3⟩ := I
      rw [yl, List.take_length] at hy3
      refine ⟨Nat.zero_le _, fun l2 nl2 => ?_⟩
      have sm8 : Same H2 (upd H6 l2 (.lst [])) := same_tr sm7 (same_new nl2)
      have odf := shaped_list (k := 7) (fun d hd => ek d (List.mem_filter.mp hd).1 : ∀ d ∈ es.filter fun d => !isInt d, Od 7 d) (by omega)
      refine ⟨_, _, .lst (SqL.of (same_new nl2 _ _ hD)) (dpAll_mono sm8 hy3), .lst (SqL.of upd_same) .nil, odf, rfl, _, rfl, ?_⟩
      rw [eqv_nil]
      have sm9 := same_tr sm2 sm8
      generalize upd H6 l2 (.lst []) = H7 at sm8 sm9
      have tt : ∀ {L' Ts}, PyData.tuple [pairsD L, .tuple es] = paperD L' Ts → pairsD L = pairsD L' ∧ PyData.tuple es = timesD Ts := fun e => by
        injection e with e
        injection e with e1 e2
        injection e2 with e2
        exact ⟨e1, e2⟩
      cases hE2 : (es.filter fun d => !isInt d).isEmpty with
      | false =>
        refine iteT (no (fun ⟨L', Ts, e, _⟩ => ?_) _ sm9)
        have e2 := (tt e).2
        injection e2 with e2
        have : (es.filter fun d => !isInt d).isEmpty = true := filter_empty.mpr fun d hd => by
          rw [e2] at hd
          obtain ⟨u, _, rfl⟩ := List.mem_map.mp hd
          rfl
        rw [hE2] at this
        cases this
      | true =>
      have allI := filter_empty.mp hE2
      obtain ⟨l, rfl⟩ := iD_of (ds := es) fun d hd => by simpa using allI d hd
      obtain rfl := dp_iD hya
      have hys9 := sqT_mono sm9 hys
      refine iteF ⟨_, rfl, t2, _, rfl, .inr hys9, fun lp nlp => ?_⟩
      have sm10 : Same H (upd H7 lp (.lst (l.map V.int))) := same_tr sm9 (same_new nlp)
      have hlp : (upd H7 lp (.lst (l.map V.int))) lp = some (.lst (l.map V.int)) := upd_same
      generalize upd H7 lp (.lst (l.map V.int)) = H8 at sm10 hlp
      have len : (A.map V.int).length = A.length := List.length_map _
      refine ⟨_, rfl, a, _, rfl, .inr (sqT_mono sm10 hA), _, rfl, by omega, by omega, fun D4 nD4 => lc_range (lo := 0) (n := ((A.map V.int).length : Int).toNat) (fun i H10 => Same H8 H10 ∧ H10 D4 = some (.lst ((castL ((List.range i).filter fun t => decide ((t : Int) ∈ l))).map V.int)))
        ⟨same_new nD4, upd_same⟩ (fun i H10 hi I => ?_) (fun H10 I => ?_)⟩
      · obtain ⟨sm11, hD4⟩ := I
        have sm12 := same_tr sm10 sm11
        have e0 : (0 + (i : Int)) = (i : Int) := by omega
        have rs : (List.range (i + 1)).filter (fun t : Nat => decide ((t : Int) ∈ l)) = (List.range i).filter (fun t : Nat => decide ((t : Int) ∈ l)) ++ if decide ((i : Int) ∈ l) = true then [i] else [] := by
          rw [List.range_succ, List.filter_append, List.filter_cons]
          rfl
        refine ⟨rfl, _, rfl, _, rfl, t2, _, rfl, .inr (sqT_mono sm12 hys), rfl, ?_, _, rfl, ?_⟩
        · rw [List.all_map, List.all_eq_true]
          exact fun _ _ => rfl
        · show if (inV (.int (0 + (i : Int))) (l.map V.int)) = true then _ else _
          rw [e0, inV_int]
          by_cases c : (i : Int) ∈ l
          · rw [if_pos (decide_eq_true c)] at rs ⊢
            refine ⟨_, rfl, _, hD4, ?_, same_chg nD4 sm11, ?_⟩
            · rw [List.length_map, List.length_map]
              refine small_line (Nat.le_trans (List.length_filter_le _ _) ?_)
              rw [List.length_range]
              omega
            · rw [upd_same, rs]
              show _ = some (HO.lst (List.map _ (List.map _ (_ ++ [i]))))
              rw [List.map_append, List.map_append]
              rfl
          · rw [if_neg (fun z => c (of_decide_eq_true z))] at rs ⊢
            rw [List.append_nil] at rs
            refine ⟨sm11, ?_⟩
            rw [rs]
            exact hD4
      · obtain ⟨sm11, hD4⟩ := I
        have sm12 := same_tr sm10 sm11
        have en : ((A.map V.int).length : Int).toNat = A.length := by omega
        rw [en] at hD4
        refine ⟨_, _, .lst (SqL.of (sm11 _ _ hlp)) (iD_dp l), .lst (SqL.of hD4) (iD_dp _), shaped_list ek (by omega), shaped_list (k := 0) (fun d hd => by
          obtain ⟨i, _, rfl⟩ := List.mem_map.mp hd
          exact .int _) (by omega), _, rfl, ?_⟩
        have ee : PyData.eqv (.list (iD l)) (.list (iD (castL ((List.range A.length).filter fun t => decide ((t : Int) ∈ l))))) = decide (l = castL ((List.range A.length).filter fun t => decide ((t : Int) ∈ l))) := eqv_iD _ _
        rw [ee]
        by_cases c : l = castL ((List.range A.length).filter fun t => decide ((t : Int) ∈ l))
        · rw [decide_eq_true c]
          obtain ⟨Ts, eT, h3, h4⟩ := ris_word.mpr c
          have e5 : PyData.tuple (iD l) = .tuple (iD (castL Ts)) := Eq.trans (show PyData.tuple (iD l) = timesD Ts from eT) (timesD_iD Ts)
          have e6 : l = castL Ts := by
            injection e5 with e5
            have := eqv_iD l (castL Ts)
            rw [e5, eqv_iD] at this
            simpa using this
          subst e6
          have ht : SqT K H t2 (timesV Ts) := by
            have : (castL Ts).map V.int = timesV Ts := by
              rw [List.map_map]
              rfl
            rw [← this]
            exact hys
          have tl : Ts.length ≤ 1000 := by
            rw [List.length_map, List.length_map] at el
            exact el
          obtain ⟨t1, xs1, rfl, hs1, l1⟩ := dp_len (dp_mono sm12 hx)
          refine iteF ⟨_, rfl, tv, _, 0, _, rfl, rfl, sqT_mono sm12 hs, rfl, t1, xs1, rfl, .inr hs1, _, rfl, _, rfl, _, rfl, a, t2, A, m, Ts, rfl, sqT_mono sm12 hA, hlen, hm, hm2, sqT_mono sm12 ht, tl, fun H4 sm6 => ⟨rfl, q _ H4 (same_tr sm12 sm6) ?_⟩⟩
          rw [l1, List.length_map, decide_eq_true_eq]
          constructor
          · intro e
            injection e with e
            exact ⟨L, Ts, congrArg (fun z => PyData.tuple [pairsD L, z]) (timesD_iD Ts).symm, asc, kept, h3, h4, by omega⟩
          · rintro ⟨L', Ts', e, _, _, _, _, e2⟩
            obtain ⟨e3, e4⟩ := tt e
            obtain rfl := pairsD_inj e3
            have : Ts = Ts' := timesD_inj ((timesD_iD Ts).trans e4)
            subst this
            rw [e2]
        · rw [decide_eq_false c]
          refine iteT (no (fun ⟨L', Ts, e, _, _, h3, h4, _⟩ => c (ris_word.mp ⟨Ts, (tt e).2, h3, h4⟩)) _ sm12)
end
end Fw
end
section
set_option Elab.async false
set_option linter.all false
set_option maxRecDepth 100000
set_option maxHeartbeats 4000000
namespace Fw
open PySem PySem.Spec PyProof.Rows L2 Fr Fm
/-! ### the deal: a list of two, whose first is a list of numbers -/
structure Deal (H : Hp) (d l : Addr) (cs : List Int) (b : Int) : Prop where
  d : H d = some (.lst [.ref l, .int b])
  l : H l = some (.lst (cs.map V.int))
  pos : ∀ c ∈ cs, 0 ≤ c
  len : cs.length ≤ 1000
  lo : 0 ≤ b
  hi : b < 2147483647
def DealE (H : Hp) (d l : Addr) : Prop := ∃ cs b, Deal H d l cs b
/-- the heap without the deal -/
def hid (d l : Addr) (H : Hp) : Hp := fun b => if b = d ∨ b = l then none else H b
theorem hid_some {d l b : Addr} {H : Hp} {o : HO} : hid d l H b = some o ↔ b ≠ d ∧ b ≠ l ∧ H b = some o := by
  unfold hid
  constructor
  · intro h
    split at h
    · cases h
    · rename_i c
      exact ⟨fun z => c (.inl z), fun z => c (.inr z), h⟩
  · rintro ⟨h1, h2, h3⟩
    rw [if_neg (fun z => z.elim h1 h2)]
    exact h3
theorem hid_same (d l : Addr) (H : Hp) : Same (hid d l H) H := fun b o e => (hid_some.mp e).2.2
theorem hid_mono {d l : Addr} {H H' : Hp} (k : Same H H') : Same (hid d l H) (hid d l H') := fun b o e => by
  obtain ⟨h1, h2, h3⟩ := hid_some.mp e
  exact hid_some.mpr ⟨h1, h2, k _ _ h3⟩
theorem hid_out {d l : Addr} {H H' : Hp} (k : Same (hid d l H) H') : Same (hid d l H) (hid d l H') := fun b o e => by
  obtain ⟨h1, h2, h3⟩ := hid_some.mp e
  exact hid_some.mpr ⟨h1, h2, k _ _ e⟩
theorem hid_upd {d l p : Addr} {H : Hp} {o : HO} (h : p = d ∨ p = l) : hid d l (upd H p o) = hid d l H := by
  funext b
  unfold hid
  by_cases c : b = d ∨ b = l
  · rw [if_pos c, if_pos c]
  · rw [if_neg c, if_neg c, upd_ne (fun z => c (by rw [z]; exact h))]
theorem Deal.ne {H : Hp} {d l : Addr} {cs : List Int} {b : Int} (D : Deal H d l cs b) : d ≠ l := fun e => by
  have h1 := D.d
  have h2 := D.l
  rw [e, h2] at h1
  have h3 := Option.some.inj h1
  injection h3 with h4
  cases cs with
  | nil => cases h4
  | cons c cs =>
    injection h4 with h5
    cases h5
theorem Deal.mono {H H' : Hp} {d l : Addr} {cs : List Int} {b : Int} (D : Deal H d l cs b) (k : Same H H') : Deal H' d l cs b := ⟨k _ _ D.d, k _ _ D.l, D.pos, D.len, D.lo, D.hi⟩
theorem DealE.mono {H H' : Hp} {d l : Addr} (D : DealE H d l) (k : Same H H') : DealE H' d l := by
  obtain ⟨cs, b, D⟩ := D
  exact ⟨cs, b, D.mono k⟩
theorem Deal.new_ne {H : Hp} {d l p : Addr} {cs : List Int} {b : Int} (D : Deal H d l cs b) (n : H p = none) : p ≠ d ∧ p ≠ l := ⟨(ne_of_none D.d n).symm, (ne_of_none D.l n).symm⟩
theorem DealE.new_ne {H : Hp} {d l p : Addr} (D : DealE H d l) (n : H p = none) : p ≠ d ∧ p ≠ l := by
  obtain ⟨cs, b, D⟩ := D
  exact D.new_ne n
section
variable {P : Program} {w : World} {K : PySem.W.Frag} {mg : Str → Option Value} {base : Heap}
/-! ### _law_draw -/
def sp_law_draw (K : PySem.W.Frag) : Sp := fun vs H Q _ => ∃ (a : Addr) (ns : List Int), vs = [.ref a, .int 35] ∧ SqL K H a (ns.map V.int) ∧
  ∀ d l H', Same H H' → H d = none → H l = none → DealE H' d l → Q (.ref d) H'
abbrev NDraw : List Str := ["_law_script", "_law_salt", "_law_cells", "_law_blend", "_law_cell"]
def absI (i : Int) : Int := if i < 0 then -i else i
theorem absI_pos (i : Int) : 0 ≤ absI i := by
  unfold absI
  split <;> omega
theorem cut_to (xs : List V) (n : Nat) : ∃ k, cutV xs none (some (n : Int)) = xs.take k ∧ k ≤ xs.length ∧ k ≤ n := by
  unfold cutV HT.sIx
  refine ⟨min n xs.length, ?_, by omega, by omega⟩
  simp
  split <;> omega
theorem ok_law_draw {f : Addr} {fd : FuncData} {k : Nat} (F : Fun K "_law_draw" "_law_draw" s_law_draw f fd) (T : Nm mg) : FnOk P w K mg base CX0 (k + 1) f fd ["_law_script", "_law_salt"] (sp_law_draw K) := by
  refine F.ok sc_law_draw (fun vs H Q E h => ?_) (fun cdv A' outer s H vs Q E hr h => ?_)
  · obtain ⟨a, ns, rfl, _⟩ := h
    rfl
  · obtain ⟨a, ns, rfl, hA, q⟩ := h
    have nd := sc_law_draw.nd
    refine ⟨_, pss_cons (ps_setLc (i := 2) (own := [("_law_cell", 4)]) (g := gName 4) (tt := tYes) rfl nd rfl rfl (sw_true rfl rfl rfl (by decide +kernel))
        (pi_list (pe_slice sl_list (pv 0) po_none (po_some pe_int))) (blkOk_by (N := NDraw) (sc := defScope s_law_draw) (by decide +kernel)) (fun _ _ _ _ _ => pg_name (i := 4) nd rfl (.inl rfl)) (fun _ _ _ _ _ => pts_nil)
        (fun _ _ _ _ _ => pe_callB call_abs (by rfl) T.abs (by decide +kernel) (pa_cons (pe_callTy call_int1 (by rfl) T.int (by decide +kernel) (pa_cons (pv 4) pa_nil)) pa_nil)))
      (pss_cons (ps_asg (pe_op op_add pe_int (pe_op op_mul pe_int (pv 1))) (pg_name (i := 3) nd rfl (.inl rfl)))
      (pss_cons (ps_for PassesOwn.never rfl (pi_list (pv 2)) (pg_name (i := 4) nd rfl (.inl rfl))
        (pss_one (ps_asg (pe_op op_mod (pe_callTy call_int1 (by rfl) T.int (by decide +kernel) (pa_cons (pe_op op_add (pe_op op_add (pe_op op_mul (pv 3) pe_int) (pe_op op_mod (pv 4) pe_int)) pe_int) pa_nil)) pe_int) (pg_name (i := 3) nd rfl (.inl rfl)))))
      (pss_one (ps_ret (pe_lst (pa_cons (pe_revL (pe_lc (own := [("_law_cell", 4)]) (g := gName 4) (tt := tTest (tOp (rI0 fun i j => .bl (decide (j ≤ i))) (tVar 4) (tOp (rI CPow fun i j => .int (i ^ j.toNat)) (tC (.int 10)) (tC (.int 18))))) rfl nd (pi_list (pv 2)) (blkOk_by (N := NDraw) (sc := defScope s_law_draw) (by decide +kernel)) (fun _ _ _ _ _ => pg_name (i := 4) nd rfl (.inl rfl))
          (fun _ _ _ _ _ => pts_one (pt_cmpR op_ge (pv 4) (pe_op op_pow pe_int pe_int) (nomark _))) (fun _ _ _ _ _ => pv 4))) (pa_cons (pv 3) pa_nil))))))), ?_⟩
    refine ⟨_, rfl, _, rfl, a, _, rfl, hA, fun p np => ?_⟩
    obtain ⟨c, ec, c1, c2⟩ := cut_to (ns.map V.int) 48
    have ec' : cutV (ns.map V.int) none (some 48) = (ns.take c).map V.int := ec.trans (List.map_take ..).symm
    rw [ec']
    have sm1 : Same H (upd H p (.lst ((ns.take c).map V.int))) := same_new np
    have hp : (upd H p (.lst ((ns.take c).map V.int))) p = some (.lst ((ns.take c).map V.int)) := upd_same
    have ml : (ns.take c).length ≤ 48 := by
      rw [List.length_take]
      omega
    generalize ns.take c = ms at sm1 hp ml
    generalize upd H p (.lst (ms.map V.int)) = H1 at sm1 hp
    refine ⟨p, rfl, ⟨_, SqL.of hp⟩, fun D nD => lc_list (K := K) (a := p) (xs := ms.map V.int) (fun i H2 => Same H1 H2 ∧ H2 D = some (.lst (((ms.take i).map absI).map V.int)))
      ⟨same_new nD, upd_same⟩ (fun i H2 _ I => SqL.of (I.1 _ _ hp)) (fun i x H2 hi I => ?_) (fun H2 I => ?_)⟩
    · obtain ⟨sm2, hD⟩ := I
      rw [List.getElem?_map] at hi
      cases hu : ms[i]? with
      | none => rw [hu] at hi; cases hi
      | some u =>
        rw [hu] at hi
        obtain rfl : V.int u = x := Option.some.inj hi
        refine ⟨rfl, _, rfl, .inl ⟨_, rfl, _, rfl, _, hD, ?_, same_chg nD sm2, ?_⟩⟩
        · rw [List.length_map, List.length_map, List.length_take]
          exact small_line (by omega)
        · rw [upd_same, take_snoc hu, List.map_append]
          rfl
    · obtain ⟨sm2, hD⟩ := I
      rw [List.length_map, List.take_length] at hD
      have sm3 := same_tr sm1 sm2
      have fD : H D = none := sm1.free nD
      refine ⟨_, rfl, _, _, rfl, rfl, .inl ⟨by decide, by decide⟩, _, _, rfl, rfl, ?_⟩
      refine ⟨_, rfl, D, rfl, ⟨_, SqL.of hD⟩, for_list (K := K) (a := D) (xs := (ms.map absI).map V.int) (fun i σ H3 => H3 = H2 ∧ ∃ b y4, σ = [some (.ref a), some (.int 35), some (.ref D), some (.int b), y4] ∧ 0 ≤ b ∧ b < 2147483647)
        ⟨rfl, _, _, rfl, by decide, by decide⟩ (fun i σ H3 _ I => by rw [I.1]; exact SqL.of hD) (fun i x σ H3 hi I => ?_) (fun σ H3 I => ?_)⟩
      · obtain ⟨rfl, b, y4, rfl, b0, b1⟩ := I
        rw [List.getElem?_map] at hi
        cases hu : (ms.map absI)[i]? with
        | none => rw [hu] at hi; cases hi
        | some u =>
          rw [hu] at hi
          obtain rfl : V.int u = x := Option.some.inj hi
          refine ⟨_, rfl, _, _, rfl, rfl, .inl ⟨by omega, by omega⟩, _, rfl, _, _, rfl, rfl, (by decide : (0 : Int) < 2147483549), _, _, rfl, rfl, _, _, rfl, rfl, .inl ⟨_, rfl, _, _, rfl, rfl, (by decide : (0 : Int) < 2147483647), rfl, _, _, rfl, ?_, ?_⟩⟩
          · exact Int.emod_nonneg _ (by decide)
          · exact Int.emod_lt_of_pos _ (by decide)
      · obtain ⟨rfl, b, y4, rfl, b0, b1⟩ := I
        refine ⟨_, rfl, D, rfl, ⟨_, SqL.of hD⟩, fun D2 nD2 => lc_list (K := K) (a := D) (xs := (ms.map absI).map V.int) (fun i H4 => Same H3 H4 ∧ ∃ us : List Int, H4 D2 = some (.lst (us.map V.int)) ∧ us.length ≤ i ∧ ∀ u ∈ us, 0 ≤ u)
          ⟨same_new nD2, [], upd_same, Nat.le_refl _, fun u hu => nomatch hu⟩ (fun i H4 _ I => SqL.of (I.1 _ _ hD)) (fun i x H4 hi I => ?_) (fun H4 I => ?_)⟩
        · obtain ⟨sm4, us, hD2, ul, up⟩ := I
          have il := (List.getElem?_eq_some_iff.mp hi).1
          rw [List.length_map, List.length_map] at il
          rw [List.getElem?_map, List.getElem?_map] at hi
          cases hu : ms[i]? with
          | none => rw [hu] at hi; cases hi
          | some u =>
            rw [hu] at hi
            obtain rfl : V.int (absI u) = x := Option.some.inj hi
            refine ⟨rfl, _, rfl, _, _, rfl, rfl, ⟨by decide, by decide, by decide⟩, _, _, rfl, rfl, _, rfl, ite2 (fun c => ?_) (fun c => ⟨sm4, us, hD2, by omega, up⟩)⟩
            refine ⟨_, rfl, _, hD2, by rw [List.length_map]; exact small_line (by omega), same_chg nD2 sm4, us ++ [absI u], by rw [upd_same, List.map_append]; rfl, by rw [List.length_append, List.length_singleton]; omega, fun z hz => ?_⟩
            rcases List.mem_append.mp hz with h | h
            · exact up z h
            · rw [List.mem_singleton.mp h]
              exact absI_pos u
        · obtain ⟨sm4, us, hD2, ul, up⟩ := I
          rw [List.length_map, List.length_map] at ul
          refine ⟨D2, _, rfl, SqL.of hD2, fun l nl => ?_⟩
          refine ⟨_, rfl, by show 2 ≤ sizeLine; decide, fun d nd2 => ?_⟩
          have sm5 := same_tr sm3 (same_tr sm4 (same_tr (same_new (o := .lst (us.map V.int).reverse) nl) (same_new (o := .lst [.ref l, .int b]) nd2)))
          have fl : H l = none := (same_tr sm3 sm4).free nl
          have fd2 : H d = none := (same_tr (same_tr sm3 sm4) (same_new nl)).free nd2
          have nld : l ≠ d := ne_of_none upd_same nd2
          refine q d l _ sm5 fd2 fl ⟨us.reverse, b, upd_same, ?_, fun c hc => up c (List.mem_reverse.mp hc), by rw [List.length_reverse]; omega, b0, b1⟩
          rw [upd_ne nld, upd_same, List.map_reverse]
end
end Fw
end
section
set_option Elab.async false
set_option linter.all false
set_option maxRecDepth 100000
set_option maxHeartbeats 4000000
namespace Fw
open PySem PySem.Spec PyProof.Rows L2 Fr Fm
abbrev Sm (d l : Addr) (H H' : Hp) : Prop := Same (hid d l H) (hid d l H')
theorem Sm.refl {d l : Addr} {H : Hp} : Sm d l H H := same_refl _
theorem Sm.tr {d l : Addr} {H H1 H2 : Hp} (a : Sm d l H H1) (b : Sm d l H1 H2) : Sm d l H H2 := same_tr a b
theorem Sm.upd {d l p : Addr} {H : Hp} {o : HO} (h : p = d ∨ p = l) : Sm d l H (upd H p o) := by
  show Same _ (hid d l (L2.upd H p o))
  rw [hid_upd h]
  exact same_refl _
section
variable {P : Program} {w : World} {K : PySem.W.Frag} {mg : Str → Option Value} {base : Heap}
theorem while_then {c : TT} {tb : TS} {D : Ends} {σ : L2.St} {H : Hp} (Pv Pe : L2.St → Hp → Prop) (μ : L2.St → Hp → Nat) (h0 : Pv σ H)
    (hs : ∀ σ H, Pv σ H → c σ H fun b H1 => if b = true then tb { nx := fun σ' H' => Pv σ' H' ∧ μ σ' H' < μ σ H, rt := D.rt, bk := D.nx, ct := fun σ' H' => Pv σ' H' ∧ μ σ' H' < μ σ H } σ H1 else Pe σ H1)
    (mono : ∀ (σ : L2.St) (H : Hp) (Q Q' : Bool → Hp → Prop), (∀ b H1, Q b H1 → Q' b H1) → c σ H Q → c σ H Q') (hd : ∀ σ H, Pe σ H → D.nx σ H) : tWhile c tb D σ H :=
  while_by Pv μ h0 (fun σ H hP => mono σ H _ _ (fun b H1 h => by
    cases b with
    | true => exact h
    | false => exact hd σ H1 h) (hs σ H hP)) mono
def sp_law_any (K : PySem.W.Frag) : Sp := fun vs H Q _ => ∃ (d l : Addr) (n : Nat), vs = [.ref d, .int n] ∧ DealE H d l ∧ 1 ≤ n ∧ n ≤ 1000000 ∧
  ∀ (i : Nat) H', Sm d l H H' → DealE H' d l → i < n → Q (.int i) H'
theorem shaped_ints (l : List Int) : SeqAt.shaped (.list (iD l)) = true := shaped_list (k := 0) (fun d hd => by
  obtain ⟨i, _, rfl⟩ := List.mem_map.mp hd
  exact .int _) (by omega)
theorem list_end {α : Type} : ∀ l : List α, l = [] ∨ ∃ r x, l = r ++ [x]
  | [] => .inl rfl
  | x :: l => by
    rcases list_end l with rfl | ⟨r, y, rfl⟩
    · exact .inr ⟨[], x, rfl⟩
    · exact .inr ⟨x :: r, y, rfl⟩
/-- how many numbers the deal has left -/
def left (l : Addr) (H : Hp) : Nat := match H l with
  | some (.lst xs) => xs.length
  | _ => 0
theorem left_of {H : Hp} {d l : Addr} {cs : List Int} {b : Int} (D : Deal H d l cs b) : left l H = cs.length := by
  unfold left
  rw [D.l]
  exact List.length_map _
theorem ok_law_any {f : Addr} {fd : FuncData} {k : Nat} (F : Fun K "_law_any" "_law_any" s_law_any f fd) (T : Nm mg) : FnOk P w K mg base CX0 (k + 1) f fd ["_law_deal", "_law_bound_here"] (sp_law_any K) := by
  refine F.ok sc_law_any (fun vs H Q E h => ?_) (fun cdv A' outer s H vs Q E hr h => ?_)
  · obtain ⟨d, l, n, rfl, _⟩ := h
    rfl
  · obtain ⟨d, l, n, rfl, ⟨cs0, b0, D0⟩, n1, n2, q⟩ := h
    have nd := sc_law_any.nd
    refine ⟨_, pss_cons (ps_while PassesOwn.never (PW.pt (pw_and (pt_cmpR (op_neD hr.units) (pe_ix (r := rIxL K) ix_list (pv 0) pe_int (fun _ _ => rfl)) (pe_lst pa_nil) (nomark _))
          (pw_and1 (pt_cmpR op_eq (pe_ix (r := rIxL K) ix_list (pe_ix (r := rIxL K) ix_list (pv 0) pe_int (fun _ _ => rfl)) (pe_un un_neg pe_int) (fun _ _ => rfl)) pe_int (nomark _)))))
        (pss_one (ps_expr (pe_bm0 PySem.F.plainAttrs_list PySem.F.slot_list_pop PySem.F.type_list_pop mt_pop (pe_ix (r := rIxL K) ix_list (pv 0) pe_int (fun _ _ => rfl))))))
      (pss_cons (ps_if (pt_cmpR (op_neD hr.units) (pe_ix (r := rIxL K) ix_list (pv 0) pe_int (fun _ _ => rfl)) (pe_lst pa_nil) (nomark _))
        (pss_cons (ps_asg (pe_callTy call_int1 (by rfl) T.int (by decide +kernel) (pa_cons (pe_bm0 PySem.F.plainAttrs_list PySem.F.slot_list_pop PySem.F.type_list_pop mt_pop (pe_ix (r := rIxL K) ix_list (pv 0) pe_int (fun _ _ => rfl))) pa_nil)) (pg_name (i := 2) nd rfl (.inl rfl)))
        (pss_cons (ps_expr (pe_bm PySem.F.plainAttrs_list PySem.F.slot_list_append PySem.F.type_list_append mt_append (pe_ix (r := rIxL K) ix_list (pv 0) pe_int (fun _ _ => rfl)) (pa_cons (pe_op op_fdivN (pv 2) (pv 1)) pa_nil)))
        (pss_one (ps_ret (pe_op op_mod (pv 2) (pv 1)))))) pss_nil)
      (pss_cons (ps_asg (pe_op op_mod (pe_callTy call_int1 (by rfl) T.int (by decide +kernel) (pa_cons (pe_op op_add (pe_op op_mul (pe_ix (r := rIxL K) ix_list (pv 0) pe_int (fun _ _ => rfl)) pe_int) pe_int) pa_nil)) pe_int) (pg_sub (pv 0) pe_int set_list))
      (pss_one (ps_ret (pe_op op_mod (pe_callTy call_int1 (by rfl) T.int (by decide +kernel) (pa_cons (pe_op op_fdivN (pe_ix (r := rIxL K) ix_list (pv 0) pe_int (fun _ _ => rfl)) pe_int) pa_nil)) (pv 1)))))), ?_⟩
    have nn : (n : Int) ≠ 0 := by omega
    refine while_then (fun σ H1 => σ = [some (.ref d), some (.int n), none] ∧ Sm d l H H1 ∧ DealE H1 d l) (fun σ H1 => σ = [some (.ref d), some (.int n), none] ∧ Sm d l H H1 ∧ DealE H1 d l) (fun _ H1 => left l H1) ⟨rfl, .refl, _, _, D0⟩ (fun σ H1 I => ?_) (fun σ H1 Q1 Q2 hQ hc => ?_) (fun σ H1 I => ?_)
    · obtain ⟨rfl, sm, cs, b, D⟩ := I
      refine ⟨_, rfl, d, _, 0, .ref l, rfl, rfl, SqL.of D.d, rfl, Nat.zero_le _, fun p np => ?_⟩
      have D2 := D.mono (same_new (o := .lst []) np)
      have hp : (upd H1 p (.lst [])) p = some (.lst []) := upd_same
      have sm2 : Sm d l H (upd H1 p (.lst [])) := sm.tr (hid_mono (same_new np))
      have lf : left l (upd H1 p (.lst [])) = cs.length := left_of D2
      have lf1 : left l H1 = cs.length := left_of D
      generalize upd H1 p (.lst []) = H2 at D2 hp sm2 lf
      refine ⟨_, _, .lst (SqL.of D2.l) (iD_dp cs), .lst (SqL.of hp) .nil, shaped_ints cs, rfl, _, rfl, ?_⟩
      rw [eqv_nil]
      rcases list_end cs with rfl | ⟨r, c, rfl⟩
      · exact iteF (iteF ⟨rfl, sm2, _, _, D2⟩)
      · have ne : (iD (r ++ [c])).isEmpty = false := by
          rw [List.isEmpty_eq_false_iff]
          intro z
          have := congrArg List.length z
          simp at this
        rw [ne]
        have ci : ((r ++ [c]).map V.int) = r.map V.int ++ [.int c] := List.map_append
        have D2l : H2 l = some (.lst (r.map V.int ++ [.int c])) := by
          rw [← ci]
          exact D2.l
        refine iteT ⟨_, rfl, d, _, 0, .ref l, rfl, rfl, SqL.of D2.d, rfl, _, rfl, l, _, _, .int c, rfl, rfl, SqL.of D2l, atI_last _ _, rfl, _, rfl, ?_⟩
        by_cases c0 : c = 0
        · subst c0
          have lst : (r.map V.int ++ [V.int 0])[(r.map V.int ++ [V.int 0]).length - 1]? = some (.int 0) := by simp
          have D3 : Deal (upd H2 l (.lst (r.map V.int ++ [V.int 0]).dropLast)) d l r b := ⟨by rw [upd_ne D2.ne]; exact D2.d, by rw [upd_same, List.dropLast_concat], fun c hc => D2.pos c (List.mem_append_left _ hc), by
            have := D2.len
            rw [List.length_append] at this
            omega, D2.lo, D2.hi⟩
          refine iteT ⟨_, rfl, d, _, 0, .ref l, rfl, rfl, SqL.of D2.d, rfl, .inl ⟨rfl, _, SqL.of D2l⟩, l, _, _, rfl, rfl, D2l, lst, ⟨rfl, sm2.tr (Sm.upd (.inr rfl)), _, _, D3⟩, ?_⟩
          show left l _ < left l H1
          rw [left_of D3, lf1, List.length_append, List.length_singleton]
          omega
        · have e : decide (V.int c = V.int 0) = false := decide_eq_false fun z => c0 (V.int.inj z)
          rw [e]
          exact iteF ⟨rfl, sm2, _, _, D2⟩
    · obtain ⟨x1, e1, p1, xs1, i1, v1, e2, e3, s1, a1, z1, f1⟩ := hc
      refine ⟨x1, e1, p1, xs1, i1, v1, e2, e3, s1, a1, z1, fun p np => ?_⟩
      obtain ⟨d1, d2, h1, h2, h3, h4, k1, ek, g1⟩ := f1 p np
      refine ⟨d1, d2, h1, h2, h3, h4, k1, ek, ?_⟩
      cases k1 with
      | false => exact hQ _ _ g1
      | true =>
        obtain ⟨x2, e5, p2, xs2, i2, v2, e6, e7, s2, a2, i3, e8, p3, xs3, i4, v3, e9, e10, s3, a3, sc, k2, e11, g2⟩ := g1
        exact ⟨x2, e5, p2, xs2, i2, v2, e6, e7, s2, a2, i3, e8, p3, xs3, i4, v3, e9, e10, s3, a3, sc, k2, e11, hQ _ _ g2⟩
    · obtain ⟨rfl, sm, cs, b, D⟩ := I
      refine ⟨_, rfl, d, _, 0, .ref l, rfl, rfl, SqL.of D.d, rfl, Nat.zero_le _, fun p np => ?_⟩
      have D2 := D.mono (same_new (o := .lst []) np)
      have hp : (upd H1 p (.lst [])) p = some (.lst []) := upd_same
      have sm2 : Sm d l H (upd H1 p (.lst [])) := sm.tr (hid_mono (same_new np))
      generalize upd H1 p (.lst []) = H2 at D2 hp sm2
      refine ⟨_, _, .lst (SqL.of D2.l) (iD_dp cs), .lst (SqL.of hp) .nil, shaped_ints cs, rfl, _, rfl, ?_⟩
      rw [eqv_nil]
      rcases list_end cs with rfl | ⟨r, c, rfl⟩
      · have D3 : Deal (upd H2 d (.lst ([V.ref l, V.int b].set 1 (.int ((b * 40693 + 71) % 2147483647))))) d l [] ((b * 40693 + 71) % 2147483647) :=
          ⟨upd_same, by rw [upd_ne (Ne.symm D2.ne)]; exact D2.l, fun c hc => (nomatch hc), Nat.zero_le _, Int.emod_nonneg _ (by decide), Int.emod_lt_of_pos _ (by decide)⟩
        have b0 := D2.lo
        have b1 := D2.hi
        refine iteF ⟨_, rfl, d, _, 1, .int b, rfl, rfl, SqL.of D2.d, rfl, _, _, rfl, rfl, .inl ⟨by omega, by omega⟩, _, _, rfl, rfl, .inl ⟨_, rfl, _, _, rfl, rfl, (by decide : (0 : Int) < 2147483647), ?_⟩⟩
        refine ⟨_, rfl, d, _, _, 1, rfl, rfl, D2.d, rfl, ?_⟩
        refine ⟨_, rfl, d, _, 1, .int ((b * 40693 + 71) % 2147483647), rfl, rfl, SqL.of D3.d, rfl, _, _, rfl, rfl, ⟨by decide, by decide⟩, .inl ⟨_, rfl, _, rfl, _, _, rfl, rfl, (by omega : (0 : Int) < (n : Int)), ?_⟩⟩
        have lo := Int.emod_nonneg (((b * 40693 + 71) % 2147483647).fdiv 64) nn
        have hi := Int.emod_lt_of_pos (((b * 40693 + 71) % 2147483647).fdiv 64) (by omega : (0 : Int) < (n : Int))
        have := q (((((b * 40693 + 71) % 2147483647).fdiv 64) % (n : Int)).toNat) _ (sm2.tr (Sm.upd (.inl rfl))) ⟨_, _, D3⟩ (by omega)
        rw [Int.toNat_of_nonneg lo] at this
        exact this
      · have ne : (iD (r ++ [c])).isEmpty = false := by
          rw [List.isEmpty_eq_false_iff]
          intro z
          have := congrArg List.length z
          simp at this
        rw [ne]
        have ci : ((r ++ [c]).map V.int) = r.map V.int ++ [.int c] := List.map_append
        have D2l : H2 l = some (.lst (r.map V.int ++ [.int c])) := by
          rw [← ci]
          exact D2.l
        have lst : (r.map V.int ++ [V.int c])[(r.map V.int ++ [V.int c]).length - 1]? = some (.int c) := by simp
        have ln := D2.len
        rw [List.length_append, List.length_singleton] at ln
        have cp := D2.pos c (List.mem_append_right _ List.mem_cons_self)
        have D3 : Deal (upd H2 l (.lst (r.map V.int ++ [V.int c]).dropLast)) d l r b := ⟨by rw [upd_ne D2.ne]; exact D2.d, by rw [upd_same, List.dropLast_concat], fun c hc => D2.pos c (List.mem_append_left _ hc), by omega, D2.lo, D2.hi⟩
        have sm3 : Sm d l H (upd H2 l (.lst (r.map V.int ++ [V.int c]).dropLast)) := sm2.tr (Sm.upd (.inr rfl))
        generalize hH3 : upd H2 l (.lst (r.map V.int ++ [V.int c]).dropLast) = H3 at D3 sm3
        refine iteT ⟨_, rfl, d, _, 0, .ref l, rfl, rfl, SqL.of D2.d, rfl, .inl ⟨rfl, _, SqL.of D2l⟩, l, _, _, rfl, rfl, D2l, lst, ?_⟩
        rw [hH3]
        refine .inl ⟨_, rfl, ?_⟩
        refine ⟨_, rfl, d, _, 0, .ref l, rfl, rfl, SqL.of D3.d, rfl, .inl ⟨rfl, _, SqL.of D3.l⟩, ?_⟩
        refine ⟨_, rfl, _, rfl, _, _, rfl, rfl, ⟨nn, by omega⟩, l, _, _, rfl, rfl, D3.l, by rw [List.length_map]; exact small_line (by omega), ?_⟩
        have D4 : Deal (upd H3 l (.lst (r.map V.int ++ [V.int (c.fdiv (n : Int))]))) d l (r ++ [c.fdiv (n : Int)]) b := ⟨by rw [upd_ne D3.ne]; exact D3.d, by rw [upd_same, List.map_append]; rfl, fun z hz => by
          rcases List.mem_append.mp hz with h | h
          · exact D3.pos z h
          · rw [List.mem_singleton.mp h]
            exact Int.fdiv_nonneg cp (by omega), by rw [List.length_append, List.length_singleton]; omega, D3.lo, D3.hi⟩
        refine ⟨_, rfl, _, rfl, _, _, rfl, rfl, (by omega : (0 : Int) < (n : Int)), ?_⟩
        have lo := Int.emod_nonneg c nn
        have hi := Int.emod_lt_of_pos c (by omega : (0 : Int) < (n : Int))
        have := q ((c % (n : Int)).toNat) _ (sm3.tr (Sm.upd (.inr rfl))) ⟨_, _, D4⟩ (by omega)
        rw [Int.toNat_of_nonneg lo] at this
        exact this
end
end Fw
end
section
set_option Elab.async false
set_option linter.all false
set_option maxRecDepth 100000
set_option maxHeartbeats 4000000
namespace Fw
open PySem PySem.Spec PyProof.Rows L2 Fr Fm
theorem Deal.upd {H : Hp} {d l p : Addr} {cs : List Int} {b : Int} {o : HO} (D : Deal H d l cs b) (h : p ≠ d ∧ p ≠ l) : Deal (L2.upd H p o) d l cs b :=
  ⟨by rw [upd_ne (Ne.symm h.1)]; exact D.d, by rw [upd_ne (Ne.symm h.2)]; exact D.l, D.pos, D.len, D.lo, D.hi⟩
theorem DealE.upd {H : Hp} {d l p : Addr} {o : HO} (D : DealE H d l) (h : p ≠ d ∧ p ≠ l) : DealE (L2.upd H p o) d l := by
  obtain ⟨cs, b, D⟩ := D
  exact ⟨cs, b, D.upd h⟩
theorem hid_new {H : Hp} {d l p : Addr} {o : HO} (D : DealE H d l) (n : H p = none) : hid d l (L2.upd H p o) p = some o := hid_some.mpr ⟨(D.new_ne n).1, (D.new_ne n).2, upd_same⟩
theorem hid_none {H : Hp} {d l p : Addr} (n : H p = none) : hid d l H p = none := by
  unfold hid
  split
  · rfl
  · exact n
/-- a change of an object that was new since H -/
theorem Sm.chg {H H1 : Hp} {d l p : Addr} {o : HO} (n : hid d l H p = none) (k : Sm d l H H1) : Sm d l H (L2.upd H1 p o) := by
  by_cases c : p = d ∨ p = l
  · exact k.tr (Sm.upd c)
  · intro b x e
    have nb : b ≠ p := fun z => by
      rw [z, n] at e
      cases e
    obtain ⟨h1, h2, h3⟩ := hid_some.mp (k _ _ e)
    exact hid_some.mpr ⟨h1, h2, by rw [upd_ne nb]; exact h3⟩
theorem Sm.free {H H1 : Hp} {d l p : Addr} (k : Sm d l H H1) (n : H1 p = none) : hid d l H p = none := Same.free k (hid_none n)
theorem Sm.new {H : Hp} {d l p : Addr} {o : HO} (n : H p = none) : Sm d l H (L2.upd H p o) := hid_mono (same_new n)
theorem Sm.of {H H' : Hp} {d l : Addr} (k : Same H H') : Sm d l H H' := hid_mono k
theorem ite_via {c : Bool} {t u : VK → Prop} {Q : VK} (R : VK) (h1 : c = true → ∀ Q' : VK, (∀ v H, R v H → Q' v H) → t Q') (h2 : c = false → ∀ Q' : VK, (∀ v H, R v H → Q' v H) → u Q') (key : ∀ v H, R v H → Q v H) : if c = true then t Q else u Q := by
  cases c with
  | true => exact h1 rfl Q key
  | false => exact h2 rfl Q key
section
variable {P : Program} {w : World} {K : PySem.W.Frag} {mg : Str → Option Value} {base : Heap}
def sp_law_of (K : PySem.W.Frag) : Sp := fun vs H Q _ => ∃ (d l s : Addr) (xs : List V), vs = [.ref d, .ref s] ∧ DealE H d l ∧ SqL K (hid d l H) s xs ∧ 1 ≤ xs.length ∧ xs.length ≤ 1000 ∧
  ∀ (i : Nat) v H', Sm d l H H' → DealE H' d l → xs[i]? = some v → Q v H'
theorem ok_law_of {f f1 : Addr} {fd fd1 : FuncData} {k : Nat} (F : Fun K "_law_of" "_law_of" s_law_of f fd) (T : Nm mg) (G1 : FnOk P w K mg base CX0 k f1 fd1 ["_law_deal", "_law_bound_here"] (sp_law_any K)) (D1 : Dn K mg "_law_any" f1 fd1 ["_law_deal", "_law_bound_here"]) :
    FnOk P w K mg base CX0 (k + 1) f fd ["_law_deal", "_law_some"] (sp_law_of K) := by
  refine F.ok sc_law_of (fun vs H Q E h => ?_) (fun cdv A' outer s H vs Q E hr h => ?_)
  · obtain ⟨d, l, s, xs, rfl, _⟩ := h
    rfl
  · obtain ⟨d, l, s, xs, rfl, D, hs, l1, l2, q⟩ := h
    refine ⟨_, pss_one (ps_ret (pe_ix ix_list (pv 1) (pe_call G1 hr (by rfl) D1.g D1.kp D1.b .nil pass0 (pa_cons (pv 0) (pa_cons (pe_callB call_len_seq (by rfl) T.len PySem.boot_len (pa_cons (pv 1) pa_nil)) pa_nil))) (fun _ _ => rfl))), ?_⟩
    refine ⟨_, rfl, _, rfl, _, rfl, s, xs, rfl, .inl (sqL_mono (hid_same d l H) hs), d, l, xs.length, rfl, D, l1, by omega, fun i H' sm D' il => ?_⟩
    have e : xs[i]? = some xs[i] := List.getElem?_eq_getElem il
    exact ⟨s, xs, i, xs[i], rfl, rfl, sqL_mono (same_tr sm (hid_same d l H')) hs, atI_nat e, q i _ H' sm D' e⟩
/-! ### _law_asks -/
def sp_law_asks (K : PySem.W.Frag) : Sp := fun vs H Q _ => ∃ (d l : Addr) (most pages : Nat), vs = [.ref d, .int most, .int pages] ∧ DealE H d l ∧ most ≤ 1000 ∧ 1 ≤ pages ∧ pages ≤ 1000 ∧
  ∀ p (A : List Int) H', Sm d l H H' → DealE H' d l → hid d l H' p = some (.tup (A.map V.int)) → A.length ≤ most → (∀ x ∈ A, 0 ≤ x ∧ x < pages) → Q (.ref p) H'
theorem cut_sub (xs : List V) (lo hi : Option Int) : ∀ x ∈ cutV xs lo hi, x ∈ xs := fun x hx => List.mem_of_mem_drop (List.mem_of_mem_take hx)
theorem cut_len (xs : List V) (lo hi : Option Int) : (cutV xs lo hi).length ≤ xs.length := by
  unfold cutV
  rw [List.length_take, List.length_drop]
  omega
theorem ints_of : ∀ {xs : List V}, (∀ x ∈ xs, ∃ i, x = V.int i) → ∃ l : List Int, xs = l.map V.int
  | [], _ => ⟨[], rfl⟩
  | x :: xs, h => by
    obtain ⟨l, e⟩ := ints_of fun y hy => h y (List.mem_cons_of_mem _ hy)
    obtain ⟨i, e1⟩ := h x List.mem_cons_self
    exact ⟨i :: l, by rw [e, e1]; rfl⟩
abbrev NAsks : List Str := ["_law_deal", "_law_most", "_law_pages", "_law_found", "_law_turn", "_law_near"]
theorem ok_law_asks {f f1 f2 : Addr} {fd fd1 fd2 : FuncData} {k : Nat} (F : Fun K "_law_asks" "_law_asks" s_law_asks f fd) (T : Nm mg) (G1 : FnOk P w K mg base CX0 k f1 fd1 ["_law_deal", "_law_bound_here"] (sp_law_any K)) (D1 : Dn K mg "_law_any" f1 fd1 ["_law_deal", "_law_bound_here"])
    (G2 : FnOk P w K mg base CX0 k f2 fd2 ["_law_deal", "_law_some"] (sp_law_of K)) (D2 : Dn K mg "_law_of" f2 fd2 ["_law_deal", "_law_some"]) :
    FnOk P w K mg base CX0 (k + 1) f fd ["_law_deal", "_law_most", "_law_pages"] (sp_law_asks K) := by
  refine F.ok sc_law_asks (fun vs H Q E h => ?_) (fun cdv A' outer s H vs Q E hr h => ?_)
  · obtain ⟨d, l, m, n, rfl, _⟩ := h
    rfl
  · obtain ⟨d, l, most, pages, rfl, D, m1, p1, p2, q⟩ := h
    have nd := sc_law_asks.nd
    refine ⟨_, pss_cons (ps_asg (pe_lst pa_nil) (pg_name (i := 3) nd rfl (.inl rfl)))
      (pss_cons (ps_for PassesOwn.never rfl (pi_range1 (by rfl) T.range (pa_cons (pe_call G1 hr (by rfl) D1.g D1.kp D1.b .nil pass0 (pa_cons (pv 0) (pa_cons (pe_op op_add (pv 1) pe_int) pa_nil))) pa_nil)) (pg_name (i := 4) nd rfl (.inl rfl))
        (pss_cons (ps_asg (pe_ifExp (pt_cmpR op_eq (pe_call G1 hr (by rfl) D1.g D1.kp D1.b .nil pass0 (pa_cons (pv 0) (pa_cons pe_int pa_nil))) pe_int (nomark _)) (pe_slice sl_list (pv 3) (po_some (pe_un un_neg pe_int)) po_none) (pe_lst pa_nil)) (pg_name (i := 5) nd rfl (.inl rfl)))
        (pss_one (ps_expr (pe_bm PySem.F.plainAttrs_list PySem.F.slot_list_append PySem.F.type_list_append mt_append (pv 3) (pa_cons (pe_ifExp (pt_cmpR (op_neD hr.units) (pv 5) (pe_lst pa_nil) (nomark _))
          (pe_call G2 hr (by rfl) D2.g D2.kp D2.b .nil pass0 (pa_cons (pv 0) (pa_cons (pv 5) pa_nil))) (pe_call G1 hr (by rfl) D1.g D1.kp D1.b .nil pass0 (pa_cons (pv 0) (pa_cons (pv 2) pa_nil)))) pa_nil))))))
      (pss_one (ps_ret (pe_callTy call_tuple_of (by rfl) T.tuple (by decide +kernel) (pa_cons (pv 3) pa_nil))))), ?_⟩
    refine ⟨Nat.zero_le _, fun fl nfl => ?_⟩
    have D0 := D.mono (same_new (o := .lst []) nfl)
    have fne := D.new_ne nfl
    have ffl : hid d l H fl = none := hid_none nfl
    refine ⟨_, rfl, _, rfl, _, _, rfl, rfl, d, l, most + 1, rfl, D0, by omega, by omega, fun turns H1 sm1 D1' tl => ?_⟩
    have hf1 : H1 fl = some (.lst []) := (hid_some.mp (sm1 fl _ (hid_new D nfl))).2.2
    refine ⟨_, rfl, by omega, by omega, for_range (lo := 0) (n := (turns : Int).toNat) (fun i σ H2 => ∃ (y4 y5 : Option V) (A : List Int), σ = [some (.ref d), some (.int most), some (.int pages), some (.ref fl), y4, y5] ∧ Sm d l H H2 ∧ DealE H2 d l ∧ H2 fl = some (.lst (A.map V.int)) ∧ A.length = i ∧ ∀ x ∈ A, 0 ≤ x ∧ x < pages)
      ⟨none, none, [], rfl, (Sm.new nfl).tr sm1, D1', hf1, rfl, fun x hx => nomatch hx⟩ (fun i σ H2 hi I => ?_) (fun σ H2 I => ?_)⟩
    · obtain ⟨y4, y5, A, rfl, sm, De, hf, al, ap⟩ := I
      have it : i < turns := by omega
      refine ⟨_, rfl, d, l, 4, rfl, De, by omega, by omega, fun c H3 sm3 De3 _ => ?_⟩
      have hf3 : H3 fl = some (.lst (A.map V.int)) := (hid_some.mp (sm3 fl _ (hid_some.mpr ⟨fne.1, fne.2, hf⟩))).2.2
      have sm4 := sm.tr sm3
      refine ⟨rfl, _, rfl, ite_via (fun v H4 => ∃ (np : Addr) (N : List Int), v = .ref np ∧ Sm d l H H4 ∧ DealE H4 d l ∧ H4 fl = some (.lst (A.map V.int)) ∧ H4 np = some (.lst (N.map V.int)) ∧ np ≠ fl ∧ np ≠ d ∧ np ≠ l ∧ N.length ≤ 1000 ∧ ∀ x ∈ N, 0 ≤ x ∧ x < pages)
        (fun _ Q' hQ => ?_) (fun _ Q' hQ => ?_) (fun v H4 I => ?_)⟩
      · refine ⟨_, rfl, _, rfl, _, rfl, fl, _, rfl, SqL.of hf3, fun np nnp => hQ _ _ ?_⟩
        have sub := cut_sub (A.map V.int) (some (-1 * 3)) none
        obtain ⟨N, eN⟩ := ints_of (xs := cutV (A.map V.int) (some (-3)) none) fun x hx => by
          obtain ⟨i, _, e⟩ := List.mem_map.mp (cut_sub _ _ _ x hx)
          exact ⟨i, e.symm⟩
        have ln := cut_len (A.map V.int) (some (-3)) none
        rw [eN, List.length_map, List.length_map] at ln
        refine ⟨np, N, rfl, sm4.tr (Sm.new nnp), De3.mono (same_new nnp), same_new nnp _ _ hf3, ?_, (ne_of_none hf3 nnp).symm, (De3.new_ne nnp).1, (De3.new_ne nnp).2, by omega, fun x hx => ?_⟩
        · rw [upd_same, ← eN]
        · have : V.int x ∈ cutV (A.map V.int) (some (-3)) none := by
            rw [eN]
            exact List.mem_map_of_mem hx
          obtain ⟨y, hy, e⟩ := List.mem_map.mp (cut_sub _ _ _ _ this)
          rw [← V.int.inj e]
          exact ap y hy
      · refine ⟨Nat.zero_le _, fun np nnp => hQ _ _ ?_⟩
        exact ⟨np, [], rfl, sm4.tr (Sm.new nnp), De3.mono (same_new nnp), same_new nnp _ _ hf3, upd_same, (ne_of_none hf3 nnp).symm, (De3.new_ne nnp).1, (De3.new_ne nnp).2, Nat.zero_le _, fun x hx => nomatch hx⟩
      · obtain ⟨np, N, rfl, sm5, De5, hf5, hN, nf, nD, nL, Nl, Np⟩ := I
        refine ⟨.ref fl, rfl, .inl ⟨rfl, _, SqL.of hf5⟩, .ref np, rfl, Nat.zero_le _, fun p nnp => ?_⟩
        have De6 := De5.mono (same_new (o := .lst []) nnp)
        have sm6 : Sm d l H (L2.upd H4 p (.lst [])) := sm5.tr (Sm.new nnp)
        have hf6 := same_new (o := .lst []) nnp _ _ hf5
        have hN6 := same_new (o := .lst []) nnp _ _ hN
        have hp6 : (L2.upd H4 p (.lst [])) p = some (.lst []) := upd_same
        generalize L2.upd H4 p (.lst []) = H6 at De6 sm6 hf6 hN6 hp6
        refine ⟨_, _, .lst (SqL.of hN6) (iD_dp N), .lst (SqL.of hp6) .nil, shaped_ints N, rfl, _, rfl, ?_⟩
        rw [eqv_nil]
        refine ite_via (fun v H7 => ∃ x : Int, v = .int x ∧ (0 ≤ x ∧ x < pages) ∧ Sm d l H H7 ∧ DealE H7 d l ∧ H7 fl = some (.lst (A.map V.int))) (fun e Q' hQ => ?_) (fun _ Q' hQ => ?_) (fun v H7 I => ?_)
        · have nN : 1 ≤ N.length := by
            cases N with
            | nil => cases e
            | cons _ _ => exact Nat.succ_le_succ (Nat.zero_le _)
          refine ⟨_, rfl, _, rfl, d, l, np, N.map V.int, rfl, De6, SqL.of (hid_some.mpr ⟨nD, nL, hN6⟩), by rw [List.length_map]; exact nN, by rw [List.length_map]; exact Nl, fun i v H7 sm7 De7 e7 => hQ _ _ ?_⟩
          obtain ⟨x, hx, rfl⟩ := List.mem_map.mp (List.mem_of_getElem? e7)
          exact ⟨x, rfl, Np x hx, sm6.tr sm7, De7, (hid_some.mp (sm7 fl _ (hid_some.mpr ⟨fne.1, fne.2, hf6⟩))).2.2⟩
        · refine ⟨_, rfl, _, rfl, d, l, pages, rfl, De6, p1, by omega, fun i H7 sm7 De7 il => hQ _ _ ?_⟩
          exact ⟨i, rfl, ⟨by omega, by omega⟩, sm6.tr sm7, De7, (hid_some.mp (sm7 fl _ (hid_some.mpr ⟨fne.1, fne.2, hf6⟩))).2.2⟩
        · obtain ⟨x, rfl, xp, sm7, De7, hf7⟩ := I
          refine ⟨fl, _, _, rfl, rfl, hf7, by rw [List.length_map]; exact small_line (by omega), _, _, A ++ [x], rfl, Sm.chg ffl sm7, De7.upd fne, by rw [upd_same, List.map_append]; rfl, by rw [List.length_append, List.length_singleton, al], fun z hz => ?_⟩
          rcases List.mem_append.mp hz with h | h
          · exact ap z h
          · rw [List.mem_singleton.mp h]
            exact xp
    · obtain ⟨y4, y5, A, rfl, sm, De, hf, al, ap⟩ := I
      refine ⟨_, rfl, fl, _, rfl, .inl ⟨SqL.of hf, fun p np => ?_⟩⟩
      exact q p A _ (sm.tr (Sm.new np)) (De.mono (same_new np)) (hid_new De np) (by omega) ap
/-! ### _law_times -/
def sp_law_times (K : PySem.W.Frag) : Sp := fun vs H Q _ => ∃ (d l a : Addr) (A : List Int), vs = [.ref d, .ref a] ∧ DealE H d l ∧ SqT K (hid d l H) a (A.map V.int) ∧ A.length ≤ 1000 ∧
  ∀ p (Ts : List Nat) H', Sm d l H H' → DealE H' d l → hid d l H' p = some (.tup (timesV Ts)) → (∀ u ∈ Ts, u < A.length) → Ts.Pairwise (· < ·) → Ts.length ≤ A.length → Q (.ref p) H'
abbrev NTimes : List Str := ["_law_deal", "_law_asks_here", "_law_many", "_law_time"]
theorem ok_law_times {f f1 f2 : Addr} {fd fd1 fd2 : FuncData} {k : Nat} (F : Fun K "_law_times" "_law_times" s_law_times f fd) (T : Nm mg) (G1 : FnOk P w K mg base CX0 k f1 fd1 ["_law_deal", "_law_bound_here"] (sp_law_any K)) (D1 : Dn K mg "_law_any" f1 fd1 ["_law_deal", "_law_bound_here"])
    (G2 : FnOk P w K mg base CX0 k f2 fd2 ["_law_deal", "_law_some"] (sp_law_of K)) (D2 : Dn K mg "_law_of" f2 fd2 ["_law_deal", "_law_some"]) :
    FnOk P w K mg base CX0 (k + 1) f fd ["_law_deal", "_law_asks_here"] (sp_law_times K) := by
  refine F.ok sc_law_times (fun vs H Q E h => ?_) (fun cdv A' outer s H vs Q E hr h => ?_)
  · obtain ⟨d, l, a, A, rfl, _⟩ := h
    rfl
  · obtain ⟨d, l, a, A, rfl, D, hA, hlen, q⟩ := h
    have nd := sc_law_times.nd
    refine ⟨_, pss_cons (ps_asg (pe_call G2 hr (by rfl) D2.g D2.kp D2.b .nil pass0 (pa_cons (pv 0) (pa_cons (pe_lst (pa_cons pe_int (pa_cons pe_int (pa_cons pe_int pa_nil)))) pa_nil))) (pg_name (i := 2) nd rfl (.inr rfl)))
      (pss_one (ps_ret (pe_callTy call_tuple_of (by rfl) T.tuple (by decide +kernel) (pa_cons (pe_lc (own := [("_law_time", 3)]) (g := gName 3) rfl nd (pi_range1 (by rfl) T.range (pa_cons (pe_callB call_len_seq (by rfl) T.len PySem.boot_len (pa_cons (pv 1) pa_nil)) pa_nil))
        (blkOk_by (N := NTimes) (sc := defScope s_law_times) (by decide +kernel)) (fun _ _ _ _ _ => pg_name (i := 3) nd rfl (.inl rfl))
        (fun _ _ _ _ _ => pts_one (pt_cmpR op_eq (pe_call G1 hr (by rfl) D1.g D1.kp D1.b .nil pass0 (pa_cons (pv 0) (pa_cons (pv 2) pa_nil))) pe_int (nomark _))) (fun _ _ _ _ _ => pv 3)) pa_nil)))), ?_⟩
    refine ⟨_, rfl, by show 3 ≤ sizeLine; decide, fun s3 ns3 => ?_⟩
    refine ⟨d, l, s3, _, rfl, D.mono (same_new ns3), SqL.of (hid_new D ns3), by decide, by decide, fun i v H1 sm1 De1 ev => ?_⟩
    have sm2 : Sm d l H H1 := (Sm.new ns3).tr sm1
    obtain ⟨n, rfl, n1, n2⟩ : ∃ n : Nat, v = .int n ∧ 1 ≤ n ∧ n ≤ 4 := by
      match i, ev with
      | 0, ev => exact ⟨2, (Option.some.inj ev).symm, by omega, by omega⟩
      | 1, ev => exact ⟨3, (Option.some.inj ev).symm, by omega, by omega⟩
      | 2, ev => exact ⟨4, (Option.some.inj ev).symm, by omega, by omega⟩
    have len : (A.map V.int).length = A.length := List.length_map _
    refine ⟨_, rfl, a, _, rfl, .inr (sqT_mono (same_tr sm2 (hid_same d l H1)) hA), _, rfl, by omega, by omega, fun E nE => lc_range (lo := 0) (n := ((A.map V.int).length : Int).toNat) (fun i H2 => Sm d l H1 H2 ∧ DealE H2 d l ∧ ∃ Ts : List Nat, H2 E = some (.lst (timesV Ts)) ∧ Ts.length ≤ i ∧ (∀ u ∈ Ts, u < i) ∧ Ts.Pairwise (· < ·))
      ⟨Sm.new nE, De1.mono (same_new nE), [], upd_same, Nat.le_refl _, fun u hu => (nomatch hu), .nil⟩ (fun i H2 hi I => ?_) (fun H2 I => ?_)⟩
    · obtain ⟨sm3, De, Ts, hE, tl, tb, tp⟩ := I
      have Ene := De1.new_ne nE
      refine ⟨rfl, _, rfl, _, rfl, d, l, n, rfl, De, n1, by omega, fun c H3 sm4 De3 _ => ⟨rfl, _, rfl, ?_⟩⟩
      have hE3 : H3 E = some (.lst (timesV Ts)) := (hid_some.mp (sm4 E _ (hid_some.mpr ⟨Ene.1, Ene.2, hE⟩))).2.2
      have sm5 := sm3.tr sm4
      have e0 : (0 + (i : Int)) = (i : Int) := by omega
      refine ite2 (fun _ => ?_) (fun _ => ⟨sm5, De3, Ts, hE3, by omega, fun u hu => by have := tb u hu; omega, tp⟩)
      refine ⟨_, rfl, _, hE3, by rw [List.length_map]; exact small_line (by omega), Sm.chg (hid_none nE) sm5, De3.upd Ene, Ts ++ [i], ?_, by rw [List.length_append, List.length_singleton]; omega, fun u hu => ?_, ?_⟩
      · rw [upd_same, e0]
        show _ = some (HO.lst (List.map _ (Ts ++ [i])))
        rw [List.map_append]
        rfl
      · rcases List.mem_append.mp hu with h | h
        · have := tb u h
          omega
        · rw [List.mem_singleton.mp h]
          omega
      · refine List.pairwise_append.mpr ⟨tp, List.pairwise_singleton _ _, fun x hx y hy => ?_⟩
        rw [List.mem_singleton.mp hy]
        exact tb x hx
    · obtain ⟨sm3, De, Ts, hE, tl, tb, tp⟩ := I
      have en : ((A.map V.int).length : Int).toNat = A.length := by omega
      rw [en] at tl tb
      exact ⟨E, _, rfl, .inl ⟨SqL.of hE, fun p np => q p Ts _ ((sm2.tr sm3).tr (Sm.new np)) (De.mono (same_new np)) (hid_new De np) tb tp tl⟩⟩
end
end Fw
end
section
set_option Elab.async false
set_option linter.all false
set_option maxRecDepth 100000
set_option maxHeartbeats 4000000
namespace Fw
open PySem PySem.Spec PyProof.Rows L2 Fr Fm
/-! ### states as a dict whose keys are tuples -/
abbrev keyT (S : List Int) : List Key := S.map fun i => (Sum.inl i : Key)
abbrev kS (L : Sts) : List (List Key × V) := L.map fun x => (keyT x.1, V.int (x.2 : Int))
theorem keyT_inj : ∀ {S S' : List Int}, keyT S = keyT S' → S = S'
  | [], [], _ => rfl
  | x :: S, y :: S', h => by
    have h' : (Sum.inl x : Key) :: keyT S = (Sum.inl y : Key) :: keyT S' := h
    injection h' with h1 h2
    rw [keyT_inj h2, Sum.inl.inj h1]
theorem keyT_V (S : List Int) : (keyT S).map kV = S.map V.int := by
  rw [List.map_map]
  rfl
def valS (L : Sts) (S : List Int) : Option Nat := (L.find? fun x => decide (x.1 = S)).map (·.2)
def putS (L : Sts) (S : List Int) (v : Nat) : Sts := if (L.any fun x => decide (x.1 = S)) = true then L.map (fun x => if x.1 = S then (x.1, v) else x) else L ++ [(S, v)]
theorem val_kS (S : List Int) : ∀ L : Sts, valV (kS L) (keyT S) = (valS L S).map fun v : Nat => V.int (v : Int)
  | [] => rfl
  | x :: L => by
    have ih := val_kS S L
    show valV ((keyT x.1, V.int (x.2 : Int)) :: kS L) _ = _
    unfold valS
    rw [List.find?_cons]
    by_cases h : x.1 = S
    · rw [valV_pos (p := (keyT x.1, V.int (x.2 : Int))) (by rw [h])]
      simp [h]
    · rw [valV_neg (p := (keyT x.1, V.int (x.2 : Int))) (fun z => h (keyT_inj z)), ih]
      simp only [h, decide_false]
      rfl
theorem put_kS (L : Sts) (S : List Int) (v : Nat) : putK (kS L) (keyT S) (V.int (v : Int)) = kS (putS L S v) := by
  have ha : ((kS L).any fun kv => decide (kv.1 = keyT S)) = L.any fun x => decide (x.1 = S) := by
    rw [List.any_map]
    congr 1
    funext x
    show decide (keyT x.1 = keyT S) = _
    rw [decide_eq_decide]
    exact ⟨fun z => keyT_inj z, fun z => by rw [z]⟩
  unfold putK putS
  rw [ha]
  by_cases h : (L.any fun x => decide (x.1 = S)) = true
  · rw [if_pos h, if_pos h]
    unfold kS
    rw [List.map_map, List.map_map]
    refine List.map_congr_left fun x _ => ?_
    show (if keyT x.1 = keyT S then (keyT x.1, V.int (v : Int)) else (keyT x.1, V.int (x.2 : Int))) = _
    by_cases c : x.1 = S
    · simp [c]
    · have c2 : ¬ keyT x.1 = keyT S := fun z => c (keyT_inj z)
      simp [c, c2]
  · rw [if_neg h, if_neg h]
    unfold kS
    rw [List.map_append]
    rfl
theorem valS_mem {L : Sts} {S : List Int} {v : Nat} (h : valS L S = some v) : (S, v) ∈ L := by
  unfold valS at h
  cases e : L.find? fun x => decide (x.1 = S) with
  | none => rw [e] at h; cases h
  | some x =>
    rw [e] at h
    have h1 := List.find?_some e
    have h2 := List.mem_of_find?_eq_some e
    simp only [decide_eq_true_eq] at h1
    have h3 : x.2 = v := Option.some.inj h
    rw [← h1, ← h3]
    exact h2
theorem valS_of : ∀ {L : Sts} {S : List Int} {v : Nat}, (L.map (·.1)).Nodup → (S, v) ∈ L → valS L S = some v
  | x :: L, S, v, nd, h => by
    obtain ⟨n1, n2⟩ := List.nodup_cons.mp (show (x.1 :: L.map (·.1)).Nodup from nd)
    unfold valS
    rw [List.find?_cons]
    rcases List.mem_cons.mp h with e | h
    · subst e
      simp
    · have : ¬ x.1 = S := fun e => n1 (by rw [e]; exact List.mem_map_of_mem (f := fun x : List Int × Nat => x.1) h)
      simp only [this, decide_false]
      exact valS_of n2 h
theorem putS_keys (L : Sts) (S : List Int) (v : Nat) (nd : (L.map (·.1)).Nodup) : ((putS L S v).map (·.1)).Nodup := by
  unfold putS
  by_cases h : (L.any fun x => decide (x.1 = S)) = true
  · rw [if_pos h, List.map_map]
    have : ((fun x : List Int × Nat => x.1) ∘ fun x : List Int × Nat => if x.1 = S then (x.1, v) else x) = fun x => x.1 := by
      funext x
      show (if x.1 = S then (x.1, v) else x).1 = x.1
      split <;> rfl
    rw [this]
    exact nd
  · rw [if_neg h, List.map_append]
    refine List.nodup_append.mpr ⟨nd, by simp, fun a ha b hb => ?_⟩
    intro e
    have hb' : b = S := List.mem_singleton.mp hb
    obtain ⟨x, hx, ex⟩ := List.mem_map.mp ha
    exact h (List.any_eq_true.mpr ⟨x, hx, decide_eq_true (by rw [ex, e, hb'])⟩)
theorem putS_mem {L : Sts} {S : List Int} {v : Nat} {y : List Int × Nat} (h : y ∈ putS L S v) : y = (S, v) ∨ y ∈ L := by
  unfold putS at h
  split at h
  · obtain ⟨x, hx, e⟩ := List.mem_map.mp h
    by_cases c : x.1 = S
    · rw [if_pos c] at e
      left
      rw [← e, c]
    · rw [if_neg c] at e
      right
      rw [← e]
      exact hx
  · rcases List.mem_append.mp h with z | z
    · exact .inr z
    · exact .inl (List.mem_singleton.mp z)
theorem putS_in (L : Sts) (S : List Int) (v : Nat) : (S, v) ∈ putS L S v := by
  unfold putS
  by_cases h : (L.any fun x => decide (x.1 = S)) = true
  · rw [if_pos h]
    obtain ⟨x, hx, e⟩ := List.any_eq_true.mp h
    have e' := of_decide_eq_true e
    refine List.mem_map.mpr ⟨x, hx, ?_⟩
    rw [if_pos e', e']
  · rw [if_neg h]
    simp
theorem putS_old {L : Sts} {S : List Int} {v : Nat} {y : List Int × Nat} (h : y ∈ L) (n : y.1 ≠ S) : y ∈ putS L S v := by
  unfold putS
  split
  · exact List.mem_map.mpr ⟨y, h, by rw [if_neg n]⟩
  · exact List.mem_append_left _ h
/-- every state stays, and is worth no less -/
def Ge (L L' : Sts) : Prop := ∀ y ∈ L, ∃ z ∈ L', z.1 = y.1 ∧ y.2 ≤ z.2
theorem Ge.refl (L : Sts) : Ge L L := fun y hy => ⟨y, hy, rfl, Nat.le_refl _⟩
theorem Ge.tr {L L1 L2 : Sts} (a : Ge L L1) (b : Ge L1 L2) : Ge L L2 := fun y hy => by
  obtain ⟨z, hz, e, l⟩ := a y hy
  obtain ⟨x, hx, e2, l2⟩ := b z hz
  exact ⟨x, hx, e2.trans e, Nat.le_trans l l2⟩
theorem putS_ge {L : Sts} {S : List Int} {v : Nat} (nd : (L.map (·.1)).Nodup) (h : ∀ u, valS L S = some u → u ≤ v) : Ge L (putS L S v) := fun y hy => by
  by_cases c : y.1 = S
  · refine ⟨(S, v), putS_in L S v, c.symm, h _ (valS_of nd ?_)⟩
    rw [← c]
    exact hy
  · exact ⟨y, putS_old hy c, rfl, Nat.le_refl _⟩
/-- the ways on that the options in O of x have reached -/
def Way (p : Int) (x : List Int × Nat) (O : List (List Int)) (L : Sts) : Prop := ∀ one ∈ O, ∃ y ∈ L, y.1.Perm (one ++ [p]) ∧ x.2 + (if p ∈ x.1 then 1 else 0) ≤ y.2
theorem Way.mono {p : Int} {x : List Int × Nat} {O : List (List Int)} {L L' : Sts} (w : Way p x O L) (g : Ge L L') : Way p x O L' := fun one ho => by
  obtain ⟨y, hy, e, l⟩ := w one ho
  obtain ⟨z, hz, e2, l2⟩ := g y hy
  exact ⟨z, hz, by rw [e2]; exact e, Nat.le_trans l l2⟩
/-- the states that turn t has found -/
structure SpI (A : List Int) (m t : Nat) (L : Sts) : Prop where
  nd : (L.map (·.1)).Nodup
  up : ∀ x ∈ L, Up A m t x.1 x.2
theorem SpI.put {A : List Int} {m t : Nat} {L : Sts} {S : List Int} {v : Nat} (I : SpI A m t L) (h : Up A m t S v) : SpI A m t (putS L S v) :=
  ⟨putS_keys L S v I.nd, fun x hx => by
    rcases putS_mem hx with e | z
    · rw [e]
      exact h
    · exact I.up x z⟩
theorem SpI.few {A : List Int} {m t : Nat} {L : Sts} (I : SpI A m t L) (hm : m ≤ 4) (hA : ∀ x ∈ A, 0 ≤ x ∧ x < 6) : L.length ≤ 2401 :=
  Fm.few I.nd fun x hx => ⟨Nat.le_trans (I.up x hx).len hm, fun p hp => by
    obtain ⟨s, _, e⟩ := (I.up x hx).asked p hp
    exact hA p (List.mem_of_getElem? e)⟩
end Fw
end
section
set_option Elab.async false
set_option linter.all false
set_option maxRecDepth 100000
set_option maxHeartbeats 4000000
namespace Fw
open PySem PySem.Spec PyProof.Rows L2 Fr Fm
abbrev Lsts (H : Hp) : List Addr → List (List Int) → Prop := Paired fun o l => H o = some (.lst (l.map V.int))
theorem Lsts.get : ∀ {H : Hp} {os : List Addr} {O : List (List Int)} {i : Nat} {o : Addr}, Lsts H os O → os[i]? = some o → ∃ one, O[i]? = some one ∧ H o = some (.lst (one.map V.int))
  | _, _, _, _, _, .nil, e => by simp at e
  | _, _, _, 0, _, .cons r _, e => by
    simp at e
    subst e
    exact ⟨_, rfl, r⟩
  | _, _, _, i + 1, t, .cons _ q, e => by
    obtain ⟨p, h1, h2⟩ := Lsts.get (i := i) (o := t) q (by simpa using e)
    exact ⟨p, by simpa using h1, h2⟩
theorem Lsts.snoc : ∀ {H : Hp} {os : List Addr} {O : List (List Int)} {o : Addr} {l : List Int}, Lsts H os O → H o = some (.lst (l.map V.int)) → Lsts H (os ++ [o]) (O ++ [l])
  | _, _, _, _, _, .nil, h => .cons h .nil
  | _, _, _, _, _, .cons r q, h => .cons r (Lsts.snoc q h)
theorem Lsts.mono {H H' : Hp} {os : List Addr} {O : List (List Int)} (r : Lsts H os O) (k : ∀ b xs, H b = some (.lst xs) → H' b = some (.lst xs)) : Lsts H' os O := Paired.mapP r fun _ _ z => k _ _ z
theorem Lsts.len : ∀ {H : Hp} {os : List Addr} {O : List (List Int)}, Lsts H os O → os.length = O.length
  | _, _, _, .nil => rfl
  | _, _, _, .cons _ r => by rw [List.length_cons, List.length_cons, Lsts.len r]
theorem Lsts.upd : ∀ {H : Hp} {os : List Addr} {O : List (List Int)} {p : Addr} {x : HO}, Lsts H os O → (∀ o ∈ os, o ≠ p) → Lsts (L2.upd H p x) os O
  | _, _, _, _, _, .nil, _ => .nil
  | _, _, _, _, _, .cons r q, h => .cons (by rw [upd_ne (h _ List.mem_cons_self)]; exact r) (Lsts.upd q fun o ho => h o (List.mem_cons_of_mem _ ho))
theorem cut_take (xs : List V) {i : Nat} (h : i ≤ xs.length) : cutV xs none (some (i : Int)) = xs.take i := by
  unfold cutV HT.sIx
  have e : ¬ (i : Int) < 0 := by omega
  simp only [e, if_false, List.drop_zero, Nat.sub_zero]
  congr 1
  omega
theorem cut_drop (xs : List V) {i : Nat} (h : i ≤ xs.length) : cutV xs (some (i : Int)) none = xs.drop i := by
  unfold cutV HT.sIx
  have e : ¬ (i : Int) < 0 := by omega
  simp only [e, if_false]
  have e2 : min (i : Int).toNat xs.length = i := by omega
  rw [e2]
  refine List.take_of_length_le ?_
  rw [List.length_drop]
  exact Nat.le_refl _
theorem rst_snoc {S : List Int} {p y : Int} {j : Nat} (h : S[j]? = some y) : rst (S.take (j + 1)) p = rst (S.take j) p ++ if decide (y ≠ p) = true then [y] else [] := by
  unfold rst
  exact take_filter h
/-- all but one object stand -/
def But (d : Addr) (H H' : Hp) : Prop := ∀ b o, b ≠ d → H b = some o → H' b = some o
theorem But.refl (d : Addr) (H : Hp) : But d H H := fun _ _ _ e => e
theorem But.tr {d : Addr} {H H1 H2 : Hp} (a : But d H H1) (b : Same H1 H2) : But d H H2 := fun c o n e => b _ _ (a c o n e)
theorem But.chg {d : Addr} {H H1 : Hp} {o : HO} (a : But d H H1) : But d H (upd H1 d o) := fun c u n e => by
  rw [upd_ne n]
  exact a c u n e
theorem But.same {d : Addr} {H0 H H1 : Hp} (a : But d H H1) (n : H0 d = none) (k : Same H0 H) : Same H0 H1 := fun b o e => a b o (ne_of_none e n) (k _ _ e)
section
variable {P : Program} {w : World} {K : PySem.W.Frag} {mg : Str → Option Value} {base : Heap}
def sp_law_spared (K : PySem.W.Frag) : Sp := fun vs H Q _ => ∃ (a c : Addr) (A : List Int) (m : Nat), vs = [.ref a, .ref c, .int m] ∧ SqT K H a (A.map V.int) ∧ A.length ≤ 1000 ∧ (∀ x ∈ A, 0 ≤ x ∧ x < 6) ∧ SqL K H c (List.replicate 6 (.int 1)) ∧ 1 ≤ m ∧ m ≤ 4 ∧
  ∀ (h : Nat) H', Same H H' → (∃ S, Up A m A.length S h) → (∀ T F, Run A m A.length T F → F.length ≤ h) → Q (.int h) H'
abbrev NSpar : List Str := ["_law_asks_here", "_law_costs", "_law_m", "_law_states", "_law_page", "_law_later", "_law_state", "_law_spared_here", "_law_rest", "_law_some", "_law_one", "_law_new", "_law_at"]
theorem ok_law_spared {f : Addr} {fd : FuncData} {k : Nat} (F : Fun K "_law_spared" "_law_spared" s_law_spared f fd) (T : Nm mg) : FnOk P w K mg base CX0 (k + 1) f fd ["_law_asks_here", "_law_costs", "_law_m"] (sp_law_spared K) := by
  refine F.ok sc_law_spared (fun vs H Q E h => ?_) (fun cdv A' outer s H vs Q E hr h => ?_)
  · obtain ⟨a, c, A, m, rfl, _⟩ := h
    rfl
  · obtain ⟨a, c, A, m, rfl, hA, hlen, hA6, hc, m1, m4, q⟩ := h
    have nd := sc_law_spared.nd
    have hu := hu_of hr
    have hu0 := hr.units0
    refine ⟨_, pss_cons (ps_asg (pe_disp1 hu0 (pe_tup pa_nil) pe_int) (pg_name (i := 3) nd rfl (.inr rfl)))
      (pss_cons (ps_for PassesOwn.never rfl (pi_tup (pv 0)) (pg_name (i := 4) nd rfl (.inr rfl))
        (pss_cons (ps_asg pe_dnewT (pg_name (i := 5) nd rfl (.inl rfl)))
        (pss_cons (ps_lock (ps_for PassesOwn.never rfl (pi_keys (pv 3)) (pg_name (i := 6) nd rfl (.inl rfl))
          (pss_cons (ps_asg (pe_op op_add (pe_dget hu (pv 3) (pv 6) (fun _ _ => rfl)) (pe_ifExp (pt_cmpR op_in_seq (pv 4) (pv 6) (by rfl)) (pe_ix ix_list (pv 1) (pv 4) (fun _ _ => rfl)) pe_int)) (pg_name (i := 7) nd rfl (.inl rfl)))
          (pss_cons (ps_asg (pe_lc (own := [("_law_one", 10)]) (wi := iTup K (tVar 6)) (g := gName 10) (tt := tTest (tOp rNe (tVar 10) (tVar 4))) rfl nd (pi_tup (pv 6)) (blkOk_by (N := NSpar) (sc := defScope s_law_spared) (by decide +kernel)) (fun _ _ _ _ _ => pg_name (i := 10) nd rfl (.inl rfl))
              (fun _ _ _ _ _ => pts_one (pt_cmpR op_ne (pv 10) (pv 4) (nomark _))) (fun _ _ _ _ _ => pv 10)) (pg_name (i := 8) nd rfl (.inr rfl)))
          (pss_cons (ps_asg (pe_ifExp (pt_cmpR op_lt (pe_callB call_len_seq (by rfl) T.len PySem.boot_len (pa_cons (pv 8) pa_nil)) (pv 2) (nomark _)) (pe_lst (pa_cons (pv 8) pa_nil))
              (pe_lc (own := [("_law_at", 12)]) (g := gName 12) (tt := tYes) (te := tOp rCat (tSl (rSlL K) (tVar 8) tNoPart (tPart (tVar 12))) (tSl (rSlL K) (tVar 8) (tPart (tOp (rI0 fun i j => .int (i + j)) (tVar 12) (tC (.int 1)))) tNoPart)) rfl nd (pi_range1 (by rfl) T.range (pa_cons (pe_callB call_len_seq (by rfl) T.len PySem.boot_len (pa_cons (pv 8) pa_nil)) pa_nil)) (blkOk_by (N := NSpar) (sc := defScope s_law_spared) (by decide +kernel)) (fun _ _ _ _ _ => pg_name (i := 12) nd rfl (.inl rfl))
                (fun _ _ _ _ _ => pts_nil) (fun _ _ _ _ _ => pe_op op_cat (pe_slice (r := rSlL K) sl_list (pv 8) po_none (po_some (pv 12))) (pe_slice (r := rSlL K) sl_list (pv 8) (po_some (pe_op op_add (pv 12) pe_int)) po_none)))) (pg_name (i := 9) nd rfl (.inl rfl)))
          (pss_one (ps_for PassesOwn.never rfl (pi_list (pv 9)) (pg_name (i := 10) nd rfl (.inl rfl))
            (pss_cons (ps_asg (pe_callTy call_tuple_of (by rfl) T.tuple (by decide +kernel) (pa_cons (pe_callB cr_sorted (by rfl) T.sorted (by decide +kernel) (pa_cons (pe_op op_cat (pv 10) (pe_lst (pa_cons (pv 4) pa_nil))) pa_nil)) pa_nil)) (pg_name (i := 11) nd rfl (.inl rfl)))
            (pss_one (ps_dput hu (pv 5) (pv 11) (pe_callB (call_max2 rfl) (by rfl) T.max (by decide +kernel) (pa_cons (pe_dget2 hu (pv 5) (pv 11) pe_int ⟨rfl, rfl, rfl, rfl⟩) (pa_cons (pv 7) pa_nil))) rfl))))))))))
        (pss_one (ps_asg (pv 5) (pg_name (i := 3) nd rfl (.inr rfl)))))))
      (pss_one (ps_ret (pe_callB (cr_max rfl) (by rfl) T.max (by decide +kernel) (pa_cons (pe_lock (pe_lc (own := [("_law_state", 6)]) (g := gName 6) (tt := tYes) rfl nd (pi_keys (pv 3)) (blkOk_by (N := NSpar) (sc := defScope s_law_spared) (by decide +kernel)) (fun _ _ _ _ _ => pg_name (i := 6) nd rfl (.inl rfl))
        (fun _ _ _ _ _ => pts_nil) (fun _ _ _ _ _ => pe_dget hu (pv 3) (pv 6) (fun _ _ => rfl)))) pa_nil))))), ?_⟩
    refine fun sl nsl => ⟨Nat.zero_le _, fun et net => ⟨et, [], rfl, upd_same, same_new net _ _ upd_same, ?_⟩⟩
    have sm1 : Same H (upd (upd (upd H sl (.dT [])) et (.tup [])) sl (.dT (kS [([], 0)]))) := same_chg nsl (same_tr (same_new nsl) (same_new net))
    have hs1 : (upd (upd (upd H sl (.dT [])) et (.tup [])) sl (.dT (kS [([], 0)]))) sl = some (.dT (kS [([], 0)])) := upd_same
    refine ⟨.ref a, rfl, a, rfl, ⟨_, sqT_mono sm1 hA⟩, for_tup (K := K) (a := a) (xs := A.map V.int) (fun t σ H1 => ∃ (sl : Addr) (L : Sts) (y4 y5 y6 y7 y8 y9 y10 y11 y12 : Option V), σ = [some (.ref a), some (.ref c), some (.int m), some (.ref sl), y4, y5, y6, y7, y8, y9, y10, y11, y12] ∧ Same H H1 ∧ H sl = none ∧ H1 sl = some (.dT (kS L)) ∧ SpI A m t L ∧ Lo A m t L ∧ L ≠ [])
      ⟨sl, _, none, none, none, none, none, none, none, none, none, rfl, sm1, nsl, hs1, ⟨List.nodup_cons.mpr ⟨by simp, .nil⟩, fun x hx => by rw [List.mem_singleton.mp hx]; exact Up.zero A m⟩, Lo.zero A m, by simp⟩
      (fun t σ H1 _ I => ?_) (fun t x σ H1 hi I => ?_) (fun σ H1 I => ?_)⟩
    · obtain ⟨_, _, _, _, _, _, _, _, _, _, _, _, sm, _⟩ := I
      exact sqT_mono sm hA
    · obtain ⟨sl, L, y4, y5, y6, y7, y8, y9, y10, y11, y12, rfl, sm, fsl, hsl, I, lo, Lne⟩ := I
      rw [List.getElem?_map] at hi
      cases hp : A[t]? with
      | none => rw [hp] at hi; cases hi
      | some p =>
      rw [hp] at hi
      obtain rfl : V.int p = x := Option.some.inj hi
      have p6 := hA6 p (List.mem_of_getElem? hp)
      intro dl ndl
      have n1 : sl ≠ dl := ne_of_none hsl ndl
      have fdl : H dl = none := sm.free ndl
      have smd : Same H (upd H1 dl (.dT [])) := same_tr sm (same_new ndl)
      refine ⟨sl, .dT (kS L), same_new ndl _ _ hsl, True.intro, fun od => ?_⟩
      have hf2 : (upd (upd H1 dl (.dT [])) sl (.frz od (.dT (kS L)))) sl = some (.frz od (.dT (kS L))) := upd_same
      have hd2 : (upd (upd H1 dl (.dT [])) sl (.frz od (.dT (kS L)))) dl = some (.dT (kS [])) := by
        rw [upd_ne (Ne.symm n1)]
        exact upd_same
      have sm2 : Same H (upd (upd H1 dl (.dT [])) sl (.frz od (.dT (kS L)))) := same_chg fsl smd
      generalize upd (upd H1 dl (.dT [])) sl (.frz od (.dT (kS L))) = H2 at hf2 hd2 sm2
      refine ⟨.ref sl, rfl, sl, od, rfl, .inr ⟨kS L, hf2, for_it walk_keysT (fun i σ H3 => ∃ (L' : Sts) (y6 y7 y8 y9 y10 y11 y12 : Option V), σ = [some (.ref a), some (.ref c), some (.int m), some (.ref sl), some (.int p), some (.ref dl), y6, y7, y8, y9, y10, y11, y12] ∧ Same H H3 ∧ H3 sl = some (.frz od (.dT (kS L))) ∧ H3 dl = some (.dT (kS L')) ∧ SpI A m (t + 1) L' ∧ ∀ j x, j < i → L[j]? = some x → Way p x (opts m (rst x.1 p)) L')
        ⟨[], _, _, _, _, _, _, _, rfl, sm2, hf2, hd2, ⟨.nil, fun x hx => (nomatch hx)⟩, fun j x hj => absurd hj (Nat.not_lt_zero _)⟩ (fun i σ H3 _ I => ?_) (fun i x σ H3 H4 hi J hY => ?_) (fun σ H3 J => ?_)⟩⟩
      · obtain ⟨_, _, _, _, _, _, _, _, _, _, h, _⟩ := I
        exact h
      · obtain ⟨L', y6, y7, y8, y9, y10, y11, y12, rfl, sm3, hf3, hd3, I3, way⟩ := J
        obtain ⟨rfl, k, v, qa, ek, rfl, hq⟩ := hY
        rw [List.getElem?_map] at ek
        cases ex : L[i]? with
        | none => rw [ex] at ek; cases ek
        | some x0 =>
        rw [ex] at ek
        obtain ⟨rfl, rfl⟩ := Prod.mk.inj (Option.some.inj ek)
        have mx : x0 ∈ L := List.mem_of_getElem? ex
        have u0 := I.up x0 mx
        have l4 : x0.1.length ≤ 4 := Nat.le_trans u0.len m4
        have ev : valS L x0.1 = some x0.2 := valS_of I.nd mx
        have hq' : H4 qa = some (.tup (x0.1.map V.int)) := by
          rw [hq, keyT_V]
        refine ⟨_, rfl, _, rfl, sl, .int (x0.2 : Int), rfl, .inr ⟨kS L, keyT x0.1, qa, .inr ⟨od, hf3⟩, rfl, hq, by rw [val_kS, ev]; rfl⟩, ?_⟩
        refine ⟨_, rfl, _, rfl, qa, _, rfl, .inr (SqT.of hq'), rfl, ?_, _, rfl, ?_⟩
        · rw [List.all_map, List.all_eq_true]
          exact fun _ _ => rfl
        refine ite_via (fun v H' => H' = H4 ∧ v = .int ((if p ∈ x0.1 then 1 else 0 : Nat) : Int)) (fun e Q' hQ => ?_) (fun e Q' hQ => ?_) (fun v H5 R => ?_)
        · have e' : inV (.int p) (x0.1.map V.int) = true := e
          rw [inV_int, decide_eq_true_eq] at e'
          have ac : (List.replicate 6 (V.int 1))[p.toNat]? = some (.int 1) := by
            rw [List.getElem?_replicate, if_pos (by omega)]
          refine ⟨_, rfl, _, rfl, c, _, p, .int 1, rfl, rfl, sqL_mono sm3 hc, atI_eq (j := p.toNat) (by omega) ac, hQ _ _ ⟨rfl, ?_⟩⟩
          rw [if_pos e']
          rfl
        · have e' : inV (.int p) (x0.1.map V.int) = false := e
          rw [inV_int, decide_eq_false_iff_not] at e'
          refine hQ _ _ ⟨rfl, ?_⟩
          rw [if_neg e']
          rfl
        obtain ⟨rfl, rfl⟩ := R
        refine ⟨_, _, rfl, rfl, ?_⟩
        generalize hsp : (if p ∈ x0.1 then 1 else 0 : Nat) = w0
        -- rest
        refine ⟨_, rfl, qa, rfl, ⟨_, SqT.of hq'⟩, fun D nD => lc_tup (K := K) (a := qa) (xs := x0.1.map V.int) (fun j H6 => Same H5 H6 ∧ H6 D = some (.lst ((rst (x0.1.take j) p).map V.int)))
          ⟨same_new nD, upd_same⟩ (fun j H6 _ I => SqT.of (I.1 _ _ hq')) (fun j x H6 hj J => ?_) (fun H6 J => ?_)⟩
        · obtain ⟨sm6, hD⟩ := J
          rw [List.getElem?_map] at hj
          cases hu : x0.1[j]? with
          | none => rw [hu] at hj; cases hj
          | some y =>
            rw [hu] at hj
            obtain rfl : V.int y = x := Option.some.inj hj
            have jl := (List.getElem?_eq_some_iff.mp hu).1
            have rs := rst_snoc (p := p) hu
            have rl : (rst (x0.1.take j) p).length ≤ 4 := by
              refine Nat.le_trans (rst_le _ _) ?_
              rw [List.length_take]
              omega
            refine ⟨rfl, _, rfl, _, rfl, rfl, _, rfl, ?_⟩
            by_cases cy : y = p
            · rw [decide_eq_true (by rw [cy] : V.int y = V.int p)]
              rw [if_neg (fun z => (of_decide_eq_true z) cy), List.append_nil] at rs
              exact iteF ⟨sm6, by rw [rs]; exact hD⟩
            · rw [decide_eq_false (fun z => cy (V.int.inj z) : ¬ V.int y = V.int p)]
              rw [if_pos (decide_eq_true cy)] at rs
              refine iteT ⟨_, rfl, _, hD, by rw [List.length_map]; exact small_line (by omega), same_chg nD sm6, ?_⟩
              rw [upd_same, rs, List.map_append]
              rfl
        obtain ⟨sm6, hD⟩ := J
        rw [List.length_map, List.take_length] at hD
        have hq6 := sm6 _ _ hq'
        have hd6 := sm6 _ _ hd3
        have hf6 := sm6 _ _ hf3
        have sm7 := same_tr sm3 sm6
        have Rl : (rst x0.1 p).length ≤ 4 := Nat.le_trans (rst_le _ _) l4
        have Rm : (rst x0.1 p).length ≤ m := Nat.le_trans (rst_le _ _) u0.len
        generalize hR : rst x0.1 p = R at hD Rl Rm
        -- some
        refine ⟨_, rfl, D, _, rfl, .inl (SqL.of hD), _, rfl, _, _, rfl, rfl, _, rfl, ?_⟩
        refine ite_via (fun v H' => ∃ (sp : Addr) (os : List Addr), v = .ref sp ∧ Same H6 H' ∧ H' sp = some (.lst (os.map V.ref)) ∧ Lsts H' os (opts m R)) (fun e Q' hQ => ?_) (fun e Q' hQ => ?_) (fun v H7 S7 => ?_)
        · have e' := of_decide_eq_true e
          rw [List.length_map] at e'
          refine ⟨_, rfl, by show 1 ≤ sizeLine; decide, fun sp nsp => hQ _ _ ⟨sp, [D], rfl, same_new nsp, upd_same, ?_⟩⟩
          unfold opts
          rw [if_pos (by omega)]
          exact .cons (same_new nsp _ _ hD) .nil
        · have e' := of_decide_eq_false e
          rw [List.length_map] at e'
          refine ⟨_, rfl, D, _, rfl, .inl (SqL.of hD), _, rfl, by rw [List.length_map]; omega, by rw [List.length_map]; omega, fun sp nsp => lc_range (lo := 0) (n := ((R.map V.int).length : Int).toNat) (fun j H8 => Same H6 H8 ∧ ∃ os : List Addr, H8 sp = some (.lst (os.map V.ref)) ∧ Lsts H8 os ((List.range j).map fun u => R.eraseIdx u) ∧ ∀ o ∈ os, o ≠ sp)
            ⟨same_new nsp, [], upd_same, .nil, fun o ho => nomatch ho⟩ (fun j H8 hj J => ?_) (fun H8 J => ?_)⟩
          · obtain ⟨sm8, os, hsp8, ls, one_⟩ := J
            rw [List.length_map] at hj
            have jl : j < R.length := by omega
            have hD8 := sm8 _ _ hD
            refine ⟨rfl, _, rfl, _, rfl, _, rfl, D, _, rfl, SqL.of hD8, fun p1 np1 => ?_⟩
            refine ⟨_, rfl, _, rfl, _, _, rfl, rfl, _, rfl, D, _, rfl, SqL.of (same_new np1 _ _ hD8), fun p2 np2 => ?_⟩
            have e0 : (0 + (j : Int)) = (j : Int) := by omega
            have e1 : (0 + (j : Int) + 1) = ((j + 1 : Nat) : Int) := by omega
            have eX : cutV (R.map V.int) none (some (0 + (j : Int))) = (R.take j).map V.int := by
              rw [e0, cut_take _ (by rw [List.length_map]; omega)]
              exact (List.map_take ..).symm
            have eY : cutV (R.map V.int) (some (0 + (j : Int) + 1)) none = (R.drop (j + 1)).map V.int := by
              rw [e1, cut_drop _ (by rw [List.length_map]; omega)]
              exact (List.map_drop ..).symm
            rw [eX] at np2
            rw [eX, eY]
            have smx := same_tr (same_new (o := .lst ((R.take j).map V.int)) np1) (same_new (o := .lst ((R.drop (j + 1)).map V.int)) np2)
            have h1 := same_new (o := .lst ((R.drop (j + 1)).map V.int)) np2 _ _ (upd_same (H := H8) (a := p1) (o := .lst ((R.take j).map V.int)))
            refine ⟨p1, p2, _, _, rfl, rfl, h1, upd_same, ?_, fun p3 np3 => ?_⟩
            · have := sizeLine_eq
              rw [List.length_map, List.length_map, List.length_take, List.length_drop]
              omega
            · have smy := same_tr smx (same_new (o := .lst ((R.take j).map V.int ++ (R.drop (j + 1)).map V.int)) np3)
              have hspx := smy _ _ hsp8
              have ol : os.length = j := by
                have := ls.len
                rw [List.length_map, List.length_range] at this
                exact this
              have nsp3 : p3 ≠ sp := fun z => by
                rw [z] at np3
                have := smx _ _ hsp8
                rw [np3] at this
                cases this
              refine ⟨_, hspx, by rw [List.length_map]; exact small_line (by omega), same_chg nsp (same_tr sm8 smy), os ++ [p3], by rw [upd_same, List.map_append]; rfl, ?_, ?_⟩
              rotate_left
              · intro o ho
                rcases List.mem_append.mp ho with h | h
                · exact one_ o h
                · rw [List.mem_singleton.mp h]
                  exact nsp3
              have lx := ls.mono fun b xs z => smy _ _ z
              have l3 := lx.snoc (o := p3) (l := R.eraseIdx j) (by rw [upd_same, List.eraseIdx_eq_take_drop_succ, List.map_append])
              have e5 : (List.range (j + 1)).map (fun u => R.eraseIdx u) = (List.range j).map (fun u => R.eraseIdx u) ++ [R.eraseIdx j] := by
                rw [List.range_succ, List.map_append]
                rfl
              rw [e5]
              refine l3.upd fun o ho => ?_
              rcases List.mem_append.mp ho with h | h
              · exact one_ o h
              · rw [List.mem_singleton.mp h]
                exact nsp3
          · obtain ⟨sm8, os, hsp8, ls, one_⟩ := J
            refine hQ _ _ ⟨sp, os, rfl, sm8, hsp8, ?_⟩
            unfold opts
            rw [if_neg (by omega)]
            rw [List.length_map] at ls
            exact ls
        obtain ⟨sp, os, rfl, sm8, hsp8, ls⟩ := S7
        have sm9 := same_tr sm7 sm8
        have hd7 := sm8 _ _ hd6
        have hf7 := sm8 _ _ hf6
        have ol := ls.len
        have osl : (os.map V.ref).length = (opts m R).length := by rw [List.length_map, ol]
        refine ⟨.ref sp, rfl, sp, rfl, ⟨_, SqL.of hsp8⟩, for_list (K := K) (a := sp) (xs := os.map V.ref) (fun j σ H8 => ∃ (L2 : Sts) (z10 z11 : Option V), σ = [some (.ref a), some (.ref c), some (.int m), some (.ref sl), some (.int p), some (.ref dl), some (.ref qa), some (.int ((x0.2 : Int) + (w0 : Int))), some (.ref D), some (.ref sp), z10, z11, y12] ∧ But dl H7 H8 ∧ H8 dl = some (.dT (kS L2)) ∧ SpI A m (t + 1) L2 ∧ Ge L' L2 ∧ Way p x0 ((opts m R).take j) L2)
          ⟨L', _, _, rfl, But.refl _ _, hd7, I3, Ge.refl _, fun one h => nomatch h⟩ (fun j σ H8 _ J => ?_) (fun j x σ H8 hj J => ?_) (fun σ H8 J => ?_)⟩
        · obtain ⟨_, _, _, _, bt, h, _⟩ := J
          have : sp ≠ dl := fun z => by
            rw [z, hd7] at hsp8
            cases hsp8
          exact SqL.of (bt _ _ this hsp8)
        · obtain ⟨L2, z10, z11, rfl, bt, hd8, I8, ge8, way8⟩ := J
          rw [List.getElem?_map] at hj
          cases ho : os[j]? with
          | none => rw [ho] at hj; cases hj
          | some o =>
          rw [ho] at hj
          obtain rfl : V.ref o = x := Option.some.inj hj
          obtain ⟨one, e1, h1⟩ := ls.get ho
          have mo : one ∈ opts m (rst x0.1 p) := by
            rw [hR]
            exact List.mem_of_getElem? e1
          have nod : o ≠ dl := fun z => by
            rw [z, hd7] at h1
            cases h1
          have ho8 := bt _ _ nod h1
          have onel : one.length + 1 ≤ 4 := Nat.le_trans (opt_ok (rst_nd u0.nd) (Nat.le_trans (rst_le _ _) u0.len) mo).2.1 m4
          refine ⟨_, rfl, _, rfl, by show 1 ≤ sizeLine; decide, fun lp nlp => ?_⟩
          refine ⟨o, lp, _, [.int p], rfl, rfl, same_new nlp _ _ ho8, upd_same, ?_, fun cp ncp => ?_⟩
          · have := sizeLine_eq
            rw [List.length_map, List.length_singleton]
            omega
          have smA := same_tr (same_new (o := .lst [.int p]) nlp) (same_new (o := .lst (one.map V.int ++ [.int p])) ncp)
          have ecp : one.map V.int ++ [V.int p] = (one ++ [p]).map V.int := by
            rw [List.map_append]
            rfl
          refine ⟨cp, one ++ [p], rfl, SqL.of (by rw [upd_same, ecp]), by rw [List.length_append, List.length_singleton]; omega, fun ns' sp' perm _ nsp' => ?_⟩
          refine ⟨sp', _, rfl, .inl ⟨SqL.of upd_same, fun tp ntp => ?_⟩⟩
          have smB := same_tr smA (same_tr (same_new (o := .lst (ns'.map V.int)) nsp') (same_new (o := .tup (ns'.map V.int)) ntp))
          have hd9 := smB _ _ hd8
          have htp : (upd (upd (upd (upd H8 lp (.lst [.int p])) cp (.lst (one.map V.int ++ [.int p]))) sp' (.lst (ns'.map V.int))) tp (.tup (ns'.map V.int))) tp = some (.tup ((keyT ns').map kV)) := by
            rw [upd_same, keyT_V]
          generalize upd (upd (upd (upd H8 lp (.lst [.int p])) cp (.lst (one.map V.int ++ [.int p]))) sp' (.lst (ns'.map V.int))) tp (.tup (ns'.map V.int)) = H9 at smB hd9 htp
          have uw : Up A m (t + 1) ns' (x0.2 + w0) := by
            rw [← hsp]
            exact u0.way hp mo perm
          have fw := I8.few m4 hA6
          have kl : (kS L2).length < sizeLine := by
            rw [List.length_map]
            exact small_line (by omega)
          have fin : ∀ nv : Nat, Up A m (t + 1) ns' nv → x0.2 + w0 ≤ nv → (∀ u, valS L2 ns' = some u → u ≤ nv) → ∃ (L2' : Sts) (z10 z11 : Option V), [some (V.ref a), some (.ref c), some (.int m), some (.ref sl), some (.int p), some (.ref dl), some (.ref qa), some (.int ((x0.2 : Int) + (w0 : Int))), some (.ref D), some (.ref sp), some (.ref o), some (.ref tp), y12] = [some (.ref a), some (.ref c), some (.int m), some (.ref sl), some (.int p), some (.ref dl), some (.ref qa), some (.int ((x0.2 : Int) + (w0 : Int))), some (.ref D), some (.ref sp), z10, z11, y12] ∧ But dl H7 (upd H9 dl (.dT (putK (kS L2) (keyT ns') (.int (nv : Int))))) ∧ (upd H9 dl (.dT (putK (kS L2) (keyT ns') (.int (nv : Int))))) dl = some (.dT (kS L2')) ∧ SpI A m (t + 1) L2' ∧ Ge L' L2' ∧ Way p x0 ((opts m R).take (j + 1)) L2' := fun nv hup hle hge => by
            refine ⟨putS L2 ns' nv, _, _, rfl, (bt.tr smB).chg, by rw [upd_same, put_kS], I8.put hup, ge8.tr (putS_ge I8.nd hge), fun one' h => ?_⟩
            rw [List.take_add_one, e1] at h
            rcases List.mem_append.mp h with h | h
            · exact (way8.mono (putS_ge I8.nd hge)) one' h
            · obtain rfl : one' = one := List.mem_singleton.mp h
              refine ⟨_, putS_in L2 ns' nv, perm, ?_⟩
              rw [hsp]
              exact hle
          refine ⟨_, rfl, dl, rfl, .inr ⟨_, .inl hd9⟩, _, rfl, _, .inr ⟨kS L2, keyT ns', tp, .inl hd9, rfl, htp, rfl⟩, ?_⟩
          rw [val_kS]
          cases hv : valS L2 ns' with
          | none =>
            refine ⟨_, rfl, 0, _, rfl, _, rfl, _, rfl, dl, _, rfl, .inr ⟨kS L2, keyT ns', tp, hd9, rfl, htp, kl, rfl⟩, ?_⟩
            have f := fin (x0.2 + w0) uw (Nat.le_refl _) (fun u hu => by rw [hv] at hu; cases hu)
            have e : (if (x0.2 : Int) + (w0 : Int) > 0 then (x0.2 : Int) + (w0 : Int) else 0) = ((x0.2 + w0 : Nat) : Int) := by
              split <;> omega
            rw [← e] at f
            exact f
          | some ov =>
            have uo := I8.up _ (valS_mem hv)
            refine ⟨_, rfl, (ov : Int), _, rfl, _, rfl, _, rfl, dl, _, rfl, .inr ⟨kS L2, keyT ns', tp, hd9, rfl, htp, kl, rfl⟩, ?_⟩
            by_cases cg : ov < x0.2 + w0
            · have f := fin (x0.2 + w0) uw (Nat.le_refl _) (fun u hu => by rw [hv] at hu; have := Option.some.inj hu; omega)
              have e : (if (x0.2 : Int) + (w0 : Int) > (ov : Int) then (x0.2 : Int) + (w0 : Int) else (ov : Int)) = ((x0.2 + w0 : Nat) : Int) := by
                split <;> omega
              rw [← e] at f
              exact f
            · have f := fin ov uo (by omega) (fun u hu => by rw [hv] at hu; have := Option.some.inj hu; omega)
              have e : (if (x0.2 : Int) + (w0 : Int) > (ov : Int) then (x0.2 : Int) + (w0 : Int) else (ov : Int)) = ((ov : Nat) : Int) := by
                split <;> omega
              rw [← e] at f
              exact f
        · obtain ⟨L2, z10, z11, rfl, bt, hd8, I8, ge8, way8⟩ := J
          rw [osl, List.take_length] at way8
          refine ⟨L2, _, _, _, _, _, _, _, rfl, bt.same fdl sm9, bt _ _ n1 hf7, hd8, I8, fun j' x' hj' ex' => ?_⟩
          by_cases c : j' = i
          · subst c
            obtain rfl := Option.some.inj (ex.symm.trans ex')
            rw [hR]
            exact way8
          · exact (way j' x' (by omega) ex').mono ge8
      · obtain ⟨L', y6, y7, y8, y9, y10, y11, y12, rfl, sm3, hf3, hd3, I3, way⟩ := J
        have cov : Cov m p L L' := fun x hx one ho => by
          obtain ⟨j, hj⟩ := List.mem_iff_getElem?.mp hx
          exact way j x (by rw [List.length_map]; exact (List.getElem?_eq_some_iff.mp hj).1) hj one ho
        refine ⟨hf3, _, rfl, dl, L', _, _, _, _, _, _, _, _, _, rfl, same_chg fsl sm3, fdl, by rw [upd_ne (Ne.symm n1)]; exact hd3, I3, lo.step hp cov, fun z => ?_⟩
        cases L with
        | nil => exact Lne rfl
        | cons x0 Lr =>
          obtain ⟨one, ho⟩ := List.exists_mem_of_ne_nil _ (opts_ne (R := rst x0.1 p) m1)
          obtain ⟨y, hy, _⟩ := cov x0 List.mem_cons_self one ho
          rw [z] at hy
          cases hy
    · obtain ⟨sl, L, y4, y5, y6, y7, y8, y9, y10, y11, y12, rfl, sm, fsl, hsl, I, lo, Lne⟩ := I
      rw [List.length_map] at I lo
      refine ⟨sl, _, hsl, True.intro, fun od => ?_⟩
      have hf : (upd H1 sl (.frz od (.dT (kS L)))) sl = some (.frz od (.dT (kS L))) := upd_same
      have smf : Same H (upd H1 sl (.frz od (.dT (kS L)))) := same_chg fsl sm
      generalize upd H1 sl (.frz od (.dT (kS L))) = H2 at hf smf
      have fw := I.few m4 hA6
      refine ⟨.ref sl, rfl, sl, od, rfl, .inr ⟨kS L, hf, fun D nD => lc_it walk_keysT (fun i H3 => Same H2 H3 ∧ H3 D = some (.lst (((L.take i).map fun x => (x.2 : Int)).map V.int)))
        ⟨same_new nD, upd_same⟩ (fun i H3 _ I => I.1 _ _ hf) (fun i x H3 H4 hi hP hY => ?_) (fun H3 hP => ?_)⟩⟩
      · obtain ⟨sm3, hD⟩ := hP
        obtain ⟨rfl, k, v, qa, ek, rfl, hq⟩ := hY
        rw [List.getElem?_map] at ek
        cases ex : L[i]? with
        | none => rw [ex] at ek; cases ek
        | some x0 =>
          rw [ex] at ek
          obtain ⟨rfl, rfl⟩ := Prod.mk.inj (Option.some.inj ek)
          have il := (List.getElem?_eq_some_iff.mp ex).1
          have ev : valS L x0.1 = some x0.2 := valS_of I.nd (List.mem_of_getElem? ex)
          refine ⟨rfl, _, rfl, _, rfl, sl, .int (x0.2 : Int), rfl, .inr ⟨kS L, keyT x0.1, qa, .inr ⟨od, sm3 _ _ hf⟩, rfl, hq, by rw [val_kS, ev]; rfl⟩, _, hD, ?_, same_chg nD sm3, ?_⟩
          · rw [List.length_map, List.length_map, List.length_take]
            exact small_line (by omega)
          · rw [upd_same, take_snoc ex, List.map_append]
            rfl
      · obtain ⟨sm3, hD⟩ := hP
        have e : L.take (kS L).length = L := by
          rw [List.length_map, List.take_length]
        rw [e] at hD
        have nDs : D ≠ sl := fun z => by
          rw [z, hf] at nD
          cases nD
        refine ⟨sm3 _ _ hf, D, L.map fun x => (x.2 : Int), rfl, SqL.of (by rw [upd_ne nDs]; exact hD), ?_, fun mx hm hle => ?_⟩
        · rw [List.length_map]
          exact List.length_pos_iff.mpr Lne
        · obtain ⟨x0, hx, rfl⟩ := List.mem_map.mp hm
          refine q x0.2 _ (same_chg fsl (same_tr smf sm3)) ⟨x0.1, I.up x0 hx⟩ fun T F r => ?_
          obtain ⟨y, hy, _, hl⟩ := lo T F r
          have := hle (y.2 : Int) (List.mem_map_of_mem (f := fun x : List Int × Nat => (x.2 : Int)) hy)
          omega
end
end Fw
end
section
set_option Elab.async false
set_option linter.all false
set_option maxRecDepth 100000
set_option maxHeartbeats 4000000
namespace Fw
open PySem PySem.Spec PyProof.Rows L2 Fr Fm
/-! ### data of a small depth, with a bound on its lengths -/
inductive Ob (c : Nat) : Nat → PyData → Prop
  | non {k : Nat} : Ob c k .none
  | bl {k : Nat} (b : Bool) : Ob c k (.bool b)
  | int {k : Nat} (i : Int) : Ob c k (.int i)
  | str {k : Nat} (s : Str) : PyData.strOk s = true → Ob c k (.str s)
  | lst {k : Nat} {ds : List PyData} : (∀ d ∈ ds, Ob c k d) → ds.length ≤ c → Ob c (k + 1) (.list ds)
  | tup {k : Nat} {ds : List PyData} : (∀ d ∈ ds, Ob c k d) → ds.length ≤ c → Ob c (k + 1) (.tuple ds)
theorem Ob.up : ∀ {c k : Nat} {d : PyData}, Ob c k d → Ob c (k + 1) d
  | _, _, _, .non => .non
  | _, _, _, .bl b => .bl b
  | _, _, _, .int i => .int i
  | _, _, _, .str s h => .str s h
  | _, _, _, .lst h l => .lst (fun d hd => Ob.up (h d hd)) l
  | _, _, _, .tup h l => .tup (fun d hd => Ob.up (h d hd)) l
theorem Ob.more : ∀ {c c' k : Nat} {d : PyData}, c ≤ c' → Ob c k d → Ob c' k d
  | _, _, _, _, _, .non => .non
  | _, _, _, _, _, .bl b => .bl b
  | _, _, _, _, _, .int i => .int i
  | _, _, _, _, _, .str s h => .str s h
  | _, _, _, _, e, .lst h l => .lst (fun d hd => Ob.more e (h d hd)) (Nat.le_trans l e)
  | _, _, _, _, e, .tup h l => .tup (fun d hd => Ob.more e (h d hd)) (Nat.le_trans l e)
theorem Ob.od : ∀ {c k : Nat} {d : PyData}, c ≤ 1000 → Ob c k d → Od k d
  | _, _, _, _, .non => .non
  | _, _, _, _, .bl b => .bl b
  | _, _, _, _, .int i => .int i
  | _, _, _, _, .str s h => .str s h
  | _, _, _, e, .lst h l => .lst (fun d hd => Ob.od e (h d hd)) (Nat.le_trans l e)
  | _, _, _, e, .tup h l => .tup (fun d hd => Ob.od e (h d hd)) (Nat.le_trans l e)
theorem Ob.mono {c k j : Nat} {d : PyData} (h : Ob c k d) (l : k ≤ j) : Ob c j d := by
  induction l with
  | refl => exact h
  | step _ ih => exact ih.up
/-! ### slices of data -/
def cutD (ds : List PyData) (lo hi : Option Int) : List PyData := (ds.drop (HT.sIx ds.length 0 lo)).take (HT.sIx ds.length ds.length hi - HT.sIx ds.length 0 lo)
theorem dpAll_drop {K : PySem.W.Frag} {H : Hp} : ∀ {vs : List V} {ds : List PyData} (n : Nat), DpAll K H vs ds → DpAll K H (vs.drop n) (ds.drop n)
  | _, _, 0, h => h
  | _, _, _ + 1, .nil => .nil
  | _, _, n + 1, .cons _ r => dpAll_drop n r
theorem dpAll_take {K : PySem.W.Frag} {H : Hp} : ∀ {vs : List V} {ds : List PyData} (n : Nat), DpAll K H vs ds → DpAll K H (vs.take n) (ds.take n)
  | _, _, 0, _ => .nil
  | _, _, _ + 1, .nil => .nil
  | _, _, n + 1, .cons h r => .cons h (dpAll_take n r)
theorem dpAll_rev {K : PySem.W.Frag} {H : Hp} : ∀ {vs : List V} {ds : List PyData}, DpAll K H vs ds → DpAll K H vs.reverse ds.reverse
  | _, _, .nil => .nil
  | _, _, .cons h r => by
    rw [List.reverse_cons, List.reverse_cons]
    exact dpAll_snoc (dpAll_rev r) h
theorem dpAll_cut {K : PySem.W.Frag} {H : Hp} {vs : List V} {ds : List PyData} (h : DpAll K H vs ds) (lo hi : Option Int) : DpAll K H (cutV vs lo hi) (cutD ds lo hi) := by
  unfold cutV cutD
  rw [dpAll_len h]
  exact dpAll_take _ (dpAll_drop _ h)
theorem cutD_sub (ds : List PyData) (lo hi : Option Int) : ∀ x ∈ cutD ds lo hi, x ∈ ds := fun x hx => List.mem_of_mem_drop (List.mem_of_mem_take hx)
theorem cutD_len (ds : List PyData) (lo hi : Option Int) : (cutD ds lo hi).length ≤ ds.length := by
  unfold cutD
  rw [List.length_take, List.length_drop]
  omega
theorem cutD_whole {ds : List PyData} {lo hi : Option Int} (h : HT.sIx ds.length 0 lo = 0 ∧ HT.sIx ds.length ds.length hi = ds.length) : cutD ds lo hi = ds := by
  unfold cutD
  rw [h.1, h.2]
  simp
/-! ### the heap without the deal and one object more -/
def hid3 (d l x : Addr) (H : Hp) : Hp := fun b => if b = x then none else hid d l H b
theorem hid3_some {d l x b : Addr} {H : Hp} {o : HO} : hid3 d l x H b = some o ↔ b ≠ x ∧ hid d l H b = some o := by
  unfold hid3
  constructor
  · intro h
    split at h
    · cases h
    · rename_i c
      exact ⟨c, h⟩
  · rintro ⟨h1, h2⟩
    rw [if_neg h1]
    exact h2
theorem hid3_same (d l x : Addr) (H : Hp) : Same (hid3 d l x H) (hid d l H) := fun b o e => (hid3_some.mp e).2
theorem hid3_real (d l x : Addr) (H : Hp) : Same (hid3 d l x H) H := same_tr (hid3_same d l x H) (hid_same d l H)
theorem Sm.x {d l : Addr} (x : Addr) {H H' : Hp} (k : Sm d l H H') : Same (hid3 d l x H) (hid3 d l x H') := fun b o e => by
  obtain ⟨h1, h2⟩ := hid3_some.mp e
  exact hid3_some.mpr ⟨h1, k _ _ h2⟩
theorem hid3_upd {d l x : Addr} {H : Hp} {o : HO} : hid3 d l x (upd H x o) = hid3 d l x H := by
  funext b
  unfold hid3
  by_cases c : b = x
  · rw [if_pos c, if_pos c]
  · rw [if_neg c, if_neg c]
    unfold hid
    rw [upd_ne c]
structure DealX (H : Hp) (d l x : Addr) : Prop where
  E : DealE H d l
  X : ∃ o, H x = some o
theorem DealX.mono {H H' : Hp} {d l x : Addr} (D : DealX H d l x) (k : Same H H') : DealX H' d l x := ⟨D.E.mono k, by
  obtain ⟨o, e⟩ := D.X
  exact ⟨o, k _ _ e⟩⟩
theorem DealX.next {H H' : Hp} {d l x : Addr} (D : DealX H d l x) (k : Sm d l H H') (E : DealE H' d l) : DealX H' d l x := ⟨E, by
  obtain ⟨o, e⟩ := D.X
  obtain ⟨cs, b, E⟩ := E
  by_cases c : x = d
  · exact ⟨_, by rw [c]; exact E.d⟩
  · by_cases c2 : x = l
    · exact ⟨_, by rw [c2]; exact E.l⟩
    · exact ⟨o, (hid_some.mp (k _ _ (hid_some.mpr ⟨c, c2, e⟩))).2.2⟩⟩
theorem DealX.new_ne {H : Hp} {d l x p : Addr} (D : DealX H d l x) (n : H p = none) : p ≠ d ∧ p ≠ l := D.E.new_ne n
theorem hid3_new {H : Hp} {d l x p : Addr} {o : HO} (D : DealX H d l x) (n : H p = none) : hid3 d l x (upd H p o) p = some o := hid3_some.mpr ⟨by
  obtain ⟨u, e⟩ := D.X
  exact (ne_of_none e n).symm, hid_new D.E n⟩
section
variable {K : PySem.W.Frag}
theorem dp_split {H : Hp} {v : V} {ds : List PyData} (h : Dp K H v (.tuple ds)) : ∃ t xs, v = .ref t ∧ SqT K H t xs ∧ DpAll K H xs ds := by
  cases h with
  | tup hs ha => exact ⟨_, _, rfl, hs, ha⟩
theorem dp_new {H : Hp} {d l x p : Addr} {xs : List V} {ds : List PyData} (D : DealX H d l x) (n : H p = none) (h : DpAll K (hid3 d l x H) xs ds) : Dp K (hid3 d l x (upd H p (.tup xs))) (.ref p) (.tuple ds) :=
  .tup (SqT.of (hid3_new D n)) (dpAll_mono ((Sm.new n).x x) h)
theorem dp_newL {H : Hp} {d l x p : Addr} {xs : List V} {ds : List PyData} (D : DealX H d l x) (n : H p = none) (h : DpAll K (hid3 d l x H) xs ds) : Dp K (hid3 d l x (upd H p (.lst xs))) (.ref p) (.list ds) :=
  .lst (SqL.of (hid3_new D n)) (dpAll_mono ((Sm.new n).x x) h)
/-- t + u of data -/
theorem cat_hid {H : Hp} {d l x : Addr} {v1 v2 : V} {ds es : List PyData} {Q : VK} (D : DealX H d l x) (h1 : Dp K (hid3 d l x H) v1 (.tuple ds)) (h2 : Dp K (hid3 d l x H) v2 (.tuple es)) (len : ds.length + es.length ≤ 100000)
    (q : ∀ v H', Same H H' → Dp K (hid3 d l x H') v (.tuple (ds ++ es)) → Q v H') : rCatA K v1 v2 H Q := by
  obtain ⟨a, xs, rfl, ha, da⟩ := dp_split h1
  obtain ⟨b, ys, rfl, hb, db⟩ := dp_split h2
  have l1 := dpAll_len da
  have l2 := dpAll_len db
  refine ⟨a, b, xs, ys, rfl, rfl, sqT_mono (hid3_real d l x H) ha, sqT_mono (hid3_real d l x H) hb, by have := sizeLine_eq; omega, fun e => ?_, fun _ e => ?_, fun _ _ p np => ?_⟩
  · subst e
    cases da
    exact q _ _ (same_refl H) h2
  · subst e
    cases db
    rw [List.append_nil] at q
    exact q _ _ (same_refl H) h1
  · exact q _ _ (same_new np) (dp_new D np (dpAll_app da db))
/-- t[lo:hi] of data -/
theorem sl_hid {H : Hp} {d l x : Addr} {v1 : V} {ds : List PyData} {lo hi : Option Int} {Q : VK} (D : DealX H d l x) (h1 : Dp K (hid3 d l x H) v1 (.tuple ds)) (q : ∀ v H', Same H H' → Dp K (hid3 d l x H') v (.tuple (cutD ds lo hi)) → Q v H') : rSlA K v1 lo hi H Q := by
  obtain ⟨a, xs, rfl, ha, da⟩ := dp_split h1
  have l1 := dpAll_len da
  refine ⟨a, xs, rfl, sqT_mono (hid3_real d l x H) ha, fun e => ?_, fun _ p np => ?_⟩
  · rw [l1] at e
    refine q _ _ (same_refl H) ?_
    rw [cutD_whole e]
    exact h1
  · exact q _ _ (same_new np) (dp_new D np (dpAll_cut da lo hi))
end
theorem noPart_via {σ : L2.St} {H : Hp} {Q : Option Int → Hp → Prop} (h : Q none H) : tNoPart σ H Q := h
theorem step_gName {i : Nat} {v : V} {σ : L2.St} {H : Hp} {Q : L2.St → Hp → Prop} (h : Q (σ.set i (some v)) H) : gName i v σ H Q := h
theorem step_seq {t u : TS} {D : Ends} {σ : L2.St} {H : Hp} (h : t { nx := u D, rt := D.rt, bk := D.bk, ct := D.ct } σ H) : tSeq t u D σ H := h
theorem ifS_via {tc : TT} {tb te : TS} {D : Ends} {σ : L2.St} {H : Hp} (inv inv2 : Hp → Prop) (h : ∀ Q' : Bool → Hp → Prop, (∀ H', inv H' → Q' true H') → (∀ H', inv2 H' → Q' false H') → tc σ H Q') (hb : ∀ H', inv H' → tb D σ H') (hr : ∀ H', inv2 H' → te D σ H') : tIfS tc tb te D σ H :=
  h _ (fun H' i => hb H' i) (fun H' i => iteF (hr H' i))
section
variable {P : Program} {w : World} {K : PySem.W.Frag} {mg : Str → Option Value} {base : Heap}
/-- a value with data within the bounds -/
def Good (K : PySem.W.Frag) (d l x : Addr) (c n : Nat) (v : V) (H : Hp) : Prop := ∃ dd, Dp K (hid3 d l x H) v dd ∧ Ob c n dd
theorem Good.mono {d l x : Addr} {c n : Nat} {v : V} {H H' : Hp} (g : Good K d l x c n v H) (k : Sm d l H H') : Good K d l x c n v H' := by
  obtain ⟨dd, h1, h2⟩ := g
  exact ⟨dd, dp_mono (k.x x) h1, h2⟩
def sp_odd (c : Nat) (K : PySem.W.Frag) : Nat → Sp
  | 0 => fun _ _ _ _ => False
  | n + 1 => fun vs H Q _ => ∃ (d l y : Addr) (v : V) (dd : PyData), vs = [.ref d, v] ∧ DealX H d l y ∧ Dp K (hid3 d l y H) v dd ∧ Ob c n dd ∧
      ∀ v' H', Sm d l H H' → DealX H' d l y → Good K d l y (c + 1) (n + 1) v' H' → Q v' H'
theorem ok_law_odd {c : Nat} (hc : 2 ≤ c ∧ c ≤ 500) {n : Nat} (hn : n ≤ 20) {f f1 f2 : Addr} {fd fd1 fd2 : FuncData} {k : Nat} (F : Fun K "_law_odd_thing" "_law_odd_thing" s_law_odd_thing f fd) (T : Nm mg) (G1 : FnOk P w K mg base CX0 k f1 fd1 ["_law_deal", "_law_bound_here"] (sp_law_any K)) (D1 : Dn K mg "_law_any" f1 fd1 ["_law_deal", "_law_bound_here"])
    (G2 : FnOk P w K mg base CX0 k f2 fd2 ["_law_deal", "_law_some"] (sp_law_of K)) (D2 : Dn K mg "_law_of" f2 fd2 ["_law_deal", "_law_some"])
    (G3 : FnOk P w K mg base CX0 k f fd ["_law_deal", "_law_value"] (sp_odd c K n)) (D3 : Dn K mg "_law_odd_thing" f fd ["_law_deal", "_law_value"]) :
    FnOk P w K mg base CX0 (k + 1) f fd ["_law_deal", "_law_value"] (sp_odd c K (n + 1)) := by
  refine F.ok sc_law_odd_thing (fun vs H Q E h => ?_) (fun cdv A' outer s H vs Q E hr h => ?_)
  · obtain ⟨d, l, y, v, dd, rfl, _⟩ := h
    rfl
  · obtain ⟨d, l, y, v, dd, rfl, D, hv, ob, q⟩ := h
    have nd := sc_law_odd_thing.nd
    refine ⟨_, pss_cons (ps_asg (pe_lst (pa_cons pe_non (pa_cons pe_int (pa_cons pe_bl (pa_cons (pe_un un_neg pe_int) (pa_cons pe_str (pa_cons (pe_tup pa_nil) (pa_cons (pe_lst pa_nil) (pa_cons pe_int (pa_cons (pe_tup (pa_cons pe_int (pa_cons pe_int pa_nil))) (pa_cons pe_int pa_nil))))))))))) (pg_name (i := 2) nd rfl (.inl rfl)))
      (pss_cons (ps_if (PW.pt (pw_or (pt_not (pt_val (pe_callB call_isi (by rfl) T.isinstance (by decide +kernel) (pa_cons (pv 1) (pa_cons (pe_bltn (v := .ty "tuple") (by rfl) T.tuple (by decide +kernel) rfl) pa_nil)))))
          (pw_or (pt_cmpR (op_eqD hr.units) (pv 1) (pe_tup pa_nil) (nomark _)) (pw_or1 (pt_cmpR op_eq (pe_call G1 hr (by rfl) D1.g D1.kp D1.b .nil pass0 (pa_cons (pv 0) (pa_cons pe_int pa_nil))) pe_int (nomark _))))))
        (pss_cons (ps_asg (pe_ifExp (pt_val (pe_callB call_isi (by rfl) T.isinstance (by decide +kernel) (pa_cons (pv 1) (pa_cons (pe_bltn (v := .ty "tuple") (by rfl) T.tuple (by decide +kernel) rfl) pa_nil))))
            (pe_lst (pa_cons (pe_callTy call_list_of (by rfl) T.list (by decide +kernel) (pa_cons (pv 1) pa_nil)) (pa_cons (pe_op op_catA (pv 1) (pe_tup (pa_cons pe_int pa_nil))) (pa_cons (pe_slice sl_tupA (pv 1) (po_some pe_int) po_none)
              (pa_cons (pe_op op_catA (pv 1) (pe_slice sl_tupA (pv 1) (po_some (pe_un un_neg pe_int)) po_none)) (pa_cons (pe_revT (pv 1)) pa_nil))))))
            (pe_lst (pa_cons pe_bl (pa_cons pe_int pa_nil)))) (pg_name (i := 3) nd rfl (.inl rfl)))
        (pss_one (ps_ret (pe_call G2 hr (by rfl) D2.g D2.kp D2.b .nil pass0 (pa_cons (pv 0) (pa_cons (pe_op op_cat (pv 2) (pe_op op_rep (pv 3) pe_int)) pa_nil)))))) pss_nil)
      (pss_cons (ps_asg (pe_call G1 hr (by rfl) D1.g D1.kp D1.b .nil pass0 (pa_cons (pv 0) (pa_cons (pe_callB call_len_seq (by rfl) T.len PySem.boot_len (pa_cons (pv 1) pa_nil)) pa_nil))) (pg_name (i := 4) nd rfl (.inl rfl)))
      (pss_one (ps_ret (pe_op op_catA (pe_op op_catA (pe_slice sl_tupA (pv 1) po_none (po_some (pv 4))) (pe_tup (pa_cons (pe_call G3 hr (by rfl) D3.g D3.kp D3.b .nil pass0 (pa_cons (pv 0) (pa_cons (pe_ix ix_tup (pv 1) (pv 4) (fun _ _ => rfl)) pa_nil))) pa_nil)))
        (pe_slice sl_tupA (pv 1) (po_some (pe_op op_add (pv 4) pe_int)) po_none)))))), ?_⟩
    refine ⟨1, rfl, Nat.zero_le _, fun t1 n1 => ⟨Nat.zero_le _, fun l1 n2 => ⟨by show 2 ≤ sizeLine; decide, fun t2 n3 => ⟨by show 10 ≤ sizeLine; decide, fun sp nsp => ?_⟩⟩⟩⟩
    generalize hxs0 : [V.non, .int 0, .bl true, .int (-1), .str "0", .ref t1, .ref l1, .int 99, .ref t2, .int 1] = xs0
    have hxs0' : [V.non, .int 0, .bl true, (fun i => V.int (-i)) 1, .str "0", .ref t1, .ref l1, .int 99, .ref t2, .int 1] = xs0 := hxs0
    have De1 := D.mono (same_new (o := .tup []) n1)
    have De2 := De1.mono (same_new (o := .lst []) n2)
    have De3 := De2.mono (same_new (o := .tup [.int 0, .int 0]) n3)
    have De4 := De3.mono (same_new (o := .lst xs0) nsp)
    have g1 : Dp K (hid3 d l y _) (.ref t1) (.tuple []) := dp_new D n1 .nil
    have g2 : Dp K (hid3 d l y _) (.ref l1) (.list []) := dp_newL De1 n2 .nil
    have g3 : Dp K (hid3 d l y _) (.ref t2) (.tuple [.int 0, .int 0]) := dp_new De2 n3 (.cons (.int _) (.cons (.int _) .nil))
    have k1 := Sm.new (d := d) (l := l) (o := .tup []) n1
    have k2 := Sm.new (d := d) (l := l) (o := .lst []) n2
    have k3 := Sm.new (d := d) (l := l) (o := .tup [.int 0, .int 0]) n3
    have k4 := Sm.new (d := d) (l := l) (o := .lst xs0) nsp
    have sm4 := ((k1.tr k2).tr k3).tr k4
    have spne := De3.new_ne nsp
    have hsp4 : (upd (upd (upd (upd H t1 (.tup [])) l1 (.lst [])) t2 (.tup [.int 0, .int 0])) sp (.lst xs0)) sp = some (.lst xs0) := upd_same
    have gx : ∀ x ∈ xs0, Good K d l y (c + 1) (n + 1) x (upd (upd (upd (upd H t1 (.tup [])) l1 (.lst [])) t2 (.tup [.int 0, .int 0])) sp (.lst xs0)) := by
      intro x hx
      rw [← hxs0] at hx
      simp only [List.mem_cons, List.not_mem_nil, or_false] at hx
      rcases hx with rfl | rfl | rfl | rfl | rfl | rfl | rfl | rfl | rfl | rfl
      · exact ⟨_, .non, .non⟩
      · exact ⟨_, .int _, .int _⟩
      · exact ⟨_, .bl _, .bl _⟩
      · exact ⟨_, .int _, .int _⟩
      · exact ⟨_, .str _, .str _ (by decide +kernel)⟩
      · exact ⟨_, dp_mono (((k2.tr k3).tr k4).x y) g1, .tup (fun d hd => nomatch hd) (Nat.zero_le _)⟩
      · exact ⟨_, dp_mono ((k3.tr k4).x y) g2, .lst (fun d hd => nomatch hd) (Nat.zero_le _)⟩
      · exact ⟨_, .int _, .int _⟩
      · exact ⟨_, dp_mono (k4.x y) g3, .tup (fun d hd => by
          rcases List.mem_cons.mp hd with rfl | hd
          · exact .int _
          · rw [List.mem_singleton.mp hd]
            exact .int _) (by show 2 ≤ c + 1; omega)⟩
      · exact ⟨_, .int _, .int _⟩
    have len0 : xs0.length = 10 := by
      rw [← hxs0]
      rfl
    generalize hH4 : upd (upd (upd (upd H t1 (.tup [])) l1 (.lst [])) t2 (.tup [.int 0, .int 0])) sp (.lst xs0) = H4 at De4 sm4 hsp4 gx
    have odv : Od n dd := ob.od (by omega)
    refine step_gName ?_
    dsimp only
    refine step_seq ?_
    refine ifS_via (fun H' => Sm d l H4 H' ∧ DealX H' d l y) (fun H' => Sm d l H4 H' ∧ DealX H' d l y ∧ ∃ es, dd = .tuple es ∧ es ≠ []) (fun Q' hB hR => ?_) (fun H5 I => ?_) (fun H5 I => ?_)
    · have hv4 : Dp K H4 v dd := dp_mono (same_tr (Sm.x y sm4) (hid3_real d l y H4)) hv
      refine ⟨v, rfl, v, _, _, _, _, rfl, .ty "tuple", ty_of hv4, kit_ty (kit_tuple (dp_noDict hv4)), _, rfl, ?_⟩
      cases hT : isT dd with
      | false => exact iteT (hB _ ⟨.refl, De4⟩)
      | true =>
        obtain ⟨es, rfl⟩ := isT_of hT
        refine iteF ⟨_, rfl, Nat.zero_le _, fun e0 ne0 => ?_⟩
        have De5 := De4.mono (same_new (o := .tup []) ne0)
        have k5 := Sm.new (d := d) (l := l) (o := .tup []) ne0
        refine ⟨_, _, dp_mono (same_new ne0) hv4, .tup (SqT.of upd_same) .nil, odv.shaped (by omega), rfl, _, rfl, ?_⟩
        cases es with
        | nil => exact iteT (hB _ ⟨k5, De5⟩)
        | cons e es =>
          refine iteF ⟨_, rfl, d, l, 5, rfl, De5.E, by omega, by omega, fun i H6 k6 De6 _ => ⟨rfl, _, rfl, ?_⟩⟩
          by_cases c0 : V.int (i : Int) = V.int 0
          · rw [decide_eq_true c0]
            exact hB _ ⟨k5.tr k6, De5.next k6 De6⟩
          · rw [decide_eq_false c0]
            exact hR _ ⟨k5.tr k6, De5.next k6 De6, _, rfl, by simp⟩
    · obtain ⟨k5, De5⟩ := I
      have hsp5 : H5 sp = some (.lst xs0) := (hid_some.mp (k5 sp _ (hid_some.mpr ⟨spne.1, spne.2, hsp4⟩))).2.2
      have hv5' : Dp K (hid3 d l y H5) v dd := dp_mono (Sm.x y (Sm.tr sm4 k5)) hv
      have hv5 : Dp K H5 v dd := dp_mono (hid3_real d l y H5) hv5'
      refine ⟨v, rfl, v, _, _, _, _, rfl, .ty "tuple", ty_of hv5, kit_ty (kit_tuple (dp_noDict hv5)), _, rfl, ?_⟩
      refine ite_via (fun v' H' => ∃ (mp : Addr) (ms : List V), v' = .ref mp ∧ Sm d l H5 H' ∧ DealX H' d l y ∧ H' mp = some (.lst ms) ∧ ms ≠ [] ∧ ms.length ≤ 5 ∧ ∀ x ∈ ms, Good K d l y (c + 1) (n + 1) x H') (fun e Q' hQ => ?_) (fun e Q' hQ => ?_) (fun v' H6 R => ?_)
      · obtain ⟨es, rfl⟩ := isT_of e
        obtain ⟨el, n', rfl, eo⟩ : es.length ≤ c ∧ ∃ n', n = n' + 1 ∧ ∀ x ∈ es, Ob c n' x := by
          cases ob with
          | tup h l => exact ⟨l, _, rfl, h⟩
        obtain ⟨tv, xs, rfl, hs, ha⟩ := dp_split hv5'
        have hs5 := sqT_mono (hid3_real d l y H5) hs
        have eo1 : ∀ x ∈ es, Ob (c + 1) (n' + 1) x := fun x hx => ((eo x hx).up).more (by omega)
        refine ⟨_, rfl, tv, xs, rfl, .inr hs5, fun p1 np1 => ?_⟩
        have r1 : Dp K (hid3 d l y _) (.ref p1) (.list es) := dp_newL De5 np1 ha
        have De6 := De5.mono (same_new (o := .lst xs) np1)
        have k6 := Sm.new (d := d) (l := l) (o := .lst xs) np1
        generalize upd H5 p1 (.lst xs) = H6 at r1 De6 k6
        refine ⟨_, rfl, by show 1 ≤ sizeLine; decide, fun p2 np2 => ?_⟩
        have r2 : Dp K (hid3 d l y _) (.ref p2) (.tuple [.int 0]) := dp_new De6 np2 (.cons (.int _) .nil)
        have De7 := De6.mono (same_new (o := .tup [.int 0]) np2)
        have k7 := Sm.new (d := d) (l := l) (o := .tup [.int 0]) np2
        generalize upd H6 p2 (.tup [.int 0]) = H7 at r2 De7 k7
        refine cat_hid De7 (dp_mono ((k6.tr k7).x y) hv5') r2 (by show es.length + 1 ≤ 100000; omega) fun v2 H8 s8 r3 => ?_
        have De8 := De7.mono s8
        have k8 := Sm.of (d := d) (l := l) s8
        refine ⟨_, rfl, 1, rfl, ?_⟩
        refine noPart_via ?_
        refine sl_hid De8 (dp_mono (((k6.tr k7).tr k8).x y) hv5') fun v3 H9 s9 r4 => ?_
        have De9 := De8.mono s9
        have k9 := Sm.of (d := d) (l := l) s9
        refine ⟨_, rfl, _, rfl, _, rfl, _, rfl, ?_⟩
        refine noPart_via ?_
        refine sl_hid De9 (dp_mono ((((k6.tr k7).tr k8).tr k9).x y) hv5') fun v4 H10 s10 r5 => ?_
        have De10 := De9.mono s10
        have k10 := Sm.of (d := d) (l := l) s10
        refine cat_hid De10 (dp_mono (((((k6.tr k7).tr k8).tr k9).tr k10).x y) hv5') r5 (by have := cutD_len es (some (-1)) none; show es.length + (cutD es (some (-1)) none).length ≤ 100000; omega) fun v5 H11 s11 r6 => ?_
        have De11 := De10.mono s11
        have k11 := Sm.of (d := d) (l := l) s11
        have kk := ((((k6.tr k7).tr k8).tr k9).tr k10).tr k11
        refine ⟨_, rfl, tv, xs, rfl, sqT_mono (same_tr (Sm.x y kk) (hid3_real d l y H11)) hs, fun p3 np3 => ?_⟩
        have r7 : Dp K (hid3 d l y _) (.ref p3) (.tuple es.reverse) := dp_new De11 np3 (dpAll_rev (dpAll_mono (kk.x y) ha))
        have De12 := De11.mono (same_new (o := .tup xs.reverse) np3)
        have k12 := Sm.new (d := d) (l := l) (o := .tup xs.reverse) np3
        generalize upd H11 p3 (.tup xs.reverse) = H12 at r7 De12 k12
        refine ⟨by show 5 ≤ sizeLine; decide, fun mp nmp => hQ _ _ ⟨mp, _, rfl, kk.tr (k12.tr (Sm.new nmp)), De12.mono (same_new nmp), upd_same, by simp, by show 5 ≤ 5; omega, fun x hx => ?_⟩⟩
        have k13 := Sm.new (d := d) (l := l) (o := .lst [.ref p1, v2, v3, v5, .ref p3]) nmp
        have last1 : (cutD es (some (-1)) none).length ≤ 1 := by
          unfold cutD HT.sIx
          rw [List.length_take, List.length_drop]
          simp
          omega
        simp only [List.mem_cons, List.not_mem_nil, or_false] at hx
        rcases hx with rfl | rfl | rfl | rfl | rfl
        · exact ⟨_, dp_mono ((((((k7.tr k8).tr k9).tr k10).tr k11).tr (k12.tr k13)).x y) r1, .lst eo1 (by omega)⟩
        · refine ⟨_, dp_mono ((((k9.tr k10).tr k11).tr (k12.tr k13)).x y) r3, .tup (fun x hx => ?_) (by rw [List.length_append, List.length_singleton]; omega)⟩
          rcases List.mem_append.mp hx with h | h
          · exact eo1 x h
          · rw [List.mem_singleton.mp h]
            exact .int _
        · exact ⟨_, dp_mono (((k10.tr k11).tr (k12.tr k13)).x y) r4, .tup (fun x hx => eo1 x (cutD_sub _ _ _ x hx)) (by have := cutD_len es (some 1) none; omega)⟩
        · refine ⟨_, dp_mono ((k12.tr k13).x y) r6, .tup (fun x hx => ?_) ?_⟩
          · rcases List.mem_append.mp hx with h | h
            · exact eo1 x h
            · exact eo1 x (cutD_sub _ _ _ x h)
          · rw [List.length_append]
            have : (cutD es (some (-1)) none).length ≤ 1 := last1
            exact Nat.add_le_add el this
        · exact ⟨_, dp_mono (k13.x y) r7, .tup (fun x hx => eo1 x (List.mem_reverse.mp hx)) (by rw [List.length_reverse]; omega)⟩
      · refine ⟨by show 2 ≤ sizeLine; decide, fun mp nmp => hQ _ _ ⟨mp, _, rfl, Sm.new nmp, De5.mono (same_new nmp), upd_same, by simp, by show 2 ≤ 5; omega, fun x hx => ?_⟩⟩
        rcases List.mem_cons.mp hx with rfl | hx
        · exact ⟨_, .bl _, .bl _⟩
        · rw [List.mem_singleton.mp hx]
          exact ⟨_, .int _, .int _⟩
      · obtain ⟨mp, ms, rfl, k6, De6, hmp, mne, ml, gm⟩ := R
        have hsp6 : H6 sp = some (.lst xs0) := (hid_some.mp (k6 sp _ (hid_some.mpr ⟨spne.1, spne.2, hsp5⟩))).2.2
        refine ⟨_, rfl, _, rfl, _, rfl, mp, 2, ms, rfl, rfl, hmp, by decide, by decide, by have := sizeLine_eq; show ms.length * 2 ≤ sizeLine; omega, fun rp nrp => ?_⟩
        have fl2 : (List.replicate (2 : Int).toNat ms).flatten = ms ++ ms := by
          show (List.replicate 2 ms).flatten = ms ++ ms
          simp [List.replicate_succ]
        rw [fl2]
        refine ⟨sp, rp, xs0, ms ++ ms, rfl, rfl, same_new nrp _ _ hsp6, upd_same, by have := sizeLine_eq; rw [List.length_append]; omega, fun fp nfp => ?_⟩
        have De7 := (De6.mono (same_new (o := .lst (ms ++ ms)) nrp))
        have k7 := (Sm.new (d := d) (l := l) (o := .lst (ms ++ ms)) nrp).tr (Sm.new (o := .lst (xs0 ++ (ms ++ ms))) nfp)
        refine ⟨d, l, fp, xs0 ++ (ms ++ ms), rfl, (De7.mono (same_new nfp)).E, SqL.of (hid_new De7.E nfp), by rw [List.length_append]; omega, by rw [List.length_append, List.length_append]; omega, fun i v' H8 k8 De8 ev => ?_⟩
        have mem := List.mem_of_getElem? ev
        refine q v' H8 (((sm4.tr k5).tr k6).tr (k7.tr k8)) ((De7.mono (same_new nfp)).next k8 De8) ?_
        rcases List.mem_append.mp mem with h | h
        · exact (gx v' h).mono ((k5.tr k6).tr (k7.tr k8))
        · have : v' ∈ ms := by
            rcases List.mem_append.mp h with h | h <;> exact h
          exact (gm v' this).mono (k7.tr k8)
    · obtain ⟨k5, De5, es, rfl, ne⟩ := I
      obtain ⟨el, n', rfl, eo⟩ : es.length ≤ c ∧ ∃ n', n = n' + 1 ∧ ∀ x ∈ es, Ob c n' x := by
        cases ob with
        | tup h l => exact ⟨l, _, rfl, h⟩
      have hv5 := dp_mono (Sm.x y (Sm.tr sm4 k5)) hv
      obtain ⟨tv, xs, rfl, hs, ha⟩ := dp_split hv5
      have xl := dpAll_len ha
      have el1 : 1 ≤ es.length := List.length_pos_iff.mpr ne
      refine ⟨_, rfl, _, rfl, tv, xs, rfl, .inr (sqT_mono (hid3_real d l y H5) hs), d, l, xs.length, rfl, De5.E, by omega, by omega, fun at_ H6 k6 De6' ai => ?_⟩
      have De6 := De5.next k6 De6'
      refine ⟨_, rfl, _, rfl, _, rfl, sl_hid De6 (dp_mono (k6.x y) hv5) fun v1 H7 s7 r1 => ?_⟩
      have De7 := De6.mono s7
      have k7 := Sm.of (d := d) (l := l) s7
      have ex : xs[at_]? = some xs[at_] := List.getElem?_eq_getElem ai
      obtain ⟨e, e1, e2⟩ := dpAll_get ha ex
      refine ⟨_, rfl, _, rfl, _, rfl, tv, xs, at_, xs[at_], rfl, rfl, sqT_mono (same_tr ((k6.tr k7).x y) (hid3_real d l y H7)) hs, atI_nat ex, d, l, y, xs[at_], e, rfl, De7, dp_mono ((k6.tr k7).x y) e2, eo e (List.mem_of_getElem? e1), fun v2 H8 k8 De8 g8 => ?_⟩
      obtain ⟨e3, d3, o3⟩ := g8
      refine ⟨by show 1 ≤ sizeLine; decide, fun p1 np1 => ?_⟩
      have r2 : Dp K (hid3 d l y _) (.ref p1) (.tuple [e3]) := dp_new De8 np1 (.cons d3 .nil)
      have De9 := De8.mono (same_new (o := .tup [v2]) np1)
      have k9 := Sm.new (d := d) (l := l) (o := .tup [v2]) np1
      generalize upd H8 p1 (.tup [v2]) = H9 at r2 De9 k9
      have c1 := cutD_len es none (some (at_ : Int))
      refine cat_hid De9 (dp_mono ((k8.tr k9).x y) r1) r2 (by show (cutD es none (some (at_ : Int))).length + 1 ≤ 100000; omega) fun v3 H10 s10 r3 => ?_
      have De10 := De9.mono s10
      have k10 := Sm.of (d := d) (l := l) s10
      have kk := ((k6.tr k7).tr (k8.tr k9)).tr k10
      refine ⟨_, rfl, _, rfl, _, _, rfl, rfl, _, rfl, ?_⟩
      refine noPart_via ?_
      refine sl_hid De10 (dp_mono (kk.x y) hv5) fun v4 H11 s11 r4 => ?_
      have De11 := De10.mono s11
      have k11 := Sm.of (d := d) (l := l) s11
      have c2 := cutD_len es (some ((at_ : Int) + 1)) none
      have tot : (cutD es none (some (at_ : Int)) ++ [e3]).length + (cutD es (some ((at_ : Int) + 1)) none).length ≤ es.length + 1 := by
        unfold cutD HT.sIx
        rw [List.length_append, List.length_singleton, List.length_take, List.length_take, List.length_drop, List.length_drop]
        have h1 : ¬ (at_ : Int) < 0 := by omega
        have h2 : ¬ (at_ : Int) + 1 < 0 := by omega
        simp only [h1, h2, if_false]
        omega
      refine cat_hid De11 (dp_mono (k11.x y) r3) r4 (by omega) fun v5 H12 s12 r5 => ?_
      have k12 := Sm.of (d := d) (l := l) s12
      refine q v5 H12 (((sm4.tr k5).tr kk).tr (k11.tr k12)) (De11.mono s12) ⟨_, r5, .tup (fun x hx => ?_) ?_⟩
      · have lift : ∀ y ∈ es, Ob (c + 1) (n' + 1) y := fun y hy => ((eo y hy).up).more (by omega)
        rcases List.mem_append.mp hx with h | h
        · rcases List.mem_append.mp h with h | h
          · exact lift x (cutD_sub _ _ _ x h)
          · rw [List.mem_singleton.mp h]
            exact o3
        · exact lift x (cutD_sub _ _ _ x h)
      · rw [List.length_append]
        omega
end
end Fw
end
section
set_option Elab.async false
set_option linter.all false
set_option maxRecDepth 100000
set_option maxHeartbeats 4000000
namespace Fw
open PySem PySem.Spec PyProof.Rows L2 Fr Fm
/-! ### keywords alone -/
theorem vals_getD : ∀ {zs : List V} {ws : List Value} (i : Nat), Vals zs ws → L2.RelV (zs.getD i .non) (ws.getD i .none)
  | _, _, _, .nil => rfl
  | _, _, 0, .cons h _ => h
  | _, _, i + 1, .cons _ r => vals_getD i r
section
variable {K : PySem.W.Frag} {f : Addr} {fd : FuncData}
theorem kb_ask_paper (F : Fun K "ask_paper" "ask_paper" s_ask_paper f fd) : KBn K fd ["asks", "m"] 0 ["m", "asks"] (fun _ ws => [ws.getD 1 .none, ws.getD 0 .none]) (fun _ zs => [zs.getD 1 .non, zs.getD 0 .non]) := by
  obtain ⟨oc, od, kV, doc, pm, an, cdv, ct, osl, rfl, lk, hcd⟩ := F.ex
  refine ⟨fun s us ws _ h1 h2 => ?_, fun _ r => .cons (vals_getD 1 r) (.cons (vals_getD 0 r) .nil)⟩
  match us, ws, h1, h2 with
  | [], [_, _], _, _ => exact .of_eq rfl
theorem kb_is_ask_paper (F : Fun K "is_ask_paper" "is_ask_paper" s_is_ask_paper f fd) : KBn K fd ["asks", "m", "value"] 0 ["value", "m", "asks"] (fun _ ws => [ws.getD 2 .none, ws.getD 1 .none, ws.getD 0 .none]) (fun _ zs => [zs.getD 2 .non, zs.getD 1 .non, zs.getD 0 .non]) := by
  obtain ⟨oc, od, kV, doc, pm, an, cdv, ct, osl, rfl, lk, hcd⟩ := F.ex
  refine ⟨fun s us ws _ h1 h2 => ?_, fun _ r => .cons (vals_getD 2 r) (.cons (vals_getD 1 r) (.cons (vals_getD 0 r) .nil))⟩
  match us, ws, h1, h2 with
  | [], [_, _, _], _, _ => exact .of_eq rfl
theorem kb_ask_bound (F : Fun K "ask_bound" "ask_bound" s_ask_bound f fd) : KBn K fd ["asks", "m", "times"] 0 ["times", "m", "asks"] (fun _ ws => [ws.getD 2 .none, ws.getD 1 .none, ws.getD 0 .none]) (fun _ zs => [zs.getD 2 .non, zs.getD 1 .non, zs.getD 0 .non]) := by
  obtain ⟨oc, od, kV, doc, pm, an, cdv, ct, osl, rfl, lk, hcd⟩ := F.ex
  refine ⟨fun s us ws _ h1 h2 => ?_, fun _ r => .cons (vals_getD 2 r) (.cons (vals_getD 1 r) (.cons (vals_getD 0 r) .nil))⟩
  match us, ws, h1, h2 with
  | [], [_, _, _], _, _ => exact .of_eq rfl
end
/-! ### what is told can be shown -/
theorem show_all : ∀ {xs : List PyData}, (∀ x ∈ xs, x.showable = true) → PyData.showableAll xs = true
  | [], _ => rfl
  | x :: xs, h => by
    have h1 := h x List.mem_cons_self
    have h2 := show_all fun y hy => h y (List.mem_cons_of_mem _ hy)
    simp [PyData.showableAll, h1, h2]
theorem weight_all {b : Nat} : ∀ {xs : List PyData}, (∀ x ∈ xs, PyData.weight x ≤ b) → PyData.weightAll xs ≤ xs.length * (b + 1)
  | [], _ => by simp [PyData.weightAll]
  | x :: xs, h => by
    have h1 := h x List.mem_cons_self
    have h2 := weight_all fun y hy => h y (List.mem_cons_of_mem _ hy)
    simp only [PyData.weightAll, List.length_cons]
    rw [Nat.add_mul]
    omega
theorem int_show {i : Nat} (h : i ≤ 1000) : (PyData.int (i : Int)).showable = true ∧ (PyData.int (i : Int)).intsShort 13 = true ∧ PyData.weight (.int (i : Int)) ≤ 11 := by
  refine ⟨?_, ?_, ?_⟩
  · show decide (((i : Int)).natAbs.log2 < 1920) = true
    rw [decide_eq_true_eq]
    have : ((i : Int)).natAbs = i := by omega
    rw [this]
    have := Nat.log2_le_self i
    omega
  · simp only [PyData.intsShort, decide_eq_true_eq]
    exact PyData.shown_int_le2 (by omega) (by omega)
  · simp only [PyData.weight]
    split
    · omega
    · rename_i c
      have e : ((i : Int)).natAbs = i := by omega
      rw [e]
      have n0 : i ≠ 0 := fun z => c (by rw [z]; rfl)
      have := (Nat.log2_lt n0 (k := 10)).mpr (by omega)
      omega
theorem pair_show {q : Pr} (h : q.1 ≤ 1000 ∧ q.2 ≤ 1000) : (pairD q).showable = true ∧ (pairD q).intsShort 13 = true ∧ PyData.weight (pairD q) ≤ 24 := by
  obtain ⟨a1, a2, a3⟩ := int_show h.1
  obtain ⟨b1, b2, b3⟩ := int_show h.2
  refine ⟨?_, ?_, ?_⟩
  · show (PyData.showable (.int (q.1 : Int)) && (PyData.showable (.int (q.2 : Int)) && true)) = true
    rw [a1, b1]
    rfl
  · show (PyData.intsShort 13 (.int (q.1 : Int)) && (PyData.intsShort 13 (.int (q.2 : Int)) && true)) = true
    rw [a2, b2]
    rfl
  · show PyData.weight (.int (q.1 : Int)) + 1 + (PyData.weight (.int (q.2 : Int)) + 1 + 0) ≤ 24
    omega
theorem paper_show {L : List Pr} {Ts : List Nat} (hL : ∀ q ∈ L, q.1 ≤ 1000 ∧ q.2 ≤ 1000) (hT : ∀ u ∈ Ts, u ≤ 1000) (l1 : L.length ≤ 1000) (l2 : Ts.length ≤ 1000) : (paperD L Ts).showable = true ∧ PyData.layable0 (paperD L Ts) = true ∧ (paperD L Ts).intsShort 13 = true := by
  have pL : ∀ x ∈ L.map pairD, x.showable = true ∧ x.intsShort 13 = true ∧ PyData.weight x ≤ 24 := fun x hx => by
    obtain ⟨q, hq, rfl⟩ := List.mem_map.mp hx
    exact pair_show (hL q hq)
  have pT : ∀ x ∈ Ts.map (fun t : Nat => PyData.int (t : Int)), x.showable = true ∧ x.intsShort 13 = true ∧ PyData.weight x ≤ 11 := fun x hx => by
    obtain ⟨q, hq, rfl⟩ := List.mem_map.mp hx
    exact int_show (hT q hq)
  have s1 := show_all fun x hx => (pL x hx).1
  have s2 := show_all fun x hx => (pT x hx).1
  have i1 := intsShortAll_of fun x hx => (pL x hx).2.1
  have i2 := intsShortAll_of fun x hx => (pT x hx).2.1
  have w1 := weight_all fun x hx => (pL x hx).2.2
  have w2 := weight_all fun x hx => (pT x hx).2.2
  rw [List.length_map] at w1 w2
  have od : Od 3 (paperD L Ts) := .tup (fun d hd => by
    rcases List.mem_cons.mp hd with rfl | hd
    · exact Od.pairs l1 0
    · rw [List.mem_singleton.mp hd]
      exact .tup (fun d hd => by
        obtain ⟨u, _, rfl⟩ := List.mem_map.mp hd
        exact .int _) (by rw [List.length_map]; exact l2)) (by show 2 ≤ 1000; omega)
  obtain ⟨c1, c2⟩ := od.can
  refine ⟨?_, ?_, ?_⟩
  · simp only [PyData.showable, PyData.showableAll, s1, s2, Bool.and_self]
  · show (PyData.canLay0 (paperD L Ts) && decide (PyData.depth (paperD L Ts) ≤ 64) && decide (PyData.weight (paperD L Ts) ≤ 2 ^ 20)) = true
    rw [c1, decide_eq_true (by omega), Bool.true_and, Bool.true_and, decide_eq_true_eq]
    simp only [PyData.weight, PyData.weightAll]
    omega
  · simp only [PyData.intsShort, PyData.intsShortAll, i1, i2, Bool.and_self]
/-! ### what the law asks of it -/
theorem Told.due {A : List Int} {m : Nat} {L : List Pr} {Ts : List Nat} (hm : 1 ≤ m) (h : Told A m L Ts) : DueP A m (paperD L Ts) := by
  obtain ⟨T, F, least, ahead, g, r, run, perm, pw, R, hg, ch, rfl⟩ := h
  obtain ⟨b1, b2, _⟩ := best_least hm R hg ch
  have k := run.gr.kept.perm perm
  refine ⟨L, r.reverse, rfl, ?_, k, fun u hu => b2 u (List.mem_reverse.mp hu), ?_, ?_⟩
  · have nd := k.nd
    refine (pw.and nd).imp fun {a b} z => ?_
    obtain ⟨h1, h2⟩ := z
    rcases h1 with h1 | ⟨h1, h3⟩
    · exact .inl h1
    · refine .inr ⟨h1, ?_⟩
      have : a.2 ≠ b.2 := fun e => h2 (by
        obtain ⟨a1, a2⟩ := a
        obtain ⟨c1, c2⟩ := b
        simp only at h1 e
        rw [h1, e])
      omega
  · rw [List.pairwise_reverse]
    exact b1.imp fun {a b} z => z
  · rw [bnd_reverse, meet hm R hg ch run, perm.length_eq]
/-- all that the spared rides tell: the greatest number is the length that is told -/
theorem Told.most {A : List Int} {m h : Nat} {L : List Pr} {Ts : List Nat} (hm : 1 ≤ m) (t : Told A m L Ts) (hs : ∃ S, Up A m A.length S h) (hl : ∀ T F, Run A m A.length T F → F.length ≤ h) : L.length = h := by
  obtain ⟨L', Ts', e, _, _, h3, _, h5⟩ := t.due hm
  injection e with e
  injection e with e1 e2
  injection e2 with e2
  obtain rfl := pairsD_inj e1
  obtain rfl := timesD_inj e2
  obtain ⟨T, F, least, ahead, g, r, run, perm, pw, R, hg, ch, rfl⟩ := t
  obtain ⟨S, up⟩ := hs
  have h1 := up.bound h3
  have h2 := hl T F run
  have := perm.length_eq
  omega
theorem due_len {A : List Int} {m : Nat} {L L' : List Pr} {Ts Ts' : List Nat} (hm : 1 ≤ m) (t : DueP A m (paperD L Ts)) (t' : DueP A m (paperD L' Ts')) : L'.length = L.length := by
  obtain ⟨M, Us, e, _, k, _, _, l⟩ := t
  obtain ⟨M', Us', e', _, k', _, _, l'⟩ := t'
  injection e with e
  injection e with e1 _
  obtain rfl := pairsD_inj e1
  injection e' with e'
  injection e' with e1' _
  obtain rfl := pairsD_inj e1'
  have h1 := k.le hm Us'
  have h2 := k'.le hm Us
  omega
theorem Told.bounds {A : List Int} {m : Nat} {L : List Pr} {Ts : List Nat} (hm : 1 ≤ m) (t : Told A m L Ts) : L.length ≤ A.length ∧ Ts.length ≤ A.length ∧ (∀ q ∈ L, q.1 ≤ A.length ∧ q.2 ≤ A.length) ∧ ∀ u ∈ Ts, u ≤ A.length := by
  obtain ⟨L', Ts', e, _, k, h3, h4, h5⟩ := t.due hm
  injection e with e
  injection e with e1 e2
  injection e2 with e2
  obtain rfl := pairsD_inj e1
  obtain rfl := timesD_inj e2
  obtain ⟨T, F, least, ahead, g, r, run, perm, pw, R, hg, ch, rfl⟩ := t
  refine ⟨?_, ?_, fun q hq => ?_, fun u hu => Nat.le_of_lt (h3 u hu)⟩
  · rw [perm.length_eq]
    exact run.len.2
  · have nd : r.reverse.Nodup := h4.imp fun {a b} z => Nat.ne_of_lt z
    have := nd.length_le_of_subset (l₂ := List.range A.length) fun u hu => List.mem_range.mpr (h3 u hu)
    rwa [List.length_range] at this
  · have st := mem_strs.mp (k.sub q hq)
    have h1 := st.1
    have h2 := st.2.1
    omega
theorem paper_ob {L : List Pr} {Ts : List Nat} {c : Nat} (hc : 2 ≤ c) (l1 : L.length ≤ c) (l2 : Ts.length ≤ c) : Ob c 3 (paperD L Ts) ∧ Ob c 2 (pairsD L) ∧ Ob c 2 (timesD Ts) := by
  have h1 : Ob c 2 (pairsD L) := .tup (fun d hd => by
    obtain ⟨q, _, rfl⟩ := List.mem_map.mp hd
    exact .tup (fun d hd => by
      rcases List.mem_cons.mp hd with rfl | hd
      · exact .int _
      · rw [List.mem_singleton.mp hd]
        exact .int _) hc) (by rw [List.length_map]; exact l1)
  have h2 : Ob c 2 (timesD Ts) := .tup (fun d hd => by
    obtain ⟨u, _, rfl⟩ := List.mem_map.mp hd
    exact .int _) (by rw [List.length_map]; exact l2)
  refine ⟨.tup (fun d hd => ?_) hc, h1, h2⟩
  rcases List.mem_cons.mp hd with rfl | hd
  · exact h1
  · rw [List.mem_singleton.mp hd]
    exact h2
end Fw
end
section
set_option Elab.async false
set_option linter.all false
set_option maxRecDepth 100000
set_option maxHeartbeats 4000000
namespace Fw
open PySem PySem.Spec PyProof.Rows L2 Fr Fm
/-! ### data without lists stands apart from the deal -/
inductive NoL : PyData → Prop
  | non : NoL .none
  | bl (b : Bool) : NoL (.bool b)
  | int (i : Int) : NoL (.int i)
  | str (x : Str) : NoL (.str x)
  | tup {ds : List PyData} : (∀ d ∈ ds, NoL d) → NoL (.tuple ds)
theorem sqT_hid {K : PySem.W.Frag} {H : Hp} {d l a : Addr} {xs : List V} (D : DealE H d l) (h : SqT K H a xs) : SqT K (hid d l H) a xs := by
  obtain ⟨cs, b, D⟩ := D
  rcases h with (z | ⟨o, z⟩) | z
  · refine .inl (.inl (hid_some.mpr ⟨fun e => ?_, fun e => ?_, z⟩))
    · rw [e, D.d] at z
      cases z
    · rw [e, D.l] at z
      cases z
  · refine .inl (.inr ⟨o, hid_some.mpr ⟨fun e => ?_, fun e => ?_, z⟩⟩)
    · rw [e, D.d] at z
      cases z
    · rw [e, D.l] at z
      cases z
  · exact .inr z
theorem NoL.noList {ds : List PyData} (h : NoL (.list ds)) : False := by
  cases h
theorem NoL.items {ds : List PyData} (h : NoL (.tuple ds)) : ∀ d ∈ ds, NoL d := by
  cases h with
  | tup h => exact h
mutual
theorem dp_hid {K : PySem.W.Frag} {H : Hp} {a l : Addr} (D : DealE H a l) : ∀ {v : V} {d : PyData}, NoL d → Dp K H v d → Dp K (hid a l H) v d
  | _, _, _, .non => .non
  | _, _, _, .bl b => .bl b
  | _, _, _, .int i => .int i
  | _, _, _, .str x => .str x
  | _, _, e, .lst _ _ => e.noList.elim
  | _, _, e, .tup h r => .tup (sqT_hid D h) (dpAll_hid D e.items r)
theorem dpAll_hid {K : PySem.W.Frag} {H : Hp} {a l : Addr} (D : DealE H a l) : ∀ {vs : List V} {ds : List PyData}, (∀ d ∈ ds, NoL d) → DpAll K H vs ds → DpAll K (hid a l H) vs ds
  | _, _, _, .nil => .nil
  | _, _, e, .cons h r => .cons (dp_hid D (e _ List.mem_cons_self) h) (dpAll_hid D (fun x hx => e x (List.mem_cons_of_mem _ hx)) r)
end
theorem noL_paper (L : List Pr) (Ts : List Nat) : NoL (paperD L Ts) := .tup fun d hd => by
  rcases List.mem_cons.mp hd with rfl | hd
  · exact .tup fun d hd => by
      obtain ⟨q, _, rfl⟩ := List.mem_map.mp hd
      exact .tup fun d hd => by
        rcases List.mem_cons.mp hd with rfl | hd
        · exact .int _
        · rw [List.mem_singleton.mp hd]
          exact .int _
  · rw [List.mem_singleton.mp hd]
    exact .tup fun d hd => by
      obtain ⟨q, _, rfl⟩ := List.mem_map.mp hd
      exact .int _
theorem u70 {k : Nat} {A : Around} (h : Room k A) : A.units + 70 < cLine := by
  have := h.un
  omega
end Fw
end
section
set_option Elab.async false
set_option linter.all false
set_option maxRecDepth 100000
set_option maxHeartbeats 4000000
namespace Fw
open PySem PySem.Spec PyProof.Rows L2 Fr Fm
theorem hid_d3 {d l : Addr} {H : Hp} : Same (hid d l H) (hid3 d l d H) := fun b o e => hid3_some.mpr ⟨(hid_some.mp e).1, e⟩
theorem DealE.dX {H : Hp} {d l : Addr} (D : DealE H d l) : DealX H d l d := ⟨D, by
  obtain ⟨cs, b, D⟩ := D
  exact ⟨_, D.d⟩⟩
theorem dp_newH {K : PySem.W.Frag} {H : Hp} {d l p : Addr} {xs : List V} {ds : List PyData} (D : DealE H d l) (n : H p = none) (h : DpAll K (hid d l H) xs ds) : Dp K (hid d l (upd H p (.tup xs))) (.ref p) (.tuple ds) :=
  .tup (SqT.of (hid_new D n)) (dpAll_mono (Sm.new n) h)
/-- the heap without the deal, as seen past a list that holds what is made -/
theorem sqT_hid3 {K : PySem.W.Frag} {H : Hp} {d l x a : Addr} {xs ys : List V} (e : H x = some (.lst ys)) (h : SqT K (hid d l H) a xs) : SqT K (hid3 d l x H) a xs := by
  rcases h with (z | ⟨o, z⟩) | z
  · refine .inl (.inl (hid3_some.mpr ⟨fun ee => ?_, z⟩))
    have := (hid_some.mp z).2.2
    rw [ee, e] at this
    cases this
  · refine .inl (.inr ⟨o, hid3_some.mpr ⟨fun ee => ?_, z⟩⟩)
    have := (hid_some.mp z).2.2
    rw [ee, e] at this
    cases this
  · exact .inr z
mutual
theorem dp_hid3 {K : PySem.W.Frag} {H : Hp} {a l x : Addr} {ys : List V} (D : H x = some (.lst ys)) : ∀ {v : V} {d : PyData}, NoL d → Dp K (hid a l H) v d → Dp K (hid3 a l x H) v d
  | _, _, _, .non => .non
  | _, _, _, .bl b => .bl b
  | _, _, _, .int i => .int i
  | _, _, _, .str x => .str x
  | _, _, e, .lst _ _ => e.noList.elim
  | _, _, e, .tup h r => .tup (sqT_hid3 D h) (dpAll_hid3 D e.items r)
theorem dpAll_hid3 {K : PySem.W.Frag} {H : Hp} {a l x : Addr} {ys : List V} (D : H x = some (.lst ys)) : ∀ {vs : List V} {ds : List PyData}, (∀ d ∈ ds, NoL d) → DpAll K (hid a l H) vs ds → DpAll K (hid3 a l x H) vs ds
  | _, _, _, .nil => .nil
  | _, _, e, .cons h r => .cons (dp_hid3 D (e _ List.mem_cons_self) h) (dpAll_hid3 D (fun x hx => e x (List.mem_cons_of_mem _ hx)) r)
end
/-- a value that the law tries -/
def Try (K : PySem.W.Frag) (d l : Addr) (v : V) (H : Hp) : Prop := ∃ dd, Dp K (hid d l H) v dd ∧ Od 9 dd
theorem Try.mono {K : PySem.W.Frag} {d l : Addr} {v : V} {H H' : Hp} (g : Try K d l v H) (k : Sm d l H H') : Try K d l v H' := by
  obtain ⟨dd, h1, h2⟩ := g
  exact ⟨dd, dp_mono k h1, h2⟩
section
variable {P : Program} {w : World} {K : PySem.W.Frag} {mg : Str → Option Value} {base : Heap}
def sp_law (K : PySem.W.Frag) : Sp := fun vs H Q _ => ∃ (a : Addr) (ns : List Int), vs = [.ref a] ∧ SqL K H a (ns.map V.int) ∧ ∀ H', Q (.bl true) H'
abbrev NLaw : List Str := ["_law_script", "_law_deal", "_law_turn", "_law_asks_here", "_law_m", "_law_told", "_law_most", "_law_some", "_law_value", "_law_due_here", "_law_times_here", "_law_again"]
theorem ok_law {f f1 f2 f3 f4 f5 f6 f7 f8 f9 f10 f11 : Addr} {fd fd1 fd2 fd3 fd4 fd5 fd6 fd7 fd8 fd9 fd10 fd11 : FuncData} {k : Nat} (F : Fun K "law" "law" s_law f fd) (T : Nm mg)
    (G1 : FnOk P w K mg base CX0 k f1 fd1 ["_law_script", "_law_salt"] (sp_law_draw K)) (D1 : Dn K mg "_law_draw" f1 fd1 ["_law_script", "_law_salt"])
    (G2 : FnOk P w K mg base CX0 k f2 fd2 ["_law_deal", "_law_bound_here"] (sp_law_any K)) (D2 : Dn K mg "_law_any" f2 fd2 ["_law_deal", "_law_bound_here"])
    (G3 : FnOk P w K mg base CX0 k f3 fd3 ["_law_deal", "_law_most", "_law_pages"] (sp_law_asks K)) (D3 : Dn K mg "_law_asks" f3 fd3 ["_law_deal", "_law_most", "_law_pages"])
    (G4 : FnOk P w K mg base CX0 k f4 fd4 ["asks", "m"] (sp_ask_paper K)) (D4 : Dn K mg "ask_paper" f4 fd4 ["asks", "m"]) (F4 : Fun K "ask_paper" "ask_paper" s_ask_paper f4 fd4)
    (G5 : FnOk P w K mg base CX0 k f5 fd5 ["_law_asks_here", "_law_costs", "_law_m"] (sp_law_spared K)) (D5 : Dn K mg "_law_spared" f5 fd5 ["_law_asks_here", "_law_costs", "_law_m"])
    (G6 : FnOk P w K mg base CX0 k f6 fd6 ["_law_asks_here", "_law_m", "_law_value"] (sp_law_due K)) (D6 : Dn K mg "_law_due" f6 fd6 ["_law_asks_here", "_law_m", "_law_value"])
    (G7 : FnOk P w K mg base CX0 k f7 fd7 ["_law_deal", "_law_asks_here"] (sp_law_times K)) (D7 : Dn K mg "_law_times" f7 fd7 ["_law_deal", "_law_asks_here"])
    (G8 : FnOk P w K mg base CX0 k f8 fd8 ["_law_deal", "_law_value"] (sp_odd 200 K 4)) (D8 : Dn K mg "_law_odd_thing" f8 fd8 ["_law_deal", "_law_value"])
    (G9 : FnOk P w K mg base CX0 k f9 fd9 ["asks", "m", "value"] (sp_is_ask_paper K)) (D9 : Dn K mg "is_ask_paper" f9 fd9 ["asks", "m", "value"]) (F9 : Fun K "is_ask_paper" "is_ask_paper" s_is_ask_paper f9 fd9)
    (G10 : FnOk P w K mg base CX0 k f10 fd10 ["_law_asks_here", "_law_m", "_law_times_here"] (sp_law_bound K)) (D10 : Dn K mg "_law_bound" f10 fd10 ["_law_asks_here", "_law_m", "_law_times_here"])
    (G11 : FnOk P w K mg base CX0 k f11 fd11 ["asks", "m", "times"] (sp_ask_bound K)) (D11 : Dn K mg "ask_bound" f11 fd11 ["asks", "m", "times"]) (F11 : Fun K "ask_bound" "ask_bound" s_ask_bound f11 fd11) :
    FnG P w K mg base (k + 1) f fd ["_law_script"] (sp_law K) := by
  refine fn_G F sc_law (fun vs H Q E h => ?_) (fun cdv A' outer s H vs Q E gd hr h => ?_)
  · obtain ⟨a, ns, rfl, _⟩ := h
    rfl
  · obtain ⟨a, ns, rfl, hS, q⟩ := h
    have nd := sc_law.nd
    have kb4 := kb_ask_paper F4
    have kb9 := kb_is_ask_paper F9
    have kb11 := kb_ask_bound F11
    have hu70 := u70 hr
    refine ⟨_, pss_cons (ps_asg (pe_call G1 hr (by rfl) D1.g D1.kp D1.b .nil pass0 (pa_cons (pv 0) (pa_cons pe_int pa_nil))) (pg_name (i := 1) nd rfl (.inr rfl)))
      (pss_cons (ps_for PassesOwn.never rfl (pi_range1 (by rfl) T.range (pa_cons pe_int pa_nil)) (pg_name (i := 2) nd rfl (.inl rfl))
        (pss_cons (ps_par (i := 3) (j := 4) rfl nd rfl rfl (by decide) rfl rfl (pa_cons (pe_call G3 hr (by rfl) D3.g D3.kp D3.b .nil pass0 (pa_cons (pv 1) (pa_cons pe_int (pa_cons (pe_op op_add pe_int (pe_call G2 hr (by rfl) D2.g D2.kp D2.b .nil pass0 (pa_cons (pv 1) (pa_cons pe_int pa_nil)))) pa_nil))))
            (pa_cons (pe_op op_add pe_int (pe_call G2 hr (by rfl) D2.g D2.kp D2.b .nil pass0 (pa_cons (pv 1) (pa_cons pe_int pa_nil)))) pa_nil)) (by rfl))
        (pss_cons (ps_asg (pe_tup (pa_cons (pe_callK0 G4 hr (by rfl) D4.g D4.kp kb4 pass0 (pk_cons (pv 4) (pk_cons (pv 3) pk_nil)))
            (pa_cons (pe_call G5 hr (by rfl) D5.g D5.kp D5.b .nil pass0 (pa_cons (pv 3) (pa_cons (pe_op op_rep (pe_lst (pa_cons pe_int pa_nil)) pe_int) (pa_cons (pv 4) pa_nil)))) pa_nil))) (pg_tup rfl (pgs_cons (pg_name (i := 5) nd rfl (.inr rfl)) (pgs_cons (pg_name (i := 6) nd rfl (.inl rfl)) pgs_nil))))
        (pss_cons (ps_if (PW.pt (pw_or (pt_not (pt_val (pe_call G6 hr (by rfl) D6.g D6.kp D6.b .nil pass0 (pa_cons (pv 3) (pa_cons (pv 4) (pa_cons (pv 5) pa_nil))))))
            (pw_or (pt_cmpR op_ne (pe_callB call_len_seq (by rfl) T.len PySem.boot_len (pa_cons (pe_ix ix_tup (pv 5) pe_int (fun _ _ => rfl)) pa_nil)) (pv 6) (nomark _))
            (pw_or1 (pt_cmpR op_ne (pe_callB (call_reprD gd hu70) (by rfl) T.repr (by decide +kernel) (pa_cons (pe_call G4 hr (by rfl) D4.g D4.kp D4.b .nil pass0 (pa_cons (pv 3) (pa_cons (pv 4) pa_nil))) pa_nil)) (pe_callB (call_reprD gd hu70) (by rfl) T.repr (by decide +kernel) (pa_cons (pv 5) pa_nil)) (nomark _))))))
          (pss_one (ps_ret pe_bl)) pss_nil)
        (pss_cons (ps_asg (pe_lst (pa_cons (pv 5) (pa_cons (pe_tup (pa_cons (pe_ix ix_tup (pv 5) pe_int (fun _ _ => rfl)) (pa_cons (pe_tup pa_nil) pa_nil))) (pa_cons (pe_tup (pa_cons (pe_tup pa_nil) (pa_cons (pe_ix ix_tup (pv 5) pe_int (fun _ _ => rfl)) pa_nil)))
            (pa_cons (pe_tup (pa_cons (pe_ix ix_tup (pv 5) pe_int (fun _ _ => rfl)) (pa_cons (pe_call G7 hr (by rfl) D7.g D7.kp D7.b .nil pass0 (pa_cons (pv 1) (pa_cons (pv 3) pa_nil))) pa_nil)))
            (pa_cons (pe_tup (pa_cons (pe_slice sl_tupA (pe_ix ix_tup (pv 5) pe_int (fun _ _ => rfl)) (po_some pe_int) po_none) (pa_cons (pe_ix ix_tup (pv 5) pe_int (fun _ _ => rfl)) pa_nil))) pa_nil)))))) (pg_name (i := 7) nd rfl (.inl rfl)))
        (pss_cons (ps_for PassesOwn.never rfl (pi_list (pe_op op_cat (pv 7) (pe_lc (own := [("_law_again", 11)]) (g := gName 11) (tt := tYes) rfl nd (pi_range1 (by rfl) T.range (pa_cons pe_int pa_nil)) (blkOk_by (N := NLaw) (sc := defScope s_law) (by decide +kernel)) (fun _ _ _ _ _ => pg_name (i := 11) nd rfl (.inl rfl)) (fun _ _ _ _ _ => pts_nil)
            (fun _ _ _ _ _ => pe_call G8 hr (by rfl) D8.g D8.kp D8.b .nil pass0 (pa_cons (pv 1) (pa_cons (pv 5) pa_nil)))))) (pg_name (i := 8) nd rfl (.inl rfl))
          (pss_cons (ps_asg (pe_call G6 hr (by rfl) D6.g D6.kp D6.b .nil pass0 (pa_cons (pv 3) (pa_cons (pv 4) (pa_cons (pv 8) pa_nil)))) (pg_name (i := 9) nd rfl (.inl rfl)))
          (pss_cons (ps_if (PW.pt (pw_or (pt_cmpR op_ne (pe_callB call_reprB (by rfl) T.repr (by decide +kernel) (pa_cons (pe_call G9 hr (by rfl) D9.g D9.kp D9.b .nil pass0 (pa_cons (pv 3) (pa_cons (pv 4) (pa_cons (pv 8) pa_nil)))) pa_nil)) (pe_callB call_reprB (by rfl) T.repr (by decide +kernel) (pa_cons (pv 9) pa_nil)) (nomark _))
              (pw_or1 (pt_cmpR op_ne (pe_callB call_reprB (by rfl) T.repr (by decide +kernel) (pa_cons (pe_callK0 G9 hr (by rfl) D9.g D9.kp kb9 pass0 (pk_cons (pv 8) (pk_cons (pv 4) (pk_cons (pv 3) pk_nil)))) pa_nil)) (pe_callB call_reprB (by rfl) T.repr (by decide +kernel) (pa_cons (pv 9) pa_nil)) (nomark _)))))
            (pss_one (ps_ret pe_bl)) pss_nil)
          (pss_one (ps_if (PW.pt (pw_and (pt_val (pv 9)) (pw_and1 (pt_cmpR op_ne (pe_callB call_len_seq (by rfl) T.len PySem.boot_len (pa_cons (pe_ix ix_tup (pv 8) pe_int (fun _ _ => rfl)) pa_nil)) (pv 6) (nomark _)))))
            (pss_one (ps_ret pe_bl)) pss_nil)))))
        (pss_cons (ps_asg (pe_call G7 hr (by rfl) D7.g D7.kp D7.b .nil pass0 (pa_cons (pv 1) (pa_cons (pv 3) pa_nil))) (pg_name (i := 10) nd rfl (.inl rfl)))
        (pss_cons (ps_asg (pe_call G10 hr (by rfl) D10.g D10.kp D10.b .nil pass0 (pa_cons (pv 3) (pa_cons (pv 4) (pa_cons (pv 10) pa_nil)))) (pg_name (i := 9) nd rfl (.inl rfl)))
        (pss_one (ps_if (PW.pt (pw_or (pt_cmpR op_ne (pe_callB SkE.call_repr_int (by rfl) T.repr (by decide +kernel) (pa_cons (pe_call G11 hr (by rfl) D11.g D11.kp D11.b .nil pass0 (pa_cons (pv 3) (pa_cons (pv 4) (pa_cons (pv 10) pa_nil)))) pa_nil)) (pe_callB SkE.call_repr_int (by rfl) T.repr (by decide +kernel) (pa_cons (pv 9) pa_nil)) (nomark _))
            (pw_or (pt_cmpR op_ne (pe_callB SkE.call_repr_int (by rfl) T.repr (by decide +kernel) (pa_cons (pe_callK0 G11 hr (by rfl) D11.g D11.kp kb11 pass0 (pk_cons (pv 10) (pk_cons (pv 4) (pk_cons (pv 3) pk_nil)))) pa_nil)) (pe_callB SkE.call_repr_int (by rfl) T.repr (by decide +kernel) (pa_cons (pv 9) pa_nil)) (nomark _))
            (pw_or1 (pt_cmpR op_lt (pv 9) (pv 6) (nomark _))))))
          (pss_one (ps_ret pe_bl)) pss_nil))))))))))
      (pss_cons (ps_par (i := 3) (j := 4) rfl nd rfl rfl (by decide) rfl rfl (pa_cons (pe_call G3 hr (by rfl) D3.g D3.kp D3.b .nil pass0 (pa_cons (pv 1) (pa_cons pe_int (pa_cons pe_int pa_nil))))
            (pa_cons (pe_op op_add pe_int (pe_call G2 hr (by rfl) D2.g D2.kp D2.b .nil pass0 (pa_cons (pv 1) (pa_cons pe_int pa_nil)))) pa_nil)) (by rfl))
      (pss_one (ps_ret (pe_call G6 hr (by rfl) D6.g D6.kp D6.b .nil pass0 (pa_cons (pv 3) (pa_cons (pv 4) (pa_cons (pe_call G4 hr (by rfl) D4.g D4.kp D4.b .nil pass0 (pa_cons (pv 3) (pa_cons (pv 4) pa_nil))) pa_nil)))))))), ?_⟩
    have e4 : (4 : Int).toNat = 4 := rfl
    refine ⟨_, rfl, a, ns, rfl, hS, fun d l H1 _ _ _ De1 => ?_⟩
    refine ⟨4, rfl, by decide, by decide, for_range (lo := 0) (n := (4 : Int).toNat) (fun i σ H => (∃ y2 y3 y4 y5 y6 y7 y8 y9 y10 y11, σ = [some (.ref a), some (.ref d), y2, y3, y4, y5, y6, y7, y8, y9, y10, y11]) ∧ DealE H d l)
      ⟨⟨none, none, none, none, none, none, none, none, none, none, rfl⟩, De1⟩ (fun i σ H _ I => ?_) (fun σ H I => ?_)⟩
    · obtain ⟨⟨y2, y3, y4, y5, y6, y7, y8, y9, y10, y11, rfl⟩, De⟩ := I
      refine ⟨_, rfl, _, rfl, d, l, 6, rfl, De, by omega, by omega, fun i1 H2 sm2 De2 i1l => ⟨_, _, rfl, rfl, d, l, 16, 1 + i1, rfl, De2, by omega, by omega, by omega, fun p A H3 sm3 De3 hp al am => ?_⟩⟩
      refine ⟨_, rfl, d, l, 4, rfl, De3, by omega, by omega, fun i2 H4 sm4 De4 i2l => ⟨_, _, rfl, rfl, _, _, rfl, ?_⟩⟩
      have hp4 := sm4 _ _ hp
      have hA4 : SqT K H4 p (A.map V.int) := SqT.of (hid_some.mp hp4).2.2
      have m1 : 1 ≤ 1 + i2 := by omega
      -- told, most
      refine ⟨_, rfl, _, rfl, rfl, rfl, p, A, 1 + i2, rfl, hA4, by omega, by omega, fun tp L Ts H5 sm5 dt told => ?_⟩
      refine ⟨_, rfl, by show 1 ≤ sizeLine; decide, fun l1 nl1 => ⟨l1, 6, [.int 1], rfl, rfl, upd_same, by decide, by decide, by have := sizeLine_eq; show 1 * 6 ≤ sizeLine; omega, fun cp ncp => ?_⟩⟩
      have smC : Same H4 (upd (upd H5 l1 (.lst [.int 1])) cp (.lst (List.replicate (6 : Int).toNat [V.int 1]).flatten)) := same_tr sm5 (same_tr (same_new nl1) (same_new ncp))
      have smT : Same H5 (upd (upd H5 l1 (.lst [.int 1])) cp (.lst (List.replicate (6 : Int).toNat [V.int 1]).flatten)) := same_tr (same_new nl1) (same_new ncp)
      have hc7 : (upd (upd H5 l1 (.lst [.int 1])) cp (.lst (List.replicate (6 : Int).toNat [V.int 1]).flatten)) cp = some (.lst (List.replicate 6 (.int 1))) := upd_same
      generalize upd (upd H5 l1 (.lst [.int 1])) cp (.lst (List.replicate (6 : Int).toNat [V.int 1]).flatten) = H7 at smC smT hc7
      refine ⟨_, rfl, p, cp, A, 1 + i2, rfl, sqT_mono smC hA4, by omega, fun x hx => ?_, SqL.of hc7, by omega, by omega, fun h H8 sm8 hs hl => ?_⟩
      · have := am x hx
        omega
      refine ⟨by show 2 ≤ sizeLine; decide, fun tt ntt => ⟨tt, _, rfl, SqT.of upd_same, rfl, _, [_], rfl, _, [], rfl, rfl, ?_⟩⟩
      have smA : Same H4 (upd H8 tt (.tup [.ref tp, .int (h : Int)])) := same_tr smC (same_tr sm8 (same_new ntt))
      have smB : Same H5 (upd H8 tt (.tup [.ref tp, .int (h : Int)])) := same_tr smT (same_tr sm8 (same_new ntt))
      generalize upd H8 tt (.tup [.ref tp, .int (h : Int)]) = H9 at smA smB
      have De9 := De4.mono smA
      have hp9 := hid_mono (d := d) (l := l) smA _ _ hp4
      have dt9 : Dp K (hid d l H9) (.ref tp) (paperD L Ts) := dp_hid De9 (noL_paper L Ts) (dp_mono smB dt)
      have due := told.due m1
      have eLh := told.most m1 hs hl
      obtain ⟨bL, bT, bq, bu⟩ := told.bounds m1
      obtain ⟨ob, obL, obT⟩ := paper_ob (c := 200) (by omega) (Nat.le_trans bL (by omega)) (Nat.le_trans bT (by omega))
      have sh := paper_show (L := L) (Ts := Ts) (fun q hq => by have := bq q hq; omega) (fun u hu => by have := bu u hu; omega) (by omega) (by omega)
      have od := (ob.od (by omega)).mono (j := 9) (by omega)
      obtain ⟨tp', v1, v2, e0, hs12, dv1, dv2⟩ := dp_row dt9
      obtain rfl := V.ref.inj e0
      have hA_ : ∀ H', Sm d l H9 H' → SqT K H' p (A.map V.int) := fun H' k => SqT.of (hid_some.mp (k _ _ hp9)).2.2
      have dt_ : ∀ H', Sm d l H9 H' → Dp K H' (.ref tp) (paperD L Ts) := fun H' k => dp_mono (same_tr k (hid_same d l H')) dt9
      have hs_ : ∀ H', Sm d l H9 H' → SqT K H' tp [v1, v2] := fun H' k => sqT_mono (same_tr k (hid_same d l H')) hs12
      -- what is told is due, long enough, and told again
      refine ⟨_, rfl, _, rfl, _, rfl, p, A, 1 + i2, .ref tp, paperD L Ts, rfl, hA_ _ .refl, by omega, by omega, by omega, dt_ _ .refl, od, fun b H10 sm10 hb => ⟨_, rfl, ?_⟩⟩
      obtain rfl : b = true := hb.mpr due
      have k10 := Sm.of (d := d) (l := l) sm10
      refine iteF ?_
      obtain ⟨t1, xs1, e1, hs1, l1_⟩ := dp_len (dp_mono (same_tr k10 (hid_same d l H10)) dv1)
      refine ⟨_, rfl, tp, _, 0, v1, rfl, rfl, hs_ _ k10, rfl, t1, xs1, by rw [e1], .inr hs1, _, rfl, rfl, _, rfl, ?_⟩
      have ez : (!decide (V.int (xs1.length : Int) = V.int (h : Int))) = false := by
        rw [l1_, List.length_map, eLh]
        simp
      rw [ez]
      refine iteF ?_
      refine ⟨_, rfl, _, rfl, p, A, 1 + i2, rfl, hA_ _ k10, by omega, by omega, fun tp2 L2 Ts2 H11 sm11 dt2 told2 => ?_⟩
      obtain ⟨rfl, rfl⟩ := told.one told2
      have k11 := k10.tr (Sm.of (d := d) (l := l) sm11)
      refine ⟨tp2, paperD L Ts, rfl, dt2, sh.1, sh.2.1, sh.2.2, _, rfl, tp, paperD L Ts, rfl, dt_ _ k11, sh.1, sh.2.1, sh.2.2, rfl, _, rfl, ?_⟩
      have ez2 : (!decide (V.str (paperD L Ts).shown = V.str (paperD L Ts).shown)) = false := by simp
      rw [ez2]
      refine iteF ?_
      have De11 := (De9.mono sm10).mono sm11
      clear sm11 sm10 hb
      -- the values that are tried
      have n0 : Ob 200 2 (.tuple []) := .tup (fun d hd => nomatch hd) (by show 0 ≤ 200; omega)
      have two : ∀ {x y : PyData}, Ob 200 2 x → Ob 200 2 y → Od 9 (.tuple [x, y]) := fun hx hy => by
        have o : Ob 200 3 (.tuple [_, _]) := .tup (fun d hd => by
          rcases List.mem_cons.mp hd with rfl | hd
          · exact hx
          · rw [List.mem_singleton.mp hd]
            exact hy) (by show 2 ≤ 200; omega)
        exact (o.od (by omega)).mono (by omega)
      refine ⟨_, rfl, ?_⟩
      refine ⟨_, rfl, tp, _, 0, v1, rfl, rfl, hs_ _ k11, rfl, Nat.zero_le _, fun e1 ne1 => ?_⟩
      have r1 : Dp K (hid d l _) (.ref e1) (.tuple []) := dp_newH De11 ne1 .nil
      have De12 := De11.mono (same_new (o := .tup []) ne1)
      have k12 := k11.tr (Sm.new (o := .tup []) ne1)
      generalize upd H11 e1 (.tup []) = H12 at r1 De12 k12
      refine ⟨by show 2 ≤ sizeLine; decide, fun q1 nq1 => ?_⟩
      have g1 : Try K d l (.ref q1) _ := ⟨_, dp_newH De12 nq1 (.cons (dp_mono k12 dv1) (.cons r1 .nil)), two obL n0⟩
      have De13 := De12.mono (same_new (o := .tup [v1, .ref e1]) nq1)
      have k13 := k12.tr (Sm.new (o := .tup [v1, .ref e1]) nq1)
      generalize upd H12 q1 (.tup [v1, .ref e1]) = H13 at g1 De13 k13
      refine ⟨Nat.zero_le _, fun e2 ne2 => ?_⟩
      have r2 : Dp K (hid d l _) (.ref e2) (.tuple []) := dp_newH De13 ne2 .nil
      have De14 := De13.mono (same_new (o := .tup []) ne2)
      have c14 := Sm.new (d := d) (l := l) (o := .tup []) ne2
      have k14 := k13.tr c14
      generalize upd H13 e2 (.tup []) = H14 at r2 De14 k14 c14
      refine ⟨_, rfl, tp, _, 1, v2, rfl, rfl, hs_ _ k14, rfl, by show 2 ≤ sizeLine; decide, fun q2 nq2 => ?_⟩
      have g2 : Try K d l (.ref q2) _ := ⟨_, dp_newH De14 nq2 (.cons r2 (.cons (dp_mono k14 dv2) .nil)), two n0 obT⟩
      have De15 := De14.mono (same_new (o := .tup [.ref e2, v2]) nq2)
      have c15 := Sm.new (d := d) (l := l) (o := .tup [.ref e2, v2]) nq2
      have k15 := k14.tr c15
      generalize upd H14 q2 (.tup [.ref e2, v2]) = H15 at g2 De15 k15 c15
      refine ⟨_, rfl, tp, _, 0, v1, rfl, rfl, hs_ _ k15, rfl, ?_⟩
      refine ⟨_, rfl, _, rfl, d, l, p, A, rfl, De15, SqT.of (k15 _ _ hp9), by omega, fun u1 Us H16 c16 De16 hu1 ub upw ul => ?_⟩
      have k16 := k15.tr c16
      refine ⟨by show 2 ≤ sizeLine; decide, fun q3 nq3 => ?_⟩
      have obU : Ob 200 2 (timesD Us) := (paper_ob (L := []) (c := 200) (by omega) (Nat.zero_le _) (Nat.le_trans ul (by omega))).2.2
      have g3 : Try K d l (.ref q3) _ := ⟨_, dp_newH De16 nq3 (.cons (dp_mono k16 dv1) (.cons (times_dp (SqT.of hu1)) .nil)), two obL obU⟩
      have De17 := De16.mono (same_new (o := .tup [v1, .ref u1]) nq3)
      have c17 := Sm.new (d := d) (l := l) (o := .tup [v1, .ref u1]) nq3
      have k17 := k16.tr c17
      generalize upd H16 q3 (.tup [v1, .ref u1]) = H17 at g3 De17 k17 c17
      refine ⟨_, rfl, tp, _, 0, v1, rfl, rfl, hs_ _ k17, rfl, 1, rfl, ?_⟩
      refine noPart_via ?_
      refine sl_hid De17.dX (dp_mono (same_tr k17 hid_d3) dv1) fun v5 H18 s18 d18 => ?_
      have De18 := De17.mono s18
      have c18 := Sm.of (d := d) (l := l) s18
      have k18 := k17.tr c18
      refine ⟨_, rfl, tp, _, 1, v2, rfl, rfl, hs_ _ k18, rfl, by show 2 ≤ sizeLine; decide, fun q4 nq4 => ?_⟩
      have obC : Ob 200 2 (.tuple (cutD (L.map pairD) (some 1) none)) := .tup (fun d hd => by
        have := cutD_sub _ _ _ d hd
        cases obL with
        | tup h _ => exact h d this) (by
          have := cutD_len (L.map pairD) (some 1) none
          rw [List.length_map] at this
          omega)
      have g4 : Try K d l (.ref q4) _ := ⟨_, dp_newH De18 nq4 (.cons (dp_mono (hid3_same d l d H18) d18) (.cons (dp_mono k18 dv2) .nil)), two obC obT⟩
      have De19 := De18.mono (same_new (o := .tup [v5, v2]) nq4)
      have c19 := Sm.new (d := d) (l := l) (o := .tup [v5, v2]) nq4
      have k19 := k18.tr c19
      generalize upd H18 q4 (.tup [v5, v2]) = H19 at g4 De19 k19 c19
      refine ⟨by show 5 ≤ sizeLine; decide, fun sp nsp => ?_⟩
      have De20 := De19.mono (same_new (o := .lst [.ref tp, .ref q1, .ref q2, .ref q3, .ref q4]) nsp)
      have c20 := Sm.new (d := d) (l := l) (o := .lst [.ref tp, .ref q1, .ref q2, .ref q3, .ref q4]) nsp
      have k20 := k19.tr c20
      have hsp : (upd H19 sp (.lst [.ref tp, .ref q1, .ref q2, .ref q3, .ref q4])) sp = some (.lst [.ref tp, .ref q1, .ref q2, .ref q3, .ref q4]) := upd_same
      have spne := De19.new_ne nsp
      generalize upd H19 sp (.lst [.ref tp, .ref q1, .ref q2, .ref q3, .ref q4]) = H20 at De20 c20 k20 hsp
      have five : ∀ x ∈ [V.ref tp, .ref q1, .ref q2, .ref q3, .ref q4], Try K d l x H20 := fun x hx => by
        simp only [List.mem_cons, List.not_mem_nil, or_false] at hx
        rcases hx with rfl | rfl | rfl | rfl | rfl
        · exact ⟨_, dp_mono k20 dt9, od⟩
        · exact g1.mono (((((((c14.tr c15).tr c16).tr c17).tr c18).tr c19).tr c20))
        · exact g2.mono (((((c16.tr c17).tr c18).tr c19).tr c20))
        · exact g3.mono ((c18.tr c19).tr c20)
        · exact g4.mono c20
      clear g1 g2 g3 g4 r1 r2 d18 c14 c15 c16 c17 c18 c19 c20
      -- five odd values more
      refine ⟨_, rfl, 5, rfl, by decide, by decide, fun D nD => lc_range (lo := 0) (n := (5 : Int).toNat) (fun i H => Sm d l H20 H ∧ DealX H d l D ∧ ∃ ys : List V, H D = some (.lst ys) ∧ ys.length ≤ i ∧ ∀ y ∈ ys, Good K d l D 201 4 y H)
        ⟨Sm.new nD, ⟨De20.mono (same_new nD), ⟨_, upd_same⟩⟩, [], upd_same, Nat.le_refl _, fun y hy => nomatch hy⟩ (fun i H hi I => ?_) (fun H21 I => ?_)⟩
      · obtain ⟨k, De, ys, hD, yl, yg⟩ := I
        have Dne := De20.new_ne nD
        refine ⟨rfl, _, rfl, _, rfl, d, l, D, .ref tp, paperD L Ts, rfl, De, dp_hid3 hD (noL_paper L Ts) (dp_mono (k20.tr k) dt9), ob, fun v' H' k' De' g' => ?_⟩
        have hD' := (hid_some.mp (k' D _ (hid_some.mpr ⟨Dne.1, Dne.2, hD⟩))).2.2
        have i5 : i < 5 := hi
        have cg : ∀ {y : V}, Good K d l D 201 4 y H' → Good K d l D 201 4 y (upd H' D (.lst (ys ++ [v']))) := fun g => by
          obtain ⟨dd, h1, h2⟩ := g
          exact ⟨dd, by rw [hid3_upd]; exact h1, h2⟩
        refine ⟨_, hD', small_line (by omega), Sm.chg (hid_none nD) (k.tr k'), ⟨De'.E.upd Dne, ⟨_, upd_same⟩⟩, ys ++ [v'], upd_same, by rw [List.length_append, List.length_singleton]; omega, fun y hy => ?_⟩
        rcases List.mem_append.mp hy with z | z
        · exact cg ((yg y z).mono k')
        · rw [List.mem_singleton.mp z]
          exact cg g'
      obtain ⟨k21, De21, ys, hD, yl, yg⟩ := I
      have hsp21 := (hid_some.mp (k21 sp _ (hid_some.mpr ⟨spne.1, spne.2, hsp⟩))).2.2
      refine ⟨sp, D, _, ys, rfl, rfl, hsp21, hD, by have := sizeLine_eq; have : ys.length ≤ 5 := yl; show 5 + ys.length ≤ sizeLine; omega, fun cp nc => ?_⟩
      have De22 := De21.E.mono (same_new (o := .lst ([V.ref tp, .ref q1, .ref q2, .ref q3, .ref q4] ++ ys)) nc)
      have c22 := Sm.new (d := d) (l := l) (o := .lst ([V.ref tp, .ref q1, .ref q2, .ref q3, .ref q4] ++ ys)) nc
      have k22 := (k20.tr k21).tr c22
      have hcp : (upd H21 cp (.lst ([V.ref tp, .ref q1, .ref q2, .ref q3, .ref q4] ++ ys))) cp = some (.lst ([V.ref tp, .ref q1, .ref q2, .ref q3, .ref q4] ++ ys)) := upd_same
      have tries : ∀ x ∈ [V.ref tp, .ref q1, .ref q2, .ref q3, .ref q4] ++ ys, Try K d l x (upd H21 cp (.lst ([V.ref tp, .ref q1, .ref q2, .ref q3, .ref q4] ++ ys))) := fun x hx => by
        rcases List.mem_append.mp hx with z | z
        · exact (five x z).mono (k21.tr c22)
        · obtain ⟨dd, h1, h2⟩ := yg x z
          exact ⟨dd, dp_mono (same_tr (hid3_same d l D H21) c22) h1, (h2.od (by omega)).mono (by omega)⟩
      generalize [V.ref tp, .ref q1, .ref q2, .ref q3, .ref q4] ++ ys = vals at De22 c22 k22 hcp tries
      generalize upd H21 cp (.lst vals) = H22 at De22 c22 k22 hcp tries
      clear five yg
      refine ⟨cp, rfl, ⟨_, SqL.of hcp⟩, for_list (K := K) (a := cp) (xs := vals) (fun i σ H => (∃ y2 y8 y9 y10 y11, σ = [some (.ref a), some (.ref d), y2, some (.ref p), some (.int ((1 + i2 : Nat) : Int)), some (.ref tp), some (.int (h : Int)), some (.ref sp), y8, y9, y10, y11]) ∧ Same H22 H)
        ⟨⟨_, _, _, _, _, rfl⟩, same_refl _⟩ (fun i σ H _ I => SqL.of (I.2 _ _ hcp)) (fun i v σ H hi I => ?_) (fun σ H I => ?_)⟩
      · obtain ⟨⟨y2, y8, y9, y10, y11, rfl⟩, smH⟩ := I
        obtain ⟨dd, dv, odd⟩ := tries v (List.mem_of_getElem? hi)
        have kH := k22.tr (Sm.of (d := d) (l := l) smH)
        have dvH : Dp K H v dd := dp_mono (same_tr (hid_same d l H22) smH) dv
        refine ⟨_, rfl, _, rfl, _, rfl, p, A, 1 + i2, v, dd, rfl, hA_ _ kH, by omega, by omega, by omega, dvH, odd, fun b H23 sm23 hb => ?_⟩
        have k23 := kH.tr (Sm.of (d := d) (l := l) sm23)
        refine ⟨_, rfl, _, rfl, _, rfl, p, A, 1 + i2, v, dd, rfl, hA_ _ k23, by omega, by omega, by omega, dp_mono sm23 dvH, odd, fun b1 H24 sm24 hb1 => ?_⟩
        obtain rfl : b1 = b := Bool.eq_iff_iff.mpr (hb1.trans hb.symm)
        have k24 := k23.tr (Sm.of (d := d) (l := l) sm24)
        refine ⟨b1, rfl, _, rfl, b1, rfl, rfl, _, rfl, ?_⟩
        have ez3 : (!decide (V.str (if b1 = true then "True" else "False") = V.str (if b1 = true then "True" else "False"))) = false := by simp
        rw [ez3]
        refine iteF ?_
        refine ⟨_, rfl, _, rfl, _, rfl, rfl, rfl, p, A, 1 + i2, v, dd, rfl, hA_ _ k24, by omega, by omega, by omega, dp_mono (same_tr sm23 sm24) dvH, odd, fun b2 H25 sm25 hb2 => ?_⟩
        obtain rfl : b2 = b1 := Bool.eq_iff_iff.mpr (hb2.trans hb.symm)
        have k25 := k24.tr (Sm.of (d := d) (l := l) sm25)
        refine ⟨b2, rfl, _, rfl, b2, rfl, rfl, _, rfl, ?_⟩
        rw [ez3]
        refine iteF ?_
        have smE : Same H22 H25 := same_tr smH (same_tr sm23 (same_tr sm24 sm25))
        refine ⟨_, rfl, b2, rfl, ?_⟩
        cases b2 with
        | false => exact iteF (iteF ⟨⟨_, _, _, _, _, rfl⟩, smE⟩)
        | true =>
          have due2 := hb.mp rfl
          have due3 := due2
          obtain ⟨L', Ts', rfl, _⟩ := due2
          obtain ⟨t3, w1, w2, rfl, hw, dw1, _⟩ := dp_row (dp_mono (same_tr sm23 (same_tr sm24 sm25)) dvH)
          obtain ⟨t4, xs4, rfl, hs4, l4⟩ := dp_len dw1
          refine iteT ⟨_, rfl, t3, _, 0, _, rfl, rfl, hw, rfl, t4, xs4, rfl, .inr hs4, _, rfl, rfl, _, rfl, ?_⟩
          have ez4 : (!decide (V.int (xs4.length : Int) = V.int (h : Int))) = false := by
            rw [l4, List.length_map, due_len m1 due due3, eLh]
            simp
          rw [ez4]
          exact iteF ⟨⟨_, _, _, _, _, rfl⟩, smE⟩
      obtain ⟨⟨y2, y8, y9, y10, y11, rfl⟩, smH⟩ := I
      have kH := k22.tr (Sm.of (d := d) (l := l) smH)
      have DeH := De22.mono smH
      -- the bound at some times
      refine ⟨_, rfl, _, rfl, d, l, p, A, rfl, DeH, SqT.of (kH _ _ hp9), by omega, fun w1 Ws H26 k26 De26 hw1 wb wpw wl => ?_⟩
      have kW := kH.tr k26
      have hW : ∀ H', Sm d l H26 H' → SqT K H' w1 (timesV Ws) := fun H' k => SqT.of (hid_some.mp (k _ _ hw1)).2.2
      refine ⟨_, rfl, _, rfl, _, rfl, p, w1, A, 1 + i2, Ws, rfl, hA_ _ kW, by omega, by omega, by omega, hW _ .refl, by omega, fun H27 sm27 => ?_⟩
      have k27 := Sm.of (d := d) (l := l) sm27
      have bs : bnd A (1 + i2) Ws ≤ 1000 := by
        have h1 : (strl A).countP (fun q => !crossed Ws q) ≤ (strl A).length := List.countP_le_length
        have h2 : (strl A).length ≤ A.length := by
          rw [(fnd_perm A).length_eq]
          exact fnd_len A.length
        have h3 : (1 + i2 - 1) * Ws.length ≤ 4 * 16 := Nat.mul_le_mul (by omega) (by omega)
        unfold bnd
        omega
      have lg : ((bnd A (1 + i2) Ws : Nat) : Int).natAbs.log2 < 1920 := by
        have e : ((bnd A (1 + i2) Ws : Nat) : Int).natAbs = bnd A (1 + i2) Ws := by omega
        rw [e]
        have := Nat.log2_le_self (bnd A (1 + i2) Ws)
        omega
      have le : L.length ≤ bnd A (1 + i2) Ws := by
        obtain ⟨L', _, e, _, kk, _⟩ := due
        injection e with e
        injection e with e _
        obtain rfl := pairsD_inj e
        exact kk.le m1 Ws
      refine ⟨_, rfl, _, rfl, _, rfl, p, w1, A, 1 + i2, Ws, rfl, hA_ _ (kW.tr k27), by omega, by omega, by omega, hW _ k27, by omega, fun H28 sm28 => ?_⟩
      have k28 := k27.tr (Sm.of (d := d) (l := l) sm28)
      refine ⟨_, rfl, lg, _, rfl, _, rfl, lg, rfl, _, rfl, ?_⟩
      have ez5 : (!decide (V.str (Str.ofString (toString ((bnd A (1 + i2) Ws : Nat) : Int))) = V.str (Str.ofString (toString ((bnd A (1 + i2) Ws : Nat) : Int))))) = false := by simp
      rw [ez5]
      refine iteF ?_
      refine ⟨_, rfl, _, rfl, _, rfl, rfl, rfl, p, w1, A, 1 + i2, Ws, rfl, hA_ _ (kW.tr k28), by omega, by omega, by omega, hW _ k28, by omega, fun H29 sm29 => ?_⟩
      refine ⟨_, rfl, lg, _, rfl, _, rfl, lg, rfl, _, rfl, ?_⟩
      rw [ez5]
      refine iteF ?_
      refine ⟨_, rfl, _, rfl, _, _, rfl, rfl, _, rfl, ?_⟩
      have ez6 : decide (((bnd A (1 + i2) Ws : Nat) : Int) < (h : Int)) = false := decide_eq_false (by omega)
      rw [ez6]
      exact iteF ⟨⟨_, _, _, _, _, _, _, _, _, _, rfl⟩, ((De26.mono sm27).mono sm28).mono sm29⟩
    · obtain ⟨⟨y2, y3, y4, y5, y6, y7, y8, y9, y10, y11, rfl⟩, De⟩ := I
      refine ⟨_, rfl, d, l, 100, 12, rfl, De, by omega, by omega, by omega, fun p A H3 sm3 De3 hp al am => ?_⟩
      refine ⟨_, rfl, d, l, 8, rfl, De3, by omega, by omega, fun i2 H4 sm4 De4 i2l => ⟨_, _, rfl, rfl, _, _, rfl, ?_⟩⟩
      have hA4 : SqT K H4 p (A.map V.int) := SqT.of (hid_some.mp (sm4 _ _ hp)).2.2
      refine ⟨_, rfl, _, rfl, _, rfl, _, rfl, p, A, 1 + i2, rfl, hA4, by omega, by omega, fun tp L Ts H5 sm5 dt told => ?_⟩
      obtain ⟨b1, b2, _, _⟩ := told.bounds (by omega)
      have ob := (paper_ob (c := 200) (by omega) (Nat.le_trans b1 (by omega)) (Nat.le_trans b2 (by omega))).1
      refine ⟨p, A, 1 + i2, .ref tp, paperD L Ts, rfl, sqT_mono sm5 hA4, by omega, by omega, by omega, dt, (ob.od (by omega)).mono (by omega), fun b H6 sm6 hb => ?_⟩
      obtain rfl : b = true := hb.mpr (told.due (by omega))
      exact q H6
end
end Fw
end
section
set_option Elab.async false
set_option linter.all false
set_option maxRecDepth 100000
set_option maxHeartbeats 4000000
namespace Fw
open PySem PySem.Spec PyProof.Rows L2 Fr Fm
/-- a def's promise where nothing is asked for -/
theorem odd_zero {P : Program} {w : World} {K : PySem.W.Frag} {mg : Str → Option Value} {base : Heap} {c k : Nat} {f : Addr} {fd : FuncData} {ps : List Str} : FnOk P w K mg base CX0 k f fd ps (sp_odd c K 0) :=
  ⟨fun _ _ _ _ h => h.elim, fun _ _ _ _ _ _ _ _ _ _ _ _ _ h => h.elim⟩
/-! ### what the top has written -/
theorem all_mk {l : PySem.W.OpenLaw} {w : World} {K : PySem.W.Frag} {h : Heap} {mg : Str → Option Value} {fa f1 f2 f3 f4 f5 f6 f7 f8 f9 f10 f11 f12 f13 f14 f15 f16 f17 f18 f19 f20 f21 f22 f23 f24 f25 f26 f27 : Addr} (X : K.In h) (G : h.Ns mainGlobals mg) (hfa : mg "law" = some (.ref fa))
    {od1 an1 od2 an2 od3 an3 od4 an4 od5 an5 od6 an6 od7 an7 od8 an8 od9 an9 od10 an10 od11 an11 od12 an12 od13 an13 od14 an14 od15 an15 od16 an16 od17 an17 od18 an18 od19 an19 od20 an20 od21 an21 od22 an22 od23 an23 od24 an24 od25 an25 od26 an26 od27 an27 : Option Addr} {sl1 sl2 sl3 sl4 sl5 sl6 sl7 sl8 sl9 sl10 sl11 sl12 sl13 sl14 sl15 sl16 sl17 sl18 sl19 sl20 sl21 sl22 sl23 sl24 sl25 sl26 sl27 : Array (Option Value)} {oc1 kV1 dc1 pm1 cd1 ct1 oc2 kV2 dc2 pm2 cd2 ct2 oc3 kV3 dc3 pm3 cd3 ct3 oc4 kV4 dc4 pm4 cd4 ct4 oc5 kV5 dc5 pm5 cd5 ct5 oc6 kV6 dc6 pm6 cd6 ct6 oc7 kV7 dc7 pm7 cd7 ct7 oc8 kV8 dc8 pm8 cd8 ct8 oc9 kV9 dc9 pm9 cd9 ct9 oc10 kV10 dc10 pm10 cd10 ct10 oc11 kV11 dc11 pm11 cd11 ct11 oc12 kV12 dc12 pm12 cd12 ct12 oc13 kV13 dc13 pm13 cd13 ct13 oc14 kV14 dc14 pm14 cd14 ct14 oc15 kV15 dc15 pm15 cd15 ct15 oc16 kV16 dc16 pm16 cd16 ct16 oc17 kV17 dc17 pm17 cd17 ct17 oc18 kV18 dc18 pm18 cd18 ct18 oc19 kV19 dc19 pm19 cd19 ct19 oc20 kV20 dc20 pm20 cd20 ct20 oc21 kV21 dc21 pm21 cd21 ct21 oc22 kV22 dc22 pm22 cd22 ct22 oc23 kV23 dc23 pm23 cd23 ct23 oc24 kV24 dc24 pm24 cd24 ct24 oc25 kV25 dc25 pm25 cd25 ct25 oc26 kV26 dc26 pm26 cd26 ct26 oc27 kV27 dc27 pm27 cd27 ct27 : Value}
    (a1 : PySem.W.nsIn K mainGlobals "is_integer" = some (some (.ref f1))) (l1 : K.lookup f1 = some ⟨oc1, od1, .func (PySem.W.fnOf "is_integer" "is_integer" (defArgs s_is_integer) (defBody s_is_integer) (defScope s_is_integer) .none kV1 dc1 pm1 an1 cd1 ct1), sl1⟩) (c1 : PySem.W.codeIn K cd1 "is_integer" = true) (k1 : PySem.W.keepIn K (.ref f1) = true)
    (a2 : PySem.W.nsIn K mainGlobals "is_number" = some (some (.ref f2))) (l2 : K.lookup f2 = some ⟨oc2, od2, .func (PySem.W.fnOf "is_number" "is_number" (defArgs s_is_number) (defBody s_is_number) (defScope s_is_number) .none kV2 dc2 pm2 an2 cd2 ct2), sl2⟩) (c2 : PySem.W.codeIn K cd2 "is_number" = true) (k2 : PySem.W.keepIn K (.ref f2) = true)
    (a3 : PySem.W.nsIn K mainGlobals "is_index" = some (some (.ref f3))) (l3 : K.lookup f3 = some ⟨oc3, od3, .func (PySem.W.fnOf "is_index" "is_index" (defArgs s_is_index) (defBody s_is_index) (defScope s_is_index) .none kV3 dc3 pm3 an3 cd3 ct3), sl3⟩) (c3 : PySem.W.codeIn K cd3 "is_index" = true) (k3 : PySem.W.keepIn K (.ref f3) = true)
    (a4 : PySem.W.nsIn K mainGlobals "is_row_of" = some (some (.ref f4))) (l4 : K.lookup f4 = some ⟨oc4, od4, .func (PySem.W.fnOf "is_row_of" "is_row_of" (defArgs s_is_row_of) (defBody s_is_row_of) (defScope s_is_row_of) .none kV4 dc4 pm4 an4 cd4 ct4), sl4⟩) (c4 : PySem.W.codeIn K cd4 "is_row_of" = true) (k4 : PySem.W.keepIn K (.ref f4) = true)
    (a5 : PySem.W.nsIn K mainGlobals "is_rising" = some (some (.ref f5))) (l5 : K.lookup f5 = some ⟨oc5, od5, .func (PySem.W.fnOf "is_rising" "is_rising" (defArgs s_is_rising) (defBody s_is_rising) (defScope s_is_rising) .none kV5 dc5 pm5 an5 cd5 ct5), sl5⟩) (c5 : PySem.W.codeIn K cd5 "is_rising" = true) (k5 : PySem.W.keepIn K (.ref f5) = true)
    (a6 : PySem.W.nsIn K mainGlobals "is_pair_of" = some (some (.ref f6))) (l6 : K.lookup f6 = some ⟨oc6, od6, .func (PySem.W.fnOf "is_pair_of" "is_pair_of" (defArgs s_is_pair_of) (defBody s_is_pair_of) (defScope s_is_pair_of) .none kV6 dc6 pm6 an6 cd6 ct6), sl6⟩) (c6 : PySem.W.codeIn K cd6 "is_pair_of" = true) (k6 : PySem.W.keepIn K (.ref f6) = true)
    (a7 : PySem.W.nsIn K mainGlobals "stretches" = some (some (.ref f7))) (l7 : K.lookup f7 = some ⟨oc7, od7, .func (PySem.W.fnOf "stretches" "stretches" (defArgs s_stretches) (defBody s_stretches) (defScope s_stretches) .none kV7 dc7 pm7 an7 cd7 ct7), sl7⟩) (c7 : PySem.W.codeIn K cd7 "stretches" = true) (k7 : PySem.W.keepIn K (.ref f7) = true)
    (a8 : PySem.W.nsIn K mainGlobals "over_times" = some (some (.ref f8))) (l8 : K.lookup f8 = some ⟨oc8, od8, .func (PySem.W.fnOf "over_times" "over_times" (defArgs s_over_times) (defBody s_over_times) (defScope s_over_times) .none kV8 dc8 pm8 an8 cd8 ct8), sl8⟩) (c8 : PySem.W.codeIn K cd8 "over_times" = true) (k8 : PySem.W.keepIn K (.ref f8) = true)
    (a9 : PySem.W.nsIn K mainGlobals "is_kept_lot" = some (some (.ref f9))) (l9 : K.lookup f9 = some ⟨oc9, od9, .func (PySem.W.fnOf "is_kept_lot" "is_kept_lot" (defArgs s_is_kept_lot) (defBody s_is_kept_lot) (defScope s_is_kept_lot) .none kV9 dc9 pm9 an9 cd9 ct9), sl9⟩) (c9 : PySem.W.codeIn K cd9 "is_kept_lot" = true) (k9 : PySem.W.keepIn K (.ref f9) = true)
    (a10 : PySem.W.nsIn K mainGlobals "furthest" = some (some (.ref f10))) (l10 : K.lookup f10 = some ⟨oc10, od10, .func (PySem.W.fnOf "furthest" "furthest" (defArgs s_furthest) (defBody s_furthest) (defScope s_furthest) .none kV10 dc10 pm10 an10 cd10 ct10), sl10⟩) (c10 : PySem.W.codeIn K cd10 "furthest" = true) (k10 : PySem.W.keepIn K (.ref f10) = true)
    (a11 : PySem.W.nsIn K mainGlobals "ask_bound" = some (some (.ref f11))) (l11 : K.lookup f11 = some ⟨oc11, od11, .func (PySem.W.fnOf "ask_bound" "ask_bound" (defArgs s_ask_bound) (defBody s_ask_bound) (defScope s_ask_bound) .none kV11 dc11 pm11 an11 cd11 ct11), sl11⟩) (c11 : PySem.W.codeIn K cd11 "ask_bound" = true) (k11 : PySem.W.keepIn K (.ref f11) = true)
    (a12 : PySem.W.nsIn K mainGlobals "best_times" = some (some (.ref f12))) (l12 : K.lookup f12 = some ⟨oc12, od12, .func (PySem.W.fnOf "best_times" "best_times" (defArgs s_best_times) (defBody s_best_times) (defScope s_best_times) .none kV12 dc12 pm12 an12 cd12 ct12), sl12⟩) (c12 : PySem.W.codeIn K cd12 "best_times" = true) (k12 : PySem.W.keepIn K (.ref f12) = true)
    (a13 : PySem.W.nsIn K mainGlobals "ask_paper" = some (some (.ref f13))) (l13 : K.lookup f13 = some ⟨oc13, od13, .func (PySem.W.fnOf "ask_paper" "ask_paper" (defArgs s_ask_paper) (defBody s_ask_paper) (defScope s_ask_paper) .none kV13 dc13 pm13 an13 cd13 ct13), sl13⟩) (c13 : PySem.W.codeIn K cd13 "ask_paper" = true) (k13 : PySem.W.keepIn K (.ref f13) = true)
    (a14 : PySem.W.nsIn K mainGlobals "is_ask_paper" = some (some (.ref f14))) (l14 : K.lookup f14 = some ⟨oc14, od14, .func (PySem.W.fnOf "is_ask_paper" "is_ask_paper" (defArgs s_is_ask_paper) (defBody s_is_ask_paper) (defScope s_is_ask_paper) .none kV14 dc14 pm14 an14 cd14 ct14), sl14⟩) (c14 : PySem.W.codeIn K cd14 "is_ask_paper" = true) (k14 : PySem.W.keepIn K (.ref f14) = true)
    (a15 : PySem.W.nsIn K mainGlobals "_law_draw" = some (some (.ref f15))) (l15 : K.lookup f15 = some ⟨oc15, od15, .func (PySem.W.fnOf "_law_draw" "_law_draw" (defArgs s_law_draw) (defBody s_law_draw) (defScope s_law_draw) .none kV15 dc15 pm15 an15 cd15 ct15), sl15⟩) (c15 : PySem.W.codeIn K cd15 "_law_draw" = true) (k15 : PySem.W.keepIn K (.ref f15) = true)
    (a16 : PySem.W.nsIn K mainGlobals "_law_any" = some (some (.ref f16))) (l16 : K.lookup f16 = some ⟨oc16, od16, .func (PySem.W.fnOf "_law_any" "_law_any" (defArgs s_law_any) (defBody s_law_any) (defScope s_law_any) .none kV16 dc16 pm16 an16 cd16 ct16), sl16⟩) (c16 : PySem.W.codeIn K cd16 "_law_any" = true) (k16 : PySem.W.keepIn K (.ref f16) = true)
    (a17 : PySem.W.nsIn K mainGlobals "_law_of" = some (some (.ref f17))) (l17 : K.lookup f17 = some ⟨oc17, od17, .func (PySem.W.fnOf "_law_of" "_law_of" (defArgs s_law_of) (defBody s_law_of) (defScope s_law_of) .none kV17 dc17 pm17 an17 cd17 ct17), sl17⟩) (c17 : PySem.W.codeIn K cd17 "_law_of" = true) (k17 : PySem.W.keepIn K (.ref f17) = true)
    (a18 : PySem.W.nsIn K mainGlobals "_law_asks" = some (some (.ref f18))) (l18 : K.lookup f18 = some ⟨oc18, od18, .func (PySem.W.fnOf "_law_asks" "_law_asks" (defArgs s_law_asks) (defBody s_law_asks) (defScope s_law_asks) .none kV18 dc18 pm18 an18 cd18 ct18), sl18⟩) (c18 : PySem.W.codeIn K cd18 "_law_asks" = true) (k18 : PySem.W.keepIn K (.ref f18) = true)
    (a19 : PySem.W.nsIn K mainGlobals "_law_stretches" = some (some (.ref f19))) (l19 : K.lookup f19 = some ⟨oc19, od19, .func (PySem.W.fnOf "_law_stretches" "_law_stretches" (defArgs s_law_stretches) (defBody s_law_stretches) (defScope s_law_stretches) .none kV19 dc19 pm19 an19 cd19 ct19), sl19⟩) (c19 : PySem.W.codeIn K cd19 "_law_stretches" = true) (k19 : PySem.W.keepIn K (.ref f19) = true)
    (a20 : PySem.W.nsIn K mainGlobals "_law_fits" = some (some (.ref f20))) (l20 : K.lookup f20 = some ⟨oc20, od20, .func (PySem.W.fnOf "_law_fits" "_law_fits" (defArgs s_law_fits) (defBody s_law_fits) (defScope s_law_fits) .none kV20 dc20 pm20 an20 cd20 ct20), sl20⟩) (c20 : PySem.W.codeIn K cd20 "_law_fits" = true) (k20 : PySem.W.keepIn K (.ref f20) = true)
    (a21 : PySem.W.nsIn K mainGlobals "_law_is_kept" = some (some (.ref f21))) (l21 : K.lookup f21 = some ⟨oc21, od21, .func (PySem.W.fnOf "_law_is_kept" "_law_is_kept" (defArgs s_law_is_kept) (defBody s_law_is_kept) (defScope s_law_is_kept) .none kV21 dc21 pm21 an21 cd21 ct21), sl21⟩) (c21 : PySem.W.codeIn K cd21 "_law_is_kept" = true) (k21 : PySem.W.keepIn K (.ref f21) = true)
    (a22 : PySem.W.nsIn K mainGlobals "_law_spared" = some (some (.ref f22))) (l22 : K.lookup f22 = some ⟨oc22, od22, .func (PySem.W.fnOf "_law_spared" "_law_spared" (defArgs s_law_spared) (defBody s_law_spared) (defScope s_law_spared) .none kV22 dc22 pm22 an22 cd22 ct22), sl22⟩) (c22 : PySem.W.codeIn K cd22 "_law_spared" = true) (k22 : PySem.W.keepIn K (.ref f22) = true)
    (a23 : PySem.W.nsIn K mainGlobals "_law_odd_thing" = some (some (.ref f23))) (l23 : K.lookup f23 = some ⟨oc23, od23, .func (PySem.W.fnOf "_law_odd_thing" "_law_odd_thing" (defArgs s_law_odd_thing) (defBody s_law_odd_thing) (defScope s_law_odd_thing) .none kV23 dc23 pm23 an23 cd23 ct23), sl23⟩) (c23 : PySem.W.codeIn K cd23 "_law_odd_thing" = true) (k23 : PySem.W.keepIn K (.ref f23) = true)
    (a24 : PySem.W.nsIn K mainGlobals "_law_times" = some (some (.ref f24))) (l24 : K.lookup f24 = some ⟨oc24, od24, .func (PySem.W.fnOf "_law_times" "_law_times" (defArgs s_law_times) (defBody s_law_times) (defScope s_law_times) .none kV24 dc24 pm24 an24 cd24 ct24), sl24⟩) (c24 : PySem.W.codeIn K cd24 "_law_times" = true) (k24 : PySem.W.keepIn K (.ref f24) = true)
    (a25 : PySem.W.nsIn K mainGlobals "_law_bound" = some (some (.ref f25))) (l25 : K.lookup f25 = some ⟨oc25, od25, .func (PySem.W.fnOf "_law_bound" "_law_bound" (defArgs s_law_bound) (defBody s_law_bound) (defScope s_law_bound) .none kV25 dc25 pm25 an25 cd25 ct25), sl25⟩) (c25 : PySem.W.codeIn K cd25 "_law_bound" = true) (k25 : PySem.W.keepIn K (.ref f25) = true)
    (a26 : PySem.W.nsIn K mainGlobals "_law_due" = some (some (.ref f26))) (l26 : K.lookup f26 = some ⟨oc26, od26, .func (PySem.W.fnOf "_law_due" "_law_due" (defArgs s_law_due) (defBody s_law_due) (defScope s_law_due) .none kV26 dc26 pm26 an26 cd26 ct26), sl26⟩) (c26 : PySem.W.codeIn K cd26 "_law_due" = true) (k26 : PySem.W.keepIn K (.ref f26) = true)
    (a27 : PySem.W.nsIn K mainGlobals "law" = some (some (.ref f27))) (l27 : K.lookup f27 = some ⟨oc27, od27, .func (PySem.W.fnOf "law" "law" (defArgs s_law) (defBody s_law) (defScope s_law) .none kV27 dc27 pm27 an27 cd27 ct27), sl27⟩) (c27 : PySem.W.codeIn K cd27 "law" = true) (k27 : PySem.W.keepIn K (.ref f27) = true)
    (z1 : PySem.W.nsIn K mainGlobals "isinstance" = some none)
    (z2 : PySem.W.nsIn K mainGlobals "int" = some none)
    (z3 : PySem.W.nsIn K mainGlobals "bool" = some none)
    (z4 : PySem.W.nsIn K mainGlobals "tuple" = some none)
    (z5 : PySem.W.nsIn K mainGlobals "len" = some none)
    (z6 : PySem.W.nsIn K mainGlobals "all" = some none)
    (z7 : PySem.W.nsIn K mainGlobals "any" = some none)
    (z8 : PySem.W.nsIn K mainGlobals "range" = some none)
    (z9 : PySem.W.nsIn K mainGlobals "sorted" = some none)
    (z10 : PySem.W.nsIn K mainGlobals "enumerate" = some none)
    (z11 : PySem.W.nsIn K mainGlobals "dict" = some none)
    (z12 : PySem.W.nsIn K mainGlobals "max" = some none)
    (z13 : PySem.W.nsIn K mainGlobals "min" = some none)
    (z14 : PySem.W.nsIn K mainGlobals "abs" = some none)
    (z15 : PySem.W.nsIn K mainGlobals "list" = some none)
    (z16 : PySem.W.nsIn K mainGlobals "repr" = some none) :
    ∃ fd : FuncData, (∀ (s : Shared) (v : Value), BindsTo s fd ⟨[v], []⟩ [("_law_script", v)]) ∧ ∀ base : Heap, K.In base → base.Ns mainGlobals mg → FnG l.prog w K mg base 7 fa fd ["_law_script"] (sp_law K) := by
  have e := hfa.symm.trans (PySem.W.mg_of X G a27)
  cases e
  have T : Nm mg := ⟨PySem.W.mg_none_of X G z1, PySem.W.mg_none_of X G z2, PySem.W.mg_none_of X G z3, PySem.W.mg_none_of X G z4, PySem.W.mg_none_of X G z5, PySem.W.mg_none_of X G z6, PySem.W.mg_none_of X G z7, PySem.W.mg_none_of X G z8, PySem.W.mg_none_of X G z9, PySem.W.mg_none_of X G z10, PySem.W.mg_none_of X G z11, PySem.W.mg_none_of X G z12, PySem.W.mg_none_of X G z13, PySem.W.mg_none_of X G z14, PySem.W.mg_none_of X G z15, PySem.W.mg_none_of X G z16⟩
  have F1 := fun_mk (st := s_is_integer) l1 c1 k1
  have b1 := F1.binds (ps := ["value"]) fun _ _ _ _ _ _ us hl => match us, hl with | [_], _ => rfl
  have D1 : Dn K mg "is_integer" f1 _ ["value"] := ⟨PySem.W.mg_of X G a1, k1, b1⟩
  have F2 := fun_mk (st := s_is_number) l2 c2 k2
  have b2 := F2.binds (ps := ["value"]) fun _ _ _ _ _ _ us hl => match us, hl with | [_], _ => rfl
  have D2 : Dn K mg "is_number" f2 _ ["value"] := ⟨PySem.W.mg_of X G a2, k2, b2⟩
  have F3 := fun_mk (st := s_is_index) l3 c3 k3
  have b3 := F3.binds (ps := ["value", "many"]) fun _ _ _ _ _ _ us hl => match us, hl with | [_, _], _ => rfl
  have D3 : Dn K mg "is_index" f3 _ ["value", "many"] := ⟨PySem.W.mg_of X G a3, k3, b3⟩
  have F4 := fun_mk (st := s_is_row_of) l4 c4 k4
  have b4 := F4.binds (ps := ["value", "sizes"]) fun _ _ _ _ _ _ us hl => match us, hl with | [_, _], _ => rfl
  have D4 : Dn K mg "is_row_of" f4 _ ["value", "sizes"] := ⟨PySem.W.mg_of X G a4, k4, b4⟩
  have F5 := fun_mk (st := s_is_rising) l5 c5 k5
  have b5 := F5.binds (ps := ["value", "many"]) fun _ _ _ _ _ _ us hl => match us, hl with | [_, _], _ => rfl
  have D5 : Dn K mg "is_rising" f5 _ ["value", "many"] := ⟨PySem.W.mg_of X G a5, k5, b5⟩
  have F6 := fun_mk (st := s_is_pair_of) l6 c6 k6
  have b6 := F6.binds (ps := ["value", "first", "second"]) fun _ _ _ _ _ _ us hl => match us, hl with | [_, _, _], _ => rfl
  have D6 : Dn K mg "is_pair_of" f6 _ ["value", "first", "second"] := ⟨PySem.W.mg_of X G a6, k6, b6⟩
  have F7 := fun_mk (st := s_stretches) l7 c7 k7
  have b7 := F7.binds (ps := ["asks"]) fun _ _ _ _ _ _ us hl => match us, hl with | [_], _ => rfl
  have D7 : Dn K mg "stretches" f7 _ ["asks"] := ⟨PySem.W.mg_of X G a7, k7, b7⟩
  have F8 := fun_mk (st := s_over_times) l8 c8 k8
  have b8 := F8.binds (ps := ["asks", "kept"]) fun _ _ _ _ _ _ us hl => match us, hl with | [_, _], _ => rfl
  have D8 : Dn K mg "over_times" f8 _ ["asks", "kept"] := ⟨PySem.W.mg_of X G a8, k8, b8⟩
  have F9 := fun_mk (st := s_is_kept_lot) l9 c9 k9
  have b9 := F9.binds (ps := ["asks", "m", "value"]) fun _ _ _ _ _ _ us hl => match us, hl with | [_, _, _], _ => rfl
  have D9 : Dn K mg "is_kept_lot" f9 _ ["asks", "m", "value"] := ⟨PySem.W.mg_of X G a9, k9, b9⟩
  have F10 := fun_mk (st := s_furthest) l10 c10 k10
  have b10 := F10.binds (ps := ["asks", "m"]) fun _ _ _ _ _ _ us hl => match us, hl with | [_, _], _ => rfl
  have D10 : Dn K mg "furthest" f10 _ ["asks", "m"] := ⟨PySem.W.mg_of X G a10, k10, b10⟩
  have F11 := fun_mk (st := s_ask_bound) l11 c11 k11
  have b11 := F11.binds (ps := ["asks", "m", "times"]) fun _ _ _ _ _ _ us hl => match us, hl with | [_, _, _], _ => rfl
  have D11 : Dn K mg "ask_bound" f11 _ ["asks", "m", "times"] := ⟨PySem.W.mg_of X G a11, k11, b11⟩
  have F12 := fun_mk (st := s_best_times) l12 c12 k12
  have b12 := F12.binds (ps := ["asks", "m"]) fun _ _ _ _ _ _ us hl => match us, hl with | [_, _], _ => rfl
  have D12 : Dn K mg "best_times" f12 _ ["asks", "m"] := ⟨PySem.W.mg_of X G a12, k12, b12⟩
  have F13 := fun_mk (st := s_ask_paper) l13 c13 k13
  have b13 := F13.binds (ps := ["asks", "m"]) fun _ _ _ _ _ _ us hl => match us, hl with | [_, _], _ => rfl
  have D13 : Dn K mg "ask_paper" f13 _ ["asks", "m"] := ⟨PySem.W.mg_of X G a13, k13, b13⟩
  have F14 := fun_mk (st := s_is_ask_paper) l14 c14 k14
  have b14 := F14.binds (ps := ["asks", "m", "value"]) fun _ _ _ _ _ _ us hl => match us, hl with | [_, _, _], _ => rfl
  have D14 : Dn K mg "is_ask_paper" f14 _ ["asks", "m", "value"] := ⟨PySem.W.mg_of X G a14, k14, b14⟩
  have F15 := fun_mk (st := s_law_draw) l15 c15 k15
  have b15 := F15.binds (ps := ["_law_script", "_law_salt"]) fun _ _ _ _ _ _ us hl => match us, hl with | [_, _], _ => rfl
  have D15 : Dn K mg "_law_draw" f15 _ ["_law_script", "_law_salt"] := ⟨PySem.W.mg_of X G a15, k15, b15⟩
  have F16 := fun_mk (st := s_law_any) l16 c16 k16
  have b16 := F16.binds (ps := ["_law_deal", "_law_bound_here"]) fun _ _ _ _ _ _ us hl => match us, hl with | [_, _], _ => rfl
  have D16 : Dn K mg "_law_any" f16 _ ["_law_deal", "_law_bound_here"] := ⟨PySem.W.mg_of X G a16, k16, b16⟩
  have F17 := fun_mk (st := s_law_of) l17 c17 k17
  have b17 := F17.binds (ps := ["_law_deal", "_law_some"]) fun _ _ _ _ _ _ us hl => match us, hl with | [_, _], _ => rfl
  have D17 : Dn K mg "_law_of" f17 _ ["_law_deal", "_law_some"] := ⟨PySem.W.mg_of X G a17, k17, b17⟩
  have F18 := fun_mk (st := s_law_asks) l18 c18 k18
  have b18 := F18.binds (ps := ["_law_deal", "_law_most", "_law_pages"]) fun _ _ _ _ _ _ us hl => match us, hl with | [_, _, _], _ => rfl
  have D18 : Dn K mg "_law_asks" f18 _ ["_law_deal", "_law_most", "_law_pages"] := ⟨PySem.W.mg_of X G a18, k18, b18⟩
  have F19 := fun_mk (st := s_law_stretches) l19 c19 k19
  have b19 := F19.binds (ps := ["_law_asks_here"]) fun _ _ _ _ _ _ us hl => match us, hl with | [_], _ => rfl
  have D19 : Dn K mg "_law_stretches" f19 _ ["_law_asks_here"] := ⟨PySem.W.mg_of X G a19, k19, b19⟩
  have F20 := fun_mk (st := s_law_fits) l20 c20 k20
  have b20 := F20.binds (ps := ["_law_asks_here", "_law_m", "_law_lot"]) fun _ _ _ _ _ _ us hl => match us, hl with | [_, _, _], _ => rfl
  have D20 : Dn K mg "_law_fits" f20 _ ["_law_asks_here", "_law_m", "_law_lot"] := ⟨PySem.W.mg_of X G a20, k20, b20⟩
  have F21 := fun_mk (st := s_law_is_kept) l21 c21 k21
  have b21 := F21.binds (ps := ["_law_asks_here", "_law_m", "_law_value"]) fun _ _ _ _ _ _ us hl => match us, hl with | [_, _, _], _ => rfl
  have D21 : Dn K mg "_law_is_kept" f21 _ ["_law_asks_here", "_law_m", "_law_value"] := ⟨PySem.W.mg_of X G a21, k21, b21⟩
  have F22 := fun_mk (st := s_law_spared) l22 c22 k22
  have b22 := F22.binds (ps := ["_law_asks_here", "_law_costs", "_law_m"]) fun _ _ _ _ _ _ us hl => match us, hl with | [_, _, _], _ => rfl
  have D22 : Dn K mg "_law_spared" f22 _ ["_law_asks_here", "_law_costs", "_law_m"] := ⟨PySem.W.mg_of X G a22, k22, b22⟩
  have F23 := fun_mk (st := s_law_odd_thing) l23 c23 k23
  have b23 := F23.binds (ps := ["_law_deal", "_law_value"]) fun _ _ _ _ _ _ us hl => match us, hl with | [_, _], _ => rfl
  have D23 : Dn K mg "_law_odd_thing" f23 _ ["_law_deal", "_law_value"] := ⟨PySem.W.mg_of X G a23, k23, b23⟩
  have F24 := fun_mk (st := s_law_times) l24 c24 k24
  have b24 := F24.binds (ps := ["_law_deal", "_law_asks_here"]) fun _ _ _ _ _ _ us hl => match us, hl with | [_, _], _ => rfl
  have D24 : Dn K mg "_law_times" f24 _ ["_law_deal", "_law_asks_here"] := ⟨PySem.W.mg_of X G a24, k24, b24⟩
  have F25 := fun_mk (st := s_law_bound) l25 c25 k25
  have b25 := F25.binds (ps := ["_law_asks_here", "_law_m", "_law_times_here"]) fun _ _ _ _ _ _ us hl => match us, hl with | [_, _, _], _ => rfl
  have D25 : Dn K mg "_law_bound" f25 _ ["_law_asks_here", "_law_m", "_law_times_here"] := ⟨PySem.W.mg_of X G a25, k25, b25⟩
  have F26 := fun_mk (st := s_law_due) l26 c26 k26
  have b26 := F26.binds (ps := ["_law_asks_here", "_law_m", "_law_value"]) fun _ _ _ _ _ _ us hl => match us, hl with | [_, _, _], _ => rfl
  have D26 : Dn K mg "_law_due" f26 _ ["_law_asks_here", "_law_m", "_law_value"] := ⟨PySem.W.mg_of X G a26, k26, b26⟩
  have F27 := fun_mk (st := s_law) l27 c27 k27
  refine ⟨PySem.W.fnOf "law" "law" (defArgs s_law) (defBody s_law) (defScope s_law) .none kV27 dc27 pm27 an27 cd27 ct27, fun s v => .of_eq rfl, fun base _ _ => ?_⟩
  have G1 := ok_is_integer (P := l.prog) (w := w) (base := base) (k := 0) F1 T 
  have G2 := ok_is_number (P := l.prog) (w := w) (base := base) (k := 1) F2 (G1.mono (by decide)) D1
  have G3 := ok_is_index (P := l.prog) (w := w) (base := base) (k := 2) F3 (G2.mono (by decide)) D2
  have G4 := ok_is_row_of (P := l.prog) (w := w) (base := base) (k := 0) F4 T 
  have G5 := ok_is_rising (P := l.prog) (w := w) (base := base) (k := 3) F5 T (G3.mono (by decide)) D3
  have G6 := ok_is_pair_of (P := l.prog) (w := w) (base := base) (k := 3) F6 (G4.mono (by decide)) D4 (G3.mono (by decide)) D3
  have G7 := ok_stretches (P := l.prog) (w := w) (base := base) (k := 0) F7 T 
  have G8 := ok_over_times (P := l.prog) (w := w) (base := base) (k := 0) F8 T 
  have G9 := ok_is_kept_lot (P := l.prog) (w := w) (base := base) (k := 4) F9 T (G7.mono (by decide)) D7 (G6.mono (by decide)) D6 (G8.mono (by decide)) D8
  have G10 := ok_furthest (P := l.prog) (w := w) (base := base) (k := 1) F10 T (G7.mono (by decide)) D7
  have G11 := ok_ask_bound (P := l.prog) (w := w) (base := base) (k := 1) F11 T (G7.mono (by decide)) D7
  have G12 := ok_best_times (P := l.prog) (w := w) (base := base) (k := 1) F12 T (G7.mono (by decide)) D7
  have G13 := ok_ask_paper (P := l.prog) (w := w) (base := base) (k := 2) F13 (G10.mono (by decide)) D10 (G12.mono (by decide)) D12
  have G14 := ok_is_ask_paper (P := l.prog) (w := w) (base := base) (k := 5) F14 T (G4.mono (by decide)) D4 (G9.mono (by decide)) D9 (G5.mono (by decide)) D5 (G11.mono (by decide)) D11
  have G15 := ok_law_draw (P := l.prog) (w := w) (base := base) (k := 0) F15 T 
  have G16 := ok_law_any (P := l.prog) (w := w) (base := base) (k := 0) F16 T 
  have G17 := ok_law_of (P := l.prog) (w := w) (base := base) (k := 1) F17 T (G16.mono (by decide)) D16
  have G18 := ok_law_asks (P := l.prog) (w := w) (base := base) (k := 2) F18 T (G16.mono (by decide)) D16 (G17.mono (by decide)) D17
  have G19 := ok_law_stretches (P := l.prog) (w := w) (base := base) (k := 0) F19 T 
  have G20 := ok_law_fits (P := l.prog) (w := w) (base := base) (k := 0) F20 T 
  have G21 := ok_law_is_kept (P := l.prog) (w := w) (base := base) (k := 1) F21 T (G19.mono (by decide)) D19 (G20.mono (by decide)) D20
  have G22 := ok_law_spared (P := l.prog) (w := w) (base := base) (k := 0) F22 T 
  have O1 := ok_law_odd (P := l.prog) (w := w) (base := base) (c := 200) (n := 0) (k := 2) (by decide) (by decide) F23 T (G16.mono (by decide)) D16 (G17.mono (by decide)) D17 odd_zero D23
  have O2 := ok_law_odd (P := l.prog) (w := w) (base := base) (c := 200) (n := 1) (k := 3) (by decide) (by decide) F23 T (G16.mono (by decide)) D16 (G17.mono (by decide)) D17 O1 D23
  have O3 := ok_law_odd (P := l.prog) (w := w) (base := base) (c := 200) (n := 2) (k := 4) (by decide) (by decide) F23 T (G16.mono (by decide)) D16 (G17.mono (by decide)) D17 O2 D23
  have O4 := ok_law_odd (P := l.prog) (w := w) (base := base) (c := 200) (n := 3) (k := 5) (by decide) (by decide) F23 T (G16.mono (by decide)) D16 (G17.mono (by decide)) D17 O3 D23
  have G23 := O4
  have G24 := ok_law_times (P := l.prog) (w := w) (base := base) (k := 2) F24 T (G16.mono (by decide)) D16 (G17.mono (by decide)) D17
  have G25 := ok_law_bound (P := l.prog) (w := w) (base := base) (k := 1) F25 T (G19.mono (by decide)) D19
  have G26 := ok_law_due (P := l.prog) (w := w) (base := base) (k := 2) F26 T (G21.mono (by decide)) D21 (G25.mono (by decide)) D25
  exact ok_law (P := l.prog) (w := w) (base := base) (k := 6) F27 T (G15.mono (by decide)) D15 (G16.mono (by decide)) D16 (G18.mono (by decide)) D18 (G13.mono (by decide)) D13 F13 (G22.mono (by decide)) D22 (G26.mono (by decide)) D26 (G24.mono (by decide)) D24 (G23.mono (by decide)) D23 (G14.mono (by decide)) D14 F14 (G25.mono (by decide)) D25 (G11.mono (by decide)) D11 F11
end Fw
end
open PySem PySem.W PyProof.Rows
set_option maxRecDepth 100000 in
set_option maxHeartbeats 0 in
theorem PySem.Challenge.cw_fewestpours_k35_whole_papers_of_asks_holds : PySem.Challenge.rw_fewestpours_k35_whole_papers_of_asks.Holds := by
  w_on; o_law; k_head; (case hw => w_witness2)
  k_fill
  refine Fr.walk_G (l := PySem.Challenge.rw_fewestpours_k35_whole_papers_of_asks) (n := 63) (k := 7) (x := "_law_script") (sp := Fw.sp_law) rfl (by decide) rfl ⟨rfl, by decide, by decide⟩ (fun w h Y => PySem.W.kIn_of Y) ?F (fun _ _ a ns _ hS => ⟨a, ns, rfl, hS, fun _ => rfl⟩)
  case F =>
    intro w mg fa h KX G hmg
    refine' Fw.all_mk KX G hmg ?a1 ?l1 ?c1 ?k1 ?a2 ?l2 ?c2 ?k2 ?a3 ?l3 ?c3 ?k3 ?a4 ?l4 ?c4 ?k4 ?a5 ?l5 ?c5 ?k5 ?a6 ?l6 ?c6 ?k6 ?a7 ?l7 ?c7 ?k7 ?a8 ?l8 ?c8 ?k8 ?a9 ?l9 ?c9 ?k9 ?a10 ?l10 ?c10 ?k10 ?a11 ?l11 ?c11 ?k11 ?a12 ?l12 ?c12 ?k12 ?a13 ?l13 ?c13 ?k13 ?a14 ?l14 ?c14 ?k14 ?a15 ?l15 ?c15 ?k15 ?a16 ?l16 ?c16 ?k16 ?a17 ?l17 ?c17 ?k17 ?a18 ?l18 ?c18 ?k18 ?a19 ?l19 ?c19 ?k19 ?a20 ?l20 ?c20 ?k20 ?a21 ?l21 ?c21 ?k21 ?a22 ?l22 ?c22 ?k22 ?a23 ?l23 ?c23 ?k23 ?a24 ?l24 ?c24 ?k24 ?a25 ?l25 ?c25 ?k25 ?a26 ?l26 ?c26 ?k26 ?a27 ?l27 ?c27 ?k27 ?z1 ?z2 ?z3 ?z4 ?z5 ?z6 ?z7 ?z8 ?z9 ?z10 ?z11 ?z12 ?z13 ?z14 ?z15 ?z16
    (case a1 => k_is); (case l1 => k_is); (case c1 => k_is); (case k1 => k_is)
    (case a2 => k_is); (case l2 => k_is); (case c2 => k_is); (case k2 => k_is)
    (case a3 => k_is); (case l3 => k_is); (case c3 => k_is); (case k3 => k_is)
    (case a4 => k_is); (case l4 => k_is); (case c4 => k_is); (case k4 => k_is)
    (case a5 => k_is); (case l5 => k_is); (case c5 => k_is); (case k5 => k_is)
    (case a6 => k_is); (case l6 => k_is); (case c6 => k_is); (case k6 => k_is)
    (case a7 => k_is); (case l7 => k_is); (case c7 => k_is); (case k7 => k_is)
    (case a8 => k_is); (case l8 => k_is); (case c8 => k_is); (case k8 => k_is)
    (case a9 => k_is); (case l9 => k_is); (case c9 => k_is); (case k9 => k_is)
    (case a10 => k_is); (case l10 => k_is); (case c10 => k_is); (case k10 => k_is)
    (case a11 => k_is); (case l11 => k_is); (case c11 => k_is); (case k11 => k_is)
    (case a12 => k_is); (case l12 => k_is); (case c12 => k_is); (case k12 => k_is)
    (case a13 => k_is); (case l13 => k_is); (case c13 => k_is); (case k13 => k_is)
    (case a14 => k_is); (case l14 => k_is); (case c14 => k_is); (case k14 => k_is)
    (case a15 => k_is); (case l15 => k_is); (case c15 => k_is); (case k15 => k_is)
    (case a16 => k_is); (case l16 => k_is); (case c16 => k_is); (case k16 => k_is)
    (case a17 => k_is); (case l17 => k_is); (case c17 => k_is); (case k17 => k_is)
    (case a18 => k_is); (case l18 => k_is); (case c18 => k_is); (case k18 => k_is)
    (case a19 => k_is); (case l19 => k_is); (case c19 => k_is); (case k19 => k_is)
    (case a20 => k_is); (case l20 => k_is); (case c20 => k_is); (case k20 => k_is)
    (case a21 => k_is); (case l21 => k_is); (case c21 => k_is); (case k21 => k_is)
    (case a22 => k_is); (case l22 => k_is); (case c22 => k_is); (case k22 => k_is)
    (case a23 => k_is); (case l23 => k_is); (case c23 => k_is); (case k23 => k_is)
    (case a24 => k_is); (case l24 => k_is); (case c24 => k_is); (case k24 => k_is)
    (case a25 => k_is); (case l25 => k_is); (case c25 => k_is); (case k25 => k_is)
    (case a26 => k_is); (case l26 => k_is); (case c26 => k_is); (case k26 => k_is)
    (case a27 => k_is); (case l27 => k_is); (case c27 => k_is); (case k27 => k_is)
    (case z1 => k_is); (case z2 => k_is); (case z3 => k_is); (case z4 => k_is); (case z5 => k_is); (case z6 => k_is); (case z7 => k_is); (case z8 => k_is); (case z9 => k_is); (case z10 => k_is); (case z11 => k_is); (case z12 => k_is); (case z13 => k_is); (case z14 => k_is); (case z15 => k_is); (case z16 => k_is)
