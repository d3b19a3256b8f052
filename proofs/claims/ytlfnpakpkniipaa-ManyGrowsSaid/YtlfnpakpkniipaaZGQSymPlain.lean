/- Words for the claim. -/
import Derived.Test.YtlfnpakpkniipaaZGQSymRot
set_option linter.unusedVariables false
set_option linter.unusedSimpArgs false
namespace Go.Proofs.Ytlfnpakpkniipaa.Q
open Go.RowKit Go.Proofs.YtlfnpakpkniipaaW.PrintWords Go.Proofs.YtlfnpakpkniipaaW.PrintLast Go.Proofs.YtlfnpakpkniipaaW.PrintMore
theorem wlt_spec (x y : S49) : wlt x y = true ↔ (x.f2 < y.f2 ∨ x.f2 = y.f2 ∧ x.f3 < y.f3) := by
  unfold wlt
  simp only [Bool.or_eq_true, Bool.and_eq_true, decide_eq_true_eq]
theorem wlt_no (x y : S49) : wlt x y = false ↔ (y.f2 < x.f2 ∨ y.f2 = x.f2 ∧ y.f3 ≤ x.f3) := by
  rw [← Bool.not_eq_true, wlt_spec]
  omega
theorem wlt_le_lt {a b c : S49} (h : wlt b a = false) (k : wlt b c = true) : wlt a c = true := by rw [wlt_no] at h; rw [wlt_spec] at *; omega
theorem wlt_lt_le {a b c : S49} (h : wlt a b = true) (k : wlt c b = false) : wlt a c = true := by rw [wlt_no] at k; rw [wlt_spec] at *; omega
theorem wlt_le_le {a b c : S49} (h : wlt b a = false) (k : wlt c b = false) : wlt c a = false := by rw [wlt_no] at *; omega
theorem wlt_irrefl (a : S49) : wlt a a = false := by rw [wlt_no]; omega
def smerge : List S49 → List S49 → List S49
  | [], v => v
  | x :: u, [] => x :: u
  | x :: u, y :: v => if wlt y x = true then y :: smerge (x :: u) v else x :: smerge u (y :: v)
termination_by u v => u.length + v.length
theorem smerge_nil (u : List S49) : smerge u [] = u := by cases u <;> simp [smerge]
theorem nil_smerge (v : List S49) : smerge [] v = v := by simp [smerge]
theorem smerge_cut (u2 v2 : List S49) : ∀ (n : Nat) (u1 v1 : List S49), u1.length + v1.length ≤ n → (∀ x ∈ u2, ∀ y ∈ v1, wlt y x = true) → (∀ x ∈ u1, ∀ y ∈ v2, wlt y x = false) → smerge (u1 ++ u2) (v1 ++ v2) = smerge u1 v1 ++ smerge u2 v2
  | n, [], [], hn, h1, h2 => by simp [smerge]
  | n, [], y :: v1, hn, h1, h2 => by
    cases n with
    | zero => simp at hn
    | succ n =>
      have ih := smerge_cut u2 v2 n [] v1 (by simp at hn ⊢; omega) (fun x hx z hz => h1 x hx z (by simp [hz])) (by simp)
      rw [List.nil_append] at ih
      rw [List.nil_append, nil_smerge]
      cases u2 with
      | nil => simp [nil_smerge]
      | cons x u2 =>
        rw [List.cons_append, smerge, if_pos (h1 x (by simp) y (by simp)), ih, nil_smerge]
        rfl
  | n, x :: u1, [], hn, h1, h2 => by
    cases n with
    | zero => simp at hn
    | succ n =>
      have ih := smerge_cut u2 v2 n u1 [] (by simp at hn ⊢; omega) (by simp) (fun z hz y hy => h2 z (by simp [hz]) y hy)
      rw [List.nil_append] at ih
      rw [List.nil_append, smerge_nil]
      cases v2 with
      | nil => simp [smerge_nil]
      | cons y v2 =>
        rw [List.cons_append, smerge, if_neg (by rw [h2 x (by simp) y (by simp)]; simp), ih, smerge_nil]
        rfl
  | n, x :: u1, y :: v1, hn, h1, h2 => by
    cases n with
    | zero => simp at hn
    | succ n =>
      have ia := smerge_cut u2 v2 n (x :: u1) v1 (by simp at hn ⊢; omega) (fun z hz a ha => h1 z hz a (by simp [ha])) h2
      have ib := smerge_cut u2 v2 n u1 (y :: v1) (by simp at hn ⊢; omega) h1 (fun z hz a ha => h2 z (by simp [hz]) a ha)
      rw [List.cons_append, List.cons_append, smerge, smerge]
      rw [List.cons_append] at ia ib
      split
      · rw [ia]; rfl
      · rw [ib]; rfl
theorem smerge_one {x : S49} {v1 v2 : List S49} (h1 : ∀ y ∈ v1, wlt y x = true) (h2 : ∀ y ∈ v2, wlt y x = false) : smerge [x] (v1 ++ v2) = v1 ++ x :: v2 := by
  have := smerge_cut [x] v2 _ [] v1 (Nat.le_refl _) (fun z hz y hy => by rw [List.mem_singleton] at hz; subst hz; exact h1 y hy) (by simp)
  rw [List.nil_append, nil_smerge] at this
  rw [this]
  cases v2 with
  | nil => rw [smerge_nil]
  | cons y v2 => rw [smerge, if_neg (by rw [h2 y (by simp)]; simp), nil_smerge]
theorem smerge_last {y : S49} {u1 u2 : List S49} (h1 : ∀ x ∈ u1, wlt y x = false) (h2 : ∀ x ∈ u2, wlt y x = true) : smerge (u1 ++ u2) [y] = u1 ++ y :: u2 := by
  have := smerge_cut u2 [y] _ u1 [] (Nat.le_refl _) (by simp) (fun x hx z hz => by rw [List.mem_singleton] at hz; subst hz; exact h1 x hx)
  rw [List.nil_append, smerge_nil] at this
  rw [this]
  cases u2 with
  | nil => rw [nil_smerge]
  | cons x u2 => rw [smerge, if_pos (h2 x (by simp)), smerge_nil]
theorem smerge_length : ∀ (n : Nat) (u v : List S49), u.length + v.length ≤ n → (smerge u v).length = u.length + v.length
  | n, [], v, h => by simp [smerge]
  | n, x :: u, [], h => by simp [smerge]
  | 0, x :: u, y :: v, h => by simp at h
  | n + 1, x :: u, y :: v, h => by
    rw [smerge]
    split
    · rw [List.length_cons, smerge_length n (x :: u) v (by simp at h ⊢; omega)]; simp; omega
    · rw [List.length_cons, smerge_length n u (y :: v) (by simp at h ⊢; omega)]; simp; omega
def Asc (l : List S49) : Prop := ∀ i j, i < j → j < l.length → wlt (wat l j) (wat l i) = false
theorem mem_wat {l : List S49} {x : S49} (h : x ∈ l) : ∃ i, i < l.length ∧ wat l i = x := by
  obtain ⟨i, hi, he⟩ := List.mem_iff_getElem.1 h
  refine ⟨i, hi, ?_⟩
  unfold wat
  rw [List.getD_eq_getElem?_getD, List.getElem?_eq_getElem hi, ← he]
  rfl
theorem wat_app_left {l k : List S49} {i : Nat} (h : i < l.length) : wat (l ++ k) i = wat l i := by
  unfold wat
  rw [List.getD_eq_getElem?_getD, List.getD_eq_getElem?_getD, List.getElem?_append_left h]
theorem wat_app_right {l k : List S49} {i : Nat} : wat (l ++ k) (l.length + i) = wat k i := by
  unfold wat
  rw [List.getD_eq_getElem?_getD, List.getD_eq_getElem?_getD, List.getElem?_append_right (Nat.le_add_right _ _), Nat.add_sub_cancel_left]
theorem wat_take {l : List S49} {i n : Nat} (h : i < n) : wat (l.take n) i = wat l i := by
  unfold wat
  rw [List.getD_eq_getElem?_getD, List.getD_eq_getElem?_getD, List.getElem?_take_of_lt h]
theorem wat_drop {l : List S49} {i n : Nat} : wat (l.drop n) i = wat l (n + i) := by
  unfold wat
  rw [List.getD_eq_getElem?_getD, List.getD_eq_getElem?_getD, List.getElem?_drop]
theorem Asc.take {l : List S49} (h : Asc l) (n : Nat) : Asc (l.take n) := fun i j hij hj => by
  have hj' : j < n ∧ j < l.length := by rw [List.length_take] at hj; omega
  rw [wat_take hj'.1, wat_take (by omega)]
  exact h i j hij hj'.2
theorem Asc.drop {l : List S49} (h : Asc l) (n : Nat) : Asc (l.drop n) := fun i j hij hj => by
  rw [wat_drop, wat_drop]
  rw [List.length_drop] at hj
  exact h _ _ (by omega) (by omega)
theorem Asc.le {l : List S49} (h : Asc l) {i j : Nat} (hij : i ≤ j) (hj : j < l.length) : wlt (wat l j) (wat l i) = false := by
  rcases Nat.lt_or_ge i j with k | k
  · exact h i j k hj
  · obtain rfl : i = j := by omega
    exact wlt_irrefl _
theorem cut_ok {U V : List S49} (hU : Asc U) (hV : Asc V) {s t : Nat} (hs : s ≤ U.length) (ht : t ≤ V.length)
    (h1 : s < U.length → 0 < t → wlt (wat V (t - 1)) (wat U s) = true) (h2 : 0 < s → t < V.length → wlt (wat V t) (wat U (s - 1)) = false) :
    smerge U V = smerge (U.take s) (V.take t) ++ smerge (U.drop s) (V.drop t) := by
  have := smerge_cut (U.drop s) (V.drop t) _ (U.take s) (V.take t) (Nat.le_refl _) ?_ ?_
  · rw [List.take_append_drop, List.take_append_drop] at this
    exact this
  · intro x hx y hy
    obtain ⟨i, hi, rfl⟩ := mem_wat hx
    obtain ⟨j, hj, rfl⟩ := mem_wat hy
    rw [List.length_drop] at hi
    rw [List.length_take] at hj
    rw [wat_drop, wat_take (by omega)]
    exact wlt_lt_le (wlt_le_lt (hV.le (show j ≤ t - 1 by omega) (by omega)) (h1 (by omega) (by omega))) (hU.le (Nat.le_add_right s i) (by omega))
  · intro x hx y hy
    obtain ⟨i, hi, rfl⟩ := mem_wat hx
    obtain ⟨j, hj, rfl⟩ := mem_wat hy
    rw [List.length_take] at hi
    rw [List.length_drop] at hj
    rw [wat_take (by omega), wat_drop]
    exact wlt_le_le (wlt_le_le (hU.le (show i ≤ s - 1 by omega) (by omega)) (h2 (by omega) (by omega))) (hV.le (Nat.le_add_right t j) (by omega))
theorem one_ok {x : S49} {V : List S49} {t : Nat} (ht : t ≤ V.length) (h1 : ∀ i, i < t → wlt (wat V i) x = true) (h2 : ∀ i, t ≤ i → i < V.length → wlt (wat V i) x = false) : smerge [x] V = V.take t ++ x :: V.drop t := by
  have := smerge_one (x := x) (v1 := V.take t) (v2 := V.drop t) ?_ ?_
  · rw [List.take_append_drop] at this; exact this
  · intro y hy
    obtain ⟨j, hj, rfl⟩ := mem_wat hy
    rw [List.length_take] at hj
    rw [wat_take (by omega)]
    exact h1 j (by omega)
  · intro y hy
    obtain ⟨j, hj, rfl⟩ := mem_wat hy
    rw [List.length_drop] at hj
    rw [wat_drop]
    exact h2 _ (by omega) (by omega)
theorem last_ok {y : S49} {U : List S49} {t : Nat} (ht : t ≤ U.length) (h1 : ∀ i, i < t → wlt y (wat U i) = false) (h2 : ∀ i, t ≤ i → i < U.length → wlt y (wat U i) = true) : smerge U [y] = U.take t ++ y :: U.drop t := by
  have := smerge_last (y := y) (u1 := U.take t) (u2 := U.drop t) ?_ ?_
  · rw [List.take_append_drop] at this; exact this
  · intro x hx
    obtain ⟨j, hj, rfl⟩ := mem_wat hx
    rw [List.length_take] at hj
    rw [wat_take (by omega)]
    exact h1 j (by omega)
  · intro x hx
    obtain ⟨j, hj, rfl⟩ := mem_wat hx
    rw [List.length_drop] at hj
    rw [wat_drop]
    exact h2 _ (by omega) (by omega)
end Go.Proofs.Ytlfnpakpkniipaa.Q
