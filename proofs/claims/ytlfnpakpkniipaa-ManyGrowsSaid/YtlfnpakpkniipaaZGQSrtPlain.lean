/- Words for the claim. -/
import Derived.Test.YtlfnpakpkniipaaZGQSymPlain
set_option linter.unusedVariables false
set_option linter.unusedSimpArgs false
namespace Go.Proofs.Ytlfnpakpkniipaa.Q
open Go.RowKit Go.Proofs.YtlfnpakpkniipaaW.PrintWords Go.Proofs.YtlfnpakpkniipaaW.PrintLast Go.Proofs.YtlfnpakpkniipaaW.PrintMore
def insR (x : S49) : List S49 → List S49
  | [] => [x]
  | y :: ys => if wlt x y = true then y :: insR x ys else x :: y :: ys
def srt (xs : List S49) : List S49 := (xs.foldl (fun R x => insR x R) []).reverse
theorem insR_length (x : S49) : ∀ R, (insR x R).length = R.length + 1
  | [] => rfl
  | y :: ys => by
    unfold insR
    split
    · simp [insR_length x ys]
    · simp
theorem foldR_length : ∀ (ys R : List S49), (ys.foldl (fun R x => insR x R) R).length = R.length + ys.length
  | [], R => by simp
  | y :: ys, R => by rw [List.foldl_cons, foldR_length ys, insR_length, List.length_cons]; omega
theorem srt_length (xs : List S49) : (srt xs).length = xs.length := by unfold srt; rw [List.length_reverse, foldR_length]; simp
theorem set_mid {α : Type} (P : List α) (l : List α) (i : Nat) (a : α) : (P ++ l).set (P.length + i) a = P ++ l.set i a := by simp [List.set_append]
theorem insIn_pre (P : List S49) (x : S49) : ∀ (R rest : List S49), insIn P.length (P.length + R.length) (P ++ (R.reverse ++ x :: rest)) = P ++ ((insR x R).reverse ++ rest)
  | [], rest => by
    show insIn P.length P.length (P ++ x :: rest) = P ++ x :: rest
    generalize P.length = n
    cases n with
    | zero => rfl
    | succ p => rw [insIn, if_neg (by omega)]
  | y :: R, rest => by
    have e : P ++ ((y :: R).reverse ++ x :: rest) = P ++ (R.reverse ++ y :: x :: rest) := by simp
    have hl : P.length + R.length = (P ++ R.reverse).length := by simp
    have h0 : wat (P ++ (R.reverse ++ y :: x :: rest)) (P.length + R.length) = y := by
      have := wat_app_right (l := P ++ R.reverse) (k := y :: x :: rest) (i := 0)
      rw [hl, ← List.append_assoc]
      exact this
    have h1 : wat (P ++ (R.reverse ++ y :: x :: rest)) (P.length + R.length + 1) = x := by
      have := wat_app_right (l := P ++ R.reverse) (k := y :: x :: rest) (i := 1)
      rw [hl, ← List.append_assoc]
      exact this
    rw [e, List.length_cons, ← Nat.add_assoc, insIn, h0, h1, insR]
    by_cases hw : wlt x y = true
    · rw [if_pos ⟨Nat.le_add_right _ _, hw⟩, if_pos hw]
      have hs : wswap (P ++ (R.reverse ++ y :: x :: rest)) (P.length + R.length) = P ++ (R.reverse ++ x :: y :: rest) := by
        unfold wswap
        rw [h0, h1, ← List.append_assoc, ← List.append_assoc]
        have h2 := set_mid (P ++ R.reverse) (y :: x :: rest) 1 y
        rw [List.length_append, List.length_reverse] at h2
        rw [h2]
        have h3 := set_mid (P ++ R.reverse) ((y :: x :: rest).set 1 y) 0 x
        rw [List.length_append, List.length_reverse, Nat.add_zero] at h3
        rw [h3]
        rfl
      rw [hs, insIn_pre P x R (y :: rest)]
      simp
    · rw [if_neg (fun h => hw h.2), if_neg hw]
      simp
theorem insOut_pre (P B : List S49) : ∀ (ys R : List S49), insOut P.length ys.length (P.length + R.length) (P ++ (R.reverse ++ (ys ++ B))) = P ++ ((ys.foldl (fun R x => insR x R) R).reverse ++ B)
  | [], R => by simp [insOut]
  | y :: ys, R => by
    rw [List.length_cons, insOut, List.cons_append, insIn_pre, List.foldl_cons, ← insOut_pre P B ys (insR y R), insR_length, Nat.add_assoc]
theorem isort_pre (P xs B : List S49) : isort P.length (P.length + xs.length) (P ++ (xs ++ B)) = P ++ (srt xs ++ B) := by
  unfold isort srt
  cases xs with
  | nil =>
    rw [show P.length + ([] : List S49).length - (P.length + 1) = 0 by simp]
    rfl
  | cons x xs =>
    have := insOut_pre P B xs [x]
    rw [show P.length + (x :: xs).length - (P.length + 1) = xs.length by simp; omega]
    simpa [insR] using this
theorem isort_srt (xs : List S49) : isort 0 xs.length xs = srt xs := by
  have := isort_pre [] xs []
  simpa using this
def Dsc (R : List S49) : Prop := R.Pairwise (fun y z => wlt y z = false)
theorem wlt_asym {a b : S49} (h : wlt a b = true) : wlt b a = false := by rw [wlt_no]; rw [wlt_spec] at h; omega
theorem mem_insR {x z : S49} : ∀ {R : List S49}, z ∈ insR x R ↔ z = x ∨ z ∈ R
  | [] => by simp [insR]
  | y :: ys => by
    unfold insR
    split
    · rw [List.mem_cons, mem_insR (R := ys), List.mem_cons]
      constructor
      · rintro (h | h | h)
        · exact .inr (.inl h)
        · exact .inl h
        · exact .inr (.inr h)
      · rintro (h | h | h)
        · exact .inr (.inl h)
        · exact .inl h
        · exact .inr (.inr h)
    · rw [List.mem_cons]
theorem insR_dsc (x : S49) : ∀ R : List S49, Dsc R → Dsc (insR x R)
  | [], h => by unfold Dsc insR; simp
  | y :: ys, h => by
    unfold Dsc at h
    rw [List.pairwise_cons] at h
    unfold insR
    by_cases hw : wlt x y = true
    · rw [if_pos hw]
      unfold Dsc
      rw [List.pairwise_cons]
      refine ⟨fun z hz => ?_, insR_dsc x ys h.2⟩
      rcases mem_insR.1 hz with rfl | hz
      · exact wlt_asym hw
      · exact h.1 z hz
    · rw [if_neg hw]
      rw [Bool.not_eq_true] at hw
      unfold Dsc
      rw [List.pairwise_cons]
      refine ⟨fun z hz => ?_, List.pairwise_cons.2 h⟩
      rcases List.mem_cons.1 hz with rfl | hz
      · exact hw
      · exact wlt_le_le (h.1 z hz) hw
theorem foldR_dsc : ∀ ys R : List S49, Dsc R → Dsc (ys.foldl (fun R x => insR x R) R)
  | [], R, h => h
  | y :: ys, R, h => foldR_dsc ys _ (insR_dsc y R h)
theorem srt_dsc (xs : List S49) : Dsc (srt xs).reverse := by
  unfold srt
  rw [List.reverse_reverse]
  exact foldR_dsc xs [] List.Pairwise.nil
theorem asc_of {l : List S49} (h : Dsc l.reverse) : Asc l := by
  unfold Dsc at h
  rw [List.pairwise_reverse, List.pairwise_iff_getElem] at h
  intro i j hij hj
  have := h i j (by omega) hj hij
  unfold wat
  rw [List.getD_eq_getElem?_getD, List.getD_eq_getElem?_getD, List.getElem?_eq_getElem hj, List.getElem?_eq_getElem (show i < l.length by omega)]
  exact this
theorem srt_Asc (xs : List S49) : Asc (srt xs) := asc_of (srt_dsc xs)
def ins (x : S49) (V : List S49) : List S49 := (insR x V.reverse).reverse
theorem srt_snoc (xs : List S49) (x : S49) : srt (xs ++ [x]) = ins x (srt xs) := by
  unfold srt ins
  rw [List.foldl_append, List.reverse_reverse]
  rfl
theorem insR_app {x : S49} {B : List S49} (hB : ∀ y ∈ B, wlt x y = false) : ∀ A : List S49, (∀ y ∈ A, wlt x y = true) → insR x (A ++ B) = A ++ x :: B
  | [], h => by
    cases B with
    | nil => rfl
    | cons y B => rw [List.nil_append, insR, if_neg (by rw [hB y (by simp)]; simp)]; rfl
  | y :: A, h => by rw [List.cons_append, insR, if_pos (h y (by simp)), insR_app hB A (fun z hz => h z (by simp [hz]))]; rfl
theorem ins_app {x : S49} {V1 V2 : List S49} (h1 : ∀ y ∈ V1, wlt x y = false) (h2 : ∀ y ∈ V2, wlt x y = true) : ins x (V1 ++ V2) = V1 ++ x :: V2 := by
  unfold ins
  rw [List.reverse_append, insR_app (fun y hy => h1 y (List.mem_reverse.1 hy)) _ (fun y hy => h2 y (List.mem_reverse.1 hy))]
  simp
theorem dsc_split (x : S49) : ∀ R : List S49, Dsc R → ∃ A B, R = A ++ B ∧ (∀ y ∈ A, wlt x y = true) ∧ ∀ y ∈ B, wlt x y = false
  | [], h => ⟨[], [], rfl, by simp, by simp⟩
  | y :: ys, h => by
    unfold Dsc at h
    rw [List.pairwise_cons] at h
    by_cases hw : wlt x y = true
    · obtain ⟨A, B, e, hA, hB⟩ := dsc_split x ys h.2
      refine ⟨y :: A, B, by rw [e]; rfl, fun z hz => ?_, hB⟩
      rcases List.mem_cons.1 hz with rfl | hz
      · exact hw
      · exact hA z hz
    · rw [Bool.not_eq_true] at hw
      refine ⟨[], y :: ys, rfl, by simp, fun z hz => ?_⟩
      rcases List.mem_cons.1 hz with rfl | hz
      · exact hw
      · exact wlt_le_le (h.1 z hz) hw
theorem asc_split (x : S49) {V : List S49} (h : Dsc V.reverse) : ∃ V1 V2, V = V1 ++ V2 ∧ (∀ y ∈ V1, wlt x y = false) ∧ ∀ y ∈ V2, wlt x y = true := by
  obtain ⟨A, B, e, hA, hB⟩ := dsc_split x _ h
  refine ⟨B.reverse, A.reverse, ?_, fun y hy => hB y (List.mem_reverse.1 hy), fun y hy => hA y (List.mem_reverse.1 hy)⟩
  rw [← List.reverse_append, ← e, List.reverse_reverse]
theorem mem_smerge {z : S49} : ∀ (n : Nat) (u v : List S49), u.length + v.length ≤ n → z ∈ smerge u v → z ∈ u ∨ z ∈ v
  | n, [], v, h, hz => by rw [nil_smerge] at hz; exact .inr hz
  | n, x :: u, [], h, hz => by rw [smerge_nil] at hz; exact .inl hz
  | 0, x :: u, y :: v, h, hz => by simp at h
  | n + 1, x :: u, y :: v, h, hz => by
    rw [smerge] at hz
    split at hz
    · rcases List.mem_cons.1 hz with rfl | hz
      · exact .inr (by simp)
      · rcases mem_smerge n (x :: u) v (by simp at h ⊢; omega) hz with h | h
        · exact .inl h
        · exact .inr (by simp [h])
    · rcases List.mem_cons.1 hz with rfl | hz
      · exact .inl (by simp)
      · rcases mem_smerge n u (y :: v) (by simp at h ⊢; omega) hz with h | h
        · exact .inl (by simp [h])
        · exact .inr h
theorem smerge_ins (x : S49) {U V : List S49} (hU : Dsc U.reverse) (hV : Dsc V.reverse) : smerge U (ins x V) = ins x (smerge U V) := by
  obtain ⟨U1, U2, rfl, u1, u2⟩ := asc_split x hU
  obtain ⟨V1, V2, rfl, v1, v2⟩ := asc_split x hV
  rw [ins_app v1 v2]
  have a : smerge (U1 ++ U2) (V1 ++ V2) = smerge U1 V1 ++ smerge U2 V2 := smerge_cut U2 V2 _ U1 V1 (Nat.le_refl _) (fun u hu v hv => wlt_le_lt (v1 v hv) (u2 u hu)) (fun u hu v hv => by
    have := wlt_le_lt (u1 u hu) (v2 v hv)
    exact wlt_asym this)
  have b : smerge (U1 ++ U2) (V1 ++ [x] ++ V2) = smerge U1 (V1 ++ [x]) ++ smerge U2 V2 := smerge_cut U2 V2 _ U1 (V1 ++ [x]) (Nat.le_refl _) (fun u hu v hv => by
    rcases List.mem_append.1 hv with hv | hv
    · exact wlt_le_lt (v1 v hv) (u2 u hu)
    · rw [List.mem_singleton] at hv; rw [hv]; exact u2 u hu) (fun u hu v hv => by
    have := wlt_le_lt (u1 u hu) (v2 v hv)
    exact wlt_asym this)
  have c : smerge (U1 ++ []) (V1 ++ [x]) = smerge U1 V1 ++ smerge [] [x] := smerge_cut [] [x] _ U1 V1 (Nat.le_refl _) (by simp) (fun u hu v hv => by
    rw [List.mem_singleton] at hv; rw [hv]; exact u1 u hu)
  rw [List.append_nil, nil_smerge] at c
  have e : V1 ++ x :: V2 = V1 ++ [x] ++ V2 := by simp
  rw [e, b, c, a, ins_app (fun y hy => ?_) (fun y hy => ?_)]
  · simp
  · rcases mem_smerge _ _ _ (Nat.le_refl _) hy with h | h
    · exact u1 y h
    · exact v1 y h
  · rcases mem_smerge _ _ _ (Nat.le_refl _) hy with h | h
    · exact u2 y h
    · exact v2 y h
theorem smerge_srt' (A : List S49) : ∀ R : List S49, smerge (srt A) (srt R.reverse) = srt (A ++ R.reverse)
  | [] => by simp [srt, smerge_nil]
  | x :: R => by
    rw [List.reverse_cons, srt_snoc, ← List.append_assoc, srt_snoc, ← smerge_srt' A R, smerge_ins x (srt_dsc A) (srt_dsc _)]
theorem smerge_srt (A B : List S49) : smerge (srt A) (srt B) = srt (A ++ B) := by
  have := smerge_srt' A B.reverse
  rwa [List.reverse_reverse] at this
end Go.Proofs.Ytlfnpakpkniipaa.Q
