/- Words for the claim. -/
import Derived.Test.YtlfnpakpkniipaaZGQSymSwap
set_option linter.unusedVariables false
set_option linter.unusedSimpArgs false
namespace Go.Proofs.Ytlfnpakpkniipaa.Q
open Go.RowKit Go.Proofs.YtlfnpakpkniipaaW.PrintWords Go.Proofs.YtlfnpakpkniipaaW.PrintLast Go.Proofs.YtlfnpakpkniipaaW.PrintMore
attribute [local go_sem] max2_int min2_int max_two min_two max_three min_three max_four min_four
theorem wn {x : Int} {y : Nat} (h : x = (y : Int)) (hy : y ≤ 9000000) : wrap64 x = (y : Int) := by
  rw [h]
  exact Go.IntWalk.wrap64_in _ ⟨by omega, by omega⟩
theorem sub_nat {i j : Nat} (h : j ≤ i) : (i : Int) - (j : Int) = ((i - j : Nat) : Int) := by omega
theorem rot_aux {pl i j m : Nat} (h : pl + i = m) (hij : i ≤ j) : ((m + j : Nat) : Int) - (i : Int) = ((pl + i + (j - i) : Nat) : Int) := by omega
theorem rot_le {pl i j m n : Nat} (h : pl + i = m) (hij : i ≤ j) (hn : m + j ≤ n) (hn6 : n ≤ 1000000) : pl + i + (j - i) ≤ 9000000 := by omega
theorem le_nine {i m n j : Nat} (h : i ≤ m) (hn : m + j ≤ n) (hn6 : n ≤ 1000000) : i ≤ 9000000 ∧ j ≤ 9000000 ∧ m + j ≤ 9000000 := by omega
set_option maxHeartbeats 8000000 in
set_option maxRecDepth 100000 in
theorem rotate_calls {base g cap : Nat} {ok : Nat → Prop} (P A B S : List S49) (hA : A ≠ []) (hB : B ≠ []) (w : World) (n : Nat) (hn : n = (P ++ A ++ B ++ S).length) (hn6 : n ≤ 1000000) (hR : Kd.R k49 49 w base ok (.slice (some ⟨g, 0, none⟩) n cap) (P ++ A ++ B ++ S)) (fv : Value) :
    Calls Try.prog 61 #[.slice (some ⟨g, 0, none⟩) n cap, .int .i64 (P.length : Nat), .int .i64 ((P.length + A.length : Nat) : Int), .int .i64 ((P.length + A.length + B.length : Nat) : Int), fv] w fun ex w' => ex = .returned (.tuple #[]) ∧ Kd.R k49 49 w' base ok (.slice (some ⟨g, 0, none⟩) n cap) (P ++ B ++ A ++ S) ∧ w.grownBy w' (some g) := by
  have hla : 0 < A.length := by cases A with | nil => exact absurd rfl hA | cons => simp
  have hlb : 0 < B.length := by cases B with | nil => exact absurd rfl hB | cons => simp
  have hl : P.length + A.length + B.length ≤ n := by rw [hn]; simp; omega
  have hlen : (P ++ B ++ A ++ S).length = n := by rw [hn]; simp; omega
  have HR0 := Aside0.mk hR
  have HG0 := Aside0.mk (grown_of_below (Below.refl w.heap.size w) (some g))
  clear hR hA hB
  obtain ⟨T, hT⟩ : ∃ T, P ++ B ++ A ++ S = T := ⟨_, rfl⟩
  obtain ⟨a, ha⟩ : ∃ a, P.length = a := ⟨_, rfl⟩
  obtain ⟨m, hm⟩ : ∃ m, P.length + A.length = m := ⟨_, rfl⟩
  obtain ⟨e, he⟩ : ∃ e, P.length + A.length + B.length = e := ⟨_, rfl⟩
  obtain ⟨i0, hi0⟩ : ∃ i, A.length = i := ⟨_, rfl⟩
  obtain ⟨j0, hj0⟩ : ∃ j, B.length = j := ⟨_, rfl⟩
  rw [hT] at hlen
  rw [he, hm, ha, hT]
  have w1 : wrap64 ((m : Int) - (a : Int)) = (i0 : Int) := by rw [Go.IntWalk.wrap64_in _ ⟨by omega, by omega⟩]; omega
  have w2 : wrap64 ((e : Int) - (m : Int)) = (j0 : Int) := by rw [Go.IntWalk.wrap64_in _ ⟨by omega, by omega⟩]; omega
  have START : Aside0 (∃ P1 A1 B1 S1 : List S49, P ++ A ++ B ++ S = P1 ++ A1 ++ B1 ++ S1 ∧ A1.length = i0 ∧ B1.length = j0 ∧ P1.length + A1.length = m ∧ P1 ++ B1 ++ A1 ++ S1 = T) := ⟨P, A, B, S, rfl, hi0, hj0, hm, hT⟩
  have HN := Aside0.mk hn
  have HL := Aside0.mk hlen
  have hi : 0 < i0 := by omega
  have hj : 0 < j0 := by omega
  have hme : m + j0 ≤ n := by omega
  have him : i0 ≤ m := by omega
  clear ha hm he hi0 hj0 hT hn hlen hla hlb hl
  go_enter Try.func61, Try.ntmps61
  go_wp2
  go_loopg [10, 11] (i0 + j0) (fun g1 vi vj wr => ∃ (i j : Nat) (ys : List S49), vi = .int .i64 (i : Int) ∧ vj = .int .i64 (j : Int) ∧ Aside0 (i + j = g1 ∧ 0 < i ∧ 0 < j ∧ i ≤ m ∧ m + j ≤ n) ∧ Aside0 (ys.length = n) ∧ Aside0 (∃ P1 A1 B1 S1 : List S49, ys = P1 ++ A1 ++ B1 ++ S1 ∧ A1.length = i ∧ B1.length = j ∧ P1.length + A1.length = m ∧ P1 ++ B1 ++ A1 ++ S1 = T) ∧ Aside0 (Kd.R k49 49 wr base ok (.slice (some ⟨g, 0, none⟩) n cap) ys) ∧ Aside0 (w.grownBy wr (some g)))
  case atStart => exact ⟨i0, j0, _, by first | rfl | (rw [w1]), by first | rfl | (rw [w2]), ⟨rfl, hi, hj, him, hme⟩, ⟨HN.out.symm⟩, START, HR0, HG0⟩
  case round =>
    clear HR0 HG0 START HN w1 w2 hi hj hme him
    obtain ⟨i, j, ys, rfl, rfl, HI, HY, HS, HR, HG⟩ := hrel
    obtain ⟨P1, A1, B1, S1, rfl, hA1, hB1, hPm, hTT⟩ := HS.out
    have hi0 := HI.out.2.1
    have hj0 := HI.out.2.2.1
    have him := HI.out.2.2.2.1
    have hmj := HI.out.2.2.2.2
    obtain ⟨pl, hpl⟩ : ∃ pl, P1.length = pl := ⟨_, rfl⟩
    have nine := le_nine him hmj hn6
    have hpi : pl + i = m := by rw [← hpl, ← hA1]; exact hPm
    have q1 : wrap64 ((m : Int) - (i : Int)) = (pl : Int) := wn (by rw [← hpi]; omega) (by rw [← hpi] at him hmj; omega)
    have q4 : wrap64 ((m : Int) + (j : Int)) = ((m + j : Nat) : Int) := wn rfl nine.2.2
    have HA1 := Aside0.mk hA1
    have HB1 := Aside0.mk hB1
    have HPM := Aside0.mk hPm
    have HTT := Aside0.mk hTT
    have HPL := Aside0.mk hpl
    by_cases hij : i = j
    · subst hij
      have hc := swap_calls P1 A1 [] B1 S1 (by omega) (by omega) wr n (by rw [List.append_nil]; exact HY.out.symm) hn6 (by rw [List.append_nil]; exact HR.out) fv
      rw [List.length_nil, Nat.add_zero, hPm, hpl, hA1, List.append_nil, hTT] at hc
      have HC := Aside0.mk hc
      clear hc hA1 hB1 hPm hTT hpl hi0 hj0 him hmj q4 nine hpi
      go_wp2_with (go_at_call 62; refine HC.out.mono ?_; rintro ex w5 ⟨rfl, hr⟩)
      go_end0
      exact ⟨rfl, hr.1, grown_trans HG.out hr.2⟩
    · have hd : ((i : Int) != (j : Int)) = true := by rw [bne_iff_ne]; omega
      have hd2 : ((i : Int) == (j : Int)) = false := by rw [beq_eq_false_iff_ne]; omega
      by_cases hgt : j < i
      · have hd3 : decide ((i : Int) > (j : Int)) = true := decide_eq_true (Int.ofNat_lt.2 hgt)
        have q2 : wrap64 ((i : Int) - (j : Int)) = ((i - j : Nat) : Int) := wn (sub_nat (Nat.le_of_lt hgt)) (Nat.le_trans (Nat.sub_le _ _) nine.1)
        have hd4 : (j < i) = True := eq_true hgt
        have hsplit : A1 = A1.take j ++ A1.drop j := (List.take_append_drop j A1).symm
        have l1 : (A1.take j).length = j := List.length_take_of_le (by rw [hA1]; exact Nat.le_of_lt hgt)
        have l2 : (A1.drop j).length = i - j := by rw [List.length_drop, hA1]
        have hc := swap_calls P1 (A1.take j) (A1.drop j) B1 S1 (by rw [l1, hB1]) (by rw [l1]; exact hj0) wr n (by rw [List.append_assoc P1, List.take_append_drop]; exact HY.out.symm) hn6 (by rw [List.append_assoc P1, List.take_append_drop]; exact HR.out) fv
        rw [l1, l2, hpl] at hc
        have e1 : pl + j + (i - j) = m := by rw [Nat.add_assoc, Nat.add_sub_cancel' (Nat.le_of_lt hgt)]; exact hpi
        rw [e1] at hc
        have HC := Aside0.mk hc
        have NEXT : Aside0 (∃ P2 A2 B2 S2 : List S49, P1 ++ B1 ++ A1.drop j ++ A1.take j ++ S1 = P2 ++ A2 ++ B2 ++ S2 ∧ A2.length = i - j ∧ B2.length = j ∧ P2.length + A2.length = m ∧ P2 ++ B2 ++ A2 ++ S2 = T) := ⟨P1 ++ B1, A1.drop j, A1.take j, S1, by simp, l2, l1, by rw [List.length_append, l2, hpl, hB1]; exact e1, by
          rw [← hTT]
          conv => rhs; rw [hsplit]
          simp⟩
        have HGT := Aside0.mk hgt
        have HIJ := Aside0.mk hij
        clear hc hA1 hB1 hPm hTT hpl hsplit l1 l2 hi0 hj0 him hmj hgt hij nine hpi e1
        go_wp2_with (go_at_call 62; refine HC.out.mono ?_; rintro ex w5 ⟨rfl, hr⟩)
        go_roundg i
        case measure => have := HI.out; have := HGT.out; have := HIJ.out; omega
        case rel => exact ⟨i - j, j, _, by first | rfl | (congr 1; omega) | (simp; omega), rfl, ⟨by have := HI.out; have := HGT.out; have := HIJ.out; omega, by have := HI.out; have := HGT.out; have := HIJ.out; omega, by have := HI.out; have := HGT.out; have := HIJ.out; omega, by have := HI.out; have := HGT.out; have := HIJ.out; omega, by have := HI.out; have := HGT.out; have := HIJ.out; omega⟩, ⟨by have := HY.out; simp at this ⊢; omega⟩, NEXT, ⟨hr.1⟩, ⟨grown_trans HG.out hr.2⟩⟩
      · have hd3 : decide ((i : Int) > (j : Int)) = false := decide_eq_false (fun h => hgt (Int.ofNat_lt.1 h))
        have q3 : wrap64 ((j : Int) - (i : Int)) = ((j - i : Nat) : Int) := wn (sub_nat (Nat.le_of_not_lt hgt)) (Nat.le_trans (Nat.sub_le _ _) nine.2.1)
        have hd4 : (j < i) = False := eq_false hgt
        have hsplit : B1 = B1.take (j - i) ++ B1.drop (j - i) := (List.take_append_drop (j - i) B1).symm
        have l1 : (B1.take (j - i)).length = j - i := List.length_take_of_le (by rw [hB1]; exact Nat.sub_le _ _)
        have l2 : (B1.drop (j - i)).length = i := by rw [List.length_drop, hB1]; exact Nat.sub_sub_self (Nat.le_of_not_lt hgt)
        have q5 : wrap64 ((m : Int) + (j : Int) - (i : Int)) = ((pl + i + (j - i) : Nat) : Int) := wn (rot_aux hpi (Nat.le_of_not_lt hgt)) (rot_le hpi (Nat.le_of_not_lt hgt) hmj hn6)
        have hc := swap_calls P1 A1 (B1.take (j - i)) (B1.drop (j - i)) S1 (by rw [l2, hA1]) (by rw [hA1]; exact hi0) wr n (by rw [List.append_assoc (P1 ++ A1), List.take_append_drop]; exact HY.out.symm) hn6 (by rw [List.append_assoc (P1 ++ A1), List.take_append_drop]; exact HR.out) fv
        rw [l1, hpl, hA1] at hc
        obtain ⟨z, hz⟩ : ∃ z, pl + i + (j - i) = z := ⟨_, rfl⟩
        rw [hz] at hc q5
        clear hz
        have HC := Aside0.mk hc
        have NEXT : Aside0 (∃ P2 A2 B2 S2 : List S49, P1 ++ B1.drop (j - i) ++ B1.take (j - i) ++ A1 ++ S1 = P2 ++ A2 ++ B2 ++ S2 ∧ A2.length = i ∧ B2.length = j - i ∧ P2.length + A2.length = m ∧ P2 ++ B2 ++ A2 ++ S2 = T) := ⟨P1, B1.drop (j - i), B1.take (j - i), A1 ++ S1, by simp, l2, l1, by rw [l2, hpl]; exact hpi, by
          rw [← hTT]
          conv => rhs; rw [hsplit]
          simp⟩
        have HGT := Aside0.mk hgt
        have HIJ := Aside0.mk hij
        clear hc hA1 hB1 hPm hTT hpl hsplit l1 l2 hi0 hj0 him hmj hgt hij nine hpi
        go_wp2_with (go_at_call 62; refine HC.out.mono ?_; rintro ex w5 ⟨rfl, hr⟩)
        go_roundg j
        case measure => have := HI.out; have := HGT.out; have := HIJ.out; omega
        case rel => exact ⟨i, j - i, _, rfl, by first | rfl | (congr 1; omega) | (simp; omega), ⟨by have := HI.out; have := HGT.out; have := HIJ.out; omega, by have := HI.out; have := HGT.out; have := HIJ.out; omega, by have := HI.out; have := HGT.out; have := HIJ.out; omega, by have := HI.out; have := HGT.out; have := HIJ.out; omega, by have := HI.out; have := HGT.out; have := HIJ.out; omega⟩, ⟨by have := HY.out; simp at this ⊢; omega⟩, NEXT, ⟨hr.1⟩, ⟨grown_trans HG.out hr.2⟩⟩
end Go.Proofs.Ytlfnpakpkniipaa.Q
