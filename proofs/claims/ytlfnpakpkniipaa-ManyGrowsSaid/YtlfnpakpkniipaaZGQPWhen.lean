/- Words for the claim. -/
import Derived.IntWalk
import Derived.Test.YtlfnpakpkniipaaZGQPBase
import Derived.Test.YtlfnpakpkniipaaZGQx2
import Derived.Test.YtlfnpakpkniipaaZGQx11
import Derived.Test.YtlfnpakpkniipaaZGQx12
set_option linter.unusedVariables false
set_option linter.unusedSimpArgs false
namespace Go.Proofs.Ytlfnpakpkniipaa.Q
open Go.RowKit Go.IntWalk Go.Proofs.YtlfnpakpkniipaaW.PrintWords Go.Proofs.YtlfnpakpkniipaaW.PrintLast Go.Proofs.YtlfnpakpkniipaaW.PrintMore Go.Proofs.YtlfnpakpkniipaaH
def GridOk (a b c : Int) : Prop := 1 ≤ a ∧ a ≤ 20 ∧ 1 ≤ b ∧ b ≤ 7 ∧ 1 ≤ c ∧ c ≤ 96
instance (a b c : Int) : Decidable (GridOk a b c) := by unfold GridOk; infer_instance
def WhenOk (g0 g1 g2 a b c d : Int) : Prop := GridOk g0 g1 g2 ∧ 0 ≤ c ∧ 1 ≤ d ∧ c + d ≤ g2 ∧ a ≠ 0 ∧ a / 2 ^ g0.toNat = 0 ∧ b ≠ 0 ∧ b / 2 ^ g1.toNat = 0
instance (g0 g1 g2 a b c d : Int) : Decidable (WhenOk g0 g1 g2 a b c d) := by unfold WhenOk; infer_instance
theorem when_within_eq (a b c : Int) : when_within.f a b c = some (decide (b ≤ a ∧ a ≤ c)) := by
  unfold when_within.f
  by_cases h : b ≤ a <;> simp [h]
theorem when_RightGrid_eq (a b c : Int) : when_RightGrid.f a b c = some (decide (GridOk a b c)) := by
  unfold when_RightGrid.f GridOk
  simp only [when_within_eq, Option.bind_some, decide_eq_true_eq]
  split
  · split
    · exact some_dec (by omega)
    · exact some_no (fun h => by omega)
  · exact some_no (fun h => by omega)
theorem when_tame_eq (a b c d : Int) : when_tame.f a b c d = some (decide (0 ≤ c ∧ c ≤ 96 ∧ 1 ≤ d ∧ d ≤ 96)) := by
  unfold when_tame.f
  simp only [when_within_eq, Option.bind_some, decide_eq_true_eq]
  split
  · exact some_dec (by omega)
  · exact some_no (fun h => by omega)
theorem when_Right_eq {g0 g1 g2 a b c d : Int} (ha : (Lit.int .u32 a).wf = true) (hb : (Lit.int .u8 b).wf = true) : when_Right.f g0 g1 g2 a b c d = some (decide (WhenOk g0 g1 g2 a b c d)) := by
  have ha := wf_u32 ha
  have hb := wf_u8 hb
  unfold when_Right.f
  simp only [when_RightGrid_eq, when_tame_eq, Option.bind_some, decide_eq_true_eq]
  by_cases hg : GridOk g0 g1 g2
  rotate_left
  · rw [if_neg hg]; exact some_no (fun h => hg h.1)
  rw [if_pos hg]
  have hg' := hg
  unfold GridOk at hg'
  by_cases ht : 0 ≤ c ∧ c ≤ 96 ∧ 1 ≤ d ∧ d ≤ 96
  rotate_left
  · rw [if_neg ht]; exact some_no (fun h => by have := h.2; omega)
  rw [if_pos ht, wrap64_in (c + d) (by omega), wrap64_in b (by omega)]
  have e0 : shr .u32 a g0 = a / 2 ^ g0.toNat := by unfold shr; rw [Nat.min_eq_left (by simp only [IntKind.bits]; omega)]
  have e1 : shr .i64 b g1 = b / 2 ^ g1.toNat := by unfold shr; rw [Nat.min_eq_left (by simp only [IntKind.bits]; omega)]
  rw [e0, e1]
  by_cases h1 : c + d > g2
  · rw [if_pos h1]; exact some_no (fun h => by have := h.2; omega)
  by_cases h2 : a = 0
  · rw [if_neg h1, if_pos h2]; exact some_no (fun h => h.2.2.2.2.1 h2)
  by_cases h3 : a / 2 ^ g0.toNat = 0
  rotate_left
  · rw [if_neg h1, if_neg h2, if_pos (by omega), if_neg h3]; exact some_no (fun h => h3 h.2.2.2.2.2.1)
  by_cases h4 : b = 0
  · rw [if_neg h1, if_neg h2, if_pos (by omega), if_pos h3, if_pos h4]; exact some_no (fun h => h.2.2.2.2.2.2.1 h4)
  rw [if_neg h1, if_neg h2, if_pos (by omega), if_pos h3, if_neg h4, if_pos (by omega)]
  refine congrArg some ?_
  rw [Bool.eq_iff_iff]
  simp only [beq_iff_eq, decide_eq_true_eq]
  constructor
  · intro h; exact ⟨hg, by omega, by omega, by omega, h2, h3, h4, h⟩
  · intro h; exact h.2.2.2.2.2.2.2
theorem half (a : Int) (b : Nat) : a / 2 ^ (b + 1) = a / 2 ^ b / 2 := by
  rw [Int.pow_succ, Int.ediv_ediv_of_nonneg (Int.pow_nonneg (by omega))]
theorem high {a : Int} {b : Nat} (ha : 0 ≤ a) : a / 2 ^ b = 0 ↔ ((a / 2 ^ b).tmod 2 == 1) = false ∧ a / 2 ^ (b + 1) = 0 := by
  rw [half]
  have h0 : 0 ≤ a / 2 ^ b := Int.ediv_nonneg ha (Int.pow_nonneg (by omega))
  generalize a / 2 ^ b = x at *
  rw [Int.tmod_eq_emod_of_nonneg h0]
  simp only [beq_eq_false_iff_ne, ne_eq]
  omega
end Go.Proofs.Ytlfnpakpkniipaa.Q
