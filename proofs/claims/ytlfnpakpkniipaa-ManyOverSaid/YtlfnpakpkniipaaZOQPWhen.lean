/- Words for the claim. -/
import Derived.IntWalk
import Derived.Test.YtlfnpakpkniipaaZOQPBase
import Derived.Test.YtlfnpakpkniipaaZOQx2
import Derived.Test.YtlfnpakpkniipaaZOQx11
import Derived.Test.YtlfnpakpkniipaaZOQx12
set_option linter.unusedVariables false
set_option linter.unusedSimpArgs false
namespace Go.Proofs.Ytlfnpakpkniipaa.Q
open Go.RowKit Go.IntWalk Go.Proofs.YtlfnpakpkniipaaW.PrintWords Go.Proofs.YtlfnpakpkniipaaW.PrintLast Go.Proofs.YtlfnpakpkniipaaW.PrintMore Go.Proofs.YtlfnpakpkniipaaH
def GridOk (a b c : Int) : Prop := 1 ≤ a ∧ a ≤ 20 ∧ 1 ≤ b ∧ b ≤ 7 ∧ 1 ≤ c ∧ c ≤ 96
instance (a b c : Int) : Decidable (GridOk a b c) := by unfold GridOk; infer_instance
def WhenOk (g0 g1 g2 a b c d : Int) : Prop := GridOk g0 g1 g2 ∧ 0 ≤ c ∧ 1 ≤ d ∧ c + d ≤ g2 ∧ a ≠ 0 ∧ a / 2 ^ g0.toNat = 0 ∧ b ≠ 0 ∧ b / 2 ^ g1.toNat = 0
instance (g0 g1 g2 a b c d : Int) : Decidable (WhenOk g0 g1 g2 a b c d) := by unfold WhenOk; infer_instance
theorem when_within_eq (a b c : Int) : when_within.f a b c = some (decide (b ≤ a ∧ a ≤ c)) := by
  unfold when_within.f
  by_cases h : b ≤ a <;> simp [h]
theorem when_RightGrid_eq (a b c : Int) : when_RightGrid.f a b c = some (decide (GridOk a b c)) := by
  unfold when_RightGrid.f GridOk
  simp only [when_within_eq, Option.bind_some, decide_eq_true_eq]
  split
  · split
    · exact some_dec (by omega)
    · exact some_no (fun h => by omega)
  · exact some_no (fun h => by omega)
theorem ref_RightGrid_eq (a b c : Int) : horariumref09_RightGrid.f a b c = some (decide (GridOk a b c)) := by
  unfold horariumref09_RightGrid.f GridOk
  repeat' split
  all_goals first | (exact some_dec (by omega)) | (exact some_no (fun h => by omega))
theorem when_tame_eq (a b c d : Int) : when_tame.f a b c d = some (decide (0 ≤ c ∧ c ≤ 96 ∧ 1 ≤ d ∧ d ≤ 96)) := by
  unfold when_tame.f
  simp only [when_within_eq, Option.bind_some, decide_eq_true_eq]
  split
  · exact some_dec (by omega)
  · exact some_no (fun h => by omega)
theorem when_Right_eq {g0 g1 g2 a b c d : Int} (ha : (Lit.int .u32 a).wf = true) (hb : (Lit.int .u8 b).wf = true) : when_Right.f g0 g1 g2 a b c d = some (decide (WhenOk g0 g1 g2 a b c d)) := by
  have ha := wf_u32 ha
  have hb := wf_u8 hb
  unfold when_Right.f
  simp only [when_RightGrid_eq, when_tame_eq, Option.bind_some, decide_eq_true_eq]
  by_cases hg : GridOk g0 g1 g2
  rotate_left
  · rw [if_neg hg]; exact some_no (fun h => hg h.1)
  rw [if_pos hg]
  have hg' := hg
  unfold GridOk at hg'
  by_cases ht : 0 ≤ c ∧ c ≤ 96 ∧ 1 ≤ d ∧ d ≤ 96
  rotate_left
  · rw [if_neg ht]; exact some_no (fun h => by have := h.2; omega)
  rw [if_pos ht, wrap64_in (c + d) (by omega), wrap64_in b (by omega)]
  have e0 : shr .u32 a g0 = a / 2 ^ g0.toNat := by unfold shr; rw [Nat.min_eq_left (by simp only [IntKind.bits]; omega)]
  have e1 : shr .i64 b g1 = b / 2 ^ g1.toNat := by unfold shr; rw [Nat.min_eq_left (by simp only [IntKind.bits]; omega)]
  rw [e0, e1]
  by_cases h1 : c + d > g2
  · rw [if_pos h1]; exact some_no (fun h => by have := h.2; omega)
  by_cases h2 : a = 0
  · rw [if_neg h1, if_pos h2]; exact some_no (fun h => h.2.2.2.2.1 h2)
  by_cases h3 : a / 2 ^ g0.toNat = 0
  rotate_left
  · rw [if_neg h1, if_neg h2, if_pos (by omega), if_neg h3]; exact some_no (fun h => h3 h.2.2.2.2.2.1)
  by_cases h4 : b = 0
  · rw [if_neg h1, if_neg h2, if_pos (by omega), if_pos h3, if_pos h4]; exact some_no (fun h => h.2.2.2.2.2.2.1 h4)
  rw [if_neg h1, if_neg h2, if_pos (by omega), if_pos h3, if_neg h4, if_pos (by omega)]
  refine congrArg some ?_
  rw [Bool.eq_iff_iff]
  simp only [beq_iff_eq, decide_eq_true_eq]
  constructor
  · intro h; exact ⟨hg, by omega, by omega, by omega, h2, h3, h4, h⟩
  · intro h; exact h.2.2.2.2.2.2.2
theorem bit_eq {a : Int} {b : Nat} (hb : b ≤ 32) : horariumref09_bit.f a (b : Int) = some ((a / 2 ^ b).tmod 2 == 1) := by
  unfold horariumref09_bit.f
  have : IntKind.u64.wrap (b : Int) = (b : Int) := by simp [IntKind.wrap, IntKind.bits, IntKind.signed]; omega
  rw [this, if_pos (by omega)]
  unfold shr
  rw [Int.toNat_natCast, Nat.min_eq_left (by simp only [IntKind.bits]; omega)]
theorem half (a : Int) (b : Nat) : a / 2 ^ (b + 1) = a / 2 ^ b / 2 := by
  rw [Int.pow_succ, Int.ediv_ediv_of_nonneg (Int.pow_nonneg (by omega))]
theorem high {a : Int} {b : Nat} (ha : 0 ≤ a) : a / 2 ^ b = 0 ↔ ((a / 2 ^ b).tmod 2 == 1) = false ∧ a / 2 ^ (b + 1) = 0 := by
  rw [half]
  have h0 : 0 ≤ a / 2 ^ b := Int.ediv_nonneg ha (Int.pow_nonneg (by omega))
  generalize a / 2 ^ b = x at *
  rw [Int.tmod_eq_emod_of_nonneg h0]
  simp only [beq_eq_false_iff_ne, ne_eq]
  omega
theorem ref_l1 {a b c d : Int} (h0 : 0 ≤ b) (h1 : b < 256) : ∀ (m i : Nat), i + m = 8 → Ev (fun k => horariumref09_Right.l1 k (i : Int) a b c d) (decide (b / 2 ^ i = 0))
  | 0, i, h => by
    refine Ev.step (f := fun k => some (decide (b / 2 ^ i = 0))) (fun k => ?_) (Ev.now _)
    rw [horariumref09_Right.l1, if_neg (by omega)]
    congr 1; symm; rw [decide_eq_true_eq]
    obtain rfl : i = 8 := by omega
    omega
  | m + 1, i, h => by
    rw [show decide (b / 2 ^ i = 0) = (!((b / 2 ^ i).tmod 2 == 1) && decide (b / 2 ^ (i + 1) = 0)) by rw [Bool.eq_iff_iff]; simp only [decide_eq_true_eq, Bool.and_eq_true, Bool.not_eq_true']; exact high h0]
    refine Ev.step (f := fun k => if ((b / 2 ^ i).tmod 2 == 1) = true then some false else horariumref09_Right.l1 k ((i + 1 : Nat) : Int) a b c d) (fun k => ?_) ?_
    · rw [horariumref09_Right.l1, if_pos (by omega), Int.emod_eq_of_lt h0 (by omega), bit_eq (by omega), Option.bind_some, wrap64_in _ (by omega)]; rfl
    · cases hq : ((b / 2 ^ i).tmod 2 == 1) with
      | true => exact Ev.congr (fun k => by simp) (Ev.now _)
      | false => refine Ev.congr (fun k => by rw [if_neg (by simp)]) ?_; simpa using ref_l1 h0 h1 m (i + 1) (by omega)
theorem ref_l0 {g0 g1 g2 a b c d : Int} (a0 : 0 ≤ a) (a1 : a < 4294967296) (h0 : 0 ≤ b) (h1 : b < 256) (hg : GridOk g0 g1 g2) : ∀ (m i : Nat), i + m = 32 → Ev (fun k => horariumref09_Right.l0 k (i : Int) g0 g1 g2 a b c d) (decide (a / 2 ^ i = 0) && decide (b / 2 ^ g1.toNat = 0))
  | 0, i, h => by
    refine Ev.step (f := fun k => horariumref09_Right.l1 k (g1.toNat : Int) a b c d) (fun k => ?_) ?_
    · rw [horariumref09_Right.l0, if_neg (by omega), Int.toNat_of_nonneg (by unfold GridOk at hg; omega)]
    · obtain rfl : i = 32 := by omega
      have : a / 2 ^ 32 = 0 := by omega
      rw [decide_eq_true this, Bool.true_and]
      exact ref_l1 h0 h1 (8 - g1.toNat) _ (by unfold GridOk at hg; omega)
  | m + 1, i, h => by
    rw [show decide (a / 2 ^ i = 0) = (!((a / 2 ^ i).tmod 2 == 1) && decide (a / 2 ^ (i + 1) = 0)) by rw [Bool.eq_iff_iff]; simp only [decide_eq_true_eq, Bool.and_eq_true, Bool.not_eq_true']; exact high a0]
    refine Ev.step (f := fun k => if ((a / 2 ^ i).tmod 2 == 1) = true then some false else horariumref09_Right.l0 k ((i + 1 : Nat) : Int) g0 g1 g2 a b c d) (fun k => ?_) ?_
    · rw [horariumref09_Right.l0, if_pos (by omega), bit_eq (by omega), Option.bind_some, wrap64_in _ (by omega)]; rfl
    · cases hq : ((a / 2 ^ i).tmod 2 == 1) with
      | true => exact Ev.congr (fun k => by simp) (Ev.now _)
      | false => refine Ev.congr (fun k => by rw [if_neg (by simp)]) ?_; simpa using ref_l0 a0 a1 h0 h1 hg m (i + 1) (by omega)
theorem ref_Right_ev {g0 g1 g2 a b c d : Int} (ha : (Lit.int .u32 a).wf = true) (hb : (Lit.int .u8 b).wf = true) (hd : (Lit.int .i64 d).wf = true) : Ev (fun k => horariumref09_Right.f k g0 g1 g2 a b c d) (decide (WhenOk g0 g1 g2 a b c d)) := by
  have ha := wf_u32 ha
  have hb := wf_u8 hb
  have hd := wf_i64 hd
  unfold horariumref09_Right.f
  simp only [ref_RightGrid_eq, Option.bind_some, decide_eq_true_eq]
  have no : ¬ WhenOk g0 g1 g2 a b c d → Ev (fun k => horariumref09_Right.j0 k true g0 g1 g2 a b c d) (decide (WhenOk g0 g1 g2 a b c d)) := fun h => by
    rw [decide_eq_false h]
    exact Ev.step (f := fun _ => some false) (fun k => by rw [horariumref09_Right.j0, if_pos rfl]) (Ev.now _)
  by_cases hg : GridOk g0 g1 g2
  rotate_left
  · simp only [if_neg hg]; exact no (fun h => hg h.1)
  simp only [if_pos hg]
  have hg' := hg
  unfold GridOk at hg'
  by_cases q1 : a = 0
  · simp only [if_pos q1]; exact no (fun h => h.2.2.2.2.1 q1)
  simp only [if_neg q1]
  by_cases q2 : b = 0
  · simp only [if_pos q2]; exact no (fun h => h.2.2.2.2.2.2.1 q2)
  simp only [if_neg q2]
  by_cases q3 : c < 0
  · simp only [if_pos q3]; exact no (fun h => by have := h.2.1; omega)
  simp only [if_neg q3]
  by_cases q4 : d < 1
  · simp only [if_pos q4]; exact no (fun h => by have := h.2.2.1; omega)
  simp only [if_neg q4]
  by_cases q5 : c > g2
  · simp only [if_pos q5]; exact no (fun h => by have := h.2; omega)
  simp only [if_neg q5]
  rw [wrap64_in _ (by omega)]
  by_cases q6 : d > g2 - c
  · rw [decide_eq_true q6]; exact no (fun h => by have := h.2; omega)
  rw [decide_eq_false q6]
  refine Ev.step (f := fun k => horariumref09_Right.l0 k (g0.toNat : Int) g0 g1 g2 a b c d) (fun k => by rw [horariumref09_Right.j0, if_neg (by simp), Int.toNat_of_nonneg (by omega)]) ?_
  rw [show decide (WhenOk g0 g1 g2 a b c d) = (decide (a / 2 ^ g0.toNat = 0) && decide (b / 2 ^ g1.toNat = 0)) by
    rw [Bool.eq_iff_iff]
    simp only [decide_eq_true_eq, Bool.and_eq_true]
    unfold WhenOk
    constructor
    · intro h; exact ⟨h.2.2.2.2.2.1, h.2.2.2.2.2.2.2⟩
    · intro h; exact ⟨hg, by omega, by omega, by omega, q1, h.1, q2, h.2⟩]
  exact ref_l0 ha.1 ha.2 hb.1 hb.2 hg (32 - g0.toNat) _ (by omega)
end Go.Proofs.Ytlfnpakpkniipaa.Q
