/- Words for the claim. -/
import Derived.Test.YtlfnpakpkniipaaZGWords
import Derived.Test.YtlfnpakpkniipaaZGQx0
namespace Go.Proofs.Ytlfnpakpkniipaa.Q
open Go.RowKit Go.Proofs.YtlfnpakpkniipaaW.PrintWords Go.Proofs.YtlfnpakpkniipaaW.PrintLast Go.Proofs.YtlfnpakpkniipaaW.PrintMore
attribute [local go_sem] max2_int min2_int max_two min_two max_three min_three max_four min_four
set_option linter.unusedVariables false
set_option linter.unusedSimpArgs false
def pop8 (n : Nat) : Nat := n % 2 + n / 2 % 2 + n / 4 % 2 + n / 8 % 2 + n / 16 % 2 + n / 32 % 2 + n / 64 % 2 + n / 128 % 2
def bits_OnesCount8.f (a0 : Int) : Option (Int) := if 0 ≤ a0 ∧ a0 < 256 then some (pop8 a0.toNat : Int) else none
set_option maxHeartbeats 8000000 in
set_option maxRecDepth 100000 in
theorem bits_OnesCount8.calls (a0 : Int) (r : Int) (w : World) (h : bits_OnesCount8.f a0 = some r) :
  Calls Try.prog 32 #[.int .u8 a0] w fun e w' => e = .returned (.int .i64 r) ∧ Drawn0 w w' := by
 unfold bits_OnesCount8.f at h
 by_cases h0 : 0 ≤ a0 ∧ a0 < 256
 rotate_left
 ·rw [if_neg h0] at h; exact absurd h (by simp)
 rw [if_pos h0] at h
 obtain rfl := Option.some.inj h
 clear h
 go_enter Try.func32, Try.ntmps32
 generalize hs : ({ data := _ } : ByteArray) = s
 have hz : s.size = 256 := by rw [← hs]; kernel_rfl
 have hb : ∀ n : Fin 256, bt s (n : Nat) = (pop8 n : Int) := by rw [← hs]; decide +kernel
 have hr := hb ⟨a0.toNat, by omega⟩
 dsimp only at hr
 rw [Int.toNat_of_nonneg h0.1] at hr
 clear hs hb
 have p4 := eq_true h0.1
 have q4 : (a0 < 256) = True := eq_true h0.2
 have hx4 := bt_at s a0
 have hw : wrap64 (pop8 a0.toNat : Int) = (pop8 a0.toNat : Int) := Go.IntWalk.wrap64_in _ (by unfold pop8; omega)
 have hw2 : IntKind.i64.wrap (pop8 a0.toNat : Int) = (pop8 a0.toNat : Int) := Go.IntWalk.i64_in _ (by unfold pop8; omega)
 go_wp2
 go_ret
 exact ⟨by first | rfl | (simp; done) | (simp [*]; done), by repeat (first | exact Drawn0.refl _ | apply Drawn0.step)⟩
end Go.Proofs.Ytlfnpakpkniipaa.Q
