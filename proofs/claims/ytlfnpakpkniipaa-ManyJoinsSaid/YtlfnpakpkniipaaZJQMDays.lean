/-
Words and contracts for the claim: what the walk of its row uses.
-/
import Derived.IntWalk
import Derived.Test.YtlfnpakpkniipaaZJQPWhen
import Derived.Test.YtlfnpakpkniipaaZJQx2
import Derived.Test.YtlfnpakpkniipaaZJQx3
import Derived.Test.YtlfnpakpkniipaaZJQx4
import Derived.Test.YtlfnpakpkniipaaZJQx10
import Derived.Test.YtlfnpakpkniipaaZJQx12
set_option linter.unusedVariables false
set_option linter.unusedSimpArgs false
namespace Go.Proofs.Ytlfnpakpkniipaa.Q
open Go.RowKit Go.IntWalk Go.Proofs.YtlfnpakpkniipaaW.PrintWords Go.Proofs.YtlfnpakpkniipaaW.PrintLast Go.Proofs.YtlfnpakpkniipaaW.PrintMore Go.Proofs.YtlfnpakpkniipaaH
def wok (g0 g1 g2 : Int) (x : S49) : Bool := decide (WhenOk g0 g1 g2 x.f0 x.f1 x.f2 x.f3)
theorem right_eq {g0 g1 g2 : Int} {x : S49} (h : ok49 x) : when_Right.f g0 g1 g2 x.f0 x.f1 x.f2 x.f3 = some (wok g0 g1 g2 x) := when_Right_eq h.1 h.2.1
theorem rdW_mid {l pre xs : List S49} {x : S49} (h : l = pre ++ x :: xs) : rd_T49 l (pre.length : Int) = x := by unfold rd_T49; rw [h, Int.toNat_natCast, getD_mid]
theorem bv_nat {k : IntKind} {n : Nat} (h : n < 2 ^ k.bits) : (BitVec.ofInt k.bits (n : Int)).toNat = n := by
  rw [BitVec.ofInt_natCast, BitVec.toNat_ofNat, Nat.mod_eq_of_lt h]
theorem wrap_nat {k : IntKind} {n : Nat} (h : n < 2 ^ k.bits) (hs : k.signed = false) : k.wrap (n : Int) = (n : Int) := by
  have h1 : (n : Int) < ((2 ^ k.bits : Nat) : Int) := by exact_mod_cast h
  have h2 : (n : Int) % 2 ^ k.bits = (n : Int) := Int.emod_eq_of_lt (by omega) (by simpa using h1)
  unfold IntKind.wrap
  simp [hs, h2]
theorem and_nat {k : IntKind} {m n : Nat} (hm : m < 2 ^ k.bits) (hn : n < 2 ^ k.bits) (hs : k.signed = false) : Go.bits .and k (m : Int) (n : Int) = ((m &&& n : Nat) : Int) := by
  unfold Go.bits
  simp only [BitVec.toNat_and, bv_nat hm, bv_nat hn]
  exact wrap_nat (Nat.and_lt_two_pow _ hn) hs
theorem day_bit {x : Int} (hx : 0 ≤ x) (d : Nat) : ((x / 2 ^ d).tmod 2 == 1) = x.toNat.testBit d := by
  obtain ⟨n, rfl⟩ := Int.eq_ofNat_of_zero_le hx
  rw [Nat.testBit_eq_decide_div_mod_eq]
  have e : ((n : Int) / 2 ^ d) = ((n / 2 ^ d : Nat) : Int) := by simp
  have h0 : 0 ≤ (n : Int) / 2 ^ d := Int.ediv_nonneg hx (Int.pow_nonneg (by omega))
  rw [Int.tmod_eq_emod_of_nonneg h0, e, Int.toNat_natCast]
  rw [Bool.eq_iff_iff]; simp only [beq_iff_eq, decide_eq_true_eq]
  omega
theorem heads_ev : Ev (fun k => horariumlaw16_heads.f k) true := Ev.of horariumlaw16_heads.mono (k := 60) (by decide +kernel)
theorem few_eq (l : List S49) : horariumlaw16_few.f l = some (decide ((l.length : Int) ≤ 12)) := rfl
end Go.Proofs.Ytlfnpakpkniipaa.Q
