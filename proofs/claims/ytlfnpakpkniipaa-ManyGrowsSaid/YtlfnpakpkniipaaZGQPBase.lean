/- Words for the claim. -/
import Derived.IntWalk
import Derived.Test.YtlfnpakpkniipaaZGQRd
import Derived.Test.YtlfnpakpkniipaaZGWords
set_option linter.unusedVariables false
set_option linter.unusedSimpArgs false
namespace Go.Proofs.Ytlfnpakpkniipaa.Q
open Go.RowKit Go.IntWalk Go.Proofs.YtlfnpakpkniipaaW.PrintWords Go.Proofs.YtlfnpakpkniipaaW.PrintLast Go.Proofs.YtlfnpakpkniipaaW.PrintMore Go.Proofs.YtlfnpakpkniipaaH
theorem some_dec {p q : Prop} [Decidable p] [Decidable q] (h : p ↔ q) : some (decide p) = some (decide q) := by rw [decide_eq_decide.2 h]
theorem some_no {p : Prop} [Decidable p] (h : ¬ p) : some false = some (decide p) := by rw [decide_eq_false h]
theorem wf_u32 {x : Int} (h : (Lit.int .u32 x).wf = true) : 0 ≤ x ∧ x < 4294967296 := by
  simp [Lit.wf, IntKind.min, IntKind.max, IntKind.bits, IntKind.signed] at h
  omega
theorem wf_u8 {x : Int} (h : (Lit.int .u8 x).wf = true) : 0 ≤ x ∧ x < 256 := by
  simp [Lit.wf, IntKind.min, IntKind.max, IntKind.bits, IntKind.signed] at h
  omega
theorem wf_i64 {x : Int} (h : (Lit.int .i64 x).wf = true) : -9223372036854775808 ≤ x ∧ x ≤ 9223372036854775807 := by
  simp [Lit.wf, IntKind.min, IntKind.max, IntKind.bits, IntKind.signed] at h
  omega
theorem getD_mid {α : Type} (pre : List α) (x : α) (xs : List α) (z : α) : (pre ++ x :: xs).getD pre.length z = x := by
  simp [List.getD]
theorem small {n m : Nat} (h : n * m ≤ 140737488351232) (hm : 0 < m) : n < 9223372036854775807 := by
  have := Nat.le_mul_of_pos_right n hm
  omega
theorem arr_of {a : Array Value} {l : List Value} (h : a.toList = l) : a = l.toArray := by cases a; simp_all
end Go.Proofs.Ytlfnpakpkniipaa.Q
