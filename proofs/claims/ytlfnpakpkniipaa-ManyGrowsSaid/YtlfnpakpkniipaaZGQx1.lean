/- Words for the claim. -/
import Derived.Test.YtlfnpakpkniipaaZGWords
import Derived.Test.YtlfnpakpkniipaaZGQx0
namespace Go.Proofs.Ytlfnpakpkniipaa.Q
open Go.RowKit Go.Proofs.YtlfnpakpkniipaaW.PrintWords Go.Proofs.YtlfnpakpkniipaaW.PrintLast Go.Proofs.YtlfnpakpkniipaaW.PrintMore
attribute [local go_sem] max2_int min2_int max_two min_two max_three min_three max_four min_four
set_option linter.unusedVariables false
set_option linter.unusedSimpArgs false
theorem eqA25 (d : Nat) (w : World) (x0 y0 : Int) (x1 y1 : Int) :
  (Op.equalIn (d + 2) 25 (.agg #[.int .i64 x0, .int .i64 x1]) (.agg #[.int .i64 y0, .int .i64 y1])).run Try.prog w = .ok (x0 == y0 && (x1 == y1)) w := by
 have hs : ∀ W : World, (Go.sizeOf 3).run Try.prog W = .ok 1 W := fun W => by rfl
 have p0 : ∀ (W : World) (a b : Int), (part 3 #[.int .i64 a, .int .i64 b] 0).run Try.prog W = .ok (.int .i64 a) W := fun W a b => by go_simp
 have p1 : ∀ (W : World) (a b : Int), (part 3 #[.int .i64 a, .int .i64 b] 1).run Try.prog W = .ok (.int .i64 b) W := fun W a b => by go_simp
 have e : ∀ (W : World) (a b : Int), (Op.equalIn (d + 1) 3 (.int .i64 a) (.int .i64 b)).run Try.prog W = .ok (a == b) W := fun W a b => by go_simp
 rw [Op.equalIn]
 simp only [Sem.run_bind, run_underlying Try.underlying25, Result.andThen_ok, hs, Std.Legacy.Range.forIn_eq_forIn_range', Std.Legacy.Range.size, Nat.sub_zero, Nat.add_sub_cancel, Nat.div_one]
 rw [show List.range' 0 2 1 = [0, 1] from rfl]
 simp only [List.forIn_cons, List.forIn_nil, Nat.mul_one, Sem.run_bind, p0, p1, e, Result.andThen_ok]
 cases h0 : (x0 == y0) <;> cases h1 : (x1 == y1) <;> simp [Sem.run_bind, p0, p1, e, Result.andThen_ok, h0, h1]
end Go.Proofs.Ytlfnpakpkniipaa.Q
