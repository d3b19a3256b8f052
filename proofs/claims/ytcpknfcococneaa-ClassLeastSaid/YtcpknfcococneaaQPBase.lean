/-
Words of this session for plain laws: bounds out of well-formedness, options of decisions, loops that look for a fault.
-/
import Derived.IntWalk
import Derived.Test.YtcpknfcococneaaQRd
import Derived.Test.YtcpknfcococneaaWMore
set_option linter.unusedVariables false
set_option linter.unusedSimpArgs false
namespace Go.Proofs.Ytcpknfcococneaa.Q
open Go.RowKit Go.IntWalk Go.Proofs.YtcpknfcococneaaW.PrintWords Go.Proofs.YtcpknfcococneaaW.PrintLast Go.Proofs.YtcpknfcococneaaW.PrintMore Go.Proofs.YtcpknfcococneaaH
theorem some_dec {p q : Prop} [Decidable p] [Decidable q] (h : p ↔ q) : some (decide p) = some (decide q) := by rw [decide_eq_decide.2 h]
theorem some_no {p : Prop} [Decidable p] (h : ¬ p) : some false = some (decide p) := by rw [decide_eq_false h]
theorem wf_u32 {x : Int} (h : (Lit.int .u32 x).wf = true) : 0 ≤ x ∧ x < 4294967296 := by
  simp [Lit.wf, IntKind.min, IntKind.max, IntKind.bits, IntKind.signed] at h
  omega
theorem wf_u8 {x : Int} (h : (Lit.int .u8 x).wf = true) : 0 ≤ x ∧ x < 256 := by
  simp [Lit.wf, IntKind.min, IntKind.max, IntKind.bits, IntKind.signed] at h
  omega
theorem wf_i64 {x : Int} (h : (Lit.int .i64 x).wf = true) : -9223372036854775808 ≤ x ∧ x ≤ 9223372036854775807 := by
  simp [Lit.wf, IntKind.min, IntKind.max, IntKind.bits, IntKind.signed] at h
  omega
theorem getD_mid {α : Type} (pre : List α) (x : α) (xs : List α) (z : α) : (pre ++ x :: xs).getD pre.length z = x := by
  simp [List.getD]
theorem small {n m : Nat} (h : n * m ≤ 140737488351232) (hm : 0 < m) : n < 9223372036854775807 := by
  have := Nat.le_mul_of_pos_right n hm
  omega
/-- A loop that looks for a fault from i on. -/
theorem loop_all {g : Nat → Int → Option Bool} {n : Nat} {bad : Nat → Bool} {r : Bool} {e : Nat → Option Bool} (hs : ∀ k (i : Nat), i < n → g (k + 1) (i : Int) = if bad i = true then some false else g k ((i + 1 : Nat) : Int)) (he : ∀ k, g (k + 1) (n : Int) = e k) (hr : Ev e r) :
    ∀ m i : Nat, i + m = n → Ev (fun k => g k (i : Int)) ((List.range' i m).all (fun j => !bad j) && r)
  | 0, i, h => by
    obtain rfl : i = n := by omega
    exact Ev.step he (by simpa using hr)
  | m + 1, i, h => by
    refine Ev.step (fun k => hs k i (by omega)) ?_
    rw [List.range'_succ, List.all_cons]
    cases hb : bad i with
    | true => exact Ev.congr (fun _ => by rw [if_pos rfl]) (Ev.congr (fun _ => by simp) (Ev.now _))
    | false =>
      refine Ev.congr (fun _ => by rw [if_neg (by simp)]) ?_
      rw [Bool.not_false, Bool.true_and]
      exact loop_all hs he hr m (i + 1) (by omega)
theorem loop_all' {g : Nat → Int → Option Bool} {n : Nat} {bad : Nat → Bool} {r : Bool} {e : Nat → Option Bool} (hs : ∀ k (i : Nat), i < n → g (k + 1) (i : Int) = if bad i = true then some false else g k ((i + 1 : Nat) : Int)) (he : ∀ k, g (k + 1) (n : Int) = e k) (hr : Ev e r) :
    Ev (fun k => g k 0) ((List.range n).all (fun j => !bad j) && r) := by
  rw [List.range_eq_range']
  exact loop_all hs he hr n 0 (by omega)
theorem arr_of {a : Array Value} {l : List Value} (h : a.toList = l) : a = l.toArray := by cases a; simp_all
end Go.Proofs.Ytcpknfcococneaa.Q
