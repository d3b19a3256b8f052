/-
Plain laws of this session: the guard 'few' of the class laws.
-/
import Derived.IntWalk
import Derived.Test.YtcpknfcococneaaQPBase
import Derived.Test.YtcpknfcococneaaQx20
set_option linter.unusedVariables false
set_option linter.unusedSimpArgs false
namespace Go.Proofs.Ytcpknfcococneaa.Q
open Go.RowKit Go.IntWalk Go.Proofs.YtcpknfcococneaaW.PrintWords Go.Proofs.YtcpknfcococneaaW.PrintLast Go.Proofs.YtcpknfcococneaaW.PrintMore Go.Proofs.YtcpknfcococneaaH

/-- Has a class few times, places, persons, and no costs beyond all bounds? -/
def fewOk (x : S30) : Bool := decide (x.f4.length ≤ 20) && (decide (x.f5.length ≤ 20) && (decide (x.f3.length ≤ 20) && (x.f4.all (fun t => decide (-1000000 ≤ t.f1 ∧ t.f1 ≤ 1000000)) && x.f5.all (fun p => decide (-1000000 ≤ p.f1 ∧ p.f1 ≤ 1000000)))))
theorem few_l1 {x : S30} (hl : x.f5.length ≤ 20) : ∀ (xs pre : List S60), x.f5 = pre ++ xs → Ev (fun k => horariumlaw13_few.l1 k (pre.length : Int) x.f0 x.f1 x.f2 x.f3 x.f4 x.f5 x.f6) (xs.all (fun p => decide (-1000000 ≤ p.f1 ∧ p.f1 ≤ 1000000)))
  | [], pre, h => by
    refine Ev.step (f := fun _ => some true) (fun k => ?_) (Ev.now _)
    rw [horariumlaw13_few.l1, if_neg (by simp [h])]
  | y :: ys, pre, h => by
    have hlen : x.f5.length = pre.length + (ys.length + 1) := by simp [h]
    have hy : rd_T60 x.f5 (pre.length : Int) = y := by unfold rd_T60; rw [h]; simp [List.getD]
    refine Ev.step (f := fun k => if y.f1 < -1000000 then some false else if y.f1 > 1000000 then some false else horariumlaw13_few.l1 k ((pre ++ [y]).length : Int) x.f0 x.f1 x.f2 x.f3 x.f4 x.f5 x.f6) (fun k => ?_) ?_
    · rw [horariumlaw13_few.l1, if_pos (by omega), if_pos (by omega), hy, wrap64_in _ (by omega)]
      simp
    · rw [List.all_cons]
      by_cases h1 : y.f1 < -1000000
      · rw [decide_eq_false (by omega : ¬ (-1000000 ≤ y.f1 ∧ y.f1 ≤ 1000000))]
        exact Ev.congr (fun _ => by rw [if_pos h1]; rfl) (Ev.now _)
      by_cases h2 : y.f1 > 1000000
      · rw [decide_eq_false (by omega : ¬ (-1000000 ≤ y.f1 ∧ y.f1 ≤ 1000000))]
        exact Ev.congr (fun _ => by rw [if_neg h1, if_pos h2]; rfl) (Ev.now _)
      refine Ev.congr (fun _ => by rw [if_neg h1, if_neg h2]) ?_
      rw [decide_eq_true (by omega : -1000000 ≤ y.f1 ∧ y.f1 ≤ 1000000), Bool.true_and]
      exact few_l1 hl ys (pre ++ [y]) (by simp [h])
theorem few_l0 {x : S30} (hl4 : x.f4.length ≤ 20) (hl : x.f5.length ≤ 20) : ∀ (xs pre : List S58), x.f4 = pre ++ xs → Ev (fun k => horariumlaw13_few.l0 k (pre.length : Int) x.f0 x.f1 x.f2 x.f3 x.f4 x.f5 x.f6) (xs.all (fun p => decide (-1000000 ≤ p.f1 ∧ p.f1 ≤ 1000000)) && x.f5.all (fun p => decide (-1000000 ≤ p.f1 ∧ p.f1 ≤ 1000000)))
  | [], pre, h => by
    refine Ev.step (f := fun k => horariumlaw13_few.l1 k 0 x.f0 x.f1 x.f2 x.f3 x.f4 x.f5 x.f6) (fun k => ?_) ?_
    · rw [horariumlaw13_few.l0, if_neg (by simp [h])]
    · simpa using few_l1 hl x.f5 [] rfl
  | y :: ys, pre, h => by
    have hlen : x.f4.length = pre.length + (ys.length + 1) := by simp [h]
    have hy : rd_T58 x.f4 (pre.length : Int) = y := by unfold rd_T58; rw [h]; simp [List.getD]
    refine Ev.step (f := fun k => if y.f1 < -1000000 then some false else if y.f1 > 1000000 then some false else horariumlaw13_few.l0 k ((pre ++ [y]).length : Int) x.f0 x.f1 x.f2 x.f3 x.f4 x.f5 x.f6) (fun k => ?_) ?_
    · rw [horariumlaw13_few.l0, if_pos (by omega), if_pos (by omega), hy, wrap64_in _ (by omega)]
      simp
    · rw [List.all_cons]
      by_cases h1 : y.f1 < -1000000
      · rw [decide_eq_false (by omega : ¬ (-1000000 ≤ y.f1 ∧ y.f1 ≤ 1000000))]
        exact Ev.congr (fun _ => by rw [if_pos h1]; rfl) (Ev.now _)
      by_cases h2 : y.f1 > 1000000
      · rw [decide_eq_false (by omega : ¬ (-1000000 ≤ y.f1 ∧ y.f1 ≤ 1000000))]
        exact Ev.congr (fun _ => by rw [if_neg h1, if_pos h2]; rfl) (Ev.now _)
      refine Ev.congr (fun _ => by rw [if_neg h1, if_neg h2]) ?_
      rw [decide_eq_true (by omega : -1000000 ≤ y.f1 ∧ y.f1 ≤ 1000000), Bool.true_and]
      exact few_l0 hl4 hl ys (pre ++ [y]) (by simp [h])
theorem few_ev (x : S30) : Ev (fun k => horariumlaw13_few.f k x.f0 x.f1 x.f2 x.f3 x.f4 x.f5 x.f6) (fewOk x) := by
  have no : Ev (fun k => horariumlaw13_few.j0 k true x.f0 x.f1 x.f2 x.f3 x.f4 x.f5 x.f6) false := Ev.step (f := fun _ => some false) (fun k => by rw [horariumlaw13_few.j0, if_pos rfl]) (Ev.now _)
  unfold horariumlaw13_few.f fewOk
  by_cases h1 : x.f4.length ≤ 20
  rotate_left
  · rw [decide_eq_false h1]; exact Ev.congr (fun _ => by rw [if_pos (by omega)]) no
  rw [decide_eq_true h1, Bool.true_and]
  refine Ev.congr (fun _ => by rw [if_neg (by omega)]) ?_
  by_cases h2 : x.f5.length ≤ 20
  rotate_left
  · rw [decide_eq_false h2]; exact Ev.congr (fun _ => by rw [if_pos (by omega)]) no
  rw [decide_eq_true h2, Bool.true_and]
  refine Ev.congr (fun _ => by rw [if_neg (by omega)]) ?_
  by_cases h3 : x.f3.length ≤ 20
  rotate_left
  · rw [decide_eq_false h3, decide_eq_true (by omega : (x.f3.length : Int) > 20)]; exact no
  rw [decide_eq_true h3, decide_eq_false (by omega : ¬ (x.f3.length : Int) > 20), Bool.true_and]
  refine Ev.step (fun k => by rw [horariumlaw13_few.j0, if_neg (by simp)]) ?_
  exact few_l0 h1 h2 x.f4 [] rfl
theorem few_at {x : S30} (h : fewOk x = true) : x.f4.length ≤ 20 ∧ x.f5.length ≤ 20 ∧ x.f3.length ≤ 20 ∧ (∀ t ∈ x.f4, -1000000 ≤ t.f1 ∧ t.f1 ≤ 1000000) ∧ ∀ p ∈ x.f5, -1000000 ≤ p.f1 ∧ p.f1 ≤ 1000000 := by
  simpa [fewOk] using h
end Go.Proofs.Ytcpknfcococneaa.Q
