/-
Plain laws of this session: when two classes are the same, told by the program and by the document: the same.
-/
import Derived.IntWalk
import Derived.Test.YtcpknfcococneaaQPBase
import Derived.Test.YtcpknfcococneaaQx25
import Derived.Test.YtcpknfcococneaaQx26
import Derived.Test.YtcpknfcococneaaQx27
set_option linter.unusedVariables false
set_option linter.unusedSimpArgs false
namespace Go.Proofs.Ytcpknfcococneaa.Q
open Go.RowKit Go.IntWalk Go.Proofs.YtcpknfcococneaaW.PrintWords Go.Proofs.YtcpknfcococneaaW.PrintLast Go.Proofs.YtcpknfcococneaaW.PrintMore Go.Proofs.YtcpknfcococneaaH

def intsBad (l m : List Int) (i : Nat) : Bool := !(rd l i == rd m i)
def intsEq (l m : List Int) : Bool := decide (l.length = m.length) && (List.range l.length).all (fun j => !intsBad l m j)
theorem ints_eq_ev {l m : List Int} (hl : l.length < 9223372036854775807) : Ev (fun k => slices_Equal_int_int.f k l m) (intsEq l m) := by
  unfold slices_Equal_int_int.f intsEq
  by_cases h : l.length = m.length
  rotate_left
  · refine Ev.congr (fun _ => by rw [if_neg (by omega)]) ?_
    rw [decide_eq_false h]
    exact Ev.now _
  refine Ev.congr (fun _ => by rw [if_pos (by omega)]) ?_
  rw [decide_eq_true h, Bool.true_and, ← Bool.and_true (List.all _ _)]
  refine loop_all' (g := fun k i => slices_Equal_int_int.l0 k l m (l.length : Int) i) (e := fun _ => some true) (fun k i hi => ?_) (fun k => ?_) (Ev.now _)
  · show slices_Equal_int_int.l0 (k + 1) l m (l.length : Int) i = _
    rw [slices_Equal_int_int.l0, if_pos (by omega), if_pos (by omega), if_pos (by omega), if_pos (by omega), wrap64_in _ (by omega)]
    unfold intsBad
    by_cases hq : rd l i = rd m i <;> simp [hq]
  · show slices_Equal_int_int.l0 (k + 1) l m (l.length : Int) l.length = _
    rw [slices_Equal_int_int.l0, if_neg (by omega)]
theorem refInts_ev {l m : List Int} (hl : l.length < 9223372036854775807) : Ev (fun k => horariumref03_Ints.f k l m) (intsEq l m) := by
  unfold horariumref03_Ints.f intsEq
  by_cases h : l.length = m.length
  rotate_left
  · refine Ev.congr (fun _ => by rw [if_neg (by omega)]) ?_
    rw [decide_eq_false h]
    exact Ev.now _
  refine Ev.congr (fun _ => by rw [if_pos (by omega)]) ?_
  rw [decide_eq_true h, Bool.true_and, ← Bool.and_true (List.all _ _)]
  refine loop_all' (g := fun k i => horariumref03_Ints.l0 k l m i) (e := fun _ => some true) (fun k i hi => ?_) (fun k => ?_) (Ev.now _)
  · show horariumref03_Ints.l0 (k + 1) l m i = _
    rw [horariumref03_Ints.l0, if_pos (by omega), if_pos (by omega), if_pos (by omega), wrap64_in _ (by omega)]
    unfold intsBad
    by_cases hq : rd l i = rd m i <;> simp [hq]
  · show horariumref03_Ints.l0 (k + 1) l m l.length = _
    rw [horariumref03_Ints.l0, if_neg (by omega)]
def timesBad (l m : List S58) (i : Nat) : Bool := ((!(((rd_T58 l i).f0.f0) == ((rd_T58 m i).f0.f0)) || (!(((rd_T58 l i).f0.f1) == ((rd_T58 m i).f0.f1)) || (!(((rd_T58 l i).f0.f2) == ((rd_T58 m i).f0.f2)) || (!(((rd_T58 l i).f0.f3) == ((rd_T58 m i).f0.f3)))))) || (!(((rd_T58 l i).f1) == ((rd_T58 m i).f1))))
def timesEq (l m : List S58) : Bool := decide (l.length = m.length) && (List.range l.length).all (fun j => !timesBad l m j)
def placesBad (l m : List S60) (i : Nat) : Bool := (!(((rd_T60 l i).f0) == ((rd_T60 m i).f0)) || (!(((rd_T60 l i).f1) == ((rd_T60 m i).f1))))
def placesEq (l m : List S60) : Bool := decide (l.length = m.length) && (List.range l.length).all (fun j => !placesBad l m j)
theorem times_eq_ev {l m : List S58} (hl : l.length < 9223372036854775807) : Ev (fun k => api_Time.f k l m) (timesEq l m) := by
  unfold api_Time.f timesEq
  by_cases h : l.length = m.length
  rotate_left
  · refine Ev.congr (fun _ => by rw [if_neg (by omega)]) ?_
    rw [decide_eq_false h]
    exact Ev.now _
  refine Ev.congr (fun _ => by rw [if_pos (by omega)]) ?_
  rw [decide_eq_true h, Bool.true_and, ← Bool.and_true (List.all _ _)]
  refine loop_all' (g := fun k i => api_Time.l0 k l m (l.length : Int) i) (e := fun _ => some true) (fun k i hi => ?_) (fun k => ?_) (Ev.now _)
  · show api_Time.l0 (k + 1) l m (l.length : Int) i = _
    rw [api_Time.l0, if_pos (by omega), if_pos (by omega), if_pos (by omega), if_pos (by omega), wrap64_in _ (by omega)]
    rfl
  · show api_Time.l0 (k + 1) l m (l.length : Int) l.length = _
    rw [api_Time.l0, if_neg (by omega)]
theorem places_eq_ev {l m : List S60} (hl : l.length < 9223372036854775807) : Ev (fun k => api_Place.f k l m) (placesEq l m) := by
  unfold api_Place.f placesEq
  by_cases h : l.length = m.length
  rotate_left
  · refine Ev.congr (fun _ => by rw [if_neg (by omega)]) ?_
    rw [decide_eq_false h]
    exact Ev.now _
  refine Ev.congr (fun _ => by rw [if_pos (by omega)]) ?_
  rw [decide_eq_true h, Bool.true_and, ← Bool.and_true (List.all _ _)]
  refine loop_all' (g := fun k i => api_Place.l0 k l m (l.length : Int) i) (e := fun _ => some true) (fun k i hi => ?_) (fun k => ?_) (Ev.now _)
  · show api_Place.l0 (k + 1) l m (l.length : Int) i = _
    rw [api_Place.l0, if_pos (by omega), if_pos (by omega), if_pos (by omega), if_pos (by omega), wrap64_in _ (by omega)]
    rfl
  · show api_Place.l0 (k + 1) l m (l.length : Int) l.length = _
    rw [api_Place.l0, if_neg (by omega)]
/-- Are all their fields the same? -/
def sameOk (a b : S30) : Bool := decide (a.f0.toList = b.f0.toList) && (decide (a.f1 = b.f1) && (decide (a.f2 = b.f2) && (decide (a.f6 = b.f6) && (intsEq a.f3 b.f3 && (timesEq a.f4 b.f4 && placesEq a.f5 b.f5)))))
theorem sameOk_self (a : S30) : sameOk a a = true := by
  simp [sameOk, intsEq, timesEq, placesEq, intsBad, timesBad, placesBad]
theorem Same_ev {a b : S30} (ha : ok30 a) : Ev (fun k => class_Same.f k a.f0 a.f1 a.f2 a.f3 a.f4 a.f5 a.f6 b.f0 b.f1 b.f2 b.f3 b.f4 b.f5 b.f6) (sameOk a b) := by
  obtain ⟨o0, o1, o2, ⟨o3, _⟩, ⟨o4, o4'⟩, ⟨o5, o5'⟩, o6⟩ := ha
  have no : Ev (fun k => class_Same.j0 k true a.f0 a.f1 a.f2 a.f3 a.f4 a.f5 a.f6 b.f0 b.f1 b.f2 b.f3 b.f4 b.f5 b.f6) false := Ev.step (f := fun _ => some false) (fun k => by rw [class_Same.j0, if_pos rfl]) (Ev.now _)
  unfold class_Same.f sameOk
  by_cases h0 : a.f0.toList = b.f0.toList
  rotate_left
  · simp only [if_neg h0, decide_eq_false h0]; exact no
  by_cases h1 : a.f1 = b.f1
  rotate_left
  · simp only [if_pos h0, if_neg h1, decide_eq_false h1]; simpa using no
  by_cases h2 : a.f2 = b.f2
  rotate_left
  · simp only [if_pos h0, if_pos h1, if_neg h2, decide_eq_false h2]; simpa using no
  simp only [if_pos h0, if_pos h1, if_pos h2, decide_eq_true h0, decide_eq_true h1, decide_eq_true h2, Bool.true_and]
  by_cases h3 : a.f6 = b.f6
  rotate_left
  · rw [decide_eq_false h3, show (a.f6 != b.f6) = true by simpa using h3]; exact no
  rw [decide_eq_true h3, show (a.f6 != b.f6) = false by simpa using h3, Bool.true_and]
  refine Ev.step (fun k => by rw [class_Same.j0, if_neg (by simp)]) ?_
  refine Ev.bind (ints_eq_ev (small o3 (by omega))) ?_
  cases intsEq a.f3 b.f3
  · exact Ev.congr (fun _ => by rw [if_neg (by simp)]; rfl) (Ev.now _)
  refine Ev.congr (fun _ => by rw [if_pos rfl]) ?_
  rw [Bool.true_and]
  refine Ev.bind (times_eq_ev (small o4 (by omega))) ?_
  cases timesEq a.f4 b.f4
  · exact Ev.congr (fun _ => by rw [if_neg (by simp)]; rfl) (Ev.now _)
  refine Ev.congr (fun _ => by rw [if_pos rfl]) ?_
  rw [Bool.true_and]
  exact Ev.bind (places_eq_ev (small o5 (by omega))) (Ev.now _)
theorem refSame_ev {a b : S30} (ha : ok30 a) : Ev (fun k => horariumref13_Same.f k a.f0 a.f1 a.f2 a.f3 a.f4 a.f5 a.f6 b.f0 b.f1 b.f2 b.f3 b.f4 b.f5 b.f6) (sameOk a b) := by
  obtain ⟨o0, o1, o2, ⟨o3, _⟩, ⟨o4, o4'⟩, ⟨o5, o5'⟩, o6⟩ := ha
  have s4 := small o4 (by omega)
  have s5 := small o5 (by omega)
  have no : Ev (fun k => horariumref13_Same.j0 k true a.f0 a.f1 a.f2 a.f3 a.f4 a.f5 a.f6 b.f0 b.f1 b.f2 b.f3 b.f4 b.f5 b.f6) false := Ev.step (f := fun _ => some false) (fun k => by rw [horariumref13_Same.j0, if_pos rfl]) (Ev.now _)
  unfold horariumref13_Same.f sameOk
  by_cases h0 : a.f0.toList = b.f0.toList
  rotate_left
  · simp only [if_neg h0, decide_eq_false h0]; exact no
  by_cases h1 : a.f1 = b.f1
  rotate_left
  · simp only [if_pos h0, if_neg h1, decide_eq_false h1]; simpa using no
  by_cases h2 : a.f2 = b.f2
  rotate_left
  · simp only [if_pos h0, if_pos h1, if_neg h2, decide_eq_false h2]; simpa using no
  by_cases h3 : a.f6 = b.f6
  rotate_left
  · simp only [if_pos h0, if_pos h1, if_pos h2, if_neg h3, decide_eq_false h3]; simpa using no
  simp only [if_pos h0, if_pos h1, if_pos h2, if_pos h3, decide_eq_true h0, decide_eq_true h1, decide_eq_true h2, decide_eq_true h3, Bool.true_and]
  refine Ev.bind (refInts_ev (small o3 (by omega))) ?_
  cases intsEq a.f3 b.f3
  · exact Ev.congr (fun _ => by rw [if_neg (by simp)]) no
  refine Ev.congr (fun _ => by rw [if_pos rfl]) ?_
  rw [Bool.true_and]
  unfold timesEq placesEq
  by_cases h4 : a.f4.length = b.f4.length
  rotate_left
  · rw [decide_eq_false h4]
    refine Ev.congr (fun _ => by rw [if_neg (by omega)]) ?_
    simpa using no
  rw [decide_eq_true h4, Bool.true_and]
  refine Ev.congr (fun _ => by rw [if_pos (by omega)]) ?_
  by_cases h5 : a.f5.length = b.f5.length
  rotate_left
  · rw [decide_eq_false h5, show ((a.f5.length : Int) != (b.f5.length : Int)) = true by simp; omega]
    simpa using no
  rw [decide_eq_true h5, Bool.true_and, show ((a.f5.length : Int) != (b.f5.length : Int)) = false by simp; omega]
  refine Ev.step (fun k => by rw [horariumref13_Same.j0, if_neg (by simp)]) ?_
  refine loop_all' (g := fun k i => horariumref13_Same.l0 k i a.f0 a.f1 a.f2 a.f3 a.f4 a.f5 a.f6 b.f0 b.f1 b.f2 b.f3 b.f4 b.f5 b.f6) (e := fun k => horariumref13_Same.l1 k 0 a.f0 a.f1 a.f2 a.f3 a.f4 a.f5 a.f6 b.f0 b.f1 b.f2 b.f3 b.f4 b.f5 b.f6) (fun k i hi => ?_) (fun k => ?_) ?_
  · show horariumref13_Same.l0 (k + 1) i a.f0 a.f1 a.f2 a.f3 a.f4 a.f5 a.f6 b.f0 b.f1 b.f2 b.f3 b.f4 b.f5 b.f6 = _
    rw [horariumref13_Same.l0, if_pos (by omega), if_pos (by omega), if_pos (by omega), wrap64_in _ (by omega)]
    rfl
  · show horariumref13_Same.l0 (k + 1) a.f4.length a.f0 a.f1 a.f2 a.f3 a.f4 a.f5 a.f6 b.f0 b.f1 b.f2 b.f3 b.f4 b.f5 b.f6 = _
    rw [horariumref13_Same.l0, if_neg (by omega)]
  rw [← Bool.and_true (List.all _ _)]
  refine loop_all' (g := fun k i => horariumref13_Same.l1 k i a.f0 a.f1 a.f2 a.f3 a.f4 a.f5 a.f6 b.f0 b.f1 b.f2 b.f3 b.f4 b.f5 b.f6) (e := fun k => some true) (fun k i hi => ?_) (fun k => ?_) (Ev.now _)
  · show horariumref13_Same.l1 (k + 1) i a.f0 a.f1 a.f2 a.f3 a.f4 a.f5 a.f6 b.f0 b.f1 b.f2 b.f3 b.f4 b.f5 b.f6 = _
    rw [horariumref13_Same.l1, if_pos (by omega), if_pos (by omega), if_pos (by omega), wrap64_in _ (by omega)]
    rfl
  · show horariumref13_Same.l1 (k + 1) a.f5.length a.f0 a.f1 a.f2 a.f3 a.f4 a.f5 a.f6 b.f0 b.f1 b.f2 b.f3 b.f4 b.f5 b.f6 = _
    rw [horariumref13_Same.l1, if_neg (by omega)]
end Go.Proofs.Ytcpknfcococneaa.Q
