/-
Plain laws of this session: the seats of a class, their costs, and the cheapest one, told by the program and by the document: the same.
-/
import Derived.IntWalk
import Derived.Test.YtcpknfcococneaaQPFew
import Derived.Test.YtcpknfcococneaaQx9
import Derived.Test.YtcpknfcococneaaQx10
import Derived.Test.YtcpknfcococneaaQx11
import Derived.Test.YtcpknfcococneaaQx12
import Derived.Test.YtcpknfcococneaaQx13
import Derived.Test.YtcpknfcococneaaQx20
import Derived.Test.YtcpknfcococneaaQx21
import Derived.Test.YtcpknfcococneaaQx22
set_option linter.unusedVariables false
set_option linter.unusedSimpArgs false
namespace Go.Proofs.Ytcpknfcococneaa.Q
open Go.RowKit Go.IntWalk Go.Proofs.YtcpknfcococneaaW.PrintWords Go.Proofs.YtcpknfcococneaaW.PrintLast Go.Proofs.YtcpknfcococneaaW.PrintMore Go.Proofs.YtcpknfcococneaaH

variable {x : S30}
/-- May it be a seat of the class? -/
def SeatOk (x : S30) (t p : Int) : Prop := -1 ≤ t ∧ t < (x.f4.length : Int) ∧ -1 ≤ p ∧ p < (x.f5.length : Int)
instance (t p : Int) : Decidable (SeatOk x t p) := by unfold SeatOk; infer_instance
def WholeOk (x : S30) (t p : Int) : Prop := SeatOk x t p ∧ -1 < t ∧ (-1 < p ∨ x.f5.length = 0)
instance (t p : Int) : Decidable (WholeOk x t p) := by unfold WholeOk; infer_instance
theorem Seat_eq (t p : Int) : class_Seat.f x.f0 x.f1 x.f2 x.f3 x.f4 x.f5 x.f6 t p = some (decide (SeatOk x t p)) := by
  unfold class_Seat.f SeatOk
  repeat' split
  all_goals first | exact some_dec (by omega) | exact some_no (fun h => by omega)
theorem refSeat_eq (t p : Int) : horariumref13_Seat.f x.f0 x.f1 x.f2 x.f3 x.f4 x.f5 x.f6 t p = some (decide (SeatOk x t p)) := by
  unfold horariumref13_Seat.f SeatOk
  repeat' split
  all_goals first | exact some_dec (by omega) | exact some_no (fun h => by omega)
theorem Whole_eq (t p : Int) : class_Whole.f x.f0 x.f1 x.f2 x.f3 x.f4 x.f5 x.f6 t p = some (decide (WholeOk x t p)) := by
  unfold class_Whole.f
  rw [Seat_eq, Option.bind_some]
  simp only [decide_eq_true_eq]
  by_cases h : SeatOk x t p
  rotate_left
  · rw [if_neg h]; exact some_no (fun h' => h h'.1)
  rw [if_pos h]
  by_cases h1 : t > -1
  rotate_left
  · rw [if_neg h1]; exact some_no (fun h' => h1 h'.2.1)
  rw [if_pos h1]
  by_cases h2 : p > -1
  · rw [if_pos h2]; exact congrArg some (decide_eq_true (show WholeOk x t p from ⟨h, h1, .inl h2⟩)).symm
  rw [if_neg h2]
  refine congrArg some ?_
  rw [Bool.eq_iff_iff, beq_iff_eq, decide_eq_true_eq]
  constructor
  · intro h3; exact ⟨h, h1, .inr (by omega)⟩
  · intro h3; rcases h3.2.2 with h4 | h4 <;> omega
theorem refWhole_eq (t p : Int) : horariumref13_Whole.f x.f0 x.f1 x.f2 x.f3 x.f4 x.f5 x.f6 t p = some (decide (WholeOk x t p)) := by
  unfold horariumref13_Whole.f
  rw [refSeat_eq, Option.bind_some]
  simp only [decide_eq_true_eq]
  by_cases h : SeatOk x t p
  rotate_left
  · rw [if_neg h]; exact some_no (fun h' => h h'.1)
  rw [if_pos h]
  have h' := h
  unfold SeatOk at h'
  by_cases h1 : t = -1
  · rw [if_pos h1]; exact some_no (fun h' => by have := h'.2.1; omega)
  rw [if_neg h1]
  by_cases h2 : p = -1
  rotate_left
  · rw [if_neg h2]; exact congrArg some (decide_eq_true (show WholeOk x t p from ⟨h, by omega, .inl (by omega)⟩)).symm
  rw [if_pos h2]
  refine congrArg some ?_
  rw [Bool.eq_iff_iff, beq_iff_eq, decide_eq_true_eq]
  constructor
  · intro h3; exact ⟨h, by omega, .inr (by omega)⟩
  · intro h3; rcases h3.2.2 with h4 | h4 <;> omega
/-- What a seat costs: for its time, for its place. -/
def costOf (x : S30) (t p : Int) : Int × Int := (if -1 < t then (rd_T58 x.f4 t).f1 else 0, if -1 < p then (rd_T60 x.f5 p).f1 else 0)
def costS (x : S30) (t p : Int) : Int × Int := if SeatOk x t p then costOf x t p else (0, 0)
theorem Cost_eq (t p : Int) : class_Cost.f x.f0 x.f1 x.f2 x.f3 x.f4 x.f5 x.f6 t p = some (costS x t p) := by
  unfold class_Cost.f costS
  rw [Seat_eq, Option.bind_some]
  simp only [decide_eq_true_eq]
  by_cases h : SeatOk x t p
  rotate_left
  · rw [if_neg h, if_neg h]
  rw [if_pos h, if_pos h]
  unfold costOf
  unfold SeatOk at h
  by_cases h1 : t > -1 <;> by_cases h2 : p > -1
  · rw [if_pos h1, if_pos (by omega), if_pos (by omega), if_pos h2, if_pos (by omega), if_pos (by omega), if_pos (by omega), if_pos (by omega)]
  · rw [if_pos h1, if_pos (by omega), if_pos (by omega), if_neg h2, if_pos (by omega), if_neg (by omega)]
  · rw [if_neg h1, if_pos h2, if_pos (by omega), if_pos (by omega), if_neg (by omega), if_pos (by omega)]
  · rw [if_neg h1, if_neg h2, if_neg (by omega), if_neg (by omega)]
theorem refCost_ev (t p : Int) : Ev (fun k => horariumref13_Cost.f k x.f0 x.f1 x.f2 x.f3 x.f4 x.f5 x.f6 t p) (costS x t p) := by
  unfold horariumref13_Cost.f costS
  simp only [refSeat_eq, Option.bind_some, decide_eq_true_eq]
  have j : Ev (fun k => horariumref13_Cost.j0 k 0 0 false x.f0 x.f1 x.f2 x.f3 x.f4 x.f5 x.f6 t p) (if SeatOk x t p then (0, if -1 < p then (rd_T60 x.f5 p).f1 else 0) else (0, 0)) := by
    refine Ev.step (f := fun _ => some (if SeatOk x t p then (0, if -1 < p then (rd_T60 x.f5 p).f1 else 0) else (0, 0))) (fun k => ?_) (Ev.now _)
    rw [horariumref13_Cost.j0, if_neg (by simp), refSeat_eq, Option.bind_some]
    simp only [decide_eq_true_eq]
    by_cases h : SeatOk x t p
    · rw [if_pos h, if_pos h]
      unfold SeatOk at h
      by_cases h2 : p ≥ 0
      · rw [if_pos h2, if_pos (by omega), if_pos (by omega), if_pos (by omega)]
      · rw [if_neg h2, if_neg (by omega)]
    · rw [if_neg h, if_neg h]
  by_cases h : SeatOk x t p
  rotate_left
  · rw [if_neg h] at j ⊢
    simp only [if_neg h]; exact j
  rw [if_pos h] at j ⊢
  simp only [if_pos h]
  unfold costOf
  by_cases h1 : t ≥ 0
  rotate_left
  · rw [decide_eq_false h1, if_neg (by omega)]; exact j
  rw [decide_eq_true h1, if_pos (by omega)]
  refine Ev.step (f := fun _ => some ((rd_T58 x.f4 t).f1, if -1 < p then (rd_T60 x.f5 p).f1 else 0)) (fun k => ?_) (Ev.now _)
  have h' := h
  unfold SeatOk at h'
  rw [horariumref13_Cost.j0, if_pos rfl, if_pos h1, if_pos (by omega), refSeat_eq, Option.bind_some]
  simp only [decide_eq_true_eq]
  rw [if_pos h]
  by_cases h2 : p ≥ 0
  · rw [if_pos h2, if_pos (by omega), if_pos (by omega), if_pos (by omega)]
  · rw [if_neg h2, if_neg (by omega)]
/-- The seats of the time t. -/
def rowS (x : S30) (t : Nat) : List S41 := (srow t (ch.from x.f5.length) (ch.many x.f5.length)).map fun s => ⟨s.1, s.2⟩
/-- All whole seats, in order. -/
def seatsS (x : S30) : List S41 := (sall x.f4.length (ch.from x.f5.length) (ch.many x.f5.length)).map fun s => ⟨s.1, s.2⟩
theorem seatsS_rows (x : S30) : seatsS x = (List.range x.f4.length).flatMap (rowS x) := by
  unfold seatsS sall rowS
  rw [List.map_flatMap]
theorem rowS_len (x : S30) (t : Nat) : (rowS x t).length = ch.many x.f5.length := by simp [rowS, srow]
theorem refSeats_l1 (hf : x.f5.length ≤ 20) {t : Nat} (ht : t < x.f4.length) {r : List S41} : ∀ (m j : Nat) (acc : List S41), j + m = x.f5.length → acc.length ≤ 1000 + j → Ev (fun k => horariumref13_Seats.l0 k (acc ++ (List.range' j m).map fun (q : Nat) => (⟨(t : Int), (q : Int)⟩ : S41)) (wrap64 ((t : Int) + 1)) x.f0 x.f1 x.f2 x.f3 x.f4 x.f5 x.f6) r →
    Ev (fun k => horariumref13_Seats.l1 k acc (t : Int) (j : Int) x.f0 x.f1 x.f2 x.f3 x.f4 x.f5 x.f6) r
  | 0, j, acc, h, ha, hr => by
    refine Ev.step (fun k => by rw [horariumref13_Seats.l1, if_neg (by omega)]) ?_
    simpa using hr
  | m + 1, j, acc, h, ha, hr => by
    refine Ev.step (f := fun k => horariumref13_Seats.l1 k (acc ++ [⟨(t : Int), (j : Int)⟩]) (t : Int) ((j + 1 : Nat) : Int) x.f0 x.f1 x.f2 x.f3 x.f4 x.f5 x.f6) (fun k => ?_) ?_
    · rw [horariumref13_Seats.l1, if_pos (by omega), refWhole_eq, Option.bind_some]
      simp only [decide_eq_true_eq]
      rw [if_pos ⟨⟨by omega, by omega, by omega, by omega⟩, by omega, .inl (by omega)⟩, if_pos (by omega), wrap64_in _ (by omega)]
      rfl
    · refine refSeats_l1 hf ht m (j + 1) _ (by omega) (by simp; omega) ?_
      rw [List.append_assoc, List.singleton_append]
      simpa [List.range'_succ] using hr
theorem refSeats_l0 (hf4 : x.f4.length ≤ 20) (hf : x.f5.length ≤ 20) : ∀ (m t : Nat) (acc : List S41), t + m = x.f4.length → acc.length ≤ 20 * t → Ev (fun k => horariumref13_Seats.l0 k acc (t : Int) x.f0 x.f1 x.f2 x.f3 x.f4 x.f5 x.f6) (acc ++ (List.range' t m).flatMap (rowS x))
  | 0, t, acc, h, ha => by
    refine Ev.step (fun k => by rw [horariumref13_Seats.l0, if_neg (by omega)]) ?_
    simpa using Ev.now acc
  | m + 1, t, acc, h, ha => by
    refine Ev.step (fun k => by rw [horariumref13_Seats.l0, if_pos (by omega)]) ?_
    have next := refSeats_l0 hf4 hf m (t + 1) (acc ++ rowS x t) (by omega) (by
      rw [List.length_append, rowS_len]
      unfold ch.many
      split <;> omega)
    rw [List.append_assoc] at next
    rw [List.range'_succ, List.flatMap_cons]
    by_cases h0 : x.f5.length = 0
    · have e : rowS x t = [⟨(t : Int), -1⟩] := by simp [rowS, srow, ch.from, ch.many, h0]
      refine Ev.step (f := fun k => horariumref13_Seats.l1 k (acc ++ [⟨(t : Int), -1⟩]) (t : Int) ((0 : Nat) : Int) x.f0 x.f1 x.f2 x.f3 x.f4 x.f5 x.f6) (fun k => ?_) ?_
      · rw [horariumref13_Seats.l1, if_pos (by omega), refWhole_eq, Option.bind_some]
        simp only [decide_eq_true_eq]
        rw [if_pos ⟨⟨by omega, by omega, by omega, by omega⟩, by omega, .inr h0⟩, if_pos (by omega), wrap64_in _ (by omega)]
        rfl
      · refine refSeats_l1 hf (by omega) 0 0 _ (by omega) (by simp; omega) ?_
        rw [wrap64_in _ (by omega)]
        rw [e] at next ⊢
        simpa using next
    · have e : rowS x t = (List.range' 0 x.f5.length).map fun (q : Nat) => (⟨(t : Int), (q : Int)⟩ : S41) := by simp [rowS, srow, ch.from, ch.many, h0, List.range_eq_range']
      refine Ev.step (f := fun k => horariumref13_Seats.l1 k acc (t : Int) ((0 : Nat) : Int) x.f0 x.f1 x.f2 x.f3 x.f4 x.f5 x.f6) (fun k => ?_) ?_
      · rw [horariumref13_Seats.l1, if_pos (by omega), refWhole_eq, Option.bind_some]
        simp only [decide_eq_true_eq]
        rw [if_neg (fun h => by rcases h.2.2 with h | h <;> omega), wrap64_in _ (by omega)]
        rfl
      · refine refSeats_l1 hf (by omega) x.f5.length 0 _ (by omega) (by omega) ?_
        rw [wrap64_in _ (by omega)]
        rw [e] at next ⊢
        exact next
theorem refSeats_ev (hf4 : x.f4.length ≤ 20) (hf : x.f5.length ≤ 20) : Ev (fun k => horariumref13_Seats.f k x.f0 x.f1 x.f2 x.f3 x.f4 x.f5 x.f6) (seatsS x) := by
  unfold horariumref13_Seats.f
  rw [seatsS_rows, List.range_eq_range']
  simpa using refSeats_l0 hf4 hf x.f4.length 0 [] (by omega) (by simp)
theorem sum_const {α : Type} (c : Nat) : ∀ l : List α, (l.map fun _ => c).sum = l.length * c
  | [] => by simp
  | _ :: l => by rw [List.map_cons, List.sum_cons, sum_const c l, List.length_cons, Nat.succ_mul, Nat.add_comm]
theorem seatsS_len (x : S30) : (seatsS x).length = x.f4.length * ch.many x.f5.length := by
  rw [seatsS_rows, List.length_flatMap]
  simp only [rowS_len]
  rw [sum_const, List.length_range]
theorem mem_seatsS {s : S41} (h : s ∈ seatsS x) : WholeOk x s.f0 s.f1 := by
  rw [seatsS_rows, List.mem_flatMap] at h
  obtain ⟨t, ht, h⟩ := h
  rw [List.mem_range] at ht
  simp only [rowS, srow, List.map_map, List.mem_map, List.mem_range] at h
  obtain ⟨j, hj, rfl⟩ := h
  simp only [Function.comp]
  unfold ch.many ch.from at *
  by_cases h0 : x.f5.length = 0
  · rw [if_pos h0] at hj ⊢
    exact ⟨⟨by omega, by omega, by omega, by omega⟩, by omega, .inr h0⟩
  · rw [if_neg h0] at hj ⊢
    exact ⟨⟨by omega, by omega, by omega, by omega⟩, by omega, .inl (by omega)⟩
theorem Count_eq {x : S30} (h4 : x.f4.length ≤ 20) (h5 : x.f5.length ≤ 20) : class_Count.f x.f0 x.f1 x.f2 x.f3 x.f4 x.f5 x.f6 = some ((seatsS x).length : Int) := by
  unfold class_Count.f
  have e : mx 1 (x.f5.length : Int) = (ch.many x.f5.length : Int) := by unfold mx ch.many; split <;> split <;> omega
  have hm : ch.many x.f5.length ≤ 20 := by unfold ch.many; split <;> omega
  have hb := Nat.mul_le_mul h4 hm
  rw [e, seatsS_len, Int.natCast_mul, wrap64_in _ (by rw [← Int.natCast_mul]; omega)]
theorem seatsS_pairs (x : S30) : (seatsS x).map (fun s => (s.f0, s.f1)) = sall x.f4.length (ch.from x.f5.length) (ch.many x.f5.length) := by
  unfold seatsS
  rw [List.map_map]
  conv => rhs; rw [← List.map_id (sall x.f4.length (ch.from x.f5.length) (ch.many x.f5.length))]
  rfl
theorem seatsS_small {x : S30} (h4 : x.f4.length ≤ 20) (h5 : x.f5.length ≤ 20) : (seatsS x).length ≤ 400 := by
  have hm : ch.many x.f5.length ≤ 20 := by unfold ch.many; split <;> omega
  have hb := Nat.mul_le_mul h4 hm
  rw [seatsS_len]
  omega
/-- The sum of a seat's costs. -/
def sumS (x : S30) (s : S41) : Int := (costS x s.f0 s.f1).1 + (costS x s.f0 s.f1).2
theorem rd_mem {α : Type} {l : List α} {i : Int} (h0 : 0 ≤ i) (h1 : i < l.length) (z : α) : l.getD i.toNat z ∈ l := by
  have : i.toNat < l.length := by omega
  rw [List.getD_eq_getElem?_getD, List.getElem?_eq_getElem this]
  simp
theorem costS_bound (h4 : ∀ t ∈ x.f4, -1000000 ≤ t.f1 ∧ t.f1 ≤ 1000000) (h5 : ∀ p ∈ x.f5, -1000000 ≤ p.f1 ∧ p.f1 ≤ 1000000) (t p : Int) : -1000000 ≤ (costS x t p).1 ∧ (costS x t p).1 ≤ 1000000 ∧ -1000000 ≤ (costS x t p).2 ∧ (costS x t p).2 ≤ 1000000 := by
  unfold costS costOf
  by_cases h : SeatOk x t p
  rotate_left
  · rw [if_neg h]; simp
  rw [if_pos h]
  unfold SeatOk at h
  have a : -1000000 ≤ (if -1 < t then (rd_T58 x.f4 t).f1 else 0) ∧ (if -1 < t then (rd_T58 x.f4 t).f1 else 0) ≤ 1000000 := by
    split
    · exact h4 _ (rd_mem (by omega) (by omega) _)
    · omega
  have b : -1000000 ≤ (if -1 < p then (rd_T60 x.f5 p).f1 else 0) ∧ (if -1 < p then (rd_T60 x.f5 p).f1 else 0) ≤ 1000000 := by
    split
    · exact h5 _ (rd_mem (by omega) (by omega) _)
    · omega
  exact ⟨a.1, a.2, b.1, b.2⟩
/-- The first of the cheapest ones so far. -/
def better (x : S30) (st : Option (S41 × Int)) (s : S41) : Option (S41 × Int) :=
  match st with
  | none => some (s, sumS x s)
  | some (b, l) => if sumS x s < l then some (s, sumS x s) else some (b, l)
theorem better_some (x : S30) (b s : S41) (l : Int) : better x (some (b, l)) s = if sumS x s < l then some (s, sumS x s) else some (b, l) := rfl
def bestS (x : S30) : Option (S41 × Int) := (seatsS x).foldl (better x) none
def answer (o : Option (S41 × Int)) : Int × Int × Int :=
  match o with
  | none => (0, 0, 0)
  | some (b, l) => (b.f0, b.f1, l)
def coded (o : Option (S41 × Int)) : Int × Int × Int × Bool :=
  match o with
  | none => (0, 0, 0, false)
  | some (b, l) => (b.f0, b.f1, l, true)
theorem ch_run (h4 : ∀ t ∈ x.f4, -1000000 ≤ t.f1 ∧ t.f1 ≤ 1000000) (h5 : ∀ p ∈ x.f5, -1000000 ≤ p.f1 ∧ p.f1 ≤ 1000000) : ∀ (l : List (Int × Int)) (o : Option (S41 × Int)), ch.run (fun t p => class_Cost.f x.f0 x.f1 x.f2 x.f3 x.f4 x.f5 x.f6 t p) l (coded o) = some (coded ((l.map fun s => (⟨s.1, s.2⟩ : S41)).foldl (better x) o))
  | [], o => rfl
  | s :: l, o => by
    have hb := costS_bound h4 h5 s.1 s.2
    rw [ch.run, List.map_cons, List.foldl_cons, ← ch_run h4 h5 l]
    have : ch.step (fun t p => class_Cost.f x.f0 x.f1 x.f2 x.f3 x.f4 x.f5 x.f6 t p) (coded o) s = some (coded (better x o ⟨s.1, s.2⟩)) := by
      unfold ch.step
      dsimp only
      rw [Cost_eq, Option.bind_some, wrap64_in _ (by omega)]
      match o with
      | none => rfl
      | some (b, m) =>
        by_cases hq : (costS x s.1 s.2).1 + (costS x s.1 s.2).2 < m <;> simp [coded, better, sumS, hq]
    rw [this, Option.bind_some]
theorem Cheapest_eq (h4 : ∀ t ∈ x.f4, -1000000 ≤ t.f1 ∧ t.f1 ≤ 1000000) (h5 : ∀ p ∈ x.f5, -1000000 ≤ p.f1 ∧ p.f1 ≤ 1000000) : class_Cheapest.f x.f0 x.f1 x.f2 x.f3 x.f4 x.f5 x.f6 = some (answer (bestS x)) := by
  unfold class_Cheapest.f
  rw [show ((0, 0, 0, false) : Int × Int × Int × Bool) = coded none from rfl, ch_run h4 h5, Option.map_some]
  unfold bestS seatsS
  generalize List.foldl (better x) none _ = o
  match o with
  | none => rfl
  | some (b, l) => rfl
end Go.Proofs.Ytcpknfcococneaa.Q
