/-
ClassSeats returns true at every input: out of its walk and the plain laws.
-/
import Derived.Test.YtcpknfcococneaaQPSeat
import Derived.Test.YtcpknfcococneaaQSeatsWalk

set_option linter.unusedVariables false
set_option linter.unusedSimpArgs false
namespace Go.Proofs.Ytcpknfcococneaa.Q
open Go.RowKit Go.IntWalk Go.Proofs.YtcpknfcococneaaW.PrintWords Go.Proofs.YtcpknfcococneaaW.PrintLast Go.Proofs.YtcpknfcococneaaW.PrintMore Go.Proofs.YtcpknfcococneaaH

theorem Count_eq {x : S30} (h4 : x.f4.length ≤ 20) (h5 : x.f5.length ≤ 20) : class_Count.f x.f0 x.f1 x.f2 x.f3 x.f4 x.f5 x.f6 = some ((seatsS x).length : Int) := by
  unfold class_Count.f
  have e : mx 1 (x.f5.length : Int) = (ch.many x.f5.length : Int) := by unfold mx ch.many; split <;> split <;> omega
  have hm : ch.many x.f5.length ≤ 20 := by unfold ch.many; split <;> omega
  have hb := Nat.mul_le_mul h4 hm
  rw [e, seatsS_len, Int.natCast_mul, wrap64_in _ (by rw [← Int.natCast_mul]; omega)]
theorem seatsS_pairs (x : S30) : (seatsS x).map (fun s => (s.f0, s.f1)) = sall x.f4.length (ch.from x.f5.length) (ch.many x.f5.length) := by
  unfold seatsS
  rw [List.map_map]
  conv => rhs; rw [← List.map_id (sall x.f4.length (ch.from x.f5.length) (ch.many x.f5.length))]
  rfl
theorem seatsS_small {x : S30} (h4 : x.f4.length ≤ 20) (h5 : x.f5.length ≤ 20) : (seatsS x).length ≤ 400 := by
  have hm : ch.many x.f5.length ≤ 20 := by unfold ch.many; split <;> omega
  have hb := Nat.mul_le_mul h4 hm
  rw [seatsS_len]
  omega
theorem horariumlaw13_ClassSeats.walk (w : World) (a0 : S30) (cs0 : Array Value) (w0 : k30.K w a0 cs0.toList) (y0 : ok30 a0) (a1 : Int) (w1 : (Lit.int .u8 a1).wf = true) :
    Calls Try.prog 4 #[.agg cs0, .int .u8 a1] w fun e w' => e = .returned (.bool true) ∧ Below w.heap.size w w' := by
  obtain ⟨A3, c3, A4, c4, A5, c5, h0, l3, g3, l4, g4, l5, g5⟩ := k30_open w0
  obtain rfl := arr_of h0
  have hm := wf_u8 w1
  obtain ⟨m, rfl⟩ : ∃ m : Nat, a1 = (m : Int) := ⟨a1.toNat, by omega⟩
  cases hf : fewOk a0
  · obtain ⟨K, hK⟩ := few_ev a0
    refine (horariumlaw13_ClassSeats.many K _ _ _ A3 c3 _ A4 c4 _ A5 c5 _ _ _ w g3 l3 g4 l4 g5 l5 ?_).mono (fun e w' h => h)
    exact (hK K (Nat.le_refl _)).trans (by rw [hf])
  · obtain ⟨h1, h2, h3, h4, h5⟩ := few_at hf
    obtain ⟨K, hK⟩ := few_ev a0
    obtain ⟨K2, hK2⟩ := refSeats_ev h1 h2
    refine (horariumlaw13_ClassSeats.few (max K K2) _ _ _ A3 c3 _ A4 c4 _ A5 c5 _ _ m (by omega) (seatsS a0) w g3 l3 g4 l4 g5 l5 ?_ (hK2 _ (Nat.le_max_right _ _)) (seatsS_pairs a0) (seatsS_small h1 h2) (Count_eq h1 h2)).mono (fun e w' h => h)
    exact (hK _ (Nat.le_max_left _ _)).trans (by rw [hf])
end Go.Proofs.Ytcpknfcococneaa.Q
