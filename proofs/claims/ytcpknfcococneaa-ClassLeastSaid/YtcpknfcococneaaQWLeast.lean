/-
ClassLeast returns true at every input: out of its walk and the plain laws.
-/
import Derived.Test.YtcpknfcococneaaQPSeat
import Derived.Test.YtcpknfcococneaaQLeastWalk

set_option linter.unusedVariables false
set_option linter.unusedSimpArgs false
namespace Go.Proofs.Ytcpknfcococneaa.Q
open Go.RowKit Go.IntWalk Go.Proofs.YtcpknfcococneaaW.PrintWords Go.Proofs.YtcpknfcococneaaW.PrintLast Go.Proofs.YtcpknfcococneaaW.PrintMore Go.Proofs.YtcpknfcococneaaH

theorem better_fold (x : S30) : ∀ (l : List S41) (b : S41), ∃ c, l.foldl (better x) (some (b, sumS x b)) = some (c, sumS x c) ∧ (c = b ∨ c ∈ l) ∧ sumS x c ≤ sumS x b ∧ ∀ s ∈ l, sumS x c ≤ sumS x s
  | [], b => ⟨b, rfl, .inl rfl, Int.le_refl _, fun s hs => by simp at hs⟩
  | s :: l, b => by
    rw [List.foldl_cons, better_some]
    by_cases h : sumS x s < sumS x b
    · rw [if_pos h]
      obtain ⟨c, h1, h2, h3, h4⟩ := better_fold x l s
      refine ⟨c, h1, .inr ?_, by omega, fun s' hs => ?_⟩
      · rcases h2 with rfl | h2
        · simp
        · simp [h2]
      · rcases List.mem_cons.1 hs with rfl | hs
        · exact h3
        · exact h4 s' hs
    · rw [if_neg h]
      obtain ⟨c, h1, h2, h3, h4⟩ := better_fold x l b
      refine ⟨c, h1, ?_, h3, fun s' hs => ?_⟩
      · rcases h2 with rfl | h2
        · exact .inl rfl
        · exact .inr (by simp [h2])
      · rcases List.mem_cons.1 hs with rfl | hs
        · omega
        · exact h4 s' hs
theorem bestS_some {x : S30} (h : x.f4.length ≠ 0) : ∃ c, bestS x = some (c, sumS x c) ∧ c ∈ seatsS x ∧ ∀ s ∈ seatsS x, sumS x c ≤ sumS x s := by
  unfold bestS
  have hn : (seatsS x).length ≠ 0 := by
    rw [seatsS_len]
    have : ch.many x.f5.length ≠ 0 := by unfold ch.many; split <;> omega
    exact Nat.mul_ne_zero h this
  match hs : seatsS x with
  | [] => rw [hs] at hn; simp at hn
  | s :: l =>
    obtain ⟨c, h1, h2, h3, h4⟩ := better_fold x l s
    refine ⟨c, h1, ?_, fun s' hs' => ?_⟩
    · rcases h2 with rfl | h2
      · simp
      · simp [h2]
    · rcases List.mem_cons.1 hs' with rfl | hs'
      · exact h3
      · exact h4 s' hs'
theorem mem_pairs {x : S30} {p : Int × Int} (h : p ∈ sall x.f4.length (ch.from x.f5.length) (ch.many x.f5.length)) : (⟨p.1, p.2⟩ : S41) ∈ seatsS x := List.mem_map_of_mem (f := fun s : Int × Int => (⟨s.1, s.2⟩ : S41)) h
theorem horariumlaw13_ClassLeast.walk (w : World) (a0 : S30) (cs0 : Array Value) (w0 : k30.K w a0 cs0.toList) (y0 : ok30 a0) :
    Calls Try.prog 7 #[.agg cs0] w fun e w' => e = .returned (.bool true) ∧ Below w.heap.size w w' := by
  obtain ⟨A3, c3, A4, c4, A5, c5, h0, l3, g3, l4, g4, l5, g5⟩ := k30_open w0
  obtain rfl := arr_of h0
  cases hf : fewOk a0
  · obtain ⟨K, hK⟩ := few_ev a0
    refine (horariumlaw13_ClassLeast.many K _ _ _ A3 c3 _ A4 c4 _ A5 c5 _ _ w g3 l3 g4 l4 g5 l5 ?_).mono (fun e w' h => h)
    exact (hK K (Nat.le_refl _)).trans (by rw [hf])
  · obtain ⟨h1, h2, h3, h4, h5⟩ := few_at hf
    obtain ⟨K, hK⟩ := few_ev a0
    have hF := (hK K (Nat.le_refl _)).trans (by rw [hf])
    by_cases hT : a0.f4.length = 0
    · exact (horariumlaw13_ClassLeast.none K _ _ _ A3 c3 _ A4 c4 _ A5 c5 _ _ w g3 l3 g4 l4 g5 l5 hF hT).mono (fun e w' h => h)
    obtain ⟨c, hb, hc, hmin⟩ := bestS_some hT
    have hcb := costS_bound h4 h5 c.f0 c.f1
    have hlst : sumS a0 c = (costS a0 c.f0 c.f1).1 + (costS a0 c.f0 c.f1).2 := rfl
    refine (horariumlaw13_ClassLeast.few K _ _ _ A3 c3 _ A4 c4 _ A5 c5 _ _ (fun p => costS a0 p.1 p.2) c.f0 c.f1 (sumS a0 c) w g3 l3 g4 l4 g5 l5 hF hT ?_ ?_ ?_ ?_ ?_ ?_ (seatsS a0).length ?_ (seatsS_small h1 h2) (Count_eq h1 h2)).mono (fun e w' h => h)
    · rw [Cheapest_eq h4 h5, hb]; rfl
    · rw [Whole_eq, decide_eq_true (mem_seatsS hc)]
    · exact fun p hp => Cost_eq p.1 p.2
    · intro p hp
      have := mem_seatsS (mem_pairs hp)
      rw [Whole_eq, decide_eq_true this]
    · intro p hp
      have hm := hmin _ (mem_pairs hp)
      have hq : sumS a0 ⟨p.1, p.2⟩ = (costS a0 p.1 p.2).1 + (costS a0 p.1 p.2).2 := rfl
      have hpb := costS_bound h4 h5 p.1 p.2
      rw [wrap64_in _ (by omega)]
      exact decide_eq_false (by omega)
    · rw [List.any_eq_true]
      refine ⟨(c.f0, c.f1), ?_, ?_⟩
      · rw [← seatsS_pairs]
        exact List.mem_map_of_mem (f := fun s : S41 => (s.f0, s.f1)) hc
      · dsimp only
        rw [wrap64_in _ (by omega)]
        simp only [beq_self_eq_true, Bool.true_and, beq_iff_eq]
        omega
    · rw [← seatsS_pairs, List.length_map]
end Go.Proofs.Ytcpknfcococneaa.Q
