/-
Words and contracts for the claim: what the walk of its row uses.
-/
import Derived.Test.YtlfnpakpkniipaaZLQMSum
import Derived.Test.YtlfnpakpkniipaaZLQx0
import Derived.Test.YtlfnpakpkniipaaZLQx4
import Derived.Test.YtlfnpakpkniipaaZLQx10
import Derived.Test.YtlfnpakpkniipaaZLQx27
set_option linter.unusedVariables false
set_option linter.unusedSimpArgs false
namespace Go.Proofs.Ytlfnpakpkniipaa.Q
open Go.RowKit Go.IntWalk Go.Proofs.YtlfnpakpkniipaaW.PrintWords Go.Proofs.YtlfnpakpkniipaaW.PrintLast Go.Proofs.YtlfnpakpkniipaaW.PrintMore Go.Proofs.YtlfnpakpkniipaaH
theorem sum_le {f g : Nat → Int} : ∀ l : List Nat, (∀ d ∈ l, f d ≤ g d) → (l.map f).sum ≤ (l.map g).sum
  | [], h => by simp
  | d :: l, h => by
    have := sum_le l (fun x hx => h x (by simp [hx]))
    have := h d (by simp)
    rw [List.map_cons, List.map_cons, List.sum_cons, List.sum_cons]
    omega
theorem mx0_mono {x y : Int} (h : x ≤ y) : mx 0 x ≤ mx 0 y := by unfold mx; split <;> split <;> omega
theorem longN_mono (a : Int) : ∀ l : List S25, longN l (a + 1) ≤ longN l a
  | [] => by simp [longN]
  | x :: l => by
    have ih := longN_mono a l
    unfold longN at *
    rw [List.filter_cons, List.filter_cons]
    simp only [ge_iff_le, gt_iff_lt] at ih ⊢
    by_cases h1 : 2 ≤ x.f1 <;> by_cases h2 : a + 1 < x.f0 <;> by_cases h3 : a < x.f0 <;> simp [h1, h2, h3] <;> omega
theorem overS_mono {g0 g1 g2 k a b : Int} {l : List S49} (ha : 0 ≤ a) : overS g0 g1 g2 l k (a + 1) b ≤ overS g0 g1 g2 l k a b := by
  have e1 : mx 0 (a + 1) = a + 1 := mx_pos (by omega)
  have e2 : mx 0 a = a := mx_pos ha
  unfold overS
  rw [e1, e2]
  split
  · exact mx0_mono (by omega)
  · refine sum_le _ (fun d _ => ?_)
    unfold stepS
    split
    · exact mx0_mono (by omega)
    split
    · exact mx0_mono (by omega)
    split
    · have := longN_mono a (blocksS g0 g1 g2 l (d : Int) b)
      omega
    · omega
theorem ManyLoads_ev (a0 : S23) (a1 a2 a3 : Int) (a4 : List S49) (w2 : (Lit.int .u8 a2).wf = true) (y4 : a4.length * 24 ≤ 140737488351232 ∧ ∀ z ∈ a4, ok49 z) : Ev (fun k => horariumlaw16_ManyLoads.f k a0.f0 a0.f1 a0.f2 a1 a2 a3 a4) true := by
  have h2 := wf_u8 w2
  unfold horariumlaw16_ManyLoads.f
  simp only [few_eq, Option.bind_some, decide_eq_true_eq]
  split
  rotate_left
  · exact Ev.bind heads_ev (Ev.now _)
  rename_i hf
  have h20 : ∀ d : Nat, (d : Int) < a0.f0 * a0.f1 → (a4.filter (onD a0.f0 a0.f1 a0.f2 d)).length ≤ 20 := fun d _ => few_flt hf _
  have hov : ∀ k a, a ≤ 300 → Ev (fun n => many_Over.f n a0.f0 a0.f1 a0.f2 k a a3 a4) (overS a0.f0 a0.f1 a0.f2 a4 k a a3) := fun k a ha => Over_ev y4 (by omega) h20
  refine Ev.bind (Busy_ev y4) ?_
  have hw : wrap64 a2 = a2 := wrap64_in _ (by omega)
  have e2 : mx 0 a2 = a2 := mx_pos h2.1
  have hfin : Ev (fun k => (many_Over.f k a0.f0 a0.f1 a0.f2 22 (wrap64 a2) a3 a4).bind fun t452 => (if t452 = ((List.range (dayN a0.f0 a0.f1 a0.f2)).map (stepS a0.f0 a0.f1 a0.f2 a4 22 a2 a3)).sum then ((many_Over.f k a0.f0 a0.f1 a0.f2 21 (wrap64 a2) a3 a4).bind fun t453 => ((many_Days.f k a0.f0 a0.f1 a0.f2 a4).bind fun t454 => (if t453 = (mx (wrap64 (t454 - (wrap64 a2))) 0) then ((many_Over.f k a0.f0 a0.f1 a0.f2 a1 (wrap64 ((wrap64 a2) + 1)) a3 a4).bind fun t455 => ((many_Over.f k a0.f0 a0.f1 a0.f2 a1 (wrap64 a2) a3 a4).bind fun t456 => (if t455 ≤ t456 then ((horariumlaw16_heads.f k).bind fun t457 => (some t457)) else (some false)))) else (some false)))) else (some false))) true := by
    rw [hw, wrap64_in (a2 + 1) (by omega)]
    refine Ev.bind (hov 22 a2 (by omega)) ?_
    have q1 : overS a0.f0 a0.f1 a0.f2 a4 22 a2 a3 = ((List.range (dayN a0.f0 a0.f1 a0.f2)).map (stepS a0.f0 a0.f1 a0.f2 a4 22 a2 a3)).sum := by unfold overS; rw [if_neg (by decide), e2]
    simp only [if_pos q1]
    refine Ev.bind (hov 21 a2 (by omega)) (Ev.bind (Days_ev y4) ?_)
    have h7 : daysN a0.f0 a0.f1 a0.f2 a4 ≤ 7 := by
      have ht : ∀ b : Bool, b.toNat ≤ 1 := fun b => by cases b <;> simp
      unfold daysN
      have := ht (onDow a0.f0 a0.f1 a0.f2 a4 0); have := ht (onDow a0.f0 a0.f1 a0.f2 a4 1); have := ht (onDow a0.f0 a0.f1 a0.f2 a4 2); have := ht (onDow a0.f0 a0.f1 a0.f2 a4 3); have := ht (onDow a0.f0 a0.f1 a0.f2 a4 4); have := ht (onDow a0.f0 a0.f1 a0.f2 a4 5); have := ht (onDow a0.f0 a0.f1 a0.f2 a4 6)
      omega
    have q2 : overS a0.f0 a0.f1 a0.f2 a4 21 a2 a3 = mx (wrap64 ((daysN a0.f0 a0.f1 a0.f2 a4 : Int) - a2)) 0 := by
      rw [wrap64_in ((daysN a0.f0 a0.f1 a0.f2 a4 : Int) - a2) (by omega), mx_comm]
      unfold overS
      rw [if_pos rfl, e2]
    simp only [if_pos q2]
    refine Ev.bind (hov a1 (a2 + 1) (by omega)) (Ev.bind (hov a1 a2 (by omega)) ?_)
    simp only [if_pos (overS_mono (g0 := a0.f0) (g1 := a0.f1) (g2 := a0.f2) (k := a1) (b := a3) (l := a4) h2.1)]
    exact Ev.bind heads_ev (Ev.now _)
  
  have loop : ∀ (m d : Nat) (acc : Int), d + m = dayN a0.f0 a0.f1 a0.f2 → 0 ≤ acc → acc ≤ d * 96 → acc + ((List.range' d m).map (stepS a0.f0 a0.f1 a0.f2 a4 22 a2 a3)).sum = ((List.range (dayN a0.f0 a0.f1 a0.f2)).map (stepS a0.f0 a0.f1 a0.f2 a4 22 a2 a3)).sum →
      Ev (fun k => horariumlaw16_ManyLoads.l0 k a1 a2 a3 a4 acc (busyS a0.f0 a0.f1 a0.f2 a4) (d : Int) a0.f0 a0.f1 a0.f2) true := by
    intro m
    induction m with
    | zero =>
      intro d acc hd h0 h1 he
      refine Ev.step (fun k => ?_) hfin
      have he' : acc = ((List.range (dayN a0.f0 a0.f1 a0.f2)).map (stepS a0.f0 a0.f1 a0.f2 a4 22 a2 a3)).sum := by simpa using he
      rw [horariumlaw16_ManyLoads.l0, if_neg (by rw [busyS_len]; omega), ← he']
    | succ m ih =>
      intro d acc hd h0 h1 he
      have hdd : d < dayN a0.f0 a0.f1 a0.f2 := by omega
      have hD := dayN_le a0.f0 a0.f1 a0.f2
      have hbn := busyN_le a0.f0 a0.f1 a0.f2 a4 d (dayN_pos hdd)
      have e : stepS a0.f0 a0.f1 a0.f2 a4 22 a2 a3 d = mx 0 ((busyN a0.f0 a0.f1 a0.f2 a4 d : Int) - a2) := by unfold stepS; rw [if_pos rfl]
      have hb := mx0_bounds (n := (busyN a0.f0 a0.f1 a0.f2 a4 d : Int)) (a := a2) (M := 96) (by omega) (by omega) h2.1
      refine Ev.step (fun k => ?_) (ih (d + 1) (acc + mx 0 ((busyN a0.f0 a0.f1 a0.f2 a4 d : Int) - a2)) (by omega) (by omega) (by omega) ?_)
      · rw [horariumlaw16_ManyLoads.l0, if_pos (by rw [busyS_len]; omega), if_pos (by omega), busyS_rd hdd, hw, wrap64_in ((busyN a0.f0 a0.f1 a0.f2 a4 d : Int) - a2) (by omega), mx_comm, wrap64_in (acc + mx 0 ((busyN a0.f0 a0.f1 a0.f2 a4 d : Int) - a2)) (by omega), wrap64_in ((d : Int) + 1) (by omega)]
        rfl
      · rw [List.range'_succ, List.map_cons, List.sum_cons, e, ← Int.add_assoc] at he
        exact he
  exact loop (dayN a0.f0 a0.f1 a0.f2) 0 0 (by omega) (by omega) (by omega) (by rw [Int.zero_add, ← List.range_eq_range'])
theorem horariumlaw16_ManyLoads.walk (w : World) (a0 : S23) (cs0 : Array Value) (w0 : k23.K w a0 cs0.toList) (y0 : ok23 a0) (a1 : Int) (w1 : (Lit.int .i64 a1).wf = true) (a2 : Int) (w2 : (Lit.int .u8 a2).wf = true) (a3 : Int) (w3 : (Lit.int .i64 a3).wf = true) (a4 : (List S49)) (A4 : Option Addr) (len4 cap4 : Nat) (w4 : (Kd.slice 49 k49).K w a4 [.slice A4 len4 cap4]) (y4 : (a4.length * 24 ≤ 140737488351232 ∧ ∀ z ∈ a4, ok49 z)) :
    Calls Try.prog 5 #[.agg cs0, .int .i64 a1, .int .u8 a2, .int .i64 a3, .slice A4 len4 cap4] w fun e w' => e = .returned (.bool true) ∧ Below w.heap.size w w' := by
  obtain rfl := arr_of (k23_open w0)
  obtain ⟨_, _, e4, l4, g4⟩ := w4
  cases e4
  obtain ⟨k, hk⟩ := (ManyLoads_ev a0 a1 a2 a3 a4 w2 y4).rounds
  refine (horariumlaw16_ManyLoads.calls k _ _ _ _ _ _ _ _ _ true (Aside0.mk rfl) w g4 l4 hk).mono ?_
  rintro e w' h
  exact h
end Go.Proofs.Ytlfnpakpkniipaa.Q
