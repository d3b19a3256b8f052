/- Words for the claim. -/
import Derived.Test.YtlfnpakpkniipaaZOQMBlocks
import Derived.Test.YtlfnpakpkniipaaZOQx4
import Derived.Test.YtlfnpakpkniipaaZOQx5
import Derived.Test.YtlfnpakpkniipaaZOQx12
import Derived.Test.YtlfnpakpkniipaaZOQx15
import Derived.Test.YtlfnpakpkniipaaZOQx16
import Derived.Test.YtlfnpakpkniipaaZOQx17
set_option linter.unusedVariables false
set_option linter.unusedSimpArgs false
namespace Go.Proofs.Ytlfnpakpkniipaa.Q
open Go.RowKit Go.IntWalk Go.Proofs.YtlfnpakpkniipaaW.PrintWords Go.Proofs.YtlfnpakpkniipaaW.PrintLast Go.Proofs.YtlfnpakpkniipaaW.PrintMore Go.Proofs.YtlfnpakpkniipaaH
theorem Tame_eq (a b c d : Int) : horariumref09_Tame.f a b c d = some (decide (0 ≤ c ∧ c ≤ 96 ∧ 1 ≤ d ∧ d ≤ 96)) := by
  unfold horariumref09_Tame.f
  repeat' split
  all_goals first | (exact some_dec (by omega)) | (exact some_no (fun h => by omega))
theorem On_ev {x : S49} (h : ok49 x) (ht : 0 ≤ x.f2 ∧ x.f2 ≤ 96 ∧ 1 ≤ x.f3 ∧ x.f3 ≤ 96) {q r : Nat} (hq : q ≤ 31) (hr : r ≤ 7) (s : Int) :
    Ev (fun k => horariumref09_On.f k x.f0 x.f1 x.f2 x.f3 (q : Int) (r : Int) s) (x.f0.toNat.testBit q && (x.f1.toNat.testBit r && decide (x.f2 ≤ s ∧ s < x.f2 + x.f3))) := by
  have hb0 := wf_u32 h.1
  have hb1 := wf_u8 h.2.1
  unfold horariumref09_On.f
  simp only [Tame_eq, Option.bind_some, decide_eq_true_eq]
  simp only [if_pos ht, if_neg (show ¬ (q : Int) < 0 by omega), if_neg (show ¬ (q : Int) > 31 by omega), if_neg (show ¬ (r : Int) < 0 by omega)]
  rw [decide_eq_false (by omega)]
  refine Ev.step (f := fun _ => some (x.f0.toNat.testBit q && (x.f1.toNat.testBit r && decide (x.f2 ≤ s ∧ s < x.f2 + x.f3)))) (fun k => ?_) (Ev.now _)
  rw [horariumref09_On.j0, if_neg (by simp), bit_eq (by omega), Option.bind_some, day_bit hb0.1, Int.emod_eq_of_lt hb1.1 (by omega), bit_eq (by omega), Option.bind_some, day_bit hb1.1, wrap64_in (x.f2 + x.f3) (by omega)]
  cases x.f0.toNat.testBit q with
  | false => simp
  | true =>
    cases x.f1.toNat.testBit r with
    | false => simp
    | true =>
      rw [if_pos rfl, if_pos rfl, Bool.true_and, Bool.true_and]
      by_cases hs : s ≥ x.f2
      · rw [if_pos hs]; exact some_dec (by omega)
      · rw [if_neg hs]; exact some_no (by omega)
theorem wlt_iff (x y : S49) : wlt x y = true ↔ (y.f2 > x.f2 ∨ y.f2 = x.f2 ∧ y.f3 > x.f3) := by
  unfold wlt
  simp only [Bool.or_eq_true, Bool.and_eq_true, decide_eq_true_eq]
  omega
theorem ref_of_l1 {l : List S49} {g0 g1 g2 : Int} {d : Int} (hl : l.length * 24 ≤ 140737488351232) {x : S49} {pre xs R0 : List S49} (h : l = pre ++ x :: xs) (hR : R0.length ≤ pre.length) {r : List S49} (hr : Ev (fun k => horariumref16_of.l0 k l d (insR x R0).reverse ((pre ++ [x]).length : Int) g0 g1 g2) r) :
    ∀ (R P2 : List S49), R0.reverse = R.reverse ++ P2 → (insR x R0).reverse = (insR x R).reverse ++ P2 →
    Ev (fun k => horariumref16_of.l1 k l d R0.reverse (pre.length : Int) (R.length : Int) g0 g1 g2) r
  | R, P2, h1, h2 => by
    have hlen : l.length = pre.length + (xs.length + 1) := by simp [h]
    have hx := rdW_mid h
    have hs : ((pre ++ [x]).length : Int) = (pre.length : Int) + 1 := by simp
    have hR0 : R0.reverse.length = R.length + P2.length := by rw [h1]; simp
    have hRr : R0.reverse.length = R0.length := by simp
    have hRR : R.reverse.length = R.length := by simp
    have htake : R0.reverse.take R.length = R.reverse := by rw [h1]; exact List.take_left' hRR
    have hdrop : R0.reverse.drop R.length = P2 := by rw [h1]; exact List.drop_left' hRR
    have done : (insR x R) = x :: R → (R.reverse ++ [x]) ++ P2 = (insR x R0).reverse := fun hh => by rw [h2, hh]; simp
    cases R with
    | nil =>
      refine Ev.step (fun k => ?_) hr
      rw [horariumref16_of.l1]
      rw [if_neg (show ¬ (([] : List S49).length : Int) > 0 by simp)]
      rw [if_pos (show (0 : Int) ≤ (([] : List S49).length : Int) by simp), if_pos (show (([] : List S49).length : Int) ≤ (R0.reverse.length : Int) by simp)]
      simp only [Int.toNat_natCast, Option.bind_some]
      rw [htake, hdrop, hx]
      rw [if_pos (show (([] : List S49).length + ([] : List S49).reverse.length) < 5864062014805 by simp), if_pos (show (0 : Int) ≤ (pre.length : Int) by omega), if_pos (show (pre.length : Int) < (l.length : Int) by omega)]
      rw [if_pos (show (([] : List S49) ++ ([] : List S49).reverse).length < 5864062014805 by simp)]
      have hP : P2.length = R0.length := by simp at hR0; omega
      rw [if_pos (by simp; omega), wrap64_in ((pre.length : Int) + 1) (by omega), hs, ← done rfl]
      rfl
    | cons y R =>
      have hy : rd_T49 R0.reverse (R.length : Int) = y := by
        have := rdW_mid (pre := R.reverse) (xs := P2) (x := y) (l := R0.reverse) (by rw [h1]; simp)
        rw [List.length_reverse] at this
        exact this
      have hc : (((y :: R).length : Nat) : Int) - 1 = (R.length : Int) := by simp
      have hcl : (((y :: R).length : Nat) : Int) = (R.length : Int) + 1 := by simp
      have hRc : R0.reverse.length = R.length + 1 + P2.length := by rw [hR0]; simp
      have hw := wlt_iff x y
      by_cases hq : wlt x y = true
      · refine Ev.step (f := fun k => horariumref16_of.l1 k l d R0.reverse (pre.length : Int) (R.length : Int) g0 g1 g2) (fun k => ?_) (ref_of_l1 hl h hR hr R (y :: P2) (by rw [h1]; simp) (by rw [h2, insR, if_pos hq]; simp))
        rw [horariumref16_of.l1, if_pos (by omega), wrap64_in ((((y :: R).length : Nat) : Int) - 1) (by omega), hc, if_pos (show (0 : Int) ≤ (R.length : Int) by omega), if_pos (by omega), if_pos (show (0 : Int) ≤ (pre.length : Int) by omega), if_pos (by omega), hx, hy]
        by_cases q1 : y.f2 > x.f2
        · rw [if_pos q1]
        · have := hw.1 hq
          rw [if_neg q1, if_pos (by omega), if_pos (by omega)]
      · refine Ev.step (fun k => ?_) hr
        rw [horariumref16_of.l1, if_pos (by omega), wrap64_in ((((y :: R).length : Nat) : Int) - 1) (by omega), hc, if_pos (show (0 : Int) ≤ (R.length : Int) by omega), if_pos (by omega), if_pos (show (0 : Int) ≤ (pre.length : Int) by omega), if_pos (by omega), hx, hy]
        have q1 : ¬ y.f2 > x.f2 := fun h => hq (hw.2 (.inl h))
        rw [if_neg q1]
        simp only [Int.toNat_natCast, Option.bind_some]
        rw [htake, hdrop]
        rw [if_pos (show (0 : Int) ≤ (((y :: R).length : Nat) : Int) by omega), if_pos (show (((y :: R).length : Nat) : Int) ≤ (R0.reverse.length : Int) by omega), if_pos (show (([] : List S49).length + ((y :: R).reverse).length) < 5864062014805 by simp; omega), if_pos (show (([] : List S49) ++ (y :: R).reverse).length < 5864062014805 by simp; omega)]
        have hfin : (([] ++ (y :: R).reverse ++ [(⟨x.f0, x.f1, x.f2, x.f3⟩ : S49)]).length + P2.length) < 5864062014805 := by simp; omega
        rw [if_pos hfin, wrap64_in ((pre.length : Int) + 1) (by omega), hs, ← done (by rw [insR, if_neg hq])]
        have e : ([] ++ (y :: R).reverse ++ [(⟨x.f0, x.f1, x.f2, x.f3⟩ : S49)]) ++ P2 = ((y :: R).reverse ++ [x]) ++ P2 := rfl
        rw [e]
        by_cases q2 : y.f2 = x.f2
        · have q3 : ¬ y.f3 > x.f3 := fun h => hq (hw.2 (.inr ⟨q2, h⟩))
          rw [if_pos q2, if_neg q3]
        · rw [if_neg q2]
theorem ref_of_l0 {l : List S49} {g0 g1 g2 : Int} {d : Nat} (hl : l.length * 24 ≤ 140737488351232) (hk : ∀ x ∈ l, ok49 x) (hg : GridOk g0 g1 g2) (hd : (d : Int) < g0 * g1) : ∀ (xs pre R : List S49), l = pre ++ xs → R.length ≤ pre.length →
    Ev (fun k => horariumref16_of.l0 k l (d : Int) R.reverse (pre.length : Int) g0 g1 g2) ((xs.filter (onD g0 g1 g2 d)).foldl (fun R x => insR x R) R).reverse
  | [], pre, R, h, hR => by
    refine Ev.step (f := fun _ => some R.reverse) (fun k => ?_) (Ev.now _)
    rw [horariumref16_of.l0, if_neg (by simp [h])]
  | x :: xs, pre, R, h, hR => by
    obtain ⟨p1, p2, p3, p4, p5⟩ := day_parts hg hd
    have hlen : l.length = pre.length + (xs.length + 1) := by simp [h]
    have hx := rdW_mid h
    have hxk := hk x (by simp [h])
    have hs : ((pre ++ [x]).length : Int) = (pre.length : Int) + 1 := by simp
    refine Ev.step (f := fun k => (horariumref09_Right.f k g0 g1 g2 x.f0 x.f1 x.f2 x.f3).bind fun t => if t = true then ((horariumref09_On.f k x.f0 x.f1 x.f2 x.f3 ((d / g1.toNat : Nat) : Int) ((d % g1.toNat : Nat) : Int) x.f2).bind fun t => horariumref16_of.j1 k l (d : Int) R.reverse (pre.length : Int) (!t) g0 g1 g2) else horariumref16_of.j1 k l (d : Int) R.reverse (pre.length : Int) true g0 g1 g2) (fun k => ?_) ?_
    · rw [horariumref16_of.l0, if_pos (by omega), if_pos (by omega), hx, p2, p3]
      simp only [if_neg p1]
    · refine Ev.bind (refRight_ev hxk) ?_
      have skip : onD g0 g1 g2 d x = false → Ev (fun k => horariumref16_of.j1 k l (d : Int) R.reverse (pre.length : Int) true g0 g1 g2) (((x :: xs).filter (onD g0 g1 g2 d)).foldl (fun R x => insR x R) R).reverse := fun hq => by
        refine Ev.step (f := fun k => horariumref16_of.l0 k l (d : Int) R.reverse ((pre ++ [x]).length : Int) g0 g1 g2) (fun k => by rw [horariumref16_of.j1, if_pos rfl, wrap64_in ((pre.length : Int) + 1) (by omega), hs]) ?_
        have := ref_of_l0 hl hk hg hd xs (pre ++ [x]) R (by simp [h]) (by simp; omega)
        rw [List.filter_cons_of_neg (by simp [hq])]
        exact this
      cases hw : wok g0 g1 g2 x with
      | false =>
        refine Ev.congr (fun _ => by rw [if_neg (by simp)]) ?_
        exact skip (by unfold onD; rw [hw]; rfl)
      | true =>
        refine Ev.congr (fun _ => by rw [if_pos rfl]) ?_
        have ht := wok_grid hw
        refine Ev.bind (On_ev hxk (by omega) (by omega) (by omega) x.f2) ?_
        rw [decide_eq_true (show x.f2 ≤ x.f2 ∧ x.f2 < x.f2 + x.f3 by omega), Bool.and_true]
        have hon : onD g0 g1 g2 d x = (x.f0.toNat.testBit (d / g1.toNat) && x.f1.toNat.testBit (d % g1.toNat)) := by unfold onD; rw [hw, Bool.true_and]
        rw [← hon]
        cases hq : onD g0 g1 g2 d x with
        | false => exact skip hq
        | true =>
          refine Ev.step (f := fun k => horariumref16_of.l1 k l (d : Int) R.reverse (pre.length : Int) (R.length : Int) g0 g1 g2) (fun k => by rw [horariumref16_of.j1, if_neg (by simp), List.length_reverse]) ?_
          rw [List.filter_cons_of_pos hq, List.foldl_cons]
          refine ref_of_l1 hl h hR ?_ R [] (by simp) (by simp)
          exact ref_of_l0 hl hk hg hd xs (pre ++ [x]) (insR x R) (by simp [h]) (by rw [insR_length]; simp; omega)
theorem ref_of_ev {l : List S49} {g0 g1 g2 : Int} {d : Nat} (hl : l.length * 24 ≤ 140737488351232 ∧ ∀ x ∈ l, ok49 x) (hg : GridOk g0 g1 g2) (hd : (d : Int) < g0 * g1) : Ev (fun k => horariumref16_of.f k g0 g1 g2 l (d : Int)) (srt (l.filter (onD g0 g1 g2 d))) := by
  unfold horariumref16_of.f
  exact ref_of_l0 hl.1 hl.2 hg hd l [] [] rfl (by simp)
theorem all_eq (g0 g1 g2 : Int) : horariumref16_all.f g0 g1 g2 = some (if GridOk g0 g1 g2 then g0 * g1 else 0) := by
  unfold horariumref16_all.f
  rw [ref_RightGrid_eq, Option.bind_some]
  by_cases hg : GridOk g0 g1 g2
  · rw [if_pos (decide_eq_true hg), if_pos hg]
    unfold GridOk at hg
    have h1 : g0 * g1 ≤ 20 * 7 := Int.mul_le_mul (by omega) (by omega) (by omega) (by omega)
    have h0 : 0 ≤ g0 * g1 := Int.mul_nonneg (by omega) (by omega)
    rw [wrap64_in _ (by omega)]
  · rw [if_neg (by simpa using hg), if_neg hg]
theorem refBlocks_l0 {gap : Int} {l : List S49} (hl : l.length < 8796093022208) (ht : ∀ x ∈ l, WTame x) : ∀ (xs pre : List S49) (s : List S25 × Int × Int), l = pre ++ xs → BOk pre.length s →
    Ev (fun k => horariumref16_Blocks.l0 k gap l s.1.reverse s.2.1 s.2.2 (pre.length : Int)) (xs.foldl (bstep (mx 0 gap)) s).1.reverse
  | [], pre, s, h, hb => by
    refine Ev.step (f := fun _ => some s.1.reverse) (fun k => ?_) (Ev.now _)
    rw [horariumref16_Blocks.l0, if_neg (by simp [h])]
  | x :: xs, pre, s, h, hb => by
    have hlen : l.length = pre.length + (xs.length + 1) := by simp [h]
    have hx := rdW_mid h
    have hw := ht x (by simp [h])
    have hb2 := hb.step hw (mx 0 gap)
    have hs : ((pre ++ [x]).length : Int) = (pre.length : Int) + 1 := by simp
    have hsn : (pre ++ [x]).length = pre.length + 1 := by simp
    refine Ev.step (f := fun k => horariumref16_Blocks.l0 k gap l (bstep (mx 0 gap) s x).1.reverse (bstep (mx 0 gap) s x).2.1 (bstep (mx 0 gap) s x).2.2 ((pre ++ [x]).length : Int)) (fun k => ?_) ?_
    · rw [horariumref16_Blocks.l0, if_pos (by omega), if_pos (show (0 : Int) ≤ (pre.length : Int) by omega), hx, wrap64_in ((pre.length : Int) + 1) (by omega), hs]
      obtain ⟨R, f, e⟩ := s
      obtain ⟨h1, h2, h3, h4, h5, h6⟩ := hb
      obtain ⟨w1, w2, w3⟩ := hw
      simp only at h1 h2 h3 h4 h5 h6
      simp only [Option.bind_some]
      rw [wrap64_in (x.f2 + x.f3) (by omega), mx_pos (show x.f2 ≤ x.f2 + x.f3 by omega), wrap64_in (x.f2 + x.f3 - x.f2) (by omega), show x.f2 + x.f3 - x.f2 = x.f3 by omega]
      have hz : (((R.reverse ++ [(⟨0, 0⟩ : S25)]).length : Nat) : Int) - 1 = (R.reverse.length : Int) := by simp
      have hr0 : rd_T25 (R.reverse ++ [(⟨0, 0⟩ : S25)]) (R.reverse.length : Int) = ⟨0, 0⟩ := rdB_mid rfl
      have hset : ∀ (v : S25), (R.reverse ++ [(⟨0, 0⟩ : S25)]).set R.reverse.length v = (v :: R).reverse := fun v => by
        simp
      have hRl : (R.reverse.length : Int) = (R.length : Int) := by simp
      have hRl' : (((R.reverse ++ [(⟨0, 0⟩ : S25)]).length : Nat) : Int) = (R.length : Int) + 1 := by simp
      rw [wrap64_in _ (by omega : (-9223372036854775808 : Int) ≤ (((R.reverse ++ [(⟨0, 0⟩ : S25)]).length : Nat) : Int) - 1 ∧ (((R.reverse ++ [(⟨0, 0⟩ : S25)]).length : Nat) : Int) - 1 ≤ 9223372036854775807), hz, hr0, Int.toNat_natCast, hset]
      rw [if_pos (show (0:Int) ≤ (R.reverse.length : Int) by omega), if_pos (show (R.reverse.length : Int) < (((R.reverse ++ [(⟨0, 0⟩ : S25)]).length : Nat) : Int) by omega)]
      rw [if_pos (show R.reverse.length < 8796093022208 by rw [List.length_reverse]; omega)]
      rw [wrap64_in (((⟨0, 0⟩ : S25).f1) + 1) (by show (-9223372036854775808 : Int) ≤ 0 + 1 ∧ (0:Int) + 1 ≤ 9223372036854775807; omega)]
      cases R with
      | nil =>
        have hp0 : pre.length = 0 := h1.1 rfl
        rw [if_pos (by omega)]
        rfl
      | cons b R =>
        have hb3 := h3 b (by simp)
        have hp0 : pre.length ≠ 0 := fun hh => by have := h1.2 hh; simp at this
        rw [if_neg (by omega), wrap64_in (x.f2 - e) (by omega), mx_comm gap 0]
        unfold bstep
        simp only
        by_cases hq : x.f2 - e > mx 0 gap
        · rw [if_pos hq, if_pos hq, if_pos (show (b :: R).reverse.length < 8796093022208 by rw [List.length_reverse]; omega)]
          rfl
        · rw [if_neg hq, if_neg hq]
          have m1 := le_mx e (x.f2 + x.f3)
          have m2 := mx_le (c := 96) h6 w3
          have hz1 : (((b :: R).reverse.length : Nat) : Int) - 1 = (R.reverse.length : Int) := by simp
          have hr1 : rd_T25 (b :: R).reverse (R.reverse.length : Int) = b := rdB_mid (xs := []) (by simp)
          have hset1 : ∀ (v : S25), ((b :: R).reverse).set R.reverse.length v = (v :: R).reverse := fun v => by
            simp
          have hl1 : (((b :: R).reverse.length : Nat) : Int) = (R.reverse.length : Int) + 1 := by simp
          simp only [List.length_cons] at h2
          have hRR : (R.reverse.length : Int) = (R.length : Int) := by simp
          rw [wrap64_in _ (by omega : (-9223372036854775808 : Int) ≤ (((b :: R).reverse.length : Nat) : Int) - 1 ∧ (((b :: R).reverse.length : Nat) : Int) - 1 ≤ 9223372036854775807), hz1, hr1, Int.toNat_natCast, hset1, if_pos (by omega), if_pos (by omega), wrap64_in (mx e (x.f2 + x.f3) - f) (by omega), wrap64_in (b.f1 + 1) (by omega)]
    · rw [List.foldl_cons]
      exact refBlocks_l0 hl ht xs (pre ++ [x]) _ (by simp [h]) (by rw [hsn]; exact hb2)
theorem refBlocks_ev {l : List S49} {g0 g1 g2 day gap : Int} (hl : l.length * 24 ≤ 140737488351232 ∧ ∀ x ∈ l, ok49 x) : Ev (fun k => horariumref16_Blocks.f k g0 g1 g2 l day gap) (blocksS g0 g1 g2 l day gap) := by
  unfold horariumref16_Blocks.f blocksS
  have none : ¬ (GridOk g0 g1 g2 ∧ 0 ≤ day ∧ day < g0 * g1) → Ev (fun k => horariumref16_Blocks.j0 k l day gap true g0 g1 g2) (if GridOk g0 g1 g2 ∧ 0 ≤ day ∧ day < g0 * g1 then blk (mx 0 gap) (srt (l.filter (onD g0 g1 g2 day.toNat))) else []) := fun h => by
    rw [if_neg h]
    exact Ev.step (f := fun _ => some []) (fun k => by rw [horariumref16_Blocks.j0, if_pos rfl]) (Ev.now _)
  by_cases h0 : day < 0
  · simp only [if_pos h0]
    exact none (fun h => by omega)
  simp only [if_neg h0, all_eq, Option.bind_some]
  by_cases hg : GridOk g0 g1 g2
  rotate_left
  · simp only [if_neg hg]
    rw [decide_eq_true (by omega)]
    exact none (fun h => hg h.1)
  simp only [if_pos hg]
  by_cases h1 : day < g0 * g1
  rotate_left
  · rw [decide_eq_true (by omega)]
    exact none (fun h => h1 h.2.2)
  rw [decide_eq_false (by omega), if_pos ⟨hg, by omega, h1⟩]
  obtain ⟨d, rfl⟩ := Int.eq_ofNat_of_zero_le (show 0 ≤ day by omega)
  refine Ev.step (f := fun k => (horariumref16_of.f k g0 g1 g2 l (d : Int)).bind fun t => horariumref16_Blocks.l0 k gap t [] 0 0 0) (fun k => by rw [horariumref16_Blocks.j0, if_neg (by simp)]) ?_
  refine Ev.bind (ref_of_ev hl hg h1) ?_
  have hlt : (srt (l.filter (onD g0 g1 g2 d))).length < 8796093022208 := by
    have : (l.filter (onD g0 g1 g2 d)).length ≤ l.length := List.length_filter_le _ _
    rw [srt_length]; omega
  exact refBlocks_l0 hlt flt_tame _ [] ([], 0, 0) rfl BOk.start
end Go.Proofs.Ytlfnpakpkniipaa.Q
