/- Words for the claim. -/
import Derived.Test.YtlfnpakpkniipaaZOWords
import Derived.Test.YtlfnpakpkniipaaZOQx0
import Derived.Test.YtlfnpakpkniipaaZOQx11
namespace Go.Proofs.Ytlfnpakpkniipaa.Q
open Go.RowKit Go.Proofs.YtlfnpakpkniipaaW.PrintWords Go.Proofs.YtlfnpakpkniipaaW.PrintLast Go.Proofs.YtlfnpakpkniipaaW.PrintMore
attribute [local go_sem] max2_int min2_int max_two min_two max_three min_three max_four min_four
set_option linter.unusedVariables false
set_option linter.unusedSimpArgs false
def horariumref16_all.f (a0_0 : Int) (a0_1 : Int) (a0_2 : Int) : Option (Int) := (horariumref09_RightGrid.f a0_0 a0_1 a0_2).bind fun t230 => (if t230 = true then (some (wrap64 (a0_0 * a0_1))) else (some 0))
set_option maxHeartbeats 8000000 in
set_option maxRecDepth 100000 in
theorem horariumref16_all.calls (a0_0 : Int) (a0_1 : Int) (a0_2 : Int) (r : Int) (w : World) (h : horariumref16_all.f a0_0 a0_1 a0_2 = some r) :
  Calls Try.prog 36 #[.agg #[.int .i64 a0_0, .int .i64 a0_1, .int .i64 a0_2]] w fun e w' => e = .returned (.int .i64 r) ∧ Below w.heap.size w w' := by
 have hu23 := Try.underlying23
 have HB := zm (Below.refl w.heap.size w)
 have H : ((horariumref09_RightGrid.f a0_0 a0_1 a0_2).bind fun t230 => (if t230 = true then (some (wrap64 (a0_0 * a0_1))) else (some 0))) = some r := h
 clear h
 replace H := zo H
 obtain ⟨t230, A20, H⟩ := H
 have A2 := zm A20
 clear A20
 by_cases c3 : t230 = true
 ·subst c3
  have H1 : (some (wrap64 (a0_0 * a0_1))) = some r := by rw [if_pos rfl] at H; exact H
  clear H
  have H := H1
  clear H1
  obtain rfl := Option.some.inj H
  go_enter Try.func36, Try.ntmps36
  go_wp2_with (first | ((with_reducible refine gate_dst (N := 1) rfl ?_); refine box_event ?hg (N := 1) ?hd (cs := #[.int .i64 a0_0, .int .i64 a0_1, .int .i64 a0_2]) (t := 23) ?hr ?_; (case hd => rfl); (case hg => rfl); (case hr => go_simp; try rfl); intro gb229 hg w4 hbox hb; have BK229 := zm (hbox); have GW229 := zm ((by rw [hg]; exact (below_size (by apply_rules [HB.out, zb1, zb2, zb3])) : w.heap.size ≤ gb229)); have GE229 := GW229; replace HB := zm (below_step (by apply_rules [HB.out, zb1, zb2, zb3]) hb); clear hb hbox hg; obtain ⟨hcz5_0, hcz5_1, hcz5_2, hfz5_0, hfz5_1, hfz5_2⟩ := zf3 BK229.out) | ((with_reducible refine gate_callee (f := 44) rfl ?_); refine goesL_ (some 4) rfl rfl Try.func44 (by kernel_rfl) rfl #[.agg #[.int .i64 a0_0, .int .i64 a0_1, .int .i64 a0_2]] rfl (by (try simp only [zt1, zt2, zt3]) <;> rfl) ?_; (with_reducible refine (horariumref09_RightGrid.calls a0_0 a0_1 a0_2 true _ A2.out).mono ?_); rintro e w6 ⟨rfl, hb⟩; refine ⟨_, rfl, ?_⟩; replace BK229 := zm (blk_below (by apply_rules [BK229.out, zk1, zk2, zk3]) hb); replace HB := zm (below_step (by apply_rules [HB.out, zb1, zb2, zb3, zb4, GE229.out]) hb); (try clear hb); obtain ⟨hcz7_0, hcz7_1, hcz7_2, hfz7_0, hfz7_1, hfz7_2⟩ := zf3 BK229.out))
  go_ret
  exact ⟨by first | rfl | (simp [errW_none, errW_some] <;> rfl) | (simp [*, errW_none, errW_some] <;> rfl), by apply_rules [HB.out, zb1, zb2, zb3, zb4, GE229.out]⟩
 replace c3 := Bool.eq_false_iff.mpr c3
 subst c3
 have H1 : (some 0) = some r := by rw [if_neg (show ¬ (false = true) by decide)] at H; exact H
 clear H
 have H := H1
 clear H1
 obtain rfl := Option.some.inj H
 go_enter Try.func36, Try.ntmps36
 go_wp2_with (first | ((with_reducible refine gate_dst (N := 1) rfl ?_); refine box_event ?hg (N := 1) ?hd (cs := #[.int .i64 a0_0, .int .i64 a0_1, .int .i64 a0_2]) (t := 23) ?hr ?_; (case hd => rfl); (case hg => rfl); (case hr => go_simp; try rfl); intro gb229 hg w8 hbox hb; have BK229 := zm (hbox); have GW229 := zm ((by rw [hg]; exact (below_size (by apply_rules [HB.out, zb1, zb2, zb3])) : w.heap.size ≤ gb229)); have GE229 := GW229; replace HB := zm (below_step (by apply_rules [HB.out, zb1, zb2, zb3]) hb); clear hb hbox hg; obtain ⟨hcz9_0, hcz9_1, hcz9_2, hfz9_0, hfz9_1, hfz9_2⟩ := zf3 BK229.out) | ((with_reducible refine gate_callee (f := 44) rfl ?_); refine goesL_ (some 4) rfl rfl Try.func44 (by kernel_rfl) rfl #[.agg #[.int .i64 a0_0, .int .i64 a0_1, .int .i64 a0_2]] rfl (by (try simp only [zt1, zt2, zt3]) <;> rfl) ?_; (with_reducible refine (horariumref09_RightGrid.calls a0_0 a0_1 a0_2 false _ A2.out).mono ?_); rintro e w10 ⟨rfl, hb⟩; refine ⟨_, rfl, ?_⟩; replace BK229 := zm (blk_below (by apply_rules [BK229.out, zk1, zk2, zk3]) hb); replace HB := zm (below_step (by apply_rules [HB.out, zb1, zb2, zb3, zb4, GE229.out]) hb); (try clear hb)))
 go_ret
 exact ⟨by first | rfl | (simp [errW_none, errW_some] <;> rfl) | (simp [*, errW_none, errW_some] <;> rfl), by apply_rules [HB.out, zb1, zb2, zb3, zb4, GE229.out]⟩
def horariumref09_Tame.f (a0_0 : Int) (a0_1 : Int) (a0_2 : Int) (a0_3 : Int) : Option (Bool) := if a0_2 ≥ 0 then (if a0_2 ≤ 96 then (if a0_3 ≥ 1 then (some (decide (a0_3 ≤ 96))) else (some false)) else (some false)) else (some false)
set_option maxHeartbeats 8000000 in
set_option maxRecDepth 100000 in
theorem horariumref09_Tame.calls (a0_0 : Int) (a0_1 : Int) (a0_2 : Int) (a0_3 : Int) (r : Bool) (w : World) (h : horariumref09_Tame.f a0_0 a0_1 a0_2 a0_3 = some r) :
  Calls Try.prog 58 #[.agg #[.int .u32 a0_0, .int .u8 a0_1, .int .i64 a0_2, .int .i64 a0_3]] w fun e w' => e = .returned (.bool r) ∧ Below w.heap.size w w' := by
 have hu49 := Try.underlying49
 have HB := zm (Below.refl w.heap.size w)
 have H : (if a0_2 ≥ 0 then (if a0_2 ≤ 96 then (if a0_3 ≥ 1 then (some (decide (a0_3 ≤ 96))) else (some false)) else (some false)) else (some false)) = some r := h
 clear h
 by_cases c2 : a0_2 ≥ 0
 ·rw [if_pos c2] at H
  have c2b0 : decide (0 ≤ a0_2) = true := decide_eq_true c2
  clear c2
  by_cases c3 : a0_2 ≤ 96
  ·rw [if_pos c3] at H
   have c3b0 : decide (a0_2 ≤ 96) = true := decide_eq_true c3
   clear c3
   by_cases c4 : a0_3 ≥ 1
   ·rw [if_pos c4] at H
    have c4b0 : decide (1 ≤ a0_3) = true := decide_eq_true c4
    clear c4
    obtain rfl := Option.some.inj H
    go_enter Try.func58, Try.ntmps58
    go_wp2_with (first | ((with_reducible refine gate_dst (N := 1) rfl ?_); refine box_event ?hg (N := 1) ?hd (cs := #[.int .u32 a0_0, .int .u8 a0_1, .int .i64 a0_2, .int .i64 a0_3]) (t := 49) ?hr ?_; (case hd => rfl); (case hg => rfl); (case hr => go_simp; try rfl); intro gb231 hg w5 hbox hb; have BK231 := zm (hbox); have GW231 := zm ((by rw [hg]; exact (below_size (by apply_rules [HB.out, zb1, zb2, zb3])) : w.heap.size ≤ gb231)); have GE231 := GW231; replace HB := zm (below_step (by apply_rules [HB.out, zb1, zb2, zb3]) hb); clear hb hbox hg; obtain ⟨hcz6_0, hcz6_1, hcz6_2, hcz6_3, hfz6_0, hfz6_1, hfz6_2, hfz6_3⟩ := zf4 BK231.out))
    go_ret
    exact ⟨by first | rfl | (simp [errW_none, errW_some] <;> rfl) | (simp [*, errW_none, errW_some] <;> rfl), by apply_rules [HB.out, zb1, zb2, zb3, zb4, GE231.out]⟩
   rw [if_neg c4] at H
   have c4b0 : decide (1 ≤ a0_3) = false := decide_eq_false c4
   clear c4
   obtain rfl := Option.some.inj H
   go_enter Try.func58, Try.ntmps58
   go_wp2_with (first | ((with_reducible refine gate_dst (N := 1) rfl ?_); refine box_event ?hg (N := 1) ?hd (cs := #[.int .u32 a0_0, .int .u8 a0_1, .int .i64 a0_2, .int .i64 a0_3]) (t := 49) ?hr ?_; (case hd => rfl); (case hg => rfl); (case hr => go_simp; try rfl); intro gb231 hg w7 hbox hb; have BK231 := zm (hbox); have GW231 := zm ((by rw [hg]; exact (below_size (by apply_rules [HB.out, zb1, zb2, zb3])) : w.heap.size ≤ gb231)); have GE231 := GW231; replace HB := zm (below_step (by apply_rules [HB.out, zb1, zb2, zb3]) hb); clear hb hbox hg; obtain ⟨hcz8_0, hcz8_1, hcz8_2, hcz8_3, hfz8_0, hfz8_1, hfz8_2, hfz8_3⟩ := zf4 BK231.out))
   go_ret
   exact ⟨by first | rfl | (simp [errW_none, errW_some] <;> rfl) | (simp [*, errW_none, errW_some] <;> rfl), by apply_rules [HB.out, zb1, zb2, zb3, zb4, GE231.out]⟩
  rw [if_neg c3] at H
  have c3b0 : decide (a0_2 ≤ 96) = false := decide_eq_false c3
  clear c3
  obtain rfl := Option.some.inj H
  go_enter Try.func58, Try.ntmps58
  go_wp2_with (first | ((with_reducible refine gate_dst (N := 1) rfl ?_); refine box_event ?hg (N := 1) ?hd (cs := #[.int .u32 a0_0, .int .u8 a0_1, .int .i64 a0_2, .int .i64 a0_3]) (t := 49) ?hr ?_; (case hd => rfl); (case hg => rfl); (case hr => go_simp; try rfl); intro gb231 hg w9 hbox hb; have BK231 := zm (hbox); have GW231 := zm ((by rw [hg]; exact (below_size (by apply_rules [HB.out, zb1, zb2, zb3])) : w.heap.size ≤ gb231)); have GE231 := GW231; replace HB := zm (below_step (by apply_rules [HB.out, zb1, zb2, zb3]) hb); clear hb hbox hg; obtain ⟨hcz10_0, hcz10_1, hcz10_2, hcz10_3, hfz10_0, hfz10_1, hfz10_2, hfz10_3⟩ := zf4 BK231.out))
  go_ret
  exact ⟨by first | rfl | (simp [errW_none, errW_some] <;> rfl) | (simp [*, errW_none, errW_some] <;> rfl), by apply_rules [HB.out, zb1, zb2, zb3, zb4, GE231.out]⟩
 rw [if_neg c2] at H
 have c2b0 : decide (0 ≤ a0_2) = false := decide_eq_false c2
 clear c2
 obtain rfl := Option.some.inj H
 go_enter Try.func58, Try.ntmps58
 go_wp2_with (first | ((with_reducible refine gate_dst (N := 1) rfl ?_); refine box_event ?hg (N := 1) ?hd (cs := #[.int .u32 a0_0, .int .u8 a0_1, .int .i64 a0_2, .int .i64 a0_3]) (t := 49) ?hr ?_; (case hd => rfl); (case hg => rfl); (case hr => go_simp; try rfl); intro gb231 hg w11 hbox hb; have BK231 := zm (hbox); have GW231 := zm ((by rw [hg]; exact (below_size (by apply_rules [HB.out, zb1, zb2, zb3])) : w.heap.size ≤ gb231)); have GE231 := GW231; replace HB := zm (below_step (by apply_rules [HB.out, zb1, zb2, zb3]) hb); clear hb hbox hg; obtain ⟨hcz12_0, hcz12_1, hcz12_2, hcz12_3, hfz12_0, hfz12_1, hfz12_2, hfz12_3⟩ := zf4 BK231.out))
 go_ret
 exact ⟨by first | rfl | (simp [errW_none, errW_some] <;> rfl) | (simp [*, errW_none, errW_some] <;> rfl), by apply_rules [HB.out, zb1, zb2, zb3, zb4, GE231.out]⟩
def horariumref09_On.j0 : Nat → Int → Int → Int → Bool → Int → Int → Int → Int → Option (Bool)
 | 0, _, _, _, _, _, _, _, _ => none
 | k + 1, x1, x2, x3, x27, x233000, x233001, x233002, x233003 => if x27 = true then (some false) else ((horariumref09_bit.f x233000 x1).bind fun t234 => (if t234 = true then ((horariumref09_bit.f ((x233001) % 4294967296) x2).bind fun t235 => (if t235 = true then (if x3 ≥ x233002 then (some (decide (x3 < (wrap64 (x233002 + x233003))))) else (some false)) else (some false))) else (some false)))
def horariumref09_On.f (k : Nat) (a0_0 : Int) (a0_1 : Int) (a0_2 : Int) (a0_3 : Int) (a1 : Int) (a2 : Int) (a3 : Int) : Option (Bool) := (horariumref09_Tame.f a0_0 a0_1 a0_2 a0_3).bind fun t233 => (if t233 = true then (if a1 < 0 then (horariumref09_On.j0 k a1 a2 a3 true a0_0 a0_1 a0_2 a0_3) else (if a1 > 31 then (horariumref09_On.j0 k a1 a2 a3 true a0_0 a0_1 a0_2 a0_3) else (if a2 < 0 then (horariumref09_On.j0 k a1 a2 a3 true a0_0 a0_1 a0_2 a0_3) else (horariumref09_On.j0 k a1 a2 a3 (decide (a2 > 7)) a0_0 a0_1 a0_2 a0_3)))) else (horariumref09_On.j0 k a1 a2 a3 true a0_0 a0_1 a0_2 a0_3))
set_option maxHeartbeats 8000000 in
set_option maxRecDepth 100000 in
theorem horariumref09_On.calls (k : Nat) (a0_0 : Int) (a0_1 : Int) (a0_2 : Int) (a0_3 : Int) (a1 : Int) (a2 : Int) (a3 : Int) (r : Bool) (w : World) (h : horariumref09_On.f k a0_0 a0_1 a0_2 a0_3 a1 a2 a3 = some r) :
  Calls Try.prog 50 #[.agg #[.int .u32 a0_0, .int .u8 a0_1, .int .i64 a0_2, .int .i64 a0_3], .int .i64 a1, .int .i64 a2, .int .i64 a3] w fun e w' => e = .returned (.bool r) ∧ Below w.heap.size w w' := by
 have hu49 := Try.underlying49
 have HB := zm (Below.refl w.heap.size w)
 have H : ((horariumref09_Tame.f a0_0 a0_1 a0_2 a0_3).bind fun t233 => (if t233 = true then (if a1 < 0 then (horariumref09_On.j0 k a1 a2 a3 true a0_0 a0_1 a0_2 a0_3) else (if a1 > 31 then (horariumref09_On.j0 k a1 a2 a3 true a0_0 a0_1 a0_2 a0_3) else (if a2 < 0 then (horariumref09_On.j0 k a1 a2 a3 true a0_0 a0_1 a0_2 a0_3) else (horariumref09_On.j0 k a1 a2 a3 (decide (a2 > 7)) a0_0 a0_1 a0_2 a0_3)))) else (horariumref09_On.j0 k a1 a2 a3 true a0_0 a0_1 a0_2 a0_3))) = some r := h
 clear h
 have HC5 := zm H
 clear H
 go_enter Try.func50, Try.ntmps50
 go_upto_region 1 with (first | ((with_reducible refine gate_dst (N := 4) rfl ?_); refine box_event ?hg (N := 4) ?hd (cs := #[.int .u32 a0_0, .int .u8 a0_1, .int .i64 a0_2, .int .i64 a0_3]) (t := 49) ?hr ?_; (case hd => rfl); (case hg => rfl); (case hr => go_simp; try rfl); intro gb232 hg w6 hbox hb; have BK232 := zm (hbox); have GW232 := zm ((by rw [hg]; exact (below_size (by apply_rules [HB.out, zb1, zb2, zb3])) : w.heap.size ≤ gb232)); have GE232 := GW232; replace HB := zm (below_step (by apply_rules [HB.out, zb1, zb2, zb3]) hb); clear hb hbox hg))
 (try simp only [Act.put, zs1, zs2, zs3])
 go_cut [27] (fun v27 wc => ∃ (kq : Nat) (x27_4 : Bool), v27 = .bool x27_4 ∧ Aside0 (horariumref09_On.j0 kq a1 a2 a3 x27_4 a0_0 a0_1 a0_2 a0_3 = some r) ∧ Aside0 (kq ≤ k) ∧ Aside0 (wc.heap[gb232]? = some (.cells #[.int .u32 a0_0, .int .u8 a0_1, .int .i64 a0_2, .int .i64 a0_3] 49 (0, 0))) ∧ Aside0 (Below w.heap.size w wc))
 case first =>
  have H := HC5.out
  clear HC5
  replace H := zo H
  obtain ⟨t233, A70, H⟩ := H
  have A7 := zm A70
  clear A70
  by_cases c8 : t233 = true
  ·subst c8
   have H1 : (if a1 < 0 then (horariumref09_On.j0 k a1 a2 a3 true a0_0 a0_1 a0_2 a0_3) else (if a1 > 31 then (horariumref09_On.j0 k a1 a2 a3 true a0_0 a0_1 a0_2 a0_3) else (if a2 < 0 then (horariumref09_On.j0 k a1 a2 a3 true a0_0 a0_1 a0_2 a0_3) else (horariumref09_On.j0 k a1 a2 a3 (decide (a2 > 7)) a0_0 a0_1 a0_2 a0_3)))) = some r := by rw [if_pos rfl] at H; exact H
   clear H
   have H := H1
   clear H1
   by_cases c9 : a1 < 0
   ·rw [if_pos c9] at H
    have c9b0 : decide (a1 < 0) = true := decide_eq_true c9
    clear c9
    (first | rw [c9b0] | (simp only [i64_w, i32_w]; rw [c9b0]) | skip)
    have H' := zm H
    clear H
    obtain ⟨hcz10_0, hcz10_1, hcz10_2, hcz10_3, hfz10_0, hfz10_1, hfz10_2, hfz10_3⟩ := zf4 BK232.out
    go_wp2_with (first | ((with_reducible refine gate_callee (f := 58) rfl ?_); refine goesL_ (some 10) rfl rfl Try.func58 (by kernel_rfl) rfl #[.agg #[.int .u32 a0_0, .int .u8 a0_1, .int .i64 a0_2, .int .i64 a0_3]] rfl (by (try simp only [zt1, zt2, zt3]) <;> rfl) ?_; (with_reducible refine (horariumref09_Tame.calls a0_0 a0_1 a0_2 a0_3 true _ A7.out).mono ?_); rintro e w11 ⟨rfl, hb⟩; refine ⟨_, rfl, ?_⟩; replace BK232 := zm (blk_below (by apply_rules [BK232.out, zk1, zk2, zk3]) hb); replace HB := zm (below_step (by apply_rules [HB.out, zb1, zb2, zb3, zb4, GE232.out]) hb); (try clear hb)))
    go_meet
    case rel => exact ⟨_, (true), (by first | rfl | (simp; done) | (simp [*]; done)), H', ⟨by first | omega | exact Nat.le_refl _⟩, ⟨by (with_reducible repeat (first | refine blk_alloc ?_ _ | refine blk_drewN ?_ _ | refine blk_drew ?_)); exact BK232.out⟩, ⟨by apply_rules [HB.out, zb1, zb2, zb3, zb4, GE232.out]⟩⟩
   rw [if_neg c9] at H
   have c9b0 : decide (a1 < 0) = false := decide_eq_false c9
   clear c9
   (first | rw [c9b0] | (simp only [i64_w, i32_w]; rw [c9b0]) | skip)
   by_cases c12 : a1 > 31
   ·rw [if_pos c12] at H
    have c12b0 : decide (31 < a1) = true := decide_eq_true c12
    clear c12
    have H' := zm H
    clear H
    obtain ⟨hcz13_0, hcz13_1, hcz13_2, hcz13_3, hfz13_0, hfz13_1, hfz13_2, hfz13_3⟩ := zf4 BK232.out
    go_wp2_with (first | ((with_reducible refine gate_callee (f := 58) rfl ?_); refine goesL_ (some 10) rfl rfl Try.func58 (by kernel_rfl) rfl #[.agg #[.int .u32 a0_0, .int .u8 a0_1, .int .i64 a0_2, .int .i64 a0_3]] rfl (by (try simp only [zt1, zt2, zt3]) <;> rfl) ?_; (with_reducible refine (horariumref09_Tame.calls a0_0 a0_1 a0_2 a0_3 true _ A7.out).mono ?_); rintro e w14 ⟨rfl, hb⟩; refine ⟨_, rfl, ?_⟩; replace BK232 := zm (blk_below (by apply_rules [BK232.out, zk1, zk2, zk3]) hb); replace HB := zm (below_step (by apply_rules [HB.out, zb1, zb2, zb3, zb4, GE232.out]) hb); (try clear hb)))
    go_meet
    case rel => exact ⟨_, (true), (by first | rfl | (simp; done) | (simp [*]; done)), H', ⟨by first | omega | exact Nat.le_refl _⟩, ⟨by (with_reducible repeat (first | refine blk_alloc ?_ _ | refine blk_drewN ?_ _ | refine blk_drew ?_)); exact BK232.out⟩, ⟨by apply_rules [HB.out, zb1, zb2, zb3, zb4, GE232.out]⟩⟩
   rw [if_neg c12] at H
   have c12b0 : decide (31 < a1) = false := decide_eq_false c12
   clear c12
   by_cases c15 : a2 < 0
   ·rw [if_pos c15] at H
    have c15b0 : decide (a2 < 0) = true := decide_eq_true c15
    clear c15
    have H' := zm H
    clear H
    obtain ⟨hcz16_0, hcz16_1, hcz16_2, hcz16_3, hfz16_0, hfz16_1, hfz16_2, hfz16_3⟩ := zf4 BK232.out
    go_wp2_with (first | ((with_reducible refine gate_callee (f := 58) rfl ?_); refine goesL_ (some 10) rfl rfl Try.func58 (by kernel_rfl) rfl #[.agg #[.int .u32 a0_0, .int .u8 a0_1, .int .i64 a0_2, .int .i64 a0_3]] rfl (by (try simp only [zt1, zt2, zt3]) <;> rfl) ?_; (with_reducible refine (horariumref09_Tame.calls a0_0 a0_1 a0_2 a0_3 true _ A7.out).mono ?_); rintro e w17 ⟨rfl, hb⟩; refine ⟨_, rfl, ?_⟩; replace BK232 := zm (blk_below (by apply_rules [BK232.out, zk1, zk2, zk3]) hb); replace HB := zm (below_step (by apply_rules [HB.out, zb1, zb2, zb3, zb4, GE232.out]) hb); (try clear hb)))
    go_meet
    case rel => exact ⟨_, (true), (by first | rfl | (simp; done) | (simp [*]; done)), H', ⟨by first | omega | exact Nat.le_refl _⟩, ⟨by (with_reducible repeat (first | refine blk_alloc ?_ _ | refine blk_drewN ?_ _ | refine blk_drew ?_)); exact BK232.out⟩, ⟨by apply_rules [HB.out, zb1, zb2, zb3, zb4, GE232.out]⟩⟩
   rw [if_neg c15] at H
   have c15b0 : decide (a2 < 0) = false := decide_eq_false c15
   clear c15
   have H' := zm H
   clear H
   obtain ⟨hcz18_0, hcz18_1, hcz18_2, hcz18_3, hfz18_0, hfz18_1, hfz18_2, hfz18_3⟩ := zf4 BK232.out
   go_wp2_with (first | ((with_reducible refine gate_callee (f := 58) rfl ?_); refine goesL_ (some 10) rfl rfl Try.func58 (by kernel_rfl) rfl #[.agg #[.int .u32 a0_0, .int .u8 a0_1, .int .i64 a0_2, .int .i64 a0_3]] rfl (by (try simp only [zt1, zt2, zt3]) <;> rfl) ?_; (with_reducible refine (horariumref09_Tame.calls a0_0 a0_1 a0_2 a0_3 true _ A7.out).mono ?_); rintro e w19 ⟨rfl, hb⟩; refine ⟨_, rfl, ?_⟩; replace BK232 := zm (blk_below (by apply_rules [BK232.out, zk1, zk2, zk3]) hb); replace HB := zm (below_step (by apply_rules [HB.out, zb1, zb2, zb3, zb4, GE232.out]) hb); (try clear hb)))
   go_meet
   case rel => exact ⟨_, (decide (a2 > 7)), (by first | rfl | (simp; done) | (simp [*]; done)), H', ⟨by first | omega | exact Nat.le_refl _⟩, ⟨by (with_reducible repeat (first | refine blk_alloc ?_ _ | refine blk_drewN ?_ _ | refine blk_drew ?_)); exact BK232.out⟩, ⟨by apply_rules [HB.out, zb1, zb2, zb3, zb4, GE232.out]⟩⟩
  replace c8 := Bool.eq_false_iff.mpr c8
  subst c8
  have H1 : (horariumref09_On.j0 k a1 a2 a3 true a0_0 a0_1 a0_2 a0_3) = some r := by rw [if_neg (show ¬ (false = true) by decide)] at H; exact H
  clear H
  have H := H1
  clear H1
  have H' := zm H
  clear H
  obtain ⟨hcz20_0, hcz20_1, hcz20_2, hcz20_3, hfz20_0, hfz20_1, hfz20_2, hfz20_3⟩ := zf4 BK232.out
  go_wp2_with (first | ((with_reducible refine gate_callee (f := 58) rfl ?_); refine goesL_ (some 10) rfl rfl Try.func58 (by kernel_rfl) rfl #[.agg #[.int .u32 a0_0, .int .u8 a0_1, .int .i64 a0_2, .int .i64 a0_3]] rfl (by (try simp only [zt1, zt2, zt3]) <;> rfl) ?_; (with_reducible refine (horariumref09_Tame.calls a0_0 a0_1 a0_2 a0_3 false _ A7.out).mono ?_); rintro e w21 ⟨rfl, hb⟩; refine ⟨_, rfl, ?_⟩; replace BK232 := zm (blk_below (by apply_rules [BK232.out, zk1, zk2, zk3]) hb); replace HB := zm (below_step (by apply_rules [HB.out, zb1, zb2, zb3, zb4, GE232.out]) hb); (try clear hb)))
  go_meet
  case rel => exact ⟨_, (true), (by first | rfl | (simp; done) | (simp [*]; done)), H', ⟨by first | omega | exact Nat.le_refl _⟩, ⟨by (with_reducible repeat (first | refine blk_alloc ?_ _ | refine blk_drewN ?_ _ | refine blk_drew ?_)); exact BK232.out⟩, ⟨by apply_rules [HB.out, zb1, zb2, zb3, zb4, GE232.out]⟩⟩
 case rest =>
  clear HC5
  (try clear c1); (try clear p2); (try clear c5); (try clear c8); (try clear c9); (try clear c9b0); (try clear c12); (try clear c12b0); (try clear c15); (try clear c15b0); (try clear hcz10_0); (try clear hcz10_1); (try clear hcz10_2); (try clear hcz10_3); (try clear hcz13_0); (try clear hcz13_1); (try clear hcz13_2); (try clear hcz13_3); (try clear hcz16_0); (try clear hcz16_1); (try clear hcz16_2)
  (try clear hcz16_3); (try clear hcz18_0); (try clear hcz18_1); (try clear hcz18_2); (try clear hcz18_3); (try clear hcz20_0); (try clear hcz20_1); (try clear hcz20_2); (try clear hcz20_3); (try clear hfz10_0); (try clear hfz10_1); (try clear hfz10_2); (try clear hfz10_3); (try clear hfz13_0); (try clear hfz13_1); (try clear hfz13_2); (try clear hfz13_3); (try clear hfz16_0); (try clear hfz16_1); (try clear hfz16_2)
  (try clear hfz16_3); (try clear hfz18_0); (try clear hfz18_1); (try clear hfz18_2); (try clear hfz18_3); (try clear hfz20_0); (try clear hfz20_1); (try clear hfz20_2); (try clear hfz20_3)
  obtain ⟨kq, x27_4, rfl, HA, HJ4, BK232, HB⟩ := hcut
  cases kq with
  | zero => exact absurd HA.out (by simp [horariumref09_On.j0])
  | succ kj4 =>
   have H := HA.out
   clear HA
   simp only [horariumref09_On.j0] at H
   by_cases c22 : x27_4 = true
   ·subst c22
    have H1 : (some false) = some r := by rw [if_pos rfl] at H; exact H
    clear H
    have H := H1
    clear H1
    obtain rfl := Option.some.inj H
    go_wp2
    go_ret
    exact ⟨by first | rfl | (simp [errW_none, errW_some] <;> rfl) | (simp [*, errW_none, errW_some] <;> rfl), by apply_rules [HB.out, zb1, zb2, zb3, zb4, GE232.out]⟩
   replace c22 := Bool.eq_false_iff.mpr c22
   subst c22
   have H1 : ((horariumref09_bit.f a0_0 a1).bind fun t234 => (if t234 = true then ((horariumref09_bit.f ((a0_1) % 4294967296) a2).bind fun t235 => (if t235 = true then (if a3 ≥ a0_2 then (some (decide (a3 < (wrap64 (a0_2 + a0_3))))) else (some false)) else (some false))) else (some false))) = some r := by rw [if_neg (show ¬ (false = true) by decide)] at H; exact H
   clear H
   have H := H1
   clear H1
   replace H := zo H
   obtain ⟨t234, A230, H⟩ := H
   have A23 := zm A230
   clear A230
   by_cases c24 : t234 = true
   ·subst c24
    have H1 : ((horariumref09_bit.f ((a0_1) % 4294967296) a2).bind fun t235 => (if t235 = true then (if a3 ≥ a0_2 then (some (decide (a3 < (wrap64 (a0_2 + a0_3))))) else (some false)) else (some false))) = some r := by rw [if_pos rfl] at H; exact H
    clear H
    have H := H1
    clear H1
    replace H := zo H
    obtain ⟨t235, A250, H⟩ := H
    have A25 := zm A250
    clear A250
    by_cases c26 : t235 = true
    ·subst c26
     have H1 : (if a3 ≥ a0_2 then (some (decide (a3 < (wrap64 (a0_2 + a0_3))))) else (some false)) = some r := by rw [if_pos rfl] at H; exact H
     clear H
     have H := H1
     clear H1
     by_cases c27 : a3 ≥ a0_2
     ·rw [if_pos c27] at H
      have c27b0 : decide (a0_2 ≤ a3) = true := decide_eq_true c27
      clear c27
      obtain rfl := Option.some.inj H
      obtain ⟨hcz28_0, hcz28_1, hcz28_2, hcz28_3, hfz28_0, hfz28_1, hfz28_2, hfz28_3⟩ := zf4 BK232.out
      go_wp2_with (first | ((with_reducible refine gate_callee (f := 45) rfl ?_); refine goesL_ (some 31) rfl rfl Try.func45 (by kernel_rfl) rfl #[.int .u32 a0_0, .int .i64 a1] rfl (by (try simp only [zt1, zt2, zt3]) <;> rfl) ?_; (with_reducible refine (horariumref09_bit.calls a0_0 a1 true _ A23.out).mono ?_); rintro e w' ⟨rfl, ⟨nd, rfl⟩⟩; refine ⟨_, rfl, ?_⟩) | (go_at_call 45; (with_reducible refine (horariumref09_bit.calls ((a0_1) % 4294967296) a2 true _ A25.out).mono ?_); rintro e w' ⟨rfl, ⟨nd, rfl⟩⟩))
      go_ret
      exact ⟨by first | rfl | (simp [errW_none, errW_some] <;> rfl) | (simp [*, errW_none, errW_some] <;> rfl), by apply_rules [HB.out, zb1, zb2, zb3, zb4, GE232.out]⟩
     rw [if_neg c27] at H
     have c27b0 : decide (a0_2 ≤ a3) = false := decide_eq_false c27
     clear c27
     obtain rfl := Option.some.inj H
     obtain ⟨hcz29_0, hcz29_1, hcz29_2, hcz29_3, hfz29_0, hfz29_1, hfz29_2, hfz29_3⟩ := zf4 BK232.out
     go_wp2_with (first | ((with_reducible refine gate_callee (f := 45) rfl ?_); refine goesL_ (some 31) rfl rfl Try.func45 (by kernel_rfl) rfl #[.int .u32 a0_0, .int .i64 a1] rfl (by (try simp only [zt1, zt2, zt3]) <;> rfl) ?_; (with_reducible refine (horariumref09_bit.calls a0_0 a1 true _ A23.out).mono ?_); rintro e w' ⟨rfl, ⟨nd, rfl⟩⟩; refine ⟨_, rfl, ?_⟩) | (go_at_call 45; (with_reducible refine (horariumref09_bit.calls ((a0_1) % 4294967296) a2 true _ A25.out).mono ?_); rintro e w' ⟨rfl, ⟨nd, rfl⟩⟩))
     go_ret
     exact ⟨by first | rfl | (simp [errW_none, errW_some] <;> rfl) | (simp [*, errW_none, errW_some] <;> rfl), by apply_rules [HB.out, zb1, zb2, zb3, zb4, GE232.out]⟩
    replace c26 := Bool.eq_false_iff.mpr c26
    subst c26
    have H1 : (some false) = some r := by rw [if_neg (show ¬ (false = true) by decide)] at H; exact H
    clear H
    have H := H1
    clear H1
    obtain rfl := Option.some.inj H
    obtain ⟨hcz30_0, hcz30_1, hcz30_2, hcz30_3, hfz30_0, hfz30_1, hfz30_2, hfz30_3⟩ := zf4 BK232.out
    go_wp2_with (first | ((with_reducible refine gate_callee (f := 45) rfl ?_); refine goesL_ (some 31) rfl rfl Try.func45 (by kernel_rfl) rfl #[.int .u32 a0_0, .int .i64 a1] rfl (by (try simp only [zt1, zt2, zt3]) <;> rfl) ?_; (with_reducible refine (horariumref09_bit.calls a0_0 a1 true _ A23.out).mono ?_); rintro e w' ⟨rfl, ⟨nd, rfl⟩⟩; refine ⟨_, rfl, ?_⟩) | (go_at_call 45; (with_reducible refine (horariumref09_bit.calls ((a0_1) % 4294967296) a2 false _ A25.out).mono ?_); rintro e w' ⟨rfl, ⟨nd, rfl⟩⟩))
    go_ret
    exact ⟨by first | rfl | (simp [errW_none, errW_some] <;> rfl) | (simp [*, errW_none, errW_some] <;> rfl), by apply_rules [HB.out, zb1, zb2, zb3, zb4, GE232.out]⟩
   replace c24 := Bool.eq_false_iff.mpr c24
   subst c24
   have H1 : (some false) = some r := by rw [if_neg (show ¬ (false = true) by decide)] at H; exact H
   clear H
   have H := H1
   clear H1
   obtain rfl := Option.some.inj H
   obtain ⟨hcz31_0, hcz31_1, hcz31_2, hcz31_3, hfz31_0, hfz31_1, hfz31_2, hfz31_3⟩ := zf4 BK232.out
   go_wp2_with (first | ((with_reducible refine gate_callee (f := 45) rfl ?_); refine goesL_ (some 31) rfl rfl Try.func45 (by kernel_rfl) rfl #[.int .u32 a0_0, .int .i64 a1] rfl (by (try simp only [zt1, zt2, zt3]) <;> rfl) ?_; (with_reducible refine (horariumref09_bit.calls a0_0 a1 false _ A23.out).mono ?_); rintro e w' ⟨rfl, ⟨nd, rfl⟩⟩; refine ⟨_, rfl, ?_⟩))
   go_ret
   exact ⟨by first | rfl | (simp [errW_none, errW_some] <;> rfl) | (simp [*, errW_none, errW_some] <;> rfl), by apply_rules [HB.out, zb1, zb2, zb3, zb4, GE232.out]⟩
end Go.Proofs.Ytlfnpakpkniipaa.Q
