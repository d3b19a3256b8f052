/- Words for the claim. -/
import Derived.Test.YtlfnpakpkniipaaZGWords
import Derived.Test.YtlfnpakpkniipaaZGQx0
import Derived.Test.YtlfnpakpkniipaaZGQx10
import Derived.Test.YtlfnpakpkniipaaZGQx13
import Derived.Test.YtlfnpakpkniipaaZGQx17
import Derived.Test.YtlfnpakpkniipaaZGQx20
namespace Go.Proofs.Ytlfnpakpkniipaa.Q
open Go.RowKit Go.Proofs.YtlfnpakpkniipaaW.PrintWords Go.Proofs.YtlfnpakpkniipaaW.PrintLast Go.Proofs.YtlfnpakpkniipaaW.PrintMore
attribute [local go_sem] max2_int min2_int max_two min_two max_three min_three max_four min_four
set_option linter.unusedVariables false
set_option linter.unusedSimpArgs false
def many_Least.f (k : Nat) (a0_0 : Int) (a0_1 : Int) (a0_2 : Int) (a1 : Int) (a2 : Int) (a3 : Int) (l4 : List (S49)) (a5 : Bool) : Option (Int) := if a5 = true then ((many_Over.f k a0_0 a0_1 a0_2 a1 a2 a3 l4).bind fun t370 => (some t370)) else (if a1 = 23 then (some 0) else (if a1 = 24 then (some 0) else ((many_Over.f k a0_0 a0_1 a0_2 a1 a2 a3 l4).bind fun t371 => (some t371))))
set_option maxHeartbeats 8000000 in
set_option maxRecDepth 100000 in
theorem many_Least.calls (k : Nat) (a0_0 : Int) (a0_1 : Int) (a0_2 : Int) (a1 : Int) (a2 : Int) (a3 : Int) (A4 : Option Addr) (c4 : Nat) (l4 : List (S49)) (a5 : Bool) (r : Int) (w : World) (hr4 : Kd.C k49 w A4 l4.length l4) (hc4 : l4.length ≤ c4) (h : many_Least.f k a0_0 a0_1 a0_2 a1 a2 a3 l4 a5 = some r) :
  Calls Try.prog 25 #[.agg #[.int .i64 a0_0, .int .i64 a0_1, .int .i64 a0_2], .int .i64 a1, .int .i64 a2, .int .i64 a3, .slice A4 l4.length c4, .bool a5] w fun e w' => e = .returned (.int .i64 r) ∧ Below w.heap.size w w' := by
 have hu23 := Try.underlying23
 have HR4 := zm hr4
 have HC4 := zm hc4
 clear hr4 hc4
 have HB := zm (Below.refl w.heap.size w)
 have H : (if a5 = true then ((many_Over.f k a0_0 a0_1 a0_2 a1 a2 a3 l4).bind fun t370 => (some t370)) else (if a1 = 23 then (some 0) else (if a1 = 24 then (some 0) else ((many_Over.f k a0_0 a0_1 a0_2 a1 a2 a3 l4).bind fun t371 => (some t371))))) = some r := h
 clear h
 by_cases c7 : a5 = true
 ·subst c7
  have H1 : ((many_Over.f k a0_0 a0_1 a0_2 a1 a2 a3 l4).bind fun t370 => (some t370)) = some r := by rw [if_pos rfl] at H; exact H
  clear H
  have H := H1
  clear H1
  replace H := zo H
  obtain ⟨t370, A80, H⟩ := H
  have A8 := zm A80
  clear A80
  obtain rfl := Option.some.inj H
  go_enter Try.func25, Try.ntmps25
  go_wp2_with (first | ((with_reducible refine gate_dst (N := 6) rfl ?_); refine box_event ?hg (N := 6) ?hd (cs := #[.int .i64 a0_0, .int .i64 a0_1, .int .i64 a0_2]) (t := 23) ?hr ?_; (case hd => rfl); (case hg => rfl); (case hr => go_simp; try rfl); intro gb369 hg w9 hbox hb; have BK369 := zm (hbox); have GW369 := zm ((by rw [hg]; exact (below_size (by apply_rules [HB.out, zb1, zb2, zb3])) : w.heap.size ≤ gb369)); have GE369 := GW369; replace HB := zm (below_step (by apply_rules [HB.out, zb1, zb2, zb3]) hb); clear hb hbox hg; obtain ⟨hcz10_0, hcz10_1, hcz10_2, hfz10_0, hfz10_1, hfz10_2⟩ := zf3 BK369.out) | ((with_reducible refine gate_callee (f := 21) rfl ?_); refine goesL_ (some 28) rfl rfl Try.func21 (by kernel_rfl) rfl #[.agg #[.int .i64 a0_0, .int .i64 a0_1, .int .i64 a0_2], .int .i64 a1, .int .i64 a2, .int .i64 a3, .slice A4 l4.length c4] rfl (by (try simp only [zt1, zt2, zt3]) <;> rfl) ?_; (with_reducible refine (many_Over.calls k a0_0 a0_1 a0_2 a1 a2 a3 _ _ l4 t370 _ ?side1 ?side2 A8.out).mono ?_); (case side1 => apply_rules [Kd.C_below HR4.out HB.out, Kd.C_alloc, Kd.C_drewN, Kd.C_drew]); (case side2 => exact HC4.out); rintro e w11 ⟨rfl, hb⟩; refine ⟨_, rfl, ?_⟩; replace BK369 := zm (blk_below (by apply_rules [BK369.out, zk1, zk2, zk3]) hb); replace HB := zm (below_step (by apply_rules [HB.out, zb1, zb2, zb3, zb4, GE369.out]) hb); (try clear hb)))
  go_ret
  exact ⟨by first | rfl | (simp [errW_none, errW_some] <;> rfl) | (simp [*, errW_none, errW_some] <;> rfl), by apply_rules [HB.out, zb1, zb2, zb3, zb4, GE369.out]⟩
 replace c7 := Bool.eq_false_iff.mpr c7
 subst c7
 have H1 : (if a1 = 23 then (some 0) else (if a1 = 24 then (some 0) else ((many_Over.f k a0_0 a0_1 a0_2 a1 a2 a3 l4).bind fun t371 => (some t371)))) = some r := by rw [if_neg (show ¬ (false = true) by decide)] at H; exact H
 clear H
 have H := H1
 clear H1
 by_cases c12 : a1 = 23
 ·rw [if_pos c12] at H
  have c12b0 : (a1 == 23) = true := beq_iff_eq.mpr c12
  have c12b1 : (a1 != 23) = false := bne_eq_false_iff_eq.mpr c12
  clear c12
  obtain rfl := Option.some.inj H
  go_enter Try.func25, Try.ntmps25
  go_wp2_with (first | ((with_reducible refine gate_dst (N := 6) rfl ?_); refine box_event ?hg (N := 6) ?hd (cs := #[.int .i64 a0_0, .int .i64 a0_1, .int .i64 a0_2]) (t := 23) ?hr ?_; (case hd => rfl); (case hg => rfl); (case hr => go_simp; try rfl); intro gb369 hg w13 hbox hb; have BK369 := zm (hbox); have GW369 := zm ((by rw [hg]; exact (below_size (by apply_rules [HB.out, zb1, zb2, zb3])) : w.heap.size ≤ gb369)); have GE369 := GW369; replace HB := zm (below_step (by apply_rules [HB.out, zb1, zb2, zb3]) hb); clear hb hbox hg))
  go_ret
  exact ⟨by first | rfl | (simp [errW_none, errW_some] <;> rfl) | (simp [*, errW_none, errW_some] <;> rfl), by apply_rules [HB.out, zb1, zb2, zb3, zb4, GE369.out]⟩
 rw [if_neg c12] at H
 have c12b0 : (a1 == 23) = false := beq_eq_false_iff_ne.mpr c12
 have c12b1 : (a1 != 23) = true := bne_iff_ne.mpr c12
 by_cases c14 : a1 = 24
 ·rw [if_pos c14] at H
  have c14b0 : (a1 == 24) = true := beq_iff_eq.mpr c14
  have c14b1 : (a1 != 24) = false := bne_eq_false_iff_eq.mpr c14
  clear c14
  obtain rfl := Option.some.inj H
  go_enter Try.func25, Try.ntmps25
  go_wp2_with (first | ((with_reducible refine gate_dst (N := 6) rfl ?_); refine box_event ?hg (N := 6) ?hd (cs := #[.int .i64 a0_0, .int .i64 a0_1, .int .i64 a0_2]) (t := 23) ?hr ?_; (case hd => rfl); (case hg => rfl); (case hr => go_simp; try rfl); intro gb369 hg w15 hbox hb; have BK369 := zm (hbox); have GW369 := zm ((by rw [hg]; exact (below_size (by apply_rules [HB.out, zb1, zb2, zb3])) : w.heap.size ≤ gb369)); have GE369 := GW369; replace HB := zm (below_step (by apply_rules [HB.out, zb1, zb2, zb3]) hb); clear hb hbox hg))
  go_ret
  exact ⟨by first | rfl | (simp [errW_none, errW_some] <;> rfl) | (simp [*, errW_none, errW_some] <;> rfl), by apply_rules [HB.out, zb1, zb2, zb3, zb4, GE369.out]⟩
 rw [if_neg c14] at H
 have c14b0 : (a1 == 24) = false := beq_eq_false_iff_ne.mpr c14
 have c14b1 : (a1 != 24) = true := bne_iff_ne.mpr c14
 replace H := zo H
 obtain ⟨t371, A160, H⟩ := H
 have A16 := zm A160
 clear A160
 obtain rfl := Option.some.inj H
 go_enter Try.func25, Try.ntmps25
 go_wp2_with (first | ((with_reducible refine gate_dst (N := 6) rfl ?_); refine box_event ?hg (N := 6) ?hd (cs := #[.int .i64 a0_0, .int .i64 a0_1, .int .i64 a0_2]) (t := 23) ?hr ?_; (case hd => rfl); (case hg => rfl); (case hr => go_simp; try rfl); intro gb369 hg w17 hbox hb; have BK369 := zm (hbox); have GW369 := zm ((by rw [hg]; exact (below_size (by apply_rules [HB.out, zb1, zb2, zb3])) : w.heap.size ≤ gb369)); have GE369 := GW369; replace HB := zm (below_step (by apply_rules [HB.out, zb1, zb2, zb3]) hb); clear hb hbox hg; obtain ⟨hcz18_0, hcz18_1, hcz18_2, hfz18_0, hfz18_1, hfz18_2⟩ := zf3 BK369.out) | ((with_reducible refine gate_callee (f := 21) rfl ?_); refine goesL_ (some 28) rfl rfl Try.func21 (by kernel_rfl) rfl #[.agg #[.int .i64 a0_0, .int .i64 a0_1, .int .i64 a0_2], .int .i64 a1, .int .i64 a2, .int .i64 a3, .slice A4 l4.length c4] rfl (by (try simp only [zt1, zt2, zt3]) <;> rfl) ?_; (with_reducible refine (many_Over.calls k a0_0 a0_1 a0_2 a1 a2 a3 _ _ l4 t371 _ ?side1 ?side2 A16.out).mono ?_); (case side1 => apply_rules [Kd.C_below HR4.out HB.out, Kd.C_alloc, Kd.C_drewN, Kd.C_drew]); (case side2 => exact HC4.out); rintro e w19 ⟨rfl, hb⟩; refine ⟨_, rfl, ?_⟩; replace BK369 := zm (blk_below (by apply_rules [BK369.out, zk1, zk2, zk3]) hb); replace HB := zm (below_step (by apply_rules [HB.out, zb1, zb2, zb3, zb4, GE369.out]) hb); (try clear hb)))
 go_ret
 exact ⟨by first | rfl | (simp [errW_none, errW_some] <;> rfl) | (simp [*, errW_none, errW_some] <;> rfl), by apply_rules [HB.out, zb1, zb2, zb3, zb4, GE369.out]⟩
end Go.Proofs.Ytlfnpakpkniipaa.Q
