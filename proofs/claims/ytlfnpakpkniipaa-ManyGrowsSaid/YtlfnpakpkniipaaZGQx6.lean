/- Words for the claim. -/
import Derived.Test.YtlfnpakpkniipaaZGWords
import Derived.Test.YtlfnpakpkniipaaZGQx0
import Derived.Test.YtlfnpakpkniipaaZGQx4
import Derived.Test.YtlfnpakpkniipaaZGQx5
namespace Go.Proofs.Ytlfnpakpkniipaa.Q
open Go.RowKit Go.Proofs.YtlfnpakpkniipaaW.PrintWords Go.Proofs.YtlfnpakpkniipaaW.PrintLast Go.Proofs.YtlfnpakpkniipaaW.PrintMore
attribute [local go_sem] max2_int min2_int max_two min_two max_three min_three max_four min_four
set_option linter.unusedVariables false
set_option linter.unusedSimpArgs false
mutual
def many_Blocks.j0 : Nat → List (S49) → Int → Int → Bool → Int → Int → Int → Option ((List (S25)))
 | 0, _, _, _, _, _, _, _ => none
 | k + 1, x1, x2, x3, x22, x115000, x115001, x115002 => if x22 = true then (some ([] : List (S25))) else ((many_on.f k x115000 x115001 x115002 x1 x2).bind fun t116 => (many_Blocks.l0 k (mx 0 x3) ([] : List (S25)) 0 0 t116 (t116.length : Int) 0))
def many_Blocks.l0 : Nat → Int → List (S25) → Int → Int → List (S49) → Int → Int → Option ((List (S25)))
 | 0, _, _, _, _, _, _, _ => none
 | k + 1, x3, x9, x10, x11, x28, x29, x30 => if x30 < x29 then (if 0 ≤ x30 then (if x30 < (x28.length : Int) then (if (x9.length : Int) = 0 then (if x9.length < 8796093022208 then ((some (x9 ++ [(⟨0, 0⟩ : S25)] : List (S25))).bind fun y121 => (if 0 ≤ (wrap64 ((y121.length : Int) - 1)) then (if (wrap64 ((y121.length : Int) - 1)) < (y121.length : Int) then (many_Blocks.l0 k x3 (y121.set ((wrap64 ((y121.length : Int) - 1)) : Int).toNat (⟨wrap64 ((mx ((rd_T49 x28 x30).f2) (wrap64 (((rd_T49 x28 x30).f2) + ((rd_T49 x28 x30).f3)))) - ((rd_T49 x28 x30).f2)), wrap64 (((rd_T25 y121 (wrap64 ((y121.length : Int) - 1))).f1) + 1)⟩ : S25)) ((rd_T49 x28 x30).f2) (mx ((rd_T49 x28 x30).f2) (wrap64 (((rd_T49 x28 x30).f2) + ((rd_T49 x28 x30).f3)))) x28 x29 (wrap64 (x30 + 1))) else (none)) else (none))) else (none)) else (if (wrap64 (((rd_T49 x28 x30).f2) - x11)) > x3 then (if x9.length < 8796093022208 then ((some (x9 ++ [(⟨0, 0⟩ : S25)] : List (S25))).bind fun y126 => (if 0 ≤ (wrap64 ((y126.length : Int) - 1)) then (if (wrap64 ((y126.length : Int) - 1)) < (y126.length : Int) then (many_Blocks.l0 k x3 (y126.set ((wrap64 ((y126.length : Int) - 1)) : Int).toNat (⟨wrap64 ((mx ((rd_T49 x28 x30).f2) (wrap64 (((rd_T49 x28 x30).f2) + ((rd_T49 x28 x30).f3)))) - ((rd_T49 x28 x30).f2)), wrap64 (((rd_T25 y126 (wrap64 ((y126.length : Int) - 1))).f1) + 1)⟩ : S25)) ((rd_T49 x28 x30).f2) (mx ((rd_T49 x28 x30).f2) (wrap64 (((rd_T49 x28 x30).f2) + ((rd_T49 x28 x30).f3)))) x28 x29 (wrap64 (x30 + 1))) else (none)) else (none))) else (none)) else (if 0 ≤ (wrap64 ((x9.length : Int) - 1)) then (if (wrap64 ((x9.length : Int) - 1)) < (x9.length : Int) then (many_Blocks.l0 k x3 (x9.set ((wrap64 ((x9.length : Int) - 1)) : Int).toNat (⟨wrap64 ((mx x11 (wrap64 (((rd_T49 x28 x30).f2) + ((rd_T49 x28 x30).f3)))) - x10), wrap64 (((rd_T25 x9 (wrap64 ((x9.length : Int) - 1))).f1) + 1)⟩ : S25)) x10 (mx x11 (wrap64 (((rd_T49 x28 x30).f2) + ((rd_T49 x28 x30).f3)))) x28 x29 (wrap64 (x30 + 1))) else (none)) else (none)))) else (none)) else (none)) else (some x9)
end
def many_Blocks.f (k : Nat) (a0_0 : Int) (a0_1 : Int) (a0_2 : Int) (l1 : List (S49)) (a2 : Int) (a3 : Int) : Option ((List (S25))) := if a2 < 0 then (many_Blocks.j0 k l1 a2 a3 true a0_0 a0_1 a0_2) else ((many_days.f a0_0 a0_1 a0_2).bind fun t115 => (many_Blocks.j0 k l1 a2 a3 (decide (a2 ≥ t115)) a0_0 a0_1 a0_2))
theorem many_Blocks.mono_l : ∀ k, (∀ y0 y1 y2 y3 y4 y5 y6, LeO (many_Blocks.j0 k y0 y1 y2 y3 y4 y5 y6) (many_Blocks.j0 (k + 1) y0 y1 y2 y3 y4 y5 y6)) ∧ (∀ y0 y1 y2 y3 y4 y5 y6, LeO (many_Blocks.l0 k y0 y1 y2 y3 y4 y5 y6) (many_Blocks.l0 (k + 1) y0 y1 y2 y3 y4 y5 y6))
 | 0 => ⟨fun _ _ _ _ _ _ _ r h => by simp [many_Blocks.j0] at h, fun _ _ _ _ _ _ _ r h => by simp [many_Blocks.l0] at h⟩
 | k + 1 => by
  obtain ⟨ih0, ih1⟩ := many_Blocks.mono_l k
  refine ⟨?_, ?_⟩
  ·intro y0 y1 y2 y3 y4 y5 y6
   unfold many_Blocks.j0
   repeat' first
   | (with_reducible exact ih0 _ _ _ _ _ _ _)
   | (with_reducible exact ih1 _ _ _ _ _ _ _)
   | (with_reducible exact many_on.mono _ _ _ _ _ _)
   | (with_reducible exact LeO.refl _)
   | (with_reducible exact LeO.none _)
   | (with_reducible refine LeO.ite ?_ ?_)
   | (with_reducible refine LeO.bind ?_ (fun _ => ?_))
   | refine LeO.ite ?_ ?_
   | refine LeO.bind ?_ (fun _ => ?_)
  intro y0 y1 y2 y3 y4 y5 y6
  unfold many_Blocks.l0
  repeat' first
  | (with_reducible exact ih0 _ _ _ _ _ _ _)
  | (with_reducible exact ih1 _ _ _ _ _ _ _)
  | (with_reducible exact many_on.mono _ _ _ _ _ _)
  | (with_reducible exact LeO.refl _)
  | (with_reducible exact LeO.none _)
  | (with_reducible refine LeO.ite ?_ ?_)
  | (with_reducible refine LeO.bind ?_ (fun _ => ?_))
  | refine LeO.ite ?_ ?_
  | refine LeO.bind ?_ (fun _ => ?_)
theorem many_Blocks.mono : ∀ a0 a1 a2 a3 a4 a5 k, LeO (many_Blocks.f k a0 a1 a2 a3 a4 a5) (many_Blocks.f (k + 1) a0 a1 a2 a3 a4 a5) := by
 intro a0 a1 a2 a3 a4 a5 k
 obtain ⟨ih0, ih1⟩ := many_Blocks.mono_l k
 unfold many_Blocks.f
 repeat' first
   | (with_reducible exact ih0 _ _ _ _ _ _ _)
   | (with_reducible exact ih1 _ _ _ _ _ _ _)
   | (with_reducible exact many_on.mono _ _ _ _ _ _)
   | (with_reducible exact LeO.refl _)
   | (with_reducible exact LeO.none _)
   | (with_reducible refine LeO.ite ?_ ?_)
   | (with_reducible refine LeO.bind ?_ (fun _ => ?_))
   | refine LeO.ite ?_ ?_
   | refine LeO.bind ?_ (fun _ => ?_)
set_option maxHeartbeats 8000000 in
set_option maxRecDepth 100000 in
theorem many_Blocks.calls (k : Nat) (a0_0 : Int) (a0_1 : Int) (a0_2 : Int) (A1 : Option Addr) (c1 : Nat) (l1 : List (S49)) (a2 : Int) (a3 : Int) (r : List (S25)) (w : World) (hr1 : Kd.C k49 w A1 l1.length l1) (hc1 : l1.length ≤ c1) (h : many_Blocks.f k a0_0 a0_1 a0_2 l1 a2 a3 = some r) :
  Calls Try.prog 18 #[.agg #[.int .i64 a0_0, .int .i64 a0_1, .int .i64 a0_2], .slice A1 l1.length c1, .int .i64 a2, .int .i64 a3] w fun e w' => ∃ v0_ : Value, e = .returned (v0_) ∧ Kd.R k25 25 w' w.heap.size (fun _ => True) v0_ r ∧ Below w.heap.size w w' := by
 have hu23 := Try.underlying23
 have hu49 := Try.underlying49
 have hu25 := Try.underlying25
 have HR1 := zm hr1
 have HC1 := zm hc1
 clear hr1 hc1
 have HB := zm (Below.refl w.heap.size w)
 have H : (if a2 < 0 then (many_Blocks.j0 k l1 a2 a3 true a0_0 a0_1 a0_2) else ((many_days.f a0_0 a0_1 a0_2).bind fun t115 => (many_Blocks.j0 k l1 a2 a3 (decide (a2 ≥ t115)) a0_0 a0_1 a0_2))) = some r := h
 clear h
 have HC5 := zm H
 clear H
 go_enter Try.func18, Try.ntmps18
 go_upto_region 1 with (first | ((with_reducible refine gate_dst (N := 4) rfl ?_); refine box_event ?hg (N := 4) ?hd (cs := #[.int .i64 a0_0, .int .i64 a0_1, .int .i64 a0_2]) (t := 23) ?hr ?_; (case hd => rfl); (case hg => rfl); (case hr => go_simp; try rfl); intro gb114 hg w6 hbox hb; have BK114 := zm (hbox); have GW114 := zm ((by rw [hg]; exact (below_size (by apply_rules [HB.out, zb1, zb2, zb3])) : w.heap.size ≤ gb114)); have GE114 := GW114; replace HB := zm (below_step (by apply_rules [HB.out, zb1, zb2, zb3]) hb); clear hb hbox hg))
 repeat (go_quiet (first | ((with_reducible refine gate_dst (N := 4) rfl ?_); refine box_event ?hg (N := 4) ?hd (cs := #[.int .i64 a0_0, .int .i64 a0_1, .int .i64 a0_2]) (t := 23) ?hr ?_; (case hd => rfl); (case hg => rfl); (case hr => go_simp; try rfl); intro gb114 hg w6 hbox hb; have BK114 := zm (hbox); have GW114 := zm ((by rw [hg]; exact (below_size (by apply_rules [HB.out, zb1, zb2, zb3])) : w.heap.size ≤ gb114)); have GE114 := GW114; replace HB := zm (below_step (by apply_rules [HB.out, zb1, zb2, zb3]) hb); clear hb hbox hg)); go_upto_region 1 with (first | ((with_reducible refine gate_dst (N := 4) rfl ?_); refine box_event ?hg (N := 4) ?hd (cs := #[.int .i64 a0_0, .int .i64 a0_1, .int .i64 a0_2]) (t := 23) ?hr ?_; (case hd => rfl); (case hg => rfl); (case hr => go_simp; try rfl); intro gb114 hg w6 hbox hb; have BK114 := zm (hbox); have GW114 := zm ((by rw [hg]; exact (below_size (by apply_rules [HB.out, zb1, zb2, zb3])) : w.heap.size ≤ gb114)); have GE114 := GW114; replace HB := zm (below_step (by apply_rules [HB.out, zb1, zb2, zb3]) hb); clear hb hbox hg)))
 (try simp only [Act.put, zs1, zs2, zs3])
 go_cut [22] (fun v22 wc => ∃ (kq : Nat) (x22_4 : Bool), v22 = .bool x22_4 ∧ Aside0 (many_Blocks.j0 kq l1 a2 a3 x22_4 a0_0 a0_1 a0_2 = some r) ∧ Aside0 (kq ≤ k) ∧ Aside0 (wc.heap[gb114]? = some (.cells #[.int .i64 a0_0, .int .i64 a0_1, .int .i64 a0_2] 23 (0, 0))) ∧ Aside0 (Below w.heap.size w wc))
 case first =>
  have H := HC5.out
  clear HC5
  by_cases c7 : a2 < 0
  ·rw [if_pos c7] at H
   have c7b0 : decide (a2 < 0) = true := decide_eq_true c7
   clear c7
   (first | rw [c7b0] | (simp only [i64_w, i32_w]; rw [c7b0]) | skip)
   have H' := zm H
   clear H
   go_wp2
   repeat (go_quiet (fail); try go_wp2)
   go_meet
   case rel => exact ⟨_, (true), (by first | rfl | (simp; done) | (simp [*]; done)), H', ⟨by first | omega | exact Nat.le_refl _⟩, ⟨by (with_reducible repeat (first | refine blk_alloc ?_ _ | refine blk_drewN ?_ _ | refine blk_drew ?_)); exact BK114.out⟩, ⟨by apply_rules [HB.out, zb1, zb2, zb3, zb4, GE114.out]⟩⟩
  rw [if_neg c7] at H
  have c7b0 : decide (a2 < 0) = false := decide_eq_false c7
  clear c7
  (first | rw [c7b0] | (simp only [i64_w, i32_w]; rw [c7b0]) | skip)
  replace H := zo H
  obtain ⟨t115, A80, H⟩ := H
  have A8 := zm A80
  clear A80
  have H' := zm H
  clear H
  obtain ⟨hcz9_0, hcz9_1, hcz9_2, hfz9_0, hfz9_1, hfz9_2⟩ := zf3 BK114.out
  go_wp2_with (first | (go_at_call 34; (with_reducible refine (many_days.calls a0_0 a0_1 a0_2 t115 _ A8.out).mono ?_); rintro e w10 ⟨rfl, hb⟩; replace BK114 := zm (blk_below (by apply_rules [BK114.out, zk1, zk2, zk3]) hb); replace HB := zm (below_step (by apply_rules [HB.out, zb1, zb2, zb3, zb4, GE114.out]) hb); (try clear hb)))
  repeat (go_quiet (first | (go_at_call 34; (with_reducible refine (many_days.calls a0_0 a0_1 a0_2 t115 _ A8.out).mono ?_); rintro e w10 ⟨rfl, hb⟩; replace BK114 := zm (blk_below (by apply_rules [BK114.out, zk1, zk2, zk3]) hb); replace HB := zm (below_step (by apply_rules [HB.out, zb1, zb2, zb3, zb4, GE114.out]) hb); (try clear hb))); try go_wp2_with (first | (go_at_call 34; (with_reducible refine (many_days.calls a0_0 a0_1 a0_2 t115 _ A8.out).mono ?_); rintro e w10 ⟨rfl, hb⟩; replace BK114 := zm (blk_below (by apply_rules [BK114.out, zk1, zk2, zk3]) hb); replace HB := zm (below_step (by apply_rules [HB.out, zb1, zb2, zb3, zb4, GE114.out]) hb); (try clear hb))))
  go_meet
  case rel => exact ⟨_, (decide (a2 ≥ t115)), (by first | rfl | (simp; done) | (simp [*]; done)), H', ⟨by first | omega | exact Nat.le_refl _⟩, ⟨by (with_reducible repeat (first | refine blk_alloc ?_ _ | refine blk_drewN ?_ _ | refine blk_drew ?_)); exact BK114.out⟩, ⟨by apply_rules [HB.out, zb1, zb2, zb3, zb4, GE114.out]⟩⟩
 case rest =>
  clear HC5
  (try clear c1); (try clear p2); (try clear c7); (try clear c7b0); (try clear hcz9_0); (try clear hcz9_1); (try clear hcz9_2); (try clear hfz9_0); (try clear hfz9_1); (try clear hfz9_2)
  obtain ⟨kq, x22_4, rfl, HA, HJ4, BK114, HB⟩ := hcut
  cases kq with
  | zero => exact absurd HA.out (by simp [many_Blocks.j0])
  | succ kj4 =>
   have H := HA.out
   clear HA
   simp only [many_Blocks.j0] at H
   by_cases c11 : x22_4 = true
   ·subst c11
    have H1 : (some ([] : List (S25))) = some r := by rw [if_pos rfl] at H; exact H
    clear H
    have H := H1
    clear H1
    obtain rfl := Option.some.inj H
    go_wp2
    repeat (go_quiet (fail); try go_wp2)
    go_ret
    exact ⟨_, by first | rfl | (simp [errW_none, errW_some] <;> rfl) | (simp [*, errW_none, errW_some] <;> rfl), by first | exact Kd.R_nil _ _ _ _ _ | exact Kd.N_nil _ _ _ _ _ | exact Kd.V_nil _ _ _ _ _ | exact Kd.Q_nil _ _ _ _ _ | exact Kd.S_nil _ _ _ _ _, by apply_rules [HB.out, zb1, zb2, zb3, zb4, GE114.out]⟩
   replace c11 := Bool.eq_false_iff.mpr c11
   subst c11
   have H1 : ((many_on.f kj4 a0_0 a0_1 a0_2 l1 a2).bind fun t116 => (many_Blocks.l0 kj4 (mx 0 a3) ([] : List (S25)) 0 0 t116 (t116.length : Int) 0)) = some r := by rw [if_neg (show ¬ (false = true) by decide)] at H; exact H
   clear H
   have H := H1
   clear H1
   obtain ⟨ji12, hji12⟩ : ∃ j_ : Int, (mx 0 a3) = j_ := ⟨_, rfl⟩
   replace H : ((many_on.f kj4 a0_0 a0_1 a0_2 l1 a2).bind fun t116 => (many_Blocks.l0 kj4 ji12 ([] : List (S25)) 0 0 t116 (t116.length : Int) 0)) = some r := by first | (rw [hji12] at H; exact H) | (simp only [hji12] at H ⊢; exact H)
   have hji12_ : (if 0 < a3 then a3 else 0) = ji12 := hji12
   replace H := zo H
   obtain ⟨t116, A130, H⟩ := H
   have A13 := zm A130
   clear A130
   have H' := zm H
   clear H
   obtain ⟨hcz14_0, hcz14_1, hcz14_2, hfz14_0, hfz14_1, hfz14_2⟩ := zf3 BK114.out
   go_wp2_with (first | (go_at_call 35; (with_reducible refine (many_on.calls kj4 a0_0 a0_1 a0_2 _ _ l1 a2 t116 _ ?side1 ?side2 A13.out).mono ?_); (case side1 => apply_rules [Kd.C_below HR1.out HB.out, Kd.C_alloc, Kd.C_drewN, Kd.C_drew]); (case side2 => exact HC1.out); rintro e w15 ⟨v117, rfl, ho0, hb⟩; have HO118 := zm (Kd.R_lower ho0 (below_size (by apply_rules [HB.out, zb1, zb2, zb3, zb4, GE114.out]))); replace BK114 := zm (blk_below (by apply_rules [BK114.out, zk1, zk2, zk3]) hb); replace HB := zm (below_step (by apply_rules [HB.out, zb1, zb2, zb3, zb4, GE114.out]) hb); (try clear hb); (try clear ho0); obtain ⟨Ao16, co16, eo16⟩ := Kd.R_slice HO118.out; subst eo16))
   repeat (go_quiet (first | (go_at_call 35; (with_reducible refine (many_on.calls kj4 a0_0 a0_1 a0_2 _ _ l1 a2 t116 _ ?side1 ?side2 A13.out).mono ?_); (case side1 => apply_rules [Kd.C_below HR1.out HB.out, Kd.C_alloc, Kd.C_drewN, Kd.C_drew]); (case side2 => exact HC1.out); rintro e w15 ⟨v117, rfl, ho0, hb⟩; have HO118 := zm (Kd.R_lower ho0 (below_size (by apply_rules [HB.out, zb1, zb2, zb3, zb4, GE114.out]))); replace BK114 := zm (blk_below (by apply_rules [BK114.out, zk1, zk2, zk3]) hb); replace HB := zm (below_step (by apply_rules [HB.out, zb1, zb2, zb3, zb4, GE114.out]) hb); (try clear hb); (try clear ho0); obtain ⟨Ao16, co16, eo16⟩ := Kd.R_slice HO118.out; subst eo16)); try go_wp2_with (first | (go_at_call 35; (with_reducible refine (many_on.calls kj4 a0_0 a0_1 a0_2 _ _ l1 a2 t116 _ ?side1 ?side2 A13.out).mono ?_); (case side1 => apply_rules [Kd.C_below HR1.out HB.out, Kd.C_alloc, Kd.C_drewN, Kd.C_drew]); (case side2 => exact HC1.out); rintro e w15 ⟨v117, rfl, ho0, hb⟩; have HO118 := zm (Kd.R_lower ho0 (below_size (by apply_rules [HB.out, zb1, zb2, zb3, zb4, GE114.out]))); replace BK114 := zm (blk_below (by apply_rules [BK114.out, zk1, zk2, zk3]) hb); replace HB := zm (below_step (by apply_rules [HB.out, zb1, zb2, zb3, zb4, GE114.out]) hb); (try clear hb); (try clear ho0); obtain ⟨Ao16, co16, eo16⟩ := Kd.R_slice HO118.out; subst eo16)))
   go_loopg [9, 10, 11, 30] kj4 (fun kq v9 v10 v11 v30 w' => ∃ (x9_2 : List (S25)) (x10_2 : Int) (x11_2 : Int) (x30_2 : Int), v10 = .int .i64 x10_2 ∧ v11 = .int .i64 x11_2 ∧ v30 = .int .i64 x30_2 ∧ Aside0 (many_Blocks.l0 kq ji12 x9_2 x10_2 x11_2 t116 (t116.length : Int) x30_2 = some r) ∧ Aside0 (kq ≤ kj4) ∧ Aside0 (Kd.R k25 25 w' w.heap.size (fun _ => True) v9 x9_2) ∧ Aside0 (Kd.R k49 49 w' w.heap.size (fun _ => True) (.slice Ao16 t116.length co16) t116) ∧ Aside0 (w'.heap[gb114]? = some (.cells #[.int .i64 a0_0, .int .i64 a0_1, .int .i64 a0_2] 23 (0, 0))) ∧ Aside0 (Below w.heap.size w w'))
   case atStart => exact ⟨(([] : List (S25))), (0), (0), (0), (by first | rfl | (simp; done) | (simp [*]; done)), (by first | rfl | (simp; done) | (simp [*]; done)), (by first | rfl | (simp; done) | (simp [*]; done)), H', ⟨Nat.le_refl _⟩, ⟨by first | exact Kd.R_nil _ _ _ _ _ | exact Kd.N_nil _ _ _ _ _ | exact Kd.V_nil _ _ _ _ _ | exact Kd.Q_nil _ _ _ _ _ | exact Kd.S_nil _ _ _ _ _⟩, ⟨by (with_reducible repeat (first | apply Kd.R_alloc | apply Kd.R_drewN | apply Kd.R_drew)); exact HO118.out⟩, ⟨by (with_reducible repeat (first | refine blk_alloc ?_ _ | refine blk_drewN ?_ _ | refine blk_drew ?_)); exact BK114.out⟩, ⟨by apply_rules [HB.out, zb1, zb2, zb3, zb4, GE114.out]⟩⟩
   case round =>
    clear H'
    (try clear c1); (try clear p2); (try clear c7); (try clear c7b0); (try clear c11); (try clear hcz14_0); (try clear hcz14_1); (try clear hcz14_2); (try clear hcz9_0); (try clear hcz9_1); (try clear hcz9_2); (try clear hfz14_0); (try clear hfz14_1); (try clear hfz14_2); (try clear hfz9_0); (try clear hfz9_1); (try clear hfz9_2); (try clear p2)
    obtain ⟨x9_2, x10_2, x11_2, x30_2, rfl, rfl, rfl, HA, HK2, HO_9, HO_28, BK114, HB⟩ := hrel
    cases gk with
    | zero => exact absurd HA.out (by simp [many_Blocks.l0])
    | succ k2 =>
     have H := HA.out
     clear HA
     simp only [many_Blocks.l0] at H
     by_cases c17 : x30_2 < (t116.length : Int)
     ·rw [if_pos c17] at H
      have c17b0 : decide (x30_2 < (t116.length : Int)) = true := decide_eq_true c17
      clear c17
      by_cases c18 : 0 ≤ x30_2
      ·rw [if_pos c18] at H
       have c18b0 : decide (0 ≤ x30_2) = true := decide_eq_true c18
       clear c18
       by_cases c19 : x30_2 < (t116.length : Int)
       ·rw [if_pos c19] at H
        have c19b0 : decide (x30_2 < (t116.length : Int)) = true := decide_eq_true c19
        clear c19
        by_cases c20 : (x9_2.length : Int) = 0
        ·rw [if_pos c20] at H
         have c20b0 : ((x9_2.length : Int) == 0) = true := beq_iff_eq.mpr c20
         have c20b1 : ((x9_2.length : Int) != 0) = false := bne_eq_false_iff_eq.mpr c20
         clear c20
         by_cases c21 : x9_2.length < 8796093022208
         ·rw [if_pos c21] at H
          have LMc21 := zm c21
          clear c21
          obtain ⟨y121, hy121⟩ : ∃ y_ : List (S25), y_ = (x9_2 ++ [(⟨0, 0⟩ : S25)]) := ⟨_, rfl⟩
          replace H : (if 0 ≤ (wrap64 ((y121.length : Int) - 1)) then (if (wrap64 ((y121.length : Int) - 1)) < (y121.length : Int) then (many_Blocks.l0 k2 ji12 (y121.set ((wrap64 ((y121.length : Int) - 1)) : Int).toNat (⟨wrap64 ((mx ((rd_T49 t116 x30_2).f2) (wrap64 (((rd_T49 t116 x30_2).f2) + ((rd_T49 t116 x30_2).f3)))) - ((rd_T49 t116 x30_2).f2)), wrap64 (((rd_T25 y121 (wrap64 ((y121.length : Int) - 1))).f1) + 1)⟩ : S25)) ((rd_T49 t116 x30_2).f2) (mx ((rd_T49 t116 x30_2).f2) (wrap64 (((rd_T49 t116 x30_2).f2) + ((rd_T49 t116 x30_2).f3)))) t116 (t116.length : Int) (wrap64 (x30_2 + 1))) else (none)) else (none)) = some r := by first | (rw [hy121]; with_reducible exact H) | (have H2_ := (Option.bind_some _ _).symm.trans H; rw [hy121]; with_reducible exact H2_) | (have H2_ := (Option.bind_some _ _).symm.trans H; with_reducible exact H2_) | with_reducible exact H | (rw [hy121]; exact H) | exact H
          have Ny121 := zm hy121
          clear hy121
          obtain ⟨ji22, hji22⟩ : ∃ j_ : Int, (mx ((rd_T49 t116 x30_2).f2) (wrap64 (((rd_T49 t116 x30_2).f2) + ((rd_T49 t116 x30_2).f3)))) = j_ := ⟨_, rfl⟩
          replace H : (if 0 ≤ (wrap64 ((y121.length : Int) - 1)) then (if (wrap64 ((y121.length : Int) - 1)) < (y121.length : Int) then (many_Blocks.l0 k2 ji12 (y121.set ((wrap64 ((y121.length : Int) - 1)) : Int).toNat (⟨wrap64 ((ji22) - ((rd_T49 t116 x30_2).f2)), wrap64 (((rd_T25 y121 (wrap64 ((y121.length : Int) - 1))).f1) + 1)⟩ : S25)) ((rd_T49 t116 x30_2).f2) ji22 t116 (t116.length : Int) (wrap64 (x30_2 + 1))) else (none)) else (none)) = some r := by first | (rw [hji22] at H; exact H) | (simp only [hji22] at H ⊢; exact H)
          have hji22_ : (if ((rd_T49 t116 x30_2).f2) < (wrap64 (((rd_T49 t116 x30_2).f2) + ((rd_T49 t116 x30_2).f3))) then (wrap64 (((rd_T49 t116 x30_2).f2) + ((rd_T49 t116 x30_2).f3))) else ((rd_T49 t116 x30_2).f2)) = ji22 := hji22
          obtain ⟨ji23, hji23⟩ : ∃ j_ : Int, (wrap64 ((y121.length : Int) - 1)) = j_ := ⟨_, rfl⟩
          replace H : (if 0 ≤ (ji23) then (if (ji23) < (y121.length : Int) then (many_Blocks.l0 k2 ji12 (y121.set ((ji23) : Int).toNat (⟨wrap64 ((ji22) - ((rd_T49 t116 x30_2).f2)), wrap64 (((rd_T25 y121 (ji23)).f1) + 1)⟩ : S25)) ((rd_T49 t116 x30_2).f2) ji22 t116 (t116.length : Int) (wrap64 (x30_2 + 1))) else (none)) else (none)) = some r := by first | (rw [hji23] at H; exact H) | (simp only [hji23] at H ⊢; exact H)
          have hji23w : (IntKind.i64.wrap ((y121.length : Int) - 1)) = ji23 := (i64_w _).trans hji23
          by_cases c24 : 0 ≤ (ji23)
          ·rw [if_pos c24] at H
           have c24b0 : decide (0 ≤ (ji23)) = true := decide_eq_true c24
           clear c24
           by_cases c25 : (ji23) < (y121.length : Int)
           ·rw [if_pos c25] at H
            have c25b0 : decide ((ji23) < (y121.length : Int)) = true := decide_eq_true c25
            clear c25
            obtain ⟨y125, hy125⟩ : ∃ y_ : List (S25), y_ = (y121.set ((ji23) : Int).toNat (⟨wrap64 ((ji22) - ((rd_T49 t116 x30_2).f2)), wrap64 (((rd_T25 y121 (ji23)).f1) + 1)⟩ : S25)) := ⟨_, rfl⟩
            replace H : (many_Blocks.l0 k2 ji12 y125 ((rd_T49 t116 x30_2).f2) ji22 t116 (t116.length : Int) (wrap64 (x30_2 + 1))) = some r := by first | (rw [hy125]; with_reducible exact H) | (have H2_ := (Option.bind_some _ _).symm.trans H; rw [hy125]; with_reducible exact H2_) | (have H2_ := (Option.bind_some _ _).symm.trans H; with_reducible exact H2_) | with_reducible exact H | (rw [hy125]; exact H) | exact H
            have Ny125 := zm hy125
            clear hy125
            have H' := zm H
            clear H
            have p119 : 0 ≤ (x30_2 : Int) := of_decide_eq_true (by first | (with_reducible assumption) | assumption)
            have q119 : x30_2 < (t116.length : Int) := of_decide_eq_true (by first | (with_reducible assumption) | assumption)
            obtain ⟨ad119, e119, hx119_0, hx119_1, hx119_2, hx119_3⟩ := at_T49 (Kd.R_reads' HO_28.out).2.2 x30_2 p119 q119
            cases e119
            replace p119 := eq_true p119
            replace q119 := eq_true q119
            go_wp2_with (first | ((with_reducible refine gate_dst (N := 13) rfl ?_); refine box_event ?hg (N := 13) ?hd (cs := #[.int .u32 0, .int .u8 0, .int .i64 0, .int .i64 0]) (t := 49) ?hr ?_; (case hd => rfl); (case hg => rfl); (case hr => go_simp; try rfl); intro gb120 hg w27 hbox hb; have n0_ := zm (Kd.R_below (by apply_rules [HO_9.out, Kd.R_alloc, Kd.R_drewN, Kd.R_drew]) hb); have n1_ := zm (Kd.R_below (Kd.R_elderB (by apply_rules [HO_28.out, Kd.R_alloc, Kd.R_drewN, Kd.R_drew]) gb120 (Nat.le_of_eq hg.symm)) hb); have n2_ := zm (blk_below (by apply_rules [BK114.out, zk1, zk2, zk3]) hb); have n3_ := zm (below_step (by apply_rules [HB.out, zb1, zb2, zb3, zb4, GE114.out]) hb); have n4_ := zm (hbox); have n5_ := zm ((by rw [hg]; exact (below_size (by apply_rules [HB.out, zb1, zb2, zb3, zb4, GE114.out])) : w.heap.size ≤ gb120)); have n6_ := n5_; have n7_ := zm ((by rw [hg]; exact Nat.ne_of_lt (blk_lt (by apply_rules [BK114.out, zk1, zk2, zk3])) : gb114 ≠ gb120)); have n8_ := zm ((by rw [hg]; exact Nat.ne_of_gt (blk_lt (by apply_rules [BK114.out, zk1, zk2, zk3])) : gb120 ≠ gb114)); clear HO_9; clear HO_28; clear BK114; clear HB; have HO_9 := n0_; have HO_28 := n1_; have BK114 := n2_; have HB := n3_; have BK120 := n4_; have GW120 := n5_; have GE120 := n6_; have NB114_120 := n7_; have NB120_114 := n8_; clear n0_ n1_ n2_ n3_ n4_ n5_ n6_ n7_ n8_; clear hb hbox hg; have hnb28 := NB120_114.out; have hnc28 := NB114_120.out; obtain ⟨hcz29_0, hcz29_1, hcz29_2, hcz29_3, hfz29_0, hfz29_1, hfz29_2, hfz29_3⟩ := zf4 BK120.out; obtain ⟨Ao30, co30, eo30⟩ := Kd.R_slice HO_9.out; subst eo30) | ((with_reducible refine gate_builtin (b := .append) (xs := #[.tmp 45, .tmp 47]) rfl ?_); at_builtin; refine Kd.R_append k25 (w0 := w) w.heap.size rfl (.tmp 45) (.tmp 47) 34 25 (.agg #[(.int .i64 0), (.int .i64 0)]) 16 rfl Try.underlying34 info25 rfl (by decide) (by omega) (.slice Ao30 x9_2.length co30) x9_2 (⟨0, 0⟩ : S25) [.int .i64 0, .int .i64 0] (fun _ => True) (fun _ => False) rfl (by first | (go_simp; done) | (go_simp; rfl)) ?aP (fun _ hk => hk.elim) ?aF ?aO ?aB ?aS ?aL ?_; (case aP => exact k25_mkM _ _ _ (⟨0, 0⟩ : S25)); (case aB => exact (by apply_rules [HB.out, zb1, zb2, zb3, zb4, GE114.out, zb4, GE120.out])); (case aF => exact (fun _ _ => trivial)); (case aO => exact (by (with_reducible repeat (first | apply Kd.R_alloc | apply Kd.R_drewN | apply Kd.R_drew)); exact Kd.R_mono (Kd.R_far (p := ⟨gb120, 3, none⟩) (Kd.R_far (p := ⟨gb120, 2, none⟩) (Kd.R_far (p := ⟨gb120, 1, none⟩) (Kd.R_far (p := ⟨gb120, 0, none⟩) (Kd.R_types HO_9.out BK120.out (by decide)) (fun _ hk => hk.2) (.int .u32 ((rd_T49 t116 x30_2).f0))) (fun _ hk => hk.2) (.int .u8 ((rd_T49 t116 x30_2).f1))) (fun _ hk => hk.2) (.int .i64 ((rd_T49 t116 x30_2).f2))) (fun _ hk => hk.2) (.int .i64 ((rd_T49 t116 x30_2).f3))) (fun _ hk => trivial))); (case aS => exact (below_size (by apply_rules [HB.out, zb1, zb2, zb3, zb4, GE114.out, zb4, GE120.out]))); (case aL => have := LMc21.out; omega); intro v122 w31 ho hb hg hat; rw [← Ny121.out] at ho; replace HO_28 := zm (Kd.R_over' (by (with_reducible repeat (first | apply Kd.R_alloc | apply Kd.R_drewN | apply Kd.R_drew)); exact (Kd.R_mono (Kd.R_far (p := ⟨gb120, 3, none⟩) (Kd.R_far (p := ⟨gb120, 2, none⟩) (Kd.R_far (p := ⟨gb120, 1, none⟩) (Kd.R_far (p := ⟨gb120, 0, none⟩) (Kd.R_mono HO_28.out (fun k_ hk => (⟨hk, hk.2⟩ : _ ∧ k_ ≠ gb120))) (fun _ hk => hk.2) (.int .u32 ((rd_T49 t116 x30_2).f0))) (fun _ hk => hk.2) (.int .u8 ((rd_T49 t116 x30_2).f1))) (fun _ hk => hk.2) (.int .i64 ((rd_T49 t116 x30_2).f2))) (fun _ hk => hk.2) (.int .i64 ((rd_T49 t116 x30_2).f3))) (fun _ h_ => h_.1))) (Kd.R_typed (by (with_reducible repeat (first | apply Kd.R_alloc | apply Kd.R_drewN | apply Kd.R_drew)); exact (Kd.R_mono (Kd.R_far (p := ⟨gb120, 3, none⟩) (Kd.R_far (p := ⟨gb120, 2, none⟩) (Kd.R_far (p := ⟨gb120, 1, none⟩) (Kd.R_far (p := ⟨gb120, 0, none⟩) (Kd.R_types HO_9.out BK120.out (by decide)) (fun _ hk => hk.2) (.int .u32 ((rd_T49 t116 x30_2).f0))) (fun _ hk => hk.2) (.int .u8 ((rd_T49 t116 x30_2).f1))) (fun _ hk => hk.2) (.int .i64 ((rd_T49 t116 x30_2).f2))) (fun _ hk => hk.2) (.int .i64 ((rd_T49 t116 x30_2).f3))) (fun _ h_ => h_.1)))) (by decide) hg); replace BK114 := zm (blk_grown (g := gb114) (o := .cells #[.int .i64 a0_0, .int .i64 a0_1, .int .i64 a0_2] 23 (0, 0)) (by (with_reducible repeat (first | refine blk_alloc ?_ _ | refine blk_drewN ?_ _ | refine blk_drew ?_)); refine blk_far ?_ NB114_120.out _; (with_reducible repeat (first | refine blk_alloc ?_ _ | refine blk_drewN ?_ _ | refine blk_drew ?_)); refine blk_far ?_ NB114_120.out _; (with_reducible repeat (first | refine blk_alloc ?_ _ | refine blk_drewN ?_ _ | refine blk_drew ?_)); refine blk_far ?_ NB114_120.out _; (with_reducible repeat (first | refine blk_alloc ?_ _ | refine blk_drewN ?_ _ | refine blk_drew ?_)); refine blk_far ?_ NB114_120.out _; (with_reducible repeat (first | refine blk_alloc ?_ _ | refine blk_drewN ?_ _ | refine blk_drew ?_)); exact BK114.out) hg (Kd.R_ne HO_9.out BK114.out (by decide))); replace BK120 := zm (blk_grown (g := gb120) (o := .cells #[.int .u32 ((rd_T49 t116 x30_2).f0), .int .u8 ((rd_T49 t116 x30_2).f1), .int .i64 ((rd_T49 t116 x30_2).f2), .int .i64 ((rd_T49 t116 x30_2).f3)] 49 (0, 0)) (by (with_reducible repeat (first | refine blk_alloc ?_ _ | refine blk_drewN ?_ _ | refine blk_drew ?_)); refine blk_put (cs := #[.int .u32 ((rd_T49 t116 x30_2).f0), .int .u8 ((rd_T49 t116 x30_2).f1), .int .i64 ((rd_T49 t116 x30_2).f2), .int .i64 0]) ?_ 3 _ rfl; (with_reducible repeat (first | refine blk_alloc ?_ _ | refine blk_drewN ?_ _ | refine blk_drew ?_)); refine blk_put (cs := #[.int .u32 ((rd_T49 t116 x30_2).f0), .int .u8 ((rd_T49 t116 x30_2).f1), .int .i64 0, .int .i64 0]) ?_ 2 _ rfl; (with_reducible repeat (first | refine blk_alloc ?_ _ | refine blk_drewN ?_ _ | refine blk_drew ?_)); refine blk_put (cs := #[.int .u32 ((rd_T49 t116 x30_2).f0), .int .u8 0, .int .i64 0, .int .i64 0]) ?_ 1 _ rfl; (with_reducible repeat (first | refine blk_alloc ?_ _ | refine blk_drewN ?_ _ | refine blk_drew ?_)); refine blk_put (cs := #[.int .u32 0, .int .u8 0, .int .i64 0, .int .i64 0]) ?_ 0 _ rfl; (with_reducible repeat (first | refine blk_alloc ?_ _ | refine blk_drewN ?_ _ | refine blk_drew ?_)); exact BK120.out) hg (Kd.R_ne HO_9.out BK120.out (by decide))); have HO123 := zm (ho); replace HB := zm (hb); clear HO_9; clear ho hb hg hat; obtain ⟨hcz32_0, hcz32_1, hcz32_2, hcz32_3, hfz32_0, hfz32_1, hfz32_2, hfz32_3⟩ := zf4 BK120.out; obtain ⟨Ao33, co33, eo33⟩ := Kd.R_slice HO123.out; subst eo33; have p124 : 0 ≤ ((ji23) : Int) := of_decide_eq_true (by first | (with_reducible assumption) | assumption); have q124 : (ji23) < (y121.length : Int) := of_decide_eq_true (by first | (with_reducible assumption) | assumption); obtain ⟨ad124, e124, hx124_0, hx124_1⟩ := at_T25 (Kd.R_reads' HO123.out).2.2 (ji23) p124 q124; cases e124; replace p124 := eq_true p124; replace q124 := eq_true q124; have p26 : 0 ≤ ((ji23) : Int) := of_decide_eq_true (by first | (with_reducible assumption) | assumption); have q26 : ((ji23) : Int) < ((y121.length : Int) : Int) := of_decide_eq_true (by first | (with_reducible assumption) | assumption); obtain ⟨go26, co26, eo26, gb26, gl26, cl26, HG26⟩ := Kd.R_form HO123.out (by omega); (first | cases eo26 | (injection eo26 with ea_ en_ ec_; (first | subst ea_ | (injection ea_ with ea_; subst ea_)); subst ec_; clear en_)); have GB26 := zm gb26; have GG26 := zm HG26; clear gb26 gl26 HG26; (first | simp only [add_plain] at hx124_0 | skip); (first | simp only [add_plain] at hx124_1 | skip); obtain ⟨ce26, hcl26, hM26, hcc26, hfr26⟩ := Kd.R_elem HO123.out z25 ((ji23) : Int) p26 q26; obtain rfl := k25_openM hM26; have hx26_0 : w31.cell? ⟨go26, ((ji23) : Int).toNat * 2, none⟩ = some (.int .i64 ((rd_T25 y121 (ji23)).f0)) := hcc26 0 _ rfl; have hx26_1 : w31.cell? ⟨go26, ((ji23) : Int).toNat * 2 + 1, none⟩ = some (.int .i64 ((rd_T25 y121 (ji23)).f1)) := hcc26 1 _ rfl; have hf26_0 : w31.frozen? ⟨go26, ((ji23) : Int).toNat * 2, none⟩ = false := hfr26 0; have hf26_1 : w31.frozen? ⟨go26, ((ji23) : Int).toNat * 2 + 1, none⟩ = false := hfr26 1; clear hcl26 hcc26 hfr26; replace p26 := eq_true p26; replace q26 := eq_true q26; have HX34 := zm (show Kd.R k25 25 w31 w.heap.size (fun _ => True) (.slice (some ⟨go26, 0, none⟩) y121.length co33) y121 from (by apply_rules [HO123.out, Kd.R_alloc, Kd.R_drewN, Kd.R_drew])); obtain ⟨ce34, hcl34, hM34, hcc34, hfr34⟩ := Kd.R_elem HX34.out z25 ((ji23) : Int) (of_decide_eq_true (by first | (with_reducible assumption) | assumption)) (by have h_ : ((ji23) : Int) < ((y121.length : Int) : Int) := of_decide_eq_true (by first | (with_reducible assumption) | assumption); first | exact h_ | (have e_ := (Kd.R_reads' HO123.out).1; omega) | simpa using h_); obtain rfl := k25_openM hM34; have HP34 := Kd.R_seg HX34.out ((ji23) : Int) (of_decide_eq_true (by first | (with_reducible assumption) | assumption)) (by have h_ : ((ji23) : Int) < ((y121.length : Int) : Int) := of_decide_eq_true (by first | (with_reducible assumption) | assumption); first | exact h_ | (have e_ := (Kd.R_reads' HO123.out).1; omega) | simpa using h_) (seg := [.int .i64 (wrap64 ((ji22) - ((rd_T49 t116 x30_2).f2))), .int .i64 (wrap64 (((rd_T25 y121 (ji23)).f1) + 1))]) (j := 0) hcl34 hcc34 (show 2 ≤ 2 from by decide) (x' := (⟨wrap64 ((ji22) - ((rd_T49 t116 x30_2).f2)), wrap64 (((rd_T25 y121 (ji23)).f1) + 1)⟩ : S25)) (k25_mkM _ _ _ (⟨wrap64 ((ji22) - ((rd_T49 t116 x30_2).f2)), wrap64 (((rd_T25 y121 (ji23)).f1) + 1)⟩ : S25) ) (fun _ hk => hk); have hx34_0 := hcc34 0 _ rfl; (try simp only [show (k25).sz = 2 from rfl, Nat.mul_one, Nat.add_zero] at hx34_0); have hf34_0 := hfr34 0; (try simp only [show (k25).sz = 2 from rfl, Nat.mul_one, Nat.add_zero] at hf34_0); have hx34_1 := hcc34 1 _ rfl; (try simp only [show (k25).sz = 2 from rfl, Nat.mul_one, Nat.add_zero] at hx34_1); have hf34_1 := hfr34 1; (try simp only [show (k25).sz = 2 from rfl, Nat.mul_one, Nat.add_zero] at hf34_1); clear hcl34 hcc34 hfr34))
            repeat (first | (go_quiet (first | fail); go_wp2) | (go_region; go_wp2))
            (try (rw [drewN_self w31]; generalize hq_ : World.drewN w31 _ = w31; have n0_ := zm (Kd.R_at hq_ HO_28.out); have n1_ := zm (Kd.R_at hq_ HO123.out); have n2_ := zm (blk_at hq_ BK114.out); have n3_ := zm (blk_at hq_ BK120.out); have n4_ := zm (below_at hq_ HB.out); clear hq_ HO_28 HO123 BK114 BK120 HB; have HO_28 := n0_; have HO123 := n1_; have BK114 := n2_; have BK120 := n3_; have HB := n4_; clear n0_ n1_ n2_ n3_ n4_; (try (have HX34 := zm (show Kd.R k25 25 w31 w.heap.size (fun _ => True) (.slice (some ⟨go26, 0, none⟩) y121.length co33) y121 from (by apply_rules [HO123.out, Kd.R_alloc, Kd.R_drewN, Kd.R_drew])))); (try (obtain ⟨ce34, hcl34, hM34, hcc34, hfr34⟩ := Kd.R_elem HX34.out z25 ((ji23) : Int) (of_decide_eq_true (by first | (with_reducible assumption) | assumption)) (by have h_ : ((ji23) : Int) < ((y121.length : Int) : Int) := of_decide_eq_true (by first | (with_reducible assumption) | assumption); first | exact h_ | (have e_ := (Kd.R_reads' HO123.out).1; omega) | simpa using h_))); (try (obtain rfl := k25_openM hM34)); (try (have HP34 := Kd.R_seg HX34.out ((ji23) : Int) (of_decide_eq_true (by first | (with_reducible assumption) | assumption)) (by have h_ : ((ji23) : Int) < ((y121.length : Int) : Int) := of_decide_eq_true (by first | (with_reducible assumption) | assumption); first | exact h_ | (have e_ := (Kd.R_reads' HO123.out).1; omega) | simpa using h_) (seg := [.int .i64 (wrap64 ((ji22) - ((rd_T49 t116 x30_2).f2))), .int .i64 (wrap64 (((rd_T25 y121 (ji23)).f1) + 1))]) (j := 0) hcl34 hcc34 (show 2 ≤ 2 from by decide) (x' := (⟨wrap64 ((ji22) - ((rd_T49 t116 x30_2).f2)), wrap64 (((rd_T25 y121 (ji23)).f1) + 1)⟩ : S25)) (k25_mkM _ _ _ (⟨wrap64 ((ji22) - ((rd_T49 t116 x30_2).f2)), wrap64 (((rd_T25 y121 (ji23)).f1) + 1)⟩ : S25) ) (fun _ hk => hk))); (try (have hx34_0 := hcc34 0 _ rfl)); (try (try simp only [show (k25).sz = 2 from rfl, Nat.mul_one, Nat.add_zero] at hx34_0)); (try (have hf34_0 := hfr34 0)); (try (try simp only [show (k25).sz = 2 from rfl, Nat.mul_one, Nat.add_zero] at hf34_0)); (try (have hx34_1 := hcc34 1 _ rfl)); (try (try simp only [show (k25).sz = 2 from rfl, Nat.mul_one, Nat.add_zero] at hx34_1)); (try (have hf34_1 := hfr34 1)); (try (try simp only [show (k25).sz = 2 from rfl, Nat.mul_one, Nat.add_zero] at hf34_1)); (try (clear hcl34 hcc34 hfr34))))
            obtain ⟨w35, hw⟩ : ∃ w_ : World, w_ = ((w31.setCell ⟨go26, ((ji23) : Int).toNat * 2, none⟩ (.int .i64 (wrap64 ((ji22) - ((rd_T49 t116 x30_2).f2))))).setCell ⟨go26, ((ji23) : Int).toNat * 2 + 1, none⟩ (.int .i64 (wrap64 (((rd_T25 y121 (ji23)).f1) + 1)))) := ⟨_, rfl⟩
            rw [← hw]
            have hg : w31.grownBy w35 (some go26) := (by rw [hw]; exact HP34.2)
            have hp_ : Kd.R k25 25 w35 w.heap.size (fun _ => True) (.slice (some ⟨go26, 0, none⟩) y121.length co33) y125 := (by rw [hw, Ny125.out]; exact HP34.1)
            clear HP34
            have n0_ := zm (Kd.R_over' (v := (.slice (some ⟨go26, 0, none⟩) y121.length co33)) (by apply_rules [HO_28.out, Kd.R_alloc, Kd.R_drewN, Kd.R_drew]) (Kd.R_typed HO123.out) (by decide) hg)
            have n1_ := zm (blk_grown (by apply_rules [BK114.out, zk1, zk2, zk3]) hg (Kd.R_ne HO123.out BK114.out (by decide)))
            have n2_ := zm (blk_grown (by apply_rules [BK120.out, zk1, zk2, zk3]) hg (Kd.R_ne HO123.out BK120.out (by decide)))
            have n3_ := zm (hp_)
            have n4_ := zm ((by rw [hw]; exact below_set (below_set (HB.out) GB26.out) GB26.out : Below w.heap.size w w35))
            clear HO_28
            clear BK114
            clear BK120
            clear HO123
            clear HB
            have HO_28 := n0_
            have BK114 := n1_
            have BK120 := n2_
            have HO123 := n3_
            have HB := n4_
            clear n0_ n1_ n2_ n3_ n4_
            clear hg hw hp_
            go_roundg k2
            case measure => have := HJ4.out; have := HK2.out; omega
            case rel => exact ⟨(y125), ((rd_T49 t116 x30_2).f2), (ji22), (wrap64 (x30_2 + 1)), (by first | rfl | (simp; done) | (simp [*]; done)), (by first | rfl | (simp; done) | (simp only [← hji22] <;> (first | rfl | simp)) | (simp [*]; done)), (by first | rfl | (simp; done) | (simp [*]; done)), H', ⟨by have := HJ4.out; have := HK2.out; omega⟩, ⟨by (with_reducible repeat (first | apply Kd.R_alloc | apply Kd.R_drewN | apply Kd.R_drew)); exact HO123.out⟩, ⟨by (with_reducible repeat (first | apply Kd.R_alloc | apply Kd.R_drewN | apply Kd.R_drew)); exact Kd.R_mono HO_28.out (fun _ hk => trivial)⟩, ⟨by (with_reducible repeat (first | refine blk_alloc ?_ _ | refine blk_drewN ?_ _ | refine blk_drew ?_)); exact BK114.out⟩, ⟨by apply_rules [HB.out, zb1, zb2, zb3, zb4, GE114.out, zb4, GE120.out]⟩⟩
           rw [if_neg c25] at H
           exact absurd H (by simp)
          rw [if_neg c24] at H
          exact absurd H (by simp)
         rw [if_neg c21] at H
         exact absurd H (by simp)
        rw [if_neg c20] at H
        have c20b0 : ((x9_2.length : Int) == 0) = false := beq_eq_false_iff_ne.mpr c20
        have c20b1 : ((x9_2.length : Int) != 0) = true := bne_iff_ne.mpr c20
        have c20b2 : ¬ (x9_2 = []) := fun h_ => c20 (by rw [h_]; rfl)
        by_cases c36 : (wrap64 (((rd_T49 t116 x30_2).f2) - x11_2)) > ji12
        ·rw [if_pos c36] at H
         have c36b0 : decide (ji12 < (wrap64 (((rd_T49 t116 x30_2).f2) - x11_2))) = true := decide_eq_true c36
         clear c36
         by_cases c37 : x9_2.length < 8796093022208
         ·rw [if_pos c37] at H
          have LMc37 := zm c37
          clear c37
          obtain ⟨y126, hy126⟩ : ∃ y_ : List (S25), y_ = (x9_2 ++ [(⟨0, 0⟩ : S25)]) := ⟨_, rfl⟩
          replace H : (if 0 ≤ (wrap64 ((y126.length : Int) - 1)) then (if (wrap64 ((y126.length : Int) - 1)) < (y126.length : Int) then (many_Blocks.l0 k2 ji12 (y126.set ((wrap64 ((y126.length : Int) - 1)) : Int).toNat (⟨wrap64 ((mx ((rd_T49 t116 x30_2).f2) (wrap64 (((rd_T49 t116 x30_2).f2) + ((rd_T49 t116 x30_2).f3)))) - ((rd_T49 t116 x30_2).f2)), wrap64 (((rd_T25 y126 (wrap64 ((y126.length : Int) - 1))).f1) + 1)⟩ : S25)) ((rd_T49 t116 x30_2).f2) (mx ((rd_T49 t116 x30_2).f2) (wrap64 (((rd_T49 t116 x30_2).f2) + ((rd_T49 t116 x30_2).f3)))) t116 (t116.length : Int) (wrap64 (x30_2 + 1))) else (none)) else (none)) = some r := by first | (rw [hy126]; with_reducible exact H) | (have H2_ := (Option.bind_some _ _).symm.trans H; rw [hy126]; with_reducible exact H2_) | (have H2_ := (Option.bind_some _ _).symm.trans H; with_reducible exact H2_) | with_reducible exact H | (rw [hy126]; exact H) | exact H
          have Ny126 := zm hy126
          clear hy126
          obtain ⟨ji38, hji38⟩ : ∃ j_ : Int, (mx ((rd_T49 t116 x30_2).f2) (wrap64 (((rd_T49 t116 x30_2).f2) + ((rd_T49 t116 x30_2).f3)))) = j_ := ⟨_, rfl⟩
          replace H : (if 0 ≤ (wrap64 ((y126.length : Int) - 1)) then (if (wrap64 ((y126.length : Int) - 1)) < (y126.length : Int) then (many_Blocks.l0 k2 ji12 (y126.set ((wrap64 ((y126.length : Int) - 1)) : Int).toNat (⟨wrap64 ((ji38) - ((rd_T49 t116 x30_2).f2)), wrap64 (((rd_T25 y126 (wrap64 ((y126.length : Int) - 1))).f1) + 1)⟩ : S25)) ((rd_T49 t116 x30_2).f2) ji38 t116 (t116.length : Int) (wrap64 (x30_2 + 1))) else (none)) else (none)) = some r := by first | (rw [hji38] at H; exact H) | (simp only [hji38] at H ⊢; exact H)
          have hji38_ : (if ((rd_T49 t116 x30_2).f2) < (wrap64 (((rd_T49 t116 x30_2).f2) + ((rd_T49 t116 x30_2).f3))) then (wrap64 (((rd_T49 t116 x30_2).f2) + ((rd_T49 t116 x30_2).f3))) else ((rd_T49 t116 x30_2).f2)) = ji38 := hji38
          obtain ⟨ji39, hji39⟩ : ∃ j_ : Int, (wrap64 ((y126.length : Int) - 1)) = j_ := ⟨_, rfl⟩
          replace H : (if 0 ≤ (ji39) then (if (ji39) < (y126.length : Int) then (many_Blocks.l0 k2 ji12 (y126.set ((ji39) : Int).toNat (⟨wrap64 ((ji38) - ((rd_T49 t116 x30_2).f2)), wrap64 (((rd_T25 y126 (ji39)).f1) + 1)⟩ : S25)) ((rd_T49 t116 x30_2).f2) ji38 t116 (t116.length : Int) (wrap64 (x30_2 + 1))) else (none)) else (none)) = some r := by first | (rw [hji39] at H; exact H) | (simp only [hji39] at H ⊢; exact H)
          have hji39w : (IntKind.i64.wrap ((y126.length : Int) - 1)) = ji39 := (i64_w _).trans hji39
          by_cases c40 : 0 ≤ (ji39)
          ·rw [if_pos c40] at H
           have c40b0 : decide (0 ≤ (ji39)) = true := decide_eq_true c40
           clear c40
           by_cases c41 : (ji39) < (y126.length : Int)
           ·rw [if_pos c41] at H
            have c41b0 : decide ((ji39) < (y126.length : Int)) = true := decide_eq_true c41
            clear c41
            obtain ⟨y130, hy130⟩ : ∃ y_ : List (S25), y_ = (y126.set ((ji39) : Int).toNat (⟨wrap64 ((ji38) - ((rd_T49 t116 x30_2).f2)), wrap64 (((rd_T25 y126 (ji39)).f1) + 1)⟩ : S25)) := ⟨_, rfl⟩
            replace H : (many_Blocks.l0 k2 ji12 y130 ((rd_T49 t116 x30_2).f2) ji38 t116 (t116.length : Int) (wrap64 (x30_2 + 1))) = some r := by first | (rw [hy130]; with_reducible exact H) | (have H2_ := (Option.bind_some _ _).symm.trans H; rw [hy130]; with_reducible exact H2_) | (have H2_ := (Option.bind_some _ _).symm.trans H; with_reducible exact H2_) | with_reducible exact H | (rw [hy130]; exact H) | exact H
            have Ny130 := zm hy130
            clear hy130
            have H' := zm H
            clear H
            have p119 : 0 ≤ (x30_2 : Int) := of_decide_eq_true (by first | (with_reducible assumption) | assumption)
            have q119 : x30_2 < (t116.length : Int) := of_decide_eq_true (by first | (with_reducible assumption) | assumption)
            obtain ⟨ad119, e119, hx119_0, hx119_1, hx119_2, hx119_3⟩ := at_T49 (Kd.R_reads' HO_28.out).2.2 x30_2 p119 q119
            cases e119
            replace p119 := eq_true p119
            replace q119 := eq_true q119
            go_wp2_with (first | ((with_reducible refine gate_dst (N := 13) rfl ?_); refine box_event ?hg (N := 13) ?hd (cs := #[.int .u32 0, .int .u8 0, .int .i64 0, .int .i64 0]) (t := 49) ?hr ?_; (case hd => rfl); (case hg => rfl); (case hr => go_simp; try rfl); intro gb120 hg w43 hbox hb; have n0_ := zm (Kd.R_below (by apply_rules [HO_9.out, Kd.R_alloc, Kd.R_drewN, Kd.R_drew]) hb); have n1_ := zm (Kd.R_below (Kd.R_elderB (by apply_rules [HO_28.out, Kd.R_alloc, Kd.R_drewN, Kd.R_drew]) gb120 (Nat.le_of_eq hg.symm)) hb); have n2_ := zm (blk_below (by apply_rules [BK114.out, zk1, zk2, zk3]) hb); have n3_ := zm (below_step (by apply_rules [HB.out, zb1, zb2, zb3, zb4, GE114.out]) hb); have n4_ := zm (hbox); have n5_ := zm ((by rw [hg]; exact (below_size (by apply_rules [HB.out, zb1, zb2, zb3, zb4, GE114.out])) : w.heap.size ≤ gb120)); have n6_ := n5_; have n7_ := zm ((by rw [hg]; exact Nat.ne_of_lt (blk_lt (by apply_rules [BK114.out, zk1, zk2, zk3])) : gb114 ≠ gb120)); have n8_ := zm ((by rw [hg]; exact Nat.ne_of_gt (blk_lt (by apply_rules [BK114.out, zk1, zk2, zk3])) : gb120 ≠ gb114)); clear HO_9; clear HO_28; clear BK114; clear HB; have HO_9 := n0_; have HO_28 := n1_; have BK114 := n2_; have HB := n3_; have BK120 := n4_; have GW120 := n5_; have GE120 := n6_; have NB114_120 := n7_; have NB120_114 := n8_; clear n0_ n1_ n2_ n3_ n4_ n5_ n6_ n7_ n8_; clear hb hbox hg; have hnb44 := NB120_114.out; have hnc44 := NB114_120.out; obtain ⟨hcz45_0, hcz45_1, hcz45_2, hcz45_3, hfz45_0, hfz45_1, hfz45_2, hfz45_3⟩ := zf4 BK120.out; obtain ⟨Ao46, co46, eo46⟩ := Kd.R_slice HO_9.out; subst eo46) | ((with_reducible refine gate_builtin (b := .append) (xs := #[.tmp 45, .tmp 47]) rfl ?_); at_builtin; refine Kd.R_append k25 (w0 := w) w.heap.size rfl (.tmp 45) (.tmp 47) 34 25 (.agg #[(.int .i64 0), (.int .i64 0)]) 16 rfl Try.underlying34 info25 rfl (by decide) (by omega) (.slice Ao46 x9_2.length co46) x9_2 (⟨0, 0⟩ : S25) [.int .i64 0, .int .i64 0] (fun _ => True) (fun _ => False) rfl (by first | (go_simp; done) | (go_simp; rfl)) ?aP (fun _ hk => hk.elim) ?aF ?aO ?aB ?aS ?aL ?_; (case aP => exact k25_mkM _ _ _ (⟨0, 0⟩ : S25)); (case aB => exact (by apply_rules [HB.out, zb1, zb2, zb3, zb4, GE114.out, zb4, GE120.out])); (case aF => exact (fun _ _ => trivial)); (case aO => exact (by (with_reducible repeat (first | apply Kd.R_alloc | apply Kd.R_drewN | apply Kd.R_drew)); exact Kd.R_mono (Kd.R_far (p := ⟨gb120, 3, none⟩) (Kd.R_far (p := ⟨gb120, 2, none⟩) (Kd.R_far (p := ⟨gb120, 1, none⟩) (Kd.R_far (p := ⟨gb120, 0, none⟩) (Kd.R_types HO_9.out BK120.out (by decide)) (fun _ hk => hk.2) (.int .u32 ((rd_T49 t116 x30_2).f0))) (fun _ hk => hk.2) (.int .u8 ((rd_T49 t116 x30_2).f1))) (fun _ hk => hk.2) (.int .i64 ((rd_T49 t116 x30_2).f2))) (fun _ hk => hk.2) (.int .i64 ((rd_T49 t116 x30_2).f3))) (fun _ hk => trivial))); (case aS => exact (below_size (by apply_rules [HB.out, zb1, zb2, zb3, zb4, GE114.out, zb4, GE120.out]))); (case aL => have := LMc37.out; omega); intro v127 w47 ho hb hg hat; rw [← Ny126.out] at ho; replace HO_28 := zm (Kd.R_over' (by (with_reducible repeat (first | apply Kd.R_alloc | apply Kd.R_drewN | apply Kd.R_drew)); exact (Kd.R_mono (Kd.R_far (p := ⟨gb120, 3, none⟩) (Kd.R_far (p := ⟨gb120, 2, none⟩) (Kd.R_far (p := ⟨gb120, 1, none⟩) (Kd.R_far (p := ⟨gb120, 0, none⟩) (Kd.R_mono HO_28.out (fun k_ hk => (⟨hk, hk.2⟩ : _ ∧ k_ ≠ gb120))) (fun _ hk => hk.2) (.int .u32 ((rd_T49 t116 x30_2).f0))) (fun _ hk => hk.2) (.int .u8 ((rd_T49 t116 x30_2).f1))) (fun _ hk => hk.2) (.int .i64 ((rd_T49 t116 x30_2).f2))) (fun _ hk => hk.2) (.int .i64 ((rd_T49 t116 x30_2).f3))) (fun _ h_ => h_.1))) (Kd.R_typed (by (with_reducible repeat (first | apply Kd.R_alloc | apply Kd.R_drewN | apply Kd.R_drew)); exact (Kd.R_mono (Kd.R_far (p := ⟨gb120, 3, none⟩) (Kd.R_far (p := ⟨gb120, 2, none⟩) (Kd.R_far (p := ⟨gb120, 1, none⟩) (Kd.R_far (p := ⟨gb120, 0, none⟩) (Kd.R_types HO_9.out BK120.out (by decide)) (fun _ hk => hk.2) (.int .u32 ((rd_T49 t116 x30_2).f0))) (fun _ hk => hk.2) (.int .u8 ((rd_T49 t116 x30_2).f1))) (fun _ hk => hk.2) (.int .i64 ((rd_T49 t116 x30_2).f2))) (fun _ hk => hk.2) (.int .i64 ((rd_T49 t116 x30_2).f3))) (fun _ h_ => h_.1)))) (by decide) hg); replace BK114 := zm (blk_grown (g := gb114) (o := .cells #[.int .i64 a0_0, .int .i64 a0_1, .int .i64 a0_2] 23 (0, 0)) (by (with_reducible repeat (first | refine blk_alloc ?_ _ | refine blk_drewN ?_ _ | refine blk_drew ?_)); refine blk_far ?_ NB114_120.out _; (with_reducible repeat (first | refine blk_alloc ?_ _ | refine blk_drewN ?_ _ | refine blk_drew ?_)); refine blk_far ?_ NB114_120.out _; (with_reducible repeat (first | refine blk_alloc ?_ _ | refine blk_drewN ?_ _ | refine blk_drew ?_)); refine blk_far ?_ NB114_120.out _; (with_reducible repeat (first | refine blk_alloc ?_ _ | refine blk_drewN ?_ _ | refine blk_drew ?_)); refine blk_far ?_ NB114_120.out _; (with_reducible repeat (first | refine blk_alloc ?_ _ | refine blk_drewN ?_ _ | refine blk_drew ?_)); exact BK114.out) hg (Kd.R_ne HO_9.out BK114.out (by decide))); replace BK120 := zm (blk_grown (g := gb120) (o := .cells #[.int .u32 ((rd_T49 t116 x30_2).f0), .int .u8 ((rd_T49 t116 x30_2).f1), .int .i64 ((rd_T49 t116 x30_2).f2), .int .i64 ((rd_T49 t116 x30_2).f3)] 49 (0, 0)) (by (with_reducible repeat (first | refine blk_alloc ?_ _ | refine blk_drewN ?_ _ | refine blk_drew ?_)); refine blk_put (cs := #[.int .u32 ((rd_T49 t116 x30_2).f0), .int .u8 ((rd_T49 t116 x30_2).f1), .int .i64 ((rd_T49 t116 x30_2).f2), .int .i64 0]) ?_ 3 _ rfl; (with_reducible repeat (first | refine blk_alloc ?_ _ | refine blk_drewN ?_ _ | refine blk_drew ?_)); refine blk_put (cs := #[.int .u32 ((rd_T49 t116 x30_2).f0), .int .u8 ((rd_T49 t116 x30_2).f1), .int .i64 0, .int .i64 0]) ?_ 2 _ rfl; (with_reducible repeat (first | refine blk_alloc ?_ _ | refine blk_drewN ?_ _ | refine blk_drew ?_)); refine blk_put (cs := #[.int .u32 ((rd_T49 t116 x30_2).f0), .int .u8 0, .int .i64 0, .int .i64 0]) ?_ 1 _ rfl; (with_reducible repeat (first | refine blk_alloc ?_ _ | refine blk_drewN ?_ _ | refine blk_drew ?_)); refine blk_put (cs := #[.int .u32 0, .int .u8 0, .int .i64 0, .int .i64 0]) ?_ 0 _ rfl; (with_reducible repeat (first | refine blk_alloc ?_ _ | refine blk_drewN ?_ _ | refine blk_drew ?_)); exact BK120.out) hg (Kd.R_ne HO_9.out BK120.out (by decide))); have HO128 := zm (ho); replace HB := zm (hb); clear HO_9; clear ho hb hg hat; obtain ⟨hcz48_0, hcz48_1, hcz48_2, hcz48_3, hfz48_0, hfz48_1, hfz48_2, hfz48_3⟩ := zf4 BK120.out; obtain ⟨Ao49, co49, eo49⟩ := Kd.R_slice HO128.out; subst eo49; have p129 : 0 ≤ ((ji39) : Int) := of_decide_eq_true (by first | (with_reducible assumption) | assumption); have q129 : (ji39) < (y126.length : Int) := of_decide_eq_true (by first | (with_reducible assumption) | assumption); obtain ⟨ad129, e129, hx129_0, hx129_1⟩ := at_T25 (Kd.R_reads' HO128.out).2.2 (ji39) p129 q129; cases e129; replace p129 := eq_true p129; replace q129 := eq_true q129; have p42 : 0 ≤ ((ji39) : Int) := of_decide_eq_true (by first | (with_reducible assumption) | assumption); have q42 : ((ji39) : Int) < ((y126.length : Int) : Int) := of_decide_eq_true (by first | (with_reducible assumption) | assumption); obtain ⟨go42, co42, eo42, gb42, gl42, cl42, HG42⟩ := Kd.R_form HO128.out (by omega); (first | cases eo42 | (injection eo42 with ea_ en_ ec_; (first | subst ea_ | (injection ea_ with ea_; subst ea_)); subst ec_; clear en_)); have GB42 := zm gb42; have GG42 := zm HG42; clear gb42 gl42 HG42; (first | simp only [add_plain] at hx129_0 | skip); (first | simp only [add_plain] at hx129_1 | skip); obtain ⟨ce42, hcl42, hM42, hcc42, hfr42⟩ := Kd.R_elem HO128.out z25 ((ji39) : Int) p42 q42; obtain rfl := k25_openM hM42; have hx42_0 : w47.cell? ⟨go42, ((ji39) : Int).toNat * 2, none⟩ = some (.int .i64 ((rd_T25 y126 (ji39)).f0)) := hcc42 0 _ rfl; have hx42_1 : w47.cell? ⟨go42, ((ji39) : Int).toNat * 2 + 1, none⟩ = some (.int .i64 ((rd_T25 y126 (ji39)).f1)) := hcc42 1 _ rfl; have hf42_0 : w47.frozen? ⟨go42, ((ji39) : Int).toNat * 2, none⟩ = false := hfr42 0; have hf42_1 : w47.frozen? ⟨go42, ((ji39) : Int).toNat * 2 + 1, none⟩ = false := hfr42 1; clear hcl42 hcc42 hfr42; replace p42 := eq_true p42; replace q42 := eq_true q42; have HX50 := zm (show Kd.R k25 25 w47 w.heap.size (fun _ => True) (.slice (some ⟨go42, 0, none⟩) y126.length co49) y126 from (by apply_rules [HO128.out, Kd.R_alloc, Kd.R_drewN, Kd.R_drew])); obtain ⟨ce50, hcl50, hM50, hcc50, hfr50⟩ := Kd.R_elem HX50.out z25 ((ji39) : Int) (of_decide_eq_true (by first | (with_reducible assumption) | assumption)) (by have h_ : ((ji39) : Int) < ((y126.length : Int) : Int) := of_decide_eq_true (by first | (with_reducible assumption) | assumption); first | exact h_ | (have e_ := (Kd.R_reads' HO128.out).1; omega) | simpa using h_); obtain rfl := k25_openM hM50; have HP50 := Kd.R_seg HX50.out ((ji39) : Int) (of_decide_eq_true (by first | (with_reducible assumption) | assumption)) (by have h_ : ((ji39) : Int) < ((y126.length : Int) : Int) := of_decide_eq_true (by first | (with_reducible assumption) | assumption); first | exact h_ | (have e_ := (Kd.R_reads' HO128.out).1; omega) | simpa using h_) (seg := [.int .i64 (wrap64 ((ji38) - ((rd_T49 t116 x30_2).f2))), .int .i64 (wrap64 (((rd_T25 y126 (ji39)).f1) + 1))]) (j := 0) hcl50 hcc50 (show 2 ≤ 2 from by decide) (x' := (⟨wrap64 ((ji38) - ((rd_T49 t116 x30_2).f2)), wrap64 (((rd_T25 y126 (ji39)).f1) + 1)⟩ : S25)) (k25_mkM _ _ _ (⟨wrap64 ((ji38) - ((rd_T49 t116 x30_2).f2)), wrap64 (((rd_T25 y126 (ji39)).f1) + 1)⟩ : S25) ) (fun _ hk => hk); have hx50_0 := hcc50 0 _ rfl; (try simp only [show (k25).sz = 2 from rfl, Nat.mul_one, Nat.add_zero] at hx50_0); have hf50_0 := hfr50 0; (try simp only [show (k25).sz = 2 from rfl, Nat.mul_one, Nat.add_zero] at hf50_0); have hx50_1 := hcc50 1 _ rfl; (try simp only [show (k25).sz = 2 from rfl, Nat.mul_one, Nat.add_zero] at hx50_1); have hf50_1 := hfr50 1; (try simp only [show (k25).sz = 2 from rfl, Nat.mul_one, Nat.add_zero] at hf50_1); clear hcl50 hcc50 hfr50))
            repeat (first | (go_quiet (first | fail); go_wp2) | (go_region; go_wp2))
            (try (rw [drewN_self w47]; generalize hq_ : World.drewN w47 _ = w47; have n0_ := zm (Kd.R_at hq_ HO_28.out); have n1_ := zm (Kd.R_at hq_ HO128.out); have n2_ := zm (blk_at hq_ BK114.out); have n3_ := zm (blk_at hq_ BK120.out); have n4_ := zm (below_at hq_ HB.out); clear hq_ HO_28 HO128 BK114 BK120 HB; have HO_28 := n0_; have HO128 := n1_; have BK114 := n2_; have BK120 := n3_; have HB := n4_; clear n0_ n1_ n2_ n3_ n4_; (try (have HX50 := zm (show Kd.R k25 25 w47 w.heap.size (fun _ => True) (.slice (some ⟨go42, 0, none⟩) y126.length co49) y126 from (by apply_rules [HO128.out, Kd.R_alloc, Kd.R_drewN, Kd.R_drew])))); (try (obtain ⟨ce50, hcl50, hM50, hcc50, hfr50⟩ := Kd.R_elem HX50.out z25 ((ji39) : Int) (of_decide_eq_true (by first | (with_reducible assumption) | assumption)) (by have h_ : ((ji39) : Int) < ((y126.length : Int) : Int) := of_decide_eq_true (by first | (with_reducible assumption) | assumption); first | exact h_ | (have e_ := (Kd.R_reads' HO128.out).1; omega) | simpa using h_))); (try (obtain rfl := k25_openM hM50)); (try (have HP50 := Kd.R_seg HX50.out ((ji39) : Int) (of_decide_eq_true (by first | (with_reducible assumption) | assumption)) (by have h_ : ((ji39) : Int) < ((y126.length : Int) : Int) := of_decide_eq_true (by first | (with_reducible assumption) | assumption); first | exact h_ | (have e_ := (Kd.R_reads' HO128.out).1; omega) | simpa using h_) (seg := [.int .i64 (wrap64 ((ji38) - ((rd_T49 t116 x30_2).f2))), .int .i64 (wrap64 (((rd_T25 y126 (ji39)).f1) + 1))]) (j := 0) hcl50 hcc50 (show 2 ≤ 2 from by decide) (x' := (⟨wrap64 ((ji38) - ((rd_T49 t116 x30_2).f2)), wrap64 (((rd_T25 y126 (ji39)).f1) + 1)⟩ : S25)) (k25_mkM _ _ _ (⟨wrap64 ((ji38) - ((rd_T49 t116 x30_2).f2)), wrap64 (((rd_T25 y126 (ji39)).f1) + 1)⟩ : S25) ) (fun _ hk => hk))); (try (have hx50_0 := hcc50 0 _ rfl)); (try (try simp only [show (k25).sz = 2 from rfl, Nat.mul_one, Nat.add_zero] at hx50_0)); (try (have hf50_0 := hfr50 0)); (try (try simp only [show (k25).sz = 2 from rfl, Nat.mul_one, Nat.add_zero] at hf50_0)); (try (have hx50_1 := hcc50 1 _ rfl)); (try (try simp only [show (k25).sz = 2 from rfl, Nat.mul_one, Nat.add_zero] at hx50_1)); (try (have hf50_1 := hfr50 1)); (try (try simp only [show (k25).sz = 2 from rfl, Nat.mul_one, Nat.add_zero] at hf50_1)); (try (clear hcl50 hcc50 hfr50))))
            obtain ⟨w51, hw⟩ : ∃ w_ : World, w_ = ((w47.setCell ⟨go42, ((ji39) : Int).toNat * 2, none⟩ (.int .i64 (wrap64 ((ji38) - ((rd_T49 t116 x30_2).f2))))).setCell ⟨go42, ((ji39) : Int).toNat * 2 + 1, none⟩ (.int .i64 (wrap64 (((rd_T25 y126 (ji39)).f1) + 1)))) := ⟨_, rfl⟩
            rw [← hw]
            have hg : w47.grownBy w51 (some go42) := (by rw [hw]; exact HP50.2)
            have hp_ : Kd.R k25 25 w51 w.heap.size (fun _ => True) (.slice (some ⟨go42, 0, none⟩) y126.length co49) y130 := (by rw [hw, Ny130.out]; exact HP50.1)
            clear HP50
            have n0_ := zm (Kd.R_over' (v := (.slice (some ⟨go42, 0, none⟩) y126.length co49)) (by apply_rules [HO_28.out, Kd.R_alloc, Kd.R_drewN, Kd.R_drew]) (Kd.R_typed HO128.out) (by decide) hg)
            have n1_ := zm (blk_grown (by apply_rules [BK114.out, zk1, zk2, zk3]) hg (Kd.R_ne HO128.out BK114.out (by decide)))
            have n2_ := zm (blk_grown (by apply_rules [BK120.out, zk1, zk2, zk3]) hg (Kd.R_ne HO128.out BK120.out (by decide)))
            have n3_ := zm (hp_)
            have n4_ := zm ((by rw [hw]; exact below_set (below_set (HB.out) GB42.out) GB42.out : Below w.heap.size w w51))
            clear HO_28
            clear BK114
            clear BK120
            clear HO128
            clear HB
            have HO_28 := n0_
            have BK114 := n1_
            have BK120 := n2_
            have HO128 := n3_
            have HB := n4_
            clear n0_ n1_ n2_ n3_ n4_
            clear hg hw hp_
            go_roundg k2
            case measure => have := HJ4.out; have := HK2.out; omega
            case rel => exact ⟨(y130), ((rd_T49 t116 x30_2).f2), (ji38), (wrap64 (x30_2 + 1)), (by first | rfl | (simp; done) | (simp [*]; done)), (by first | rfl | (simp; done) | (simp only [← hji38] <;> (first | rfl | simp)) | (simp [*]; done)), (by first | rfl | (simp; done) | (simp [*]; done)), H', ⟨by have := HJ4.out; have := HK2.out; omega⟩, ⟨by (with_reducible repeat (first | apply Kd.R_alloc | apply Kd.R_drewN | apply Kd.R_drew)); exact HO128.out⟩, ⟨by (with_reducible repeat (first | apply Kd.R_alloc | apply Kd.R_drewN | apply Kd.R_drew)); exact Kd.R_mono HO_28.out (fun _ hk => trivial)⟩, ⟨by (with_reducible repeat (first | refine blk_alloc ?_ _ | refine blk_drewN ?_ _ | refine blk_drew ?_)); exact BK114.out⟩, ⟨by apply_rules [HB.out, zb1, zb2, zb3, zb4, GE114.out, zb4, GE120.out]⟩⟩
           rw [if_neg c41] at H
           exact absurd H (by simp)
          rw [if_neg c40] at H
          exact absurd H (by simp)
         rw [if_neg c37] at H
         exact absurd H (by simp)
        rw [if_neg c36] at H
        have c36b0 : decide (ji12 < (wrap64 (((rd_T49 t116 x30_2).f2) - x11_2))) = false := decide_eq_false c36
        clear c36
        obtain ⟨ji52, hji52⟩ : ∃ j_ : Int, (mx x11_2 (wrap64 (((rd_T49 t116 x30_2).f2) + ((rd_T49 t116 x30_2).f3)))) = j_ := ⟨_, rfl⟩
        replace H : (if 0 ≤ (wrap64 ((x9_2.length : Int) - 1)) then (if (wrap64 ((x9_2.length : Int) - 1)) < (x9_2.length : Int) then (many_Blocks.l0 k2 ji12 (x9_2.set ((wrap64 ((x9_2.length : Int) - 1)) : Int).toNat (⟨wrap64 ((ji52) - x10_2), wrap64 (((rd_T25 x9_2 (wrap64 ((x9_2.length : Int) - 1))).f1) + 1)⟩ : S25)) x10_2 ji52 t116 (t116.length : Int) (wrap64 (x30_2 + 1))) else (none)) else (none)) = some r := by first | (rw [hji52] at H; exact H) | (simp only [hji52] at H ⊢; exact H)
        have hji52_ : (if x11_2 < (wrap64 (((rd_T49 t116 x30_2).f2) + ((rd_T49 t116 x30_2).f3))) then (wrap64 (((rd_T49 t116 x30_2).f2) + ((rd_T49 t116 x30_2).f3))) else x11_2) = ji52 := hji52
        obtain ⟨ji53, hji53⟩ : ∃ j_ : Int, (wrap64 ((x9_2.length : Int) - 1)) = j_ := ⟨_, rfl⟩
        replace H : (if 0 ≤ (ji53) then (if (ji53) < (x9_2.length : Int) then (many_Blocks.l0 k2 ji12 (x9_2.set ((ji53) : Int).toNat (⟨wrap64 ((ji52) - x10_2), wrap64 (((rd_T25 x9_2 (ji53)).f1) + 1)⟩ : S25)) x10_2 ji52 t116 (t116.length : Int) (wrap64 (x30_2 + 1))) else (none)) else (none)) = some r := by first | (rw [hji53] at H; exact H) | (simp only [hji53] at H ⊢; exact H)
        have hji53w : (IntKind.i64.wrap ((x9_2.length : Int) - 1)) = ji53 := (i64_w _).trans hji53
        by_cases c54 : 0 ≤ (ji53)
        ·rw [if_pos c54] at H
         have c54b0 : decide (0 ≤ (ji53)) = true := decide_eq_true c54
         clear c54
         by_cases c55 : (ji53) < (x9_2.length : Int)
         ·rw [if_pos c55] at H
          have c55b0 : decide ((ji53) < (x9_2.length : Int)) = true := decide_eq_true c55
          clear c55
          obtain ⟨y132, hy132⟩ : ∃ y_ : List (S25), y_ = (x9_2.set ((ji53) : Int).toNat (⟨wrap64 ((ji52) - x10_2), wrap64 (((rd_T25 x9_2 (ji53)).f1) + 1)⟩ : S25)) := ⟨_, rfl⟩
          replace H : (many_Blocks.l0 k2 ji12 y132 x10_2 ji52 t116 (t116.length : Int) (wrap64 (x30_2 + 1))) = some r := by first | (rw [hy132]; with_reducible exact H) | (have H2_ := (Option.bind_some _ _).symm.trans H; rw [hy132]; with_reducible exact H2_) | (have H2_ := (Option.bind_some _ _).symm.trans H; with_reducible exact H2_) | with_reducible exact H | (rw [hy132]; exact H) | exact H
          have Ny132 := zm hy132
          clear hy132
          have H' := zm H
          clear H
          have p119 : 0 ≤ (x30_2 : Int) := of_decide_eq_true (by first | (with_reducible assumption) | assumption)
          have q119 : x30_2 < (t116.length : Int) := of_decide_eq_true (by first | (with_reducible assumption) | assumption)
          obtain ⟨ad119, e119, hx119_0, hx119_1, hx119_2, hx119_3⟩ := at_T49 (Kd.R_reads' HO_28.out).2.2 x30_2 p119 q119
          cases e119
          replace p119 := eq_true p119
          replace q119 := eq_true q119
          go_wp2_with (first | ((with_reducible refine gate_dst (N := 13) rfl ?_); refine box_event ?hg (N := 13) ?hd (cs := #[.int .u32 0, .int .u8 0, .int .i64 0, .int .i64 0]) (t := 49) ?hr ?_; (case hd => rfl); (case hg => rfl); (case hr => go_simp; try rfl); intro gb120 hg w57 hbox hb; have n0_ := zm (Kd.R_below (by apply_rules [HO_9.out, Kd.R_alloc, Kd.R_drewN, Kd.R_drew]) hb); have n1_ := zm (Kd.R_below (Kd.R_elderB (by apply_rules [HO_28.out, Kd.R_alloc, Kd.R_drewN, Kd.R_drew]) gb120 (Nat.le_of_eq hg.symm)) hb); have n2_ := zm (blk_below (by apply_rules [BK114.out, zk1, zk2, zk3]) hb); have n3_ := zm (below_step (by apply_rules [HB.out, zb1, zb2, zb3, zb4, GE114.out]) hb); have n4_ := zm (hbox); have n5_ := zm ((by rw [hg]; exact (below_size (by apply_rules [HB.out, zb1, zb2, zb3, zb4, GE114.out])) : w.heap.size ≤ gb120)); have n6_ := n5_; have n7_ := zm ((by rw [hg]; exact Nat.ne_of_lt (blk_lt (by apply_rules [BK114.out, zk1, zk2, zk3])) : gb114 ≠ gb120)); have n8_ := zm ((by rw [hg]; exact Nat.ne_of_gt (blk_lt (by apply_rules [BK114.out, zk1, zk2, zk3])) : gb120 ≠ gb114)); clear HO_9; clear HO_28; clear BK114; clear HB; have HO_9 := n0_; have HO_28 := n1_; have BK114 := n2_; have HB := n3_; have BK120 := n4_; have GW120 := n5_; have GE120 := n6_; have NB114_120 := n7_; have NB120_114 := n8_; clear n0_ n1_ n2_ n3_ n4_ n5_ n6_ n7_ n8_; clear hb hbox hg; have hnb58 := NB120_114.out; have hnc58 := NB114_120.out; obtain ⟨hcz59_0, hcz59_1, hcz59_2, hcz59_3, hfz59_0, hfz59_1, hfz59_2, hfz59_3⟩ := zf4 BK120.out) | ((with_reducible refine gate_store (t := 49) (p := 13) rfl ?_); (try (rw [drewN_self w57]; generalize hq_ : World.drewN w57 _ = w57; have n0_ := zm (Kd.R_at hq_ HO_9.out); have n1_ := zm (Kd.R_at hq_ HO_28.out); have n2_ := zm (blk_at hq_ BK114.out); have n3_ := zm (blk_at hq_ BK120.out); have n4_ := zm (below_at hq_ HB.out); clear hq_ HO_9 HO_28 BK114 BK120 HB; have HO_9 := n0_; have HO_28 := n1_; have BK114 := n2_; have BK120 := n3_; have HB := n4_; clear n0_ n1_ n2_ n3_ n4_)); refine store_event (t := 49) (p := 13) (v := ?vo_w60) (w1 := ((((w57.setCell ⟨gb120, 0, none⟩ (.int .u32 ((rd_T49 t116 x30_2).f0))).setCell ⟨gb120, 1, none⟩ (.int .u8 ((rd_T49 t116 x30_2).f1))).setCell ⟨gb120, 2, none⟩ (.int .i64 ((rd_T49 t116 x30_2).f2))).setCell ⟨gb120, 3, none⟩ (.int .i64 ((rd_T49 t116 x30_2).f3)))) ?hg ?ho ?hn ?hr ?_; (case ho => rfl); (case hg => rfl); (case hn => rfl); (case hr => go_simp; try rfl); intro w60 hw; have n0_ : Aside0 (Kd.R k25 25 w60 w.heap.size (fun _ => True) u9 x9_2) := ⟨(by rw [hw]; exact (by (with_reducible repeat (first | apply Kd.R_alloc | apply Kd.R_drewN | apply Kd.R_drew)); exact Kd.R_mono (Kd.R_far (p := ⟨gb120, 3, none⟩) (Kd.R_far (p := ⟨gb120, 2, none⟩) (Kd.R_far (p := ⟨gb120, 1, none⟩) (Kd.R_far (p := ⟨gb120, 0, none⟩) (Kd.R_types HO_9.out BK120.out (by decide)) (fun _ hk => hk.2) (.int .u32 ((rd_T49 t116 x30_2).f0))) (fun _ hk => hk.2) (.int .u8 ((rd_T49 t116 x30_2).f1))) (fun _ hk => hk.2) (.int .i64 ((rd_T49 t116 x30_2).f2))) (fun _ hk => hk.2) (.int .i64 ((rd_T49 t116 x30_2).f3))) (fun _ hk => trivial)))⟩; have n1_ : Aside0 (Kd.R k49 49 w60 w.heap.size (fun k_ => k_ ≠ gb120) (.slice (some ad119) t116.length co16) t116) := ⟨(by rw [hw]; exact (by (with_reducible repeat (first | apply Kd.R_alloc | apply Kd.R_drewN | apply Kd.R_drew)); exact Kd.R_mono (Kd.R_far (p := ⟨gb120, 3, none⟩) (Kd.R_far (p := ⟨gb120, 2, none⟩) (Kd.R_far (p := ⟨gb120, 1, none⟩) (Kd.R_far (p := ⟨gb120, 0, none⟩) (Kd.R_mono HO_28.out (fun k_ hk => (⟨hk, hk.2⟩ : _ ∧ k_ ≠ gb120))) (fun _ hk => hk.2) (.int .u32 ((rd_T49 t116 x30_2).f0))) (fun _ hk => hk.2) (.int .u8 ((rd_T49 t116 x30_2).f1))) (fun _ hk => hk.2) (.int .i64 ((rd_T49 t116 x30_2).f2))) (fun _ hk => hk.2) (.int .i64 ((rd_T49 t116 x30_2).f3))) (fun _ hk => hk.1.2)))⟩; have n2_ : Aside0 (w60.heap[gb114]? = some (.cells #[.int .i64 a0_0, .int .i64 a0_1, .int .i64 a0_2] 23 (0, 0))) := ⟨(by rw [hw]; exact (by (with_reducible repeat (first | refine blk_alloc ?_ _ | refine blk_drewN ?_ _ | refine blk_drew ?_)); refine blk_far ?_ NB114_120.out _; (with_reducible repeat (first | refine blk_alloc ?_ _ | refine blk_drewN ?_ _ | refine blk_drew ?_)); refine blk_far ?_ NB114_120.out _; (with_reducible repeat (first | refine blk_alloc ?_ _ | refine blk_drewN ?_ _ | refine blk_drew ?_)); refine blk_far ?_ NB114_120.out _; (with_reducible repeat (first | refine blk_alloc ?_ _ | refine blk_drewN ?_ _ | refine blk_drew ?_)); refine blk_far ?_ NB114_120.out _; (with_reducible repeat (first | refine blk_alloc ?_ _ | refine blk_drewN ?_ _ | refine blk_drew ?_)); exact BK114.out))⟩; have n3_ : Aside0 (w60.heap[gb120]? = some (.cells #[.int .u32 ((rd_T49 t116 x30_2).f0), .int .u8 ((rd_T49 t116 x30_2).f1), .int .i64 ((rd_T49 t116 x30_2).f2), .int .i64 ((rd_T49 t116 x30_2).f3)] 49 (0, 0))) := ⟨(by rw [hw]; exact (by (with_reducible repeat (first | refine blk_alloc ?_ _ | refine blk_drewN ?_ _ | refine blk_drew ?_)); refine blk_put (cs := #[.int .u32 ((rd_T49 t116 x30_2).f0), .int .u8 ((rd_T49 t116 x30_2).f1), .int .i64 ((rd_T49 t116 x30_2).f2), .int .i64 0]) ?_ 3 _ rfl; (with_reducible repeat (first | refine blk_alloc ?_ _ | refine blk_drewN ?_ _ | refine blk_drew ?_)); refine blk_put (cs := #[.int .u32 ((rd_T49 t116 x30_2).f0), .int .u8 ((rd_T49 t116 x30_2).f1), .int .i64 0, .int .i64 0]) ?_ 2 _ rfl; (with_reducible repeat (first | refine blk_alloc ?_ _ | refine blk_drewN ?_ _ | refine blk_drew ?_)); refine blk_put (cs := #[.int .u32 ((rd_T49 t116 x30_2).f0), .int .u8 0, .int .i64 0, .int .i64 0]) ?_ 1 _ rfl; (with_reducible repeat (first | refine blk_alloc ?_ _ | refine blk_drewN ?_ _ | refine blk_drew ?_)); refine blk_put (cs := #[.int .u32 0, .int .u8 0, .int .i64 0, .int .i64 0]) ?_ 0 _ rfl; (with_reducible repeat (first | refine blk_alloc ?_ _ | refine blk_drewN ?_ _ | refine blk_drew ?_)); exact BK120.out))⟩; have n4_ : Aside0 (Below w.heap.size w w60) := ⟨(by rw [hw]; exact (by apply_rules [HB.out, zb1, zb2, zb3, zb4, GE114.out, zb4, GE120.out]))⟩; clear hw; clear HO_9; clear HO_28; clear BK114; clear BK120; clear HB; have HO_9 := n0_; have HO_28 := n1_; have BK114 := n2_; have BK120 := n3_; have HB := n4_; clear n0_ n1_ n2_ n3_ n4_; obtain ⟨Ao61, co61, eo61⟩ := Kd.R_slice HO_9.out; subst eo61; obtain ⟨hcz62_0, hcz62_1, hcz62_2, hcz62_3, hfz62_0, hfz62_1, hfz62_2, hfz62_3⟩ := zf4 BK120.out; have p131 : 0 ≤ ((ji53) : Int) := of_decide_eq_true (by first | (with_reducible assumption) | assumption); have q131 : (ji53) < (x9_2.length : Int) := of_decide_eq_true (by first | (with_reducible assumption) | assumption); obtain ⟨ad131, e131, hx131_0, hx131_1⟩ := at_T25 (Kd.R_reads' HO_9.out).2.2 (ji53) p131 q131; cases e131; replace p131 := eq_true p131; replace q131 := eq_true q131; have p56 : 0 ≤ ((ji53) : Int) := of_decide_eq_true (by first | (with_reducible assumption) | assumption); have q56 : ((ji53) : Int) < ((x9_2.length : Int) : Int) := of_decide_eq_true (by first | (with_reducible assumption) | assumption); obtain ⟨go56, co56, eo56, gb56, gl56, cl56, HG56⟩ := Kd.R_form HO_9.out (by omega); (first | cases eo56 | (injection eo56 with ea_ en_ ec_; (first | subst ea_ | (injection ea_ with ea_; subst ea_)); subst ec_; clear en_)); have GB56 := zm gb56; have GG56 := zm HG56; clear gb56 gl56 HG56; (first | simp only [add_plain] at hx131_0 | skip); (first | simp only [add_plain] at hx131_1 | skip); obtain ⟨ce56, hcl56, hM56, hcc56, hfr56⟩ := Kd.R_elem HO_9.out z25 ((ji53) : Int) p56 q56; obtain rfl := k25_openM hM56; have hx56_0 : w60.cell? ⟨go56, ((ji53) : Int).toNat * 2, none⟩ = some (.int .i64 ((rd_T25 x9_2 (ji53)).f0)) := hcc56 0 _ rfl; have hx56_1 : w60.cell? ⟨go56, ((ji53) : Int).toNat * 2 + 1, none⟩ = some (.int .i64 ((rd_T25 x9_2 (ji53)).f1)) := hcc56 1 _ rfl; have hf56_0 : w60.frozen? ⟨go56, ((ji53) : Int).toNat * 2, none⟩ = false := hfr56 0; have hf56_1 : w60.frozen? ⟨go56, ((ji53) : Int).toNat * 2 + 1, none⟩ = false := hfr56 1; clear hcl56 hcc56 hfr56; replace p56 := eq_true p56; replace q56 := eq_true q56; have HX63 := zm (show Kd.R k25 25 w60 w.heap.size (fun _ => True) (.slice (some ⟨go56, 0, none⟩) x9_2.length co61) x9_2 from (by apply_rules [HO_9.out, Kd.R_alloc, Kd.R_drewN, Kd.R_drew])); obtain ⟨ce63, hcl63, hM63, hcc63, hfr63⟩ := Kd.R_elem HX63.out z25 ((ji53) : Int) (of_decide_eq_true (by first | (with_reducible assumption) | assumption)) (by have h_ : ((ji53) : Int) < ((x9_2.length : Int) : Int) := of_decide_eq_true (by first | (with_reducible assumption) | assumption); first | exact h_ | (have e_ := (Kd.R_reads' HO_9.out).1; omega) | simpa using h_); obtain rfl := k25_openM hM63; have HP63 := Kd.R_seg HX63.out ((ji53) : Int) (of_decide_eq_true (by first | (with_reducible assumption) | assumption)) (by have h_ : ((ji53) : Int) < ((x9_2.length : Int) : Int) := of_decide_eq_true (by first | (with_reducible assumption) | assumption); first | exact h_ | (have e_ := (Kd.R_reads' HO_9.out).1; omega) | simpa using h_) (seg := [.int .i64 (wrap64 ((ji52) - x10_2)), .int .i64 (wrap64 (((rd_T25 x9_2 (ji53)).f1) + 1))]) (j := 0) hcl63 hcc63 (show 2 ≤ 2 from by decide) (x' := (⟨wrap64 ((ji52) - x10_2), wrap64 (((rd_T25 x9_2 (ji53)).f1) + 1)⟩ : S25)) (k25_mkM _ _ _ (⟨wrap64 ((ji52) - x10_2), wrap64 (((rd_T25 x9_2 (ji53)).f1) + 1)⟩ : S25) ) (fun _ hk => hk); have hx63_0 := hcc63 0 _ rfl; (try simp only [show (k25).sz = 2 from rfl, Nat.mul_one, Nat.add_zero] at hx63_0); have hf63_0 := hfr63 0; (try simp only [show (k25).sz = 2 from rfl, Nat.mul_one, Nat.add_zero] at hf63_0); have hx63_1 := hcc63 1 _ rfl; (try simp only [show (k25).sz = 2 from rfl, Nat.mul_one, Nat.add_zero] at hx63_1); have hf63_1 := hfr63 1; (try simp only [show (k25).sz = 2 from rfl, Nat.mul_one, Nat.add_zero] at hf63_1); clear hcl63 hcc63 hfr63))
          repeat (first | (go_quiet (first | fail); go_wp2) | (go_region; go_wp2))
          (try (rw [drewN_self w60]; generalize hq_ : World.drewN w60 _ = w60; have n0_ := zm (Kd.R_at hq_ HO_9.out); have n1_ := zm (Kd.R_at hq_ HO_28.out); have n2_ := zm (blk_at hq_ BK114.out); have n3_ := zm (blk_at hq_ BK120.out); have n4_ := zm (below_at hq_ HB.out); clear hq_ HO_9 HO_28 BK114 BK120 HB; have HO_9 := n0_; have HO_28 := n1_; have BK114 := n2_; have BK120 := n3_; have HB := n4_; clear n0_ n1_ n2_ n3_ n4_; (try (have HX63 := zm (show Kd.R k25 25 w60 w.heap.size (fun _ => True) (.slice (some ⟨go56, 0, none⟩) x9_2.length co61) x9_2 from (by apply_rules [HO_9.out, Kd.R_alloc, Kd.R_drewN, Kd.R_drew])))); (try (obtain ⟨ce63, hcl63, hM63, hcc63, hfr63⟩ := Kd.R_elem HX63.out z25 ((ji53) : Int) (of_decide_eq_true (by first | (with_reducible assumption) | assumption)) (by have h_ : ((ji53) : Int) < ((x9_2.length : Int) : Int) := of_decide_eq_true (by first | (with_reducible assumption) | assumption); first | exact h_ | (have e_ := (Kd.R_reads' HO_9.out).1; omega) | simpa using h_))); (try (obtain rfl := k25_openM hM63)); (try (have HP63 := Kd.R_seg HX63.out ((ji53) : Int) (of_decide_eq_true (by first | (with_reducible assumption) | assumption)) (by have h_ : ((ji53) : Int) < ((x9_2.length : Int) : Int) := of_decide_eq_true (by first | (with_reducible assumption) | assumption); first | exact h_ | (have e_ := (Kd.R_reads' HO_9.out).1; omega) | simpa using h_) (seg := [.int .i64 (wrap64 ((ji52) - x10_2)), .int .i64 (wrap64 (((rd_T25 x9_2 (ji53)).f1) + 1))]) (j := 0) hcl63 hcc63 (show 2 ≤ 2 from by decide) (x' := (⟨wrap64 ((ji52) - x10_2), wrap64 (((rd_T25 x9_2 (ji53)).f1) + 1)⟩ : S25)) (k25_mkM _ _ _ (⟨wrap64 ((ji52) - x10_2), wrap64 (((rd_T25 x9_2 (ji53)).f1) + 1)⟩ : S25) ) (fun _ hk => hk))); (try (have hx63_0 := hcc63 0 _ rfl)); (try (try simp only [show (k25).sz = 2 from rfl, Nat.mul_one, Nat.add_zero] at hx63_0)); (try (have hf63_0 := hfr63 0)); (try (try simp only [show (k25).sz = 2 from rfl, Nat.mul_one, Nat.add_zero] at hf63_0)); (try (have hx63_1 := hcc63 1 _ rfl)); (try (try simp only [show (k25).sz = 2 from rfl, Nat.mul_one, Nat.add_zero] at hx63_1)); (try (have hf63_1 := hfr63 1)); (try (try simp only [show (k25).sz = 2 from rfl, Nat.mul_one, Nat.add_zero] at hf63_1)); (try (clear hcl63 hcc63 hfr63))))
          obtain ⟨w64, hw⟩ : ∃ w_ : World, w_ = ((w60.setCell ⟨go56, ((ji53) : Int).toNat * 2, none⟩ (.int .i64 (wrap64 ((ji52) - x10_2)))).setCell ⟨go56, ((ji53) : Int).toNat * 2 + 1, none⟩ (.int .i64 (wrap64 (((rd_T25 x9_2 (ji53)).f1) + 1)))) := ⟨_, rfl⟩
          rw [← hw]
          have hg : w60.grownBy w64 (some go56) := (by rw [hw]; exact HP63.2)
          have hp_ : Kd.R k25 25 w64 w.heap.size (fun _ => True) (.slice (some ⟨go56, 0, none⟩) x9_2.length co61) y132 := (by rw [hw, Ny132.out]; exact HP63.1)
          clear HP63
          have n0_ := zm (hp_)
          have n1_ := zm (Kd.R_over' (v := (.slice (some ⟨go56, 0, none⟩) x9_2.length co61)) (by apply_rules [HO_28.out, Kd.R_alloc, Kd.R_drewN, Kd.R_drew]) (Kd.R_typed HO_9.out) (by decide) hg)
          have n2_ := zm (blk_grown (by apply_rules [BK114.out, zk1, zk2, zk3]) hg (Kd.R_ne HO_9.out BK114.out (by decide)))
          have n3_ := zm (blk_grown (by apply_rules [BK120.out, zk1, zk2, zk3]) hg (Kd.R_ne HO_9.out BK120.out (by decide)))
          have n4_ := zm ((by rw [hw]; exact below_set (below_set (HB.out) GB56.out) GB56.out : Below w.heap.size w w64))
          clear HO_9
          clear HO_28
          clear BK114
          clear BK120
          clear HB
          have HO_9 := n0_
          have HO_28 := n1_
          have BK114 := n2_
          have BK120 := n3_
          have HB := n4_
          clear n0_ n1_ n2_ n3_ n4_
          clear hg hw hp_
          go_roundg k2
          case measure => have := HJ4.out; have := HK2.out; omega
          case rel => exact ⟨(y132), (x10_2), (ji52), (wrap64 (x30_2 + 1)), (by first | rfl | (simp; done) | (simp [*]; done)), (by first | rfl | (simp; done) | (simp only [← hji52] <;> (first | rfl | simp)) | (simp [*]; done)), (by first | rfl | (simp; done) | (simp [*]; done)), H', ⟨by have := HJ4.out; have := HK2.out; omega⟩, ⟨by (with_reducible repeat (first | apply Kd.R_alloc | apply Kd.R_drewN | apply Kd.R_drew)); exact HO_9.out⟩, ⟨by (with_reducible repeat (first | apply Kd.R_alloc | apply Kd.R_drewN | apply Kd.R_drew)); exact Kd.R_mono HO_28.out (fun _ hk => trivial)⟩, ⟨by (with_reducible repeat (first | refine blk_alloc ?_ _ | refine blk_drewN ?_ _ | refine blk_drew ?_)); exact BK114.out⟩, ⟨by apply_rules [HB.out, zb1, zb2, zb3, zb4, GE114.out, zb4, GE120.out]⟩⟩
         rw [if_neg c55] at H
         exact absurd H (by simp)
        rw [if_neg c54] at H
        exact absurd H (by simp)
       rw [if_neg c19] at H
       exact absurd H (by simp)
      rw [if_neg c18] at H
      exact absurd H (by simp)
     rw [if_neg c17] at H
     have c17b0 : decide (x30_2 < (t116.length : Int)) = false := decide_eq_false c17
     clear c17
     obtain rfl := Option.some.inj H
     go_wp2
     repeat (go_quiet (fail); try go_wp2)
     go_ret
     exact ⟨_, by first | rfl | (simp [errW_none, errW_some] <;> rfl) | (simp only [← hji12]; first | rfl | (simp [errW_none, errW_some] <;> rfl)) | (simp [*, errW_none, errW_some] <;> rfl), by (with_reducible repeat (first | apply Kd.R_alloc | apply Kd.R_drewN | apply Kd.R_drew)); exact HO_9.out, by apply_rules [HB.out, zb1, zb2, zb3, zb4, GE114.out]⟩
end Go.Proofs.Ytlfnpakpkniipaa.Q
