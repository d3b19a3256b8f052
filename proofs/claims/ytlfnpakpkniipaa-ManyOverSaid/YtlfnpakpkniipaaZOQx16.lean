/- Words for the claim. -/
import Derived.Test.YtlfnpakpkniipaaZOWords
import Derived.Test.YtlfnpakpkniipaaZOQx0
import Derived.Test.YtlfnpakpkniipaaZOQx12
import Derived.Test.YtlfnpakpkniipaaZOQx15
namespace Go.Proofs.Ytlfnpakpkniipaa.Q
open Go.RowKit Go.Proofs.YtlfnpakpkniipaaW.PrintWords Go.Proofs.YtlfnpakpkniipaaW.PrintLast Go.Proofs.YtlfnpakpkniipaaW.PrintMore
attribute [local go_sem] max2_int min2_int max_two min_two max_three min_three max_four min_four
set_option linter.unusedVariables false
set_option linter.unusedSimpArgs false
mutual
def horariumref16_of.l0 : Nat → List (S49) → Int → List (S49) → Int → Int → Int → Int → Option ((List (S49)))
 | 0, _, _, _, _, _, _, _ => none
 | k + 1, x1, x2, x7, x8, x237000, x237001, x237002 => if x8 < (x1.length : Int) then (if 0 ≤ x8 then ((horariumref09_Right.f k x237000 x237001 x237002 ((rd_T49 x1 x8).f0) ((rd_T49 x1 x8).f1) ((rd_T49 x1 x8).f2) ((rd_T49 x1 x8).f3)).bind fun t238 => (if t238 = true then (if x237001 = 0 then (none) else ((horariumref09_On.f k ((rd_T49 x1 x8).f0) ((rd_T49 x1 x8).f1) ((rd_T49 x1 x8).f2) ((rd_T49 x1 x8).f3) (wrap64 (Int.tdiv x2 x237001)) (Int.tmod x2 x237001) ((rd_T49 x1 x8).f2)).bind fun t241 => (horariumref16_of.j1 k x1 x2 x7 x8 (!t241) x237000 x237001 x237002))) else (horariumref16_of.j1 k x1 x2 x7 x8 true x237000 x237001 x237002))) else (none)) else (some x7)
def horariumref16_of.j1 : Nat → List (S49) → Int → List (S49) → Int → Bool → Int → Int → Int → Option ((List (S49)))
 | 0, _, _, _, _, _, _, _, _ => none
 | k + 1, x1, x2, x7, x8, x44, x237000, x237001, x237002 => if x44 = true then (horariumref16_of.l0 k x1 x2 x7 (wrap64 (x8 + 1)) x237000 x237001 x237002) else (horariumref16_of.l1 k x1 x2 x7 x8 (x7.length : Int) x237000 x237001 x237002)
def horariumref16_of.l1 : Nat → List (S49) → Int → List (S49) → Int → Int → Int → Int → Int → Option ((List (S49)))
 | 0, _, _, _, _, _, _, _, _ => none
 | k + 1, x1, x2, x7, x8, x9, x237000, x237001, x237002 => if x9 > 0 then (if 0 ≤ (wrap64 (x9 - 1)) then (if (wrap64 (x9 - 1)) < (x7.length : Int) then (if 0 ≤ x8 then (if x8 < (x1.length : Int) then (if ((rd_T49 x7 (wrap64 (x9 - 1))).f2) > ((rd_T49 x1 x8).f2) then (horariumref16_of.l1 k x1 x2 x7 x8 (wrap64 (x9 - 1)) x237000 x237001 x237002) else (if ((rd_T49 x7 (wrap64 (x9 - 1))).f2) = ((rd_T49 x1 x8).f2) then (if ((rd_T49 x7 (wrap64 (x9 - 1))).f3) > ((rd_T49 x1 x8).f3) then (horariumref16_of.l1 k x1 x2 x7 x8 (wrap64 (x9 - 1)) x237000 x237001 x237002) else (if 0 ≤ x9 then (if x9 ≤ (x7.length : Int) then ((some (x7.take (x9 : Int).toNat : List (S49))).bind fun y248 => (if ([] : List (S49)).length + y248.length < 5864062014805 then ((some (([] : List (S49)) ++ y248 : List (S49))).bind fun y252 => (if y252.length < 5864062014805 then ((some (y252 ++ [(⟨(rd_T49 x1 x8).f0, (rd_T49 x1 x8).f1, (rd_T49 x1 x8).f2, (rd_T49 x1 x8).f3⟩ : S49)] : List (S49))).bind fun y256 => ((some (x7.drop (x9 : Int).toNat : List (S49))).bind fun y259 => (if y256.length + y259.length < 5864062014805 then (horariumref16_of.l0 k x1 x2 (y256 ++ y259) (wrap64 (x8 + 1)) x237000 x237001 x237002) else (none)))) else (none))) else (none))) else (none)) else (none))) else (if 0 ≤ x9 then (if x9 ≤ (x7.length : Int) then ((some (x7.take (x9 : Int).toNat : List (S49))).bind fun y266 => (if ([] : List (S49)).length + y266.length < 5864062014805 then ((some (([] : List (S49)) ++ y266 : List (S49))).bind fun y270 => (if y270.length < 5864062014805 then ((some (y270 ++ [(⟨(rd_T49 x1 x8).f0, (rd_T49 x1 x8).f1, (rd_T49 x1 x8).f2, (rd_T49 x1 x8).f3⟩ : S49)] : List (S49))).bind fun y274 => ((some (x7.drop (x9 : Int).toNat : List (S49))).bind fun y277 => (if y274.length + y277.length < 5864062014805 then (horariumref16_of.l0 k x1 x2 (y274 ++ y277) (wrap64 (x8 + 1)) x237000 x237001 x237002) else (none)))) else (none))) else (none))) else (none)) else (none)))) else (none)) else (none)) else (none)) else (none)) else (if 0 ≤ x9 then (if x9 ≤ (x7.length : Int) then ((some (x7.take (x9 : Int).toNat : List (S49))).bind fun y284 => (if ([] : List (S49)).length + y284.length < 5864062014805 then ((some (([] : List (S49)) ++ y284 : List (S49))).bind fun y288 => (if 0 ≤ x8 then (if x8 < (x1.length : Int) then (if y288.length < 5864062014805 then ((some (y288 ++ [(⟨(rd_T49 x1 x8).f0, (rd_T49 x1 x8).f1, (rd_T49 x1 x8).f2, (rd_T49 x1 x8).f3⟩ : S49)] : List (S49))).bind fun y292 => ((some (x7.drop (x9 : Int).toNat : List (S49))).bind fun y295 => (if y292.length + y295.length < 5864062014805 then (horariumref16_of.l0 k x1 x2 (y292 ++ y295) (wrap64 (x8 + 1)) x237000 x237001 x237002) else (none)))) else (none)) else (none)) else (none))) else (none))) else (none)) else (none))
end
def horariumref16_of.f (k : Nat) (a0_0 : Int) (a0_1 : Int) (a0_2 : Int) (l1 : List (S49)) (a2 : Int) : Option ((List (S49))) := horariumref16_of.l0 k l1 a2 ([] : List (S49)) 0 a0_0 a0_1 a0_2
def horariumref16_of.T5 : Bool × List (List Nat × List Nat) := (true, [([], []), ([], []), ([], []), ([1, 2], [1, 2]), ([3], [3]), ([0, 4], [0, 4]), ([5], [5]), ([6, 5], [6]), ([7], [7]), ([7], [7]), ([8, 9, 7], [7, 8, 9]), ([10, 7], [7, 10]), ([7], [7]), ([7], [7]), ([13, 7], [7, 13]), ([12, 14, 7], [7, 12, 14]), ([7], [7]), ([7], [7]), ([17, 7], [7, 17]), ([16, 18, 7], [7, 16, 18]), ([7], [7]), ([7], [7]), ([20, 21, 7], [7, 20, 21]), ([22, 7], [7, 22]), ([23, 7], [7, 23]), ([11, 15, 19, 24, 7, 7], [7, 11, 15, 19, 24]), ([25, 7], [7, 25]), ([7, 26], [7, 26])])
def horariumref16_of.B5 : List Nat := [0, 0, 0, 6, 14, 31, 63, 127, 255, 255, 1023, 2047, 255, 255, 8447, 28927, 255, 255, 131327, 459007, 255, 255, 3145983, 7340287, 15728895, 33554431, 67108863, 134217727]
theorem horariumref16_of.tab5 : rtab .any (opsOf Try.f37 5) = horariumref16_of.T5 := by kernel_rfl
theorem horariumref16_of.bits5 : waitsOk horariumref16_of.T5.2 horariumref16_of.B5 = true := by kernel_rfl
def horariumref16_of.T7 : Bool × List (List Nat × List Nat) := (true, [([], []), ([0], [0]), ([1], [1]), ([2], [2]), ([2], [2]), ([4, 2], [2, 4]), ([3, 5, 2], [2, 3, 5]), ([6, 2], [2, 6]), ([7, 2], [2, 7]), ([2], [2]), ([2], [2]), ([9, 10, 2], [2, 9, 10]), ([11, 2], [2, 11]), ([12, 2], [2, 12]), ([8, 13, 2], [2, 8, 13]), ([14, 2, 2], [2, 14]), ([15], [15]), ([15], [15]), ([17, 15], [15, 17]), ([16, 18, 15], [15, 16, 18]), ([19, 15], [15, 19]), ([20, 15], [15, 20]), ([15], [15]), ([15], [15]), ([22, 23, 15], [15, 22, 23]), ([24, 15], [15, 24]), ([25, 15], [15, 25]), ([21, 26, 15], [15, 21, 26]), ([27, 15, 15], [15, 27]), ([28], [28]), ([28], [28]), ([30, 28], [28, 30]), ([29, 31, 28], [28, 29, 31]), ([32, 28], [28, 32]), ([33, 28], [28, 33]), ([28], [28]), ([28], [28]), ([35, 36, 28], [28, 35, 36]), ([37, 28], [28, 37]), ([38, 28], [28, 38]), ([34, 39, 28], [28, 34, 39]), ([28, 40, 15], [15, 28, 40]), ([15, 41, 2], [2, 15, 41]), ([2, 42], [2, 42])])
def horariumref16_of.B7 : List Nat := [0, 1, 3, 7, 7, 23, 63, 127, 255, 7, 7, 1543, 3591, 7687, 16383, 32767, 65535, 65535, 196607, 524287, 1048575, 2097151, 65535, 65535, 12648447, 29425663, 62980095, 134217727, 268435455, 536870911, 536870911, 1610612735, 4294967295, 8589934591, 17179869183, 536870911, 536870911, 103616086015, 241055039487, 515932946431, 1099511627775, 2199023255551, 4398046511103, 8796093022207]
theorem horariumref16_of.tab7 : rtab .any (opsOf Try.f37 7) = horariumref16_of.T7 := by kernel_rfl
theorem horariumref16_of.bits7 : waitsOk horariumref16_of.T7.2 horariumref16_of.B7 = true := by kernel_rfl
set_option maxHeartbeats 8000000 in
set_option maxRecDepth 100000 in
theorem horariumref16_of.calls (k : Nat) (a0_0 : Int) (a0_1 : Int) (a0_2 : Int) (A1 : Option Addr) (c1 : Nat) (l1 : List (S49)) (a2 : Int) (r : List (S49)) (w : World) (hr1 : Kd.C k49 w A1 l1.length l1) (hc1 : l1.length ≤ c1) (h : horariumref16_of.f k a0_0 a0_1 a0_2 l1 a2 = some r) :
  Calls Try.prog 37 #[.agg #[.int .i64 a0_0, .int .i64 a0_1, .int .i64 a0_2], .slice A1 l1.length c1, .int .i64 a2] w fun e w' => ∃ v0_ : Value, e = .returned (v0_) ∧ Kd.R k49 49 w' w.heap.size (fun _ => True) v0_ r ∧ Below w.heap.size w w' := by
 have hu23 := Try.underlying23
 have hu49 := Try.underlying49
 have HR1 := zm hr1
 have HC1 := zm hc1
 clear hr1 hc1
 have HB := zm (Below.refl w.heap.size w)
 have H : (horariumref16_of.l0 k l1 a2 ([] : List (S49)) 0 a0_0 a0_1 a0_2) = some r := h
 clear h
 have H' := zm H
 clear H
 go_enter Try.func37, Try.ntmps37
 go_wp2_with (first | ((with_reducible refine gate_dst (N := 3) rfl ?_); refine box_event ?hg (N := 3) ?hd (cs := #[.int .i64 a0_0, .int .i64 a0_1, .int .i64 a0_2]) (t := 23) ?hr ?_; (case hd => rfl); (case hg => rfl); (case hr => go_simp; try rfl); intro gb236 hg w4 hbox hb; have BK236 := zm (hbox); have GW236 := zm ((by rw [hg]; exact (below_size (by apply_rules [HB.out, zb1, zb2, zb3])) : w.heap.size ≤ gb236)); have GE236 := GW236; replace HB := zm (below_step (by apply_rules [HB.out, zb1, zb2, zb3]) hb); clear hb hbox hg))
 go_loopg [7, 8] k (fun kq v7 v8 w' => ∃ (x7_1 : List (S49)) (x8_1 : Int), v8 = .int .i64 x8_1 ∧ Aside0 (horariumref16_of.l0 kq l1 a2 x7_1 x8_1 a0_0 a0_1 a0_2 = some r) ∧ Aside0 (kq ≤ k) ∧ Aside0 (Kd.R k49 49 w' w.heap.size (fun _ => True) v7 x7_1) ∧ Aside0 (w'.heap[gb236]? = some (.cells #[.int .i64 a0_0, .int .i64 a0_1, .int .i64 a0_2] 23 (0, 0))) ∧ Aside0 (Below w.heap.size w w'))
 case atStart => exact ⟨(([] : List (S49))), (0), (by first | rfl | (simp; done) | (simp [*]; done)), H', ⟨Nat.le_refl _⟩, ⟨by first | exact Kd.R_nil _ _ _ _ _ | exact Kd.N_nil _ _ _ _ _ | exact Kd.V_nil _ _ _ _ _ | exact Kd.Q_nil _ _ _ _ _ | exact Kd.S_nil _ _ _ _ _⟩, ⟨by (with_reducible repeat (first | refine blk_alloc ?_ _ | refine blk_drewN ?_ _ | refine blk_drew ?_)); exact BK236.out⟩, ⟨by apply_rules [HB.out, zb1, zb2, zb3, zb4, GE236.out]⟩⟩
 case round =>
  clear H'
  (try clear c1); (try clear p2); (try clear c3)
  obtain ⟨x7_1, x8_1, rfl, HA, HK1, HO_7, BK236, HB⟩ := hrel
  cases gk with
  | zero => exact absurd HA.out (by simp [horariumref16_of.l0])
  | succ k1 =>
   have H := HA.out
   clear HA
   simp only [horariumref16_of.l0] at H
   by_cases c5 : x8_1 < (l1.length : Int)
   ·rw [if_pos c5] at H
    have c5b0 : decide (x8_1 < (l1.length : Int)) = true := decide_eq_true c5
    clear c5
    have HC6 := zm H
    clear H
    go_upto_region 5 with (fail)
    go_cut [44] (fun v44 wc => ∃ (kq : Nat) (x44_5 : Bool), v44 = .bool x44_5 ∧ Aside0 (horariumref16_of.j1 kq l1 a2 x7_1 x8_1 x44_5 a0_0 a0_1 a0_2 = some r) ∧ Aside0 (kq ≤ k1) ∧ Aside0 (Kd.R k49 49 wc w.heap.size (fun _ => True) u7 x7_1) ∧ Aside0 (wc.heap[gb236]? = some (.cells #[.int .i64 a0_0, .int .i64 a0_1, .int .i64 a0_2] 23 (0, 0))) ∧ Aside0 (Below w.heap.size w wc))
    case first =>
     have H := HC6.out
     clear HC6
     by_cases c7 : 0 ≤ x8_1
     ·rw [if_pos c7] at H
      have c7b0 : decide (0 ≤ x8_1) = true := decide_eq_true c7
      clear c7
      (first | rw [c7b0] | (simp only [i64_w, i32_w]; rw [c7b0]) | skip)
      replace H := zo H
      obtain ⟨t238, A80, H⟩ := H
      have A8 := zm A80
      clear A80
      by_cases c9 : t238 = true
      ·subst c9
       have H1 : (if a0_1 = 0 then (none) else ((horariumref09_On.f k1 ((rd_T49 l1 x8_1).f0) ((rd_T49 l1 x8_1).f1) ((rd_T49 l1 x8_1).f2) ((rd_T49 l1 x8_1).f3) (wrap64 (Int.tdiv a2 a0_1)) (Int.tmod a2 a0_1) ((rd_T49 l1 x8_1).f2)).bind fun t241 => (horariumref16_of.j1 k1 l1 a2 x7_1 x8_1 (!t241) a0_0 a0_1 a0_2))) = some r := by rw [if_pos rfl] at H; exact H
       clear H
       have H := H1
       clear H1
       by_cases c10 : a0_1 = 0
       ·rw [if_pos c10] at H
        exact absurd H (by simp)
       rw [if_neg c10] at H
       have c10b0 : (a0_1 == 0) = false := beq_eq_false_iff_ne.mpr c10
       have c10b1 : (a0_1 != 0) = true := bne_iff_ne.mpr c10
       replace H := zo H
       obtain ⟨t241, A110, H⟩ := H
       have A11 := zm A110
       clear A110
       have H' := zm H
       clear H
       try go_wp2
       have n0_ := zm (Kd.R_drew HO_7.out)
       have n1_ := zm (blk_drew BK236.out)
       have n2_ := zm (below_drew1 HB.out)
       clear HO_7
       clear BK236
       clear HB
       have HO_7 := n0_
       have BK236 := n1_
       have HB := n2_
       clear n0_ n1_ n2_
       have p237 : 0 ≤ (x8_1 : Int) := of_decide_eq_true (by first | (with_reducible assumption) | assumption)
       have q237 : x8_1 < (l1.length : Int) := of_decide_eq_true (by first | (with_reducible assumption) | assumption)
       obtain ⟨ad237, e237, hx237_0, hx237_1, hx237_2, hx237_3⟩ := at_T49 HR1.out x8_1 p237 q237
       have hw237_3 := hx237_3
       have hw237_2 := hx237_2
       have hw237_1 := hx237_1
       have hw237_0 := hx237_0
       cases e237
       (try (replace hx237_0 := (HB.out.cell (World.block_lt_of_cell? w _ hx237_0)).trans hx237_0))
       (try (replace hx237_1 := (HB.out.cell (World.block_lt_of_cell? w _ hx237_1)).trans hx237_1))
       (try (replace hx237_2 := (HB.out.cell (World.block_lt_of_cell? w _ hx237_2)).trans hx237_2))
       (try (replace hx237_3 := (HB.out.cell (World.block_lt_of_cell? w _ hx237_3)).trans hx237_3))
       replace p237 := eq_true p237
       replace q237 := eq_true q237
       have p239 : 0 ≤ (x8_1 : Int) := of_decide_eq_true (by first | (with_reducible assumption) | assumption)
       have q239 : x8_1 < (l1.length : Int) := of_decide_eq_true (by first | (with_reducible assumption) | assumption)
       obtain ⟨ad239, e239, hx239_0, hx239_1, hx239_2, hx239_3⟩ := at_T49 HR1.out x8_1 p239 q239
       have hw239_3 := hx239_3
       have hw239_2 := hx239_2
       have hw239_1 := hx239_1
       have hw239_0 := hx239_0
       obtain rfl : ad237 = ad239 := (by injection e239)
       (try (replace hx239_0 := (HB.out.cell (World.block_lt_of_cell? w _ hx239_0)).trans hx239_0))
       (try (replace hx239_1 := (HB.out.cell (World.block_lt_of_cell? w _ hx239_1)).trans hx239_1))
       (try (replace hx239_2 := (HB.out.cell (World.block_lt_of_cell? w _ hx239_2)).trans hx239_2))
       (try (replace hx239_3 := (HB.out.cell (World.block_lt_of_cell? w _ hx239_3)).trans hx239_3))
       replace p239 := eq_true p239
       replace q239 := eq_true q239
       have p240 : 0 ≤ (x8_1 : Int) := of_decide_eq_true (by first | (with_reducible assumption) | assumption)
       have q240 : x8_1 < (l1.length : Int) := of_decide_eq_true (by first | (with_reducible assumption) | assumption)
       obtain ⟨ad240, e240, hx240_0, hx240_1, hx240_2, hx240_3⟩ := at_T49 HR1.out x8_1 p240 q240
       have hw240_3 := hx240_3
       have hw240_2 := hx240_2
       have hw240_1 := hx240_1
       have hw240_0 := hx240_0
       obtain rfl : ad237 = ad240 := (by injection e240)
       (try (replace hx240_0 := (HB.out.cell (World.block_lt_of_cell? w _ hx240_0)).trans hx240_0))
       (try (replace hx240_1 := (HB.out.cell (World.block_lt_of_cell? w _ hx240_1)).trans hx240_1))
       (try (replace hx240_2 := (HB.out.cell (World.block_lt_of_cell? w _ hx240_2)).trans hx240_2))
       (try (replace hx240_3 := (HB.out.cell (World.block_lt_of_cell? w _ hx240_3)).trans hx240_3))
       replace p240 := eq_true p240
       replace q240 := eq_true q240
       refine start_ (n := 28) (S := fun w' => w'.cell? ⟨gb236, 0, none⟩ = some (.int .i64 a0_0) ∧ w'.cell? ⟨gb236, 1, none⟩ = some (.int .i64 a0_1) ∧ w'.cell? ⟨gb236, 2, none⟩ = some (.int .i64 a0_2) ∧ w'.cell? (ad237.add ((x8_1).toNat * 4)) = some (.int .u32 ((rd_T49 l1 x8_1).f0)) ∧ w'.cell? ⟨(ad237.add ((x8_1).toNat * 4)).block, (ad237.add ((x8_1).toNat * 4)).off + 1, none⟩ = some (.int .u8 ((rd_T49 l1 x8_1).f1)) ∧ w'.cell? ⟨(ad237.add ((x8_1).toNat * 4)).block, (ad237.add ((x8_1).toNat * 4)).off + 2, none⟩ = some (.int .i64 ((rd_T49 l1 x8_1).f2)) ∧ w'.cell? ⟨(ad237.add ((x8_1).toNat * 4)).block, (ad237.add ((x8_1).toNat * 4)).off + 3, none⟩ = some (.int .i64 ((rd_T49 l1 x8_1).f3)) ∧ w'.cell? (ad237.add ((x8_1).toNat * 4)) = some (.int .u32 ((rd_T49 l1 x8_1).f0)) ∧ w'.cell? ⟨(ad237.add ((x8_1).toNat * 4)).block, (ad237.add ((x8_1).toNat * 4)).off + 1, none⟩ = some (.int .u8 ((rd_T49 l1 x8_1).f1)) ∧ w'.cell? ⟨(ad237.add ((x8_1).toNat * 4)).block, (ad237.add ((x8_1).toNat * 4)).off + 2, none⟩ = some (.int .i64 ((rd_T49 l1 x8_1).f2)) ∧ w'.cell? ⟨(ad237.add ((x8_1).toNat * 4)).block, (ad237.add ((x8_1).toNat * 4)).off + 3, none⟩ = some (.int .i64 ((rd_T49 l1 x8_1).f3)) ∧ w'.cell? (ad237.add ((x8_1).toNat * 4)) = some (.int .u32 ((rd_T49 l1 x8_1).f0)) ∧ w'.cell? ⟨(ad237.add ((x8_1).toNat * 4)).block, (ad237.add ((x8_1).toNat * 4)).off + 1, none⟩ = some (.int .u8 ((rd_T49 l1 x8_1).f1)) ∧ w'.cell? ⟨(ad237.add ((x8_1).toNat * 4)).block, (ad237.add ((x8_1).toNat * 4)).off + 2, none⟩ = some (.int .i64 ((rd_T49 l1 x8_1).f2)) ∧ w'.cell? ⟨(ad237.add ((x8_1).toNat * 4)).block, (ad237.add ((x8_1).toNat * 4)).off + 3, none⟩ = some (.int .i64 ((rd_T49 l1 x8_1).f3))) (ds := []) #[false, false, false, false, false, false, false, false, false, false, false, false, false, false, false, false, false, false, false, false, false, false, false, false, false, false, false, false] (by kernel_rfl) rfl rfl ⟨(blk_cell BK236.out 0).trans rfl, (blk_cell BK236.out 1).trans rfl, (blk_cell BK236.out 2).trans rfl, ((HB.out.cell (World.block_lt_of_cell? w _ hw237_0)).trans hw237_0), ((HB.out.cell (World.block_lt_of_cell? w _ hw237_1)).trans hw237_1), ((HB.out.cell (World.block_lt_of_cell? w _ hw237_2)).trans hw237_2), ((HB.out.cell (World.block_lt_of_cell? w _ hw237_3)).trans hw237_3), ((HB.out.cell (World.block_lt_of_cell? w _ hw239_0)).trans hw239_0), ((HB.out.cell (World.block_lt_of_cell? w _ hw239_1)).trans hw239_1), ((HB.out.cell (World.block_lt_of_cell? w _ hw239_2)).trans hw239_2), ((HB.out.cell (World.block_lt_of_cell? w _ hw239_3)).trans hw239_3), ((HB.out.cell (World.block_lt_of_cell? w _ hw240_0)).trans hw240_0), ((HB.out.cell (World.block_lt_of_cell? w _ hw240_1)).trans hw240_1), ((HB.out.cell (World.block_lt_of_cell? w _ hw240_2)).trans hw240_2), ((HB.out.cell (World.block_lt_of_cell? w _ hw240_3)).trans hw240_3)⟩ (fun hHeld => ?_); refine with_tabW horariumref16_of.tab5 horariumref16_of.bits5 (fun HT_ HW_ => ?_)
       generalize wr.drew = w12 at HO_7 BK236 HB hx237_0 hx237_1 hx237_2 hx237_3 hx239_0 hx239_1 hx239_2 hx239_3 hx240_0 hx240_1 hx240_2 hx240_3 hHeld ⊢
       refine zp 1 18 (v := ?_) (a' := ?_) (bm 28 2) HT_.out (by kernel_rfl) ?_ ?_ ?_; rotate_left; (focus intro w'; go_simp; with_reducible rfl); rotate_left; (focus simp only [Act.put, zs1, zs2, zs3, i64_w, i32_w]; rfl)
       refine zp 2 19 (v := ?_) (a' := ?_) (bm 28 6) HT_.out (by kernel_rfl) ?_ ?_ ?_; rotate_left; (focus intro w'; go_simp; with_reducible rfl); rotate_left; (focus simp only [Act.put, zs1, zs2, zs3, i64_w, i32_w]; rfl)
       refine zp 3 20 (v := ?_) (a' := ?_) (bm 28 14) HT_.out (by kernel_rfl) ?_ ?_ ?_; rotate_left; (focus intro w'; go_simp; with_reducible rfl); rotate_left; (focus simp only [Act.put, zs1, zs2, zs3, i64_w, i32_w]; rfl)
       refine take_ (i := 0) (N := some 17) (v := ?_) (a' := ?_) (bm 28 15) rfl rfl (take_ofW HT_.out HW_.out (by kernel_rfl)) (fun _ _ _ h => h) (Or.inl ⟨by rfl, ?_⟩) hHeld ?_ ?_; rotate_left; (focus rintro w' ⟨s0, s1, s2, s3, s4, s5, s6, s7, s8, s9, s10, s11, s12, s13, s14⟩; go_simp; with_reducible rfl); rotate_left; (focus simp only [Act.put, zs1, zs2, zs3, i64_w, i32_w]; rfl)
       refine take_ (i := 4) (N := some 21) (v := ?_) (a' := ?_) (bm 28 31) rfl rfl (take_ofW HT_.out HW_.out (by kernel_rfl)) (fun _ _ _ h => h) (Or.inl ⟨by rfl, ?_⟩) hHeld ?_ ?_; rotate_left; (focus rintro w' ⟨s0, s1, s2, s3, s4, s5, s6, s7, s8, s9, s10, s11, s12, s13, s14⟩; go_simp; with_reducible rfl); rotate_left; (focus simp only [Act.put, zs1, zs2, zs3, i64_w, i32_w]; rfl)
       refine one_ (i := 5) (N := some 22) (bm 28 63) rfl rfl (one_of HT_.out (by kernel_rfl)) (by decide) (fun K hK => ?_)
       refine goes_ Try.func33 (by kernel_rfl) rfl #[.agg #[.int .i64 a0_0, .int .i64 a0_1, .int .i64 a0_2], .agg #[.int .u32 ((rd_T49 l1 x8_1).f0), .int .u8 ((rd_T49 l1 x8_1).f1), .int .i64 ((rd_T49 l1 x8_1).f2), .int .i64 ((rd_T49 l1 x8_1).f3)]] (by rfl) rfl rfl (by (try simp only [zt1, zt2, zt3]) <;> rfl) ?_
       with_reducible refine (horariumref09_Right.calls k1 a0_0 a0_1 a0_2 ((rd_T49 l1 x8_1).f0) ((rd_T49 l1 x8_1).f1) ((rd_T49 l1 x8_1).f2) ((rd_T49 l1 x8_1).f3) true _ A8.out).mono ?_
       rintro e w13 ⟨rfl, hb⟩
       refine ⟨_, rfl, ?_⟩
       have n0_ := zm (Kd.R_below (by apply_rules [HO_7.out, Kd.R_alloc, Kd.R_drewN, Kd.R_drew]) hb)
       have n1_ := zm (blk_below (by apply_rules [BK236.out, zk1, zk2, zk3]) hb)
       have n2_ := zm (below_step (by apply_rules [HB.out, zb1, zb2, zb3, zb4, GE236.out]) hb)
       clear HO_7
       clear BK236
       clear HB
       have HO_7 := n0_
       have BK236 := n1_
       have HB := n2_
       clear n0_ n1_ n2_
       (try clear hb)
       (try clear hb2)
       (try clear hk)
       (try clear hi)
       refine hK.out _ _ ⟨(blk_cell BK236.out 0).trans rfl, (blk_cell BK236.out 1).trans rfl, (blk_cell BK236.out 2).trans rfl, ((HB.out.cell (World.block_lt_of_cell? w _ hw237_0)).trans hw237_0), ((HB.out.cell (World.block_lt_of_cell? w _ hw237_1)).trans hw237_1), ((HB.out.cell (World.block_lt_of_cell? w _ hw237_2)).trans hw237_2), ((HB.out.cell (World.block_lt_of_cell? w _ hw237_3)).trans hw237_3), ((HB.out.cell (World.block_lt_of_cell? w _ hw239_0)).trans hw239_0), ((HB.out.cell (World.block_lt_of_cell? w _ hw239_1)).trans hw239_1), ((HB.out.cell (World.block_lt_of_cell? w _ hw239_2)).trans hw239_2), ((HB.out.cell (World.block_lt_of_cell? w _ hw239_3)).trans hw239_3), ((HB.out.cell (World.block_lt_of_cell? w _ hw240_0)).trans hw240_0), ((HB.out.cell (World.block_lt_of_cell? w _ hw240_1)).trans hw240_1), ((HB.out.cell (World.block_lt_of_cell? w _ hw240_2)).trans hw240_2), ((HB.out.cell (World.block_lt_of_cell? w _ hw240_3)).trans hw240_3)⟩ (fun hHeld => ?_)
       clear hK K
       refine norm_ (a' := ?_) ?_ ?_
       rotate_left
       ·show Act.put _ (some 22) _ = _
        simp only [Act.put, zs1, zs2, zs3, i64_w, i32_w]
        rfl
       refine zp 6 23 (v := ?_) (a' := ?_) (bm 28 127) HT_.out (by kernel_rfl) ?_ ?_ ?_; rotate_left; (focus intro w'; go_simp; with_reducible rfl); rotate_left; (focus simp only [Act.put, zs1, zs2, zs3, i64_w, i32_w]; rfl)
       refine zp 7 24 (v := ?_) (a' := ?_) (bm 28 255) HT_.out (by kernel_rfl) ?_ ?_ ?_; rotate_left; (focus intro w'; go_simp; with_reducible rfl); rotate_left; (focus simp only [Act.put, zs1, zs2, zs3, i64_w, i32_w]; rfl)
       refine zp 8 25 (v := ?_) (a' := ?_) (bm 28 511) HT_.out (by kernel_rfl) ?_ ?_ ?_; rotate_left; (focus intro w'; go_simp; with_reducible rfl); rotate_left; (focus simp only [Act.put, zs1, zs2, zs3, i64_w, i32_w]; rfl)
       refine zp 9 26 (v := ?_) (a' := ?_) (bm 28 1023) HT_.out (by kernel_rfl) ?_ ?_ ?_; rotate_left; (focus intro w'; go_simp; with_reducible rfl); rotate_left; (focus simp only [Act.put, zs1, zs2, zs3, i64_w, i32_w]; rfl)
       refine zp 10 27 (v := ?_) (a' := ?_) (bm 28 2047) HT_.out (by kernel_rfl) ?_ ?_ ?_; rotate_left; (focus intro w'; go_simp; with_reducible rfl); rotate_left; (focus simp only [Act.put, zs1, zs2, zs3, i64_w, i32_w]; rfl)
       refine zp 12 29 (v := ?_) (a' := ?_) (bm 28 6143) HT_.out (by kernel_rfl) ?_ ?_ ?_; rotate_left; (focus intro w'; go_simp; with_reducible rfl); rotate_left; (focus simp only [Act.put, zs1, zs2, zs3, i64_w, i32_w]; rfl)
       refine zp 13 30 (v := ?_) (a' := ?_) (bm 28 14335) HT_.out (by kernel_rfl) ?_ ?_ ?_; rotate_left; (focus intro w'; go_simp; with_reducible rfl); rotate_left; (focus simp only [Act.put, zs1, zs2, zs3, i64_w, i32_w]; rfl)
       refine zp 16 33 (v := ?_) (a' := ?_) (bm 28 79871) HT_.out (by kernel_rfl) ?_ ?_ ?_; rotate_left; (focus intro w'; go_simp; with_reducible rfl); rotate_left; (focus simp only [Act.put, zs1, zs2, zs3, i64_w, i32_w]; rfl)
       refine zp 17 34 (v := ?_) (a' := ?_) (bm 28 210943) HT_.out (by kernel_rfl) ?_ ?_ ?_; rotate_left; (focus intro w'; go_simp; with_reducible rfl); rotate_left; (focus simp only [Act.put, zs1, zs2, zs3, i64_w, i32_w]; rfl)
       refine zp 20 37 (v := ?_) (a' := ?_) (bm 28 1259519) HT_.out (by kernel_rfl) ?_ ?_ ?_; rotate_left; (focus intro w'; go_simp; with_reducible rfl); rotate_left; (focus simp only [Act.put, zs1, zs2, zs3, i64_w, i32_w]; rfl)
       refine zp 21 38 (v := ?_) (a' := ?_) (bm 28 3356671) HT_.out (by kernel_rfl) ?_ ?_ ?_; rotate_left; (focus intro w'; go_simp; with_reducible rfl); rotate_left; (focus simp only [Act.put, zs1, zs2, zs3, i64_w, i32_w]; rfl)
       refine zp 22 39 (v := ?_) (a' := ?_) (bm 28 7550975) HT_.out (by kernel_rfl) ?_ ?_ ?_; rotate_left; (focus intro w'; go_simp; with_reducible rfl); rotate_left; (focus simp only [Act.put, zs1, zs2, zs3, i64_w, i32_w]; rfl)
       refine zp 23 40 (v := ?_) (a' := ?_) (bm 28 15939583) HT_.out (by kernel_rfl) ?_ ?_ ?_; rotate_left; (focus intro w'; go_simp; with_reducible rfl); rotate_left; (focus simp only [Act.put, zs1, zs2, zs3, i64_w, i32_w]; rfl)
       refine take_ (i := 11) (N := some 28) (v := ?_) (a' := ?_) (bm 28 15941631) rfl rfl (take_ofW HT_.out HW_.out (by kernel_rfl)) (fun _ _ _ h => h) (Or.inl ⟨by rfl, ?_⟩) hHeld ?_ ?_; rotate_left; (focus rintro w' ⟨s0, s1, s2, s3, s4, s5, s6, s7, s8, s9, s10, s11, s12, s13, s14⟩; go_simp; with_reducible rfl); rotate_left; (focus simp only [Act.put, zs1, zs2, zs3, i64_w, i32_w]; rfl)
       refine take_ (i := 14) (N := some 31) (v := ?_) (a' := ?_) (bm 28 15958015) rfl rfl (take_ofW HT_.out HW_.out (by kernel_rfl)) (fun _ _ _ h => h) (Or.inl ⟨by rfl, ?_⟩) hHeld ?_ ?_; rotate_left; (focus rintro w' ⟨s0, s1, s2, s3, s4, s5, s6, s7, s8, s9, s10, s11, s12, s13, s14⟩; go_simp; with_reducible rfl); rotate_left; (focus simp only [Act.put, zs1, zs2, zs3, i64_w, i32_w]; rfl)
       refine zp 15 32 (v := ?_) (a' := ?_) (bm 28 15990783) HT_.out (by kernel_rfl) ?_ ?_ ?_; rotate_left; (focus intro w'; go_simp; with_reducible rfl); rotate_left; (focus simp only [Act.put, zs1, zs2, zs3, i64_w, i32_w]; rfl)
       refine take_ (i := 18) (N := some 35) (v := ?_) (a' := ?_) (bm 28 16252927) rfl rfl (take_ofW HT_.out HW_.out (by kernel_rfl)) (fun _ _ _ h => h) (Or.inl ⟨by rfl, ?_⟩) hHeld ?_ ?_; rotate_left; (focus rintro w' ⟨s0, s1, s2, s3, s4, s5, s6, s7, s8, s9, s10, s11, s12, s13, s14⟩; go_simp; with_reducible rfl); rotate_left; (focus simp only [Act.put, zs1, zs2, zs3, i64_w, i32_w]; rfl)
       refine zp 19 36 (v := ?_) (a' := ?_) (bm 28 16777215) HT_.out (by kernel_rfl) ?_ ?_ ?_; rotate_left; (focus intro w'; go_simp; with_reducible rfl); rotate_left; (focus simp only [Act.put, zs1, zs2, zs3, i64_w, i32_w]; rfl)
       refine take_ (i := 24) (N := some 41) (v := ?_) (a' := ?_) (bm 28 33554431) rfl rfl (take_ofW HT_.out HW_.out (by kernel_rfl)) (fun _ _ _ h => h) (Or.inl ⟨by rfl, ?_⟩) hHeld ?_ ?_; rotate_left; (focus rintro w' ⟨s0, s1, s2, s3, s4, s5, s6, s7, s8, s9, s10, s11, s12, s13, s14⟩; go_simp; with_reducible rfl); rotate_left; (focus simp only [Act.put, zs1, zs2, zs3, i64_w, i32_w]; rfl)
       refine one_ (i := 25) (N := some 42) (bm 28 67108863) rfl rfl (one_of HT_.out (by kernel_rfl)) (by decide) (fun K hK => ?_)
       refine goes_ Try.func50 (by kernel_rfl) rfl #[.agg #[.int .u32 ((rd_T49 l1 x8_1).f0), .int .u8 ((rd_T49 l1 x8_1).f1), .int .i64 ((rd_T49 l1 x8_1).f2), .int .i64 ((rd_T49 l1 x8_1).f3)], .int .i64 (wrap64 (Int.tdiv a2 a0_1)), .int .i64 (Int.tmod a2 a0_1), .int .i64 ((rd_T49 l1 x8_1).f2)] (by rfl) rfl rfl (by (try simp only [zt1, zt2, zt3]) <;> rfl) ?_
       with_reducible refine (horariumref09_On.calls k1 ((rd_T49 l1 x8_1).f0) ((rd_T49 l1 x8_1).f1) ((rd_T49 l1 x8_1).f2) ((rd_T49 l1 x8_1).f3) (wrap64 (Int.tdiv a2 a0_1)) (Int.tmod a2 a0_1) ((rd_T49 l1 x8_1).f2) t241 _ A11.out).mono ?_
       rintro e w14 ⟨rfl, hb⟩
       refine ⟨_, rfl, ?_⟩
       have n0_ := zm (Kd.R_below (by apply_rules [HO_7.out, Kd.R_alloc, Kd.R_drewN, Kd.R_drew]) hb)
       have n1_ := zm (blk_below (by apply_rules [BK236.out, zk1, zk2, zk3]) hb)
       have n2_ := zm (below_step (by apply_rules [HB.out, zb1, zb2, zb3, zb4, GE236.out]) hb)
       clear HO_7
       clear BK236
       clear HB
       have HO_7 := n0_
       have BK236 := n1_
       have HB := n2_
       clear n0_ n1_ n2_
       (try clear hb)
       (try clear hb2)
       (try clear hk)
       (try clear hi)
       refine hK.out _ _ ⟨(blk_cell BK236.out 0).trans rfl, (blk_cell BK236.out 1).trans rfl, (blk_cell BK236.out 2).trans rfl, ((HB.out.cell (World.block_lt_of_cell? w _ hw237_0)).trans hw237_0), ((HB.out.cell (World.block_lt_of_cell? w _ hw237_1)).trans hw237_1), ((HB.out.cell (World.block_lt_of_cell? w _ hw237_2)).trans hw237_2), ((HB.out.cell (World.block_lt_of_cell? w _ hw237_3)).trans hw237_3), ((HB.out.cell (World.block_lt_of_cell? w _ hw239_0)).trans hw239_0), ((HB.out.cell (World.block_lt_of_cell? w _ hw239_1)).trans hw239_1), ((HB.out.cell (World.block_lt_of_cell? w _ hw239_2)).trans hw239_2), ((HB.out.cell (World.block_lt_of_cell? w _ hw239_3)).trans hw239_3), ((HB.out.cell (World.block_lt_of_cell? w _ hw240_0)).trans hw240_0), ((HB.out.cell (World.block_lt_of_cell? w _ hw240_1)).trans hw240_1), ((HB.out.cell (World.block_lt_of_cell? w _ hw240_2)).trans hw240_2), ((HB.out.cell (World.block_lt_of_cell? w _ hw240_3)).trans hw240_3)⟩ (fun hHeld => ?_)
       clear hK K
       refine norm_ (a' := ?_) ?_ ?_
       rotate_left
       ·show Act.put _ (some 42) _ = _
        simp only [Act.put, zs1, zs2, zs3, i64_w, i32_w]
        rfl
       refine zp 26 43 (v := ?_) (a' := ?_) (bm 28 134217727) HT_.out (by kernel_rfl) ?_ ?_ ?_; rotate_left; (focus intro w'; go_simp; with_reducible rfl); rotate_left; (focus simp only [Act.put, zs1, zs2, zs3, i64_w, i32_w]; rfl)
       refine zp 27 44 (v := ?_) (a' := ?_) (bm 28 268435455) HT_.out (by kernel_rfl) ?_ ?_ ?_; rotate_left; (focus intro w'; go_simp; with_reducible rfl); rotate_left; (focus simp only [Act.put, zs1, zs2, zs3, i64_w, i32_w]; rfl)
       refine done_ (done_of HT_.out (by kernel_rfl)) ?_
       try go_wp2
       go_meet
       case rel => exact ⟨_, (!t241), (by first | rfl | (simp; done) | (simp [*]; done)), H', ⟨by have := HK1.out; first | omega | exact Nat.le_refl _⟩, ⟨by (with_reducible repeat (first | apply Kd.R_alloc | apply Kd.R_drewN | apply Kd.R_drew)); exact HO_7.out⟩, ⟨by (with_reducible repeat (first | refine blk_alloc ?_ _ | refine blk_drewN ?_ _ | refine blk_drew ?_)); exact BK236.out⟩, ⟨by apply_rules [HB.out, zb1, zb2, zb3, zb4, GE236.out]⟩⟩
      replace c9 := Bool.eq_false_iff.mpr c9
      subst c9
      have H1 : (horariumref16_of.j1 k1 l1 a2 x7_1 x8_1 true a0_0 a0_1 a0_2) = some r := by rw [if_neg (show ¬ (false = true) by decide)] at H; exact H
      clear H
      have H := H1
      clear H1
      have H' := zm H
      clear H
      try go_wp2
      have n0_ := zm (Kd.R_drew HO_7.out)
      have n1_ := zm (blk_drew BK236.out)
      have n2_ := zm (below_drew1 HB.out)
      clear HO_7
      clear BK236
      clear HB
      have HO_7 := n0_
      have BK236 := n1_
      have HB := n2_
      clear n0_ n1_ n2_
      have p237 : 0 ≤ (x8_1 : Int) := of_decide_eq_true (by first | (with_reducible assumption) | assumption)
      have q237 : x8_1 < (l1.length : Int) := of_decide_eq_true (by first | (with_reducible assumption) | assumption)
      obtain ⟨ad237, e237, hx237_0, hx237_1, hx237_2, hx237_3⟩ := at_T49 HR1.out x8_1 p237 q237
      have hw237_3 := hx237_3
      have hw237_2 := hx237_2
      have hw237_1 := hx237_1
      have hw237_0 := hx237_0
      cases e237
      (try (replace hx237_0 := (HB.out.cell (World.block_lt_of_cell? w _ hx237_0)).trans hx237_0))
      (try (replace hx237_1 := (HB.out.cell (World.block_lt_of_cell? w _ hx237_1)).trans hx237_1))
      (try (replace hx237_2 := (HB.out.cell (World.block_lt_of_cell? w _ hx237_2)).trans hx237_2))
      (try (replace hx237_3 := (HB.out.cell (World.block_lt_of_cell? w _ hx237_3)).trans hx237_3))
      replace p237 := eq_true p237
      replace q237 := eq_true q237
      refine start_ (n := 28) (S := fun w' => w'.cell? ⟨gb236, 0, none⟩ = some (.int .i64 a0_0) ∧ w'.cell? ⟨gb236, 1, none⟩ = some (.int .i64 a0_1) ∧ w'.cell? ⟨gb236, 2, none⟩ = some (.int .i64 a0_2) ∧ w'.cell? (ad237.add ((x8_1).toNat * 4)) = some (.int .u32 ((rd_T49 l1 x8_1).f0)) ∧ w'.cell? ⟨(ad237.add ((x8_1).toNat * 4)).block, (ad237.add ((x8_1).toNat * 4)).off + 1, none⟩ = some (.int .u8 ((rd_T49 l1 x8_1).f1)) ∧ w'.cell? ⟨(ad237.add ((x8_1).toNat * 4)).block, (ad237.add ((x8_1).toNat * 4)).off + 2, none⟩ = some (.int .i64 ((rd_T49 l1 x8_1).f2)) ∧ w'.cell? ⟨(ad237.add ((x8_1).toNat * 4)).block, (ad237.add ((x8_1).toNat * 4)).off + 3, none⟩ = some (.int .i64 ((rd_T49 l1 x8_1).f3))) (ds := []) #[false, false, false, false, false, false, false, false, false, false, false, false, false, false, false, false, false, false, false, false, false, false, false, false, false, false, false, false] (by kernel_rfl) rfl rfl ⟨(blk_cell BK236.out 0).trans rfl, (blk_cell BK236.out 1).trans rfl, (blk_cell BK236.out 2).trans rfl, ((HB.out.cell (World.block_lt_of_cell? w _ hw237_0)).trans hw237_0), ((HB.out.cell (World.block_lt_of_cell? w _ hw237_1)).trans hw237_1), ((HB.out.cell (World.block_lt_of_cell? w _ hw237_2)).trans hw237_2), ((HB.out.cell (World.block_lt_of_cell? w _ hw237_3)).trans hw237_3)⟩ (fun hHeld => ?_); refine with_tabW horariumref16_of.tab5 horariumref16_of.bits5 (fun HT_ HW_ => ?_)
      generalize wr.drew = w15 at HO_7 BK236 HB hx237_0 hx237_1 hx237_2 hx237_3 hHeld ⊢
      refine zp 1 18 (v := ?_) (a' := ?_) (bm 28 2) HT_.out (by kernel_rfl) ?_ ?_ ?_; rotate_left; (focus intro w'; go_simp; with_reducible rfl); rotate_left; (focus simp only [Act.put, zs1, zs2, zs3, i64_w, i32_w]; rfl)
      refine zp 2 19 (v := ?_) (a' := ?_) (bm 28 6) HT_.out (by kernel_rfl) ?_ ?_ ?_; rotate_left; (focus intro w'; go_simp; with_reducible rfl); rotate_left; (focus simp only [Act.put, zs1, zs2, zs3, i64_w, i32_w]; rfl)
      refine zp 3 20 (v := ?_) (a' := ?_) (bm 28 14) HT_.out (by kernel_rfl) ?_ ?_ ?_; rotate_left; (focus intro w'; go_simp; with_reducible rfl); rotate_left; (focus simp only [Act.put, zs1, zs2, zs3, i64_w, i32_w]; rfl)
      refine take_ (i := 0) (N := some 17) (v := ?_) (a' := ?_) (bm 28 15) rfl rfl (take_ofW HT_.out HW_.out (by kernel_rfl)) (fun _ _ _ h => h) (Or.inl ⟨by rfl, ?_⟩) hHeld ?_ ?_; rotate_left; (focus rintro w' ⟨s0, s1, s2, s3, s4, s5, s6⟩; go_simp; with_reducible rfl); rotate_left; (focus simp only [Act.put, zs1, zs2, zs3, i64_w, i32_w]; rfl)
      refine take_ (i := 4) (N := some 21) (v := ?_) (a' := ?_) (bm 28 31) rfl rfl (take_ofW HT_.out HW_.out (by kernel_rfl)) (fun _ _ _ h => h) (Or.inl ⟨by rfl, ?_⟩) hHeld ?_ ?_; rotate_left; (focus rintro w' ⟨s0, s1, s2, s3, s4, s5, s6⟩; go_simp; with_reducible rfl); rotate_left; (focus simp only [Act.put, zs1, zs2, zs3, i64_w, i32_w]; rfl)
      refine one_ (i := 5) (N := some 22) (bm 28 63) rfl rfl (one_of HT_.out (by kernel_rfl)) (by decide) (fun K hK => ?_)
      refine goes_ Try.func33 (by kernel_rfl) rfl #[.agg #[.int .i64 a0_0, .int .i64 a0_1, .int .i64 a0_2], .agg #[.int .u32 ((rd_T49 l1 x8_1).f0), .int .u8 ((rd_T49 l1 x8_1).f1), .int .i64 ((rd_T49 l1 x8_1).f2), .int .i64 ((rd_T49 l1 x8_1).f3)]] (by rfl) rfl rfl (by (try simp only [zt1, zt2, zt3]) <;> rfl) ?_
      with_reducible refine (horariumref09_Right.calls k1 a0_0 a0_1 a0_2 ((rd_T49 l1 x8_1).f0) ((rd_T49 l1 x8_1).f1) ((rd_T49 l1 x8_1).f2) ((rd_T49 l1 x8_1).f3) false _ A8.out).mono ?_
      rintro e w16 ⟨rfl, hb⟩
      refine ⟨_, rfl, ?_⟩
      have n0_ := zm (Kd.R_below (by apply_rules [HO_7.out, Kd.R_alloc, Kd.R_drewN, Kd.R_drew]) hb)
      have n1_ := zm (blk_below (by apply_rules [BK236.out, zk1, zk2, zk3]) hb)
      have n2_ := zm (below_step (by apply_rules [HB.out, zb1, zb2, zb3, zb4, GE236.out]) hb)
      clear HO_7
      clear BK236
      clear HB
      have HO_7 := n0_
      have BK236 := n1_
      have HB := n2_
      clear n0_ n1_ n2_
      (try clear hb)
      (try clear hb2)
      (try clear hk)
      (try clear hi)
      refine hK.out _ _ ⟨(blk_cell BK236.out 0).trans rfl, (blk_cell BK236.out 1).trans rfl, (blk_cell BK236.out 2).trans rfl, ((HB.out.cell (World.block_lt_of_cell? w _ hw237_0)).trans hw237_0), ((HB.out.cell (World.block_lt_of_cell? w _ hw237_1)).trans hw237_1), ((HB.out.cell (World.block_lt_of_cell? w _ hw237_2)).trans hw237_2), ((HB.out.cell (World.block_lt_of_cell? w _ hw237_3)).trans hw237_3)⟩ (fun hHeld => ?_)
      clear hK K
      refine norm_ (a' := ?_) ?_ ?_
      rotate_left
      ·show Act.put _ (some 22) _ = _
       simp only [Act.put, zs1, zs2, zs3, i64_w, i32_w]
       rfl
      refine zp 6 23 (v := ?_) (a' := ?_) (bm 28 127) HT_.out (by kernel_rfl) ?_ ?_ ?_; rotate_left; (focus intro w'; go_simp; with_reducible rfl); rotate_left; (focus simp only [Act.put, zs1, zs2, zs3, i64_w, i32_w]; rfl)
      refine zp 7 24 (v := ?_) (a' := ?_) (bm 28 255) HT_.out (by kernel_rfl) ?_ ?_ ?_; rotate_left; (focus intro w'; go_simp; with_reducible rfl); rotate_left; (focus simp only [Act.put, zs1, zs2, zs3, i64_w, i32_w]; rfl)
      refine pure_ (i := 8) (N := some 25) (v := undef) (a' := ?_) (bm 28 511) rfl rfl (any_of HT_.out (by kernel_rfl)) (fun _ _ _ h => h) (Or.inr ⟨by rfl, rfl⟩) ?_ ?_
      rotate_left
      ·simp only [Act.put, zs1, zs2, zs3, i64_w, i32_w]
       rfl
      refine pure_ (i := 9) (N := some 26) (v := undef) (a' := ?_) (bm 28 1023) rfl rfl (any_of HT_.out (by kernel_rfl)) (fun _ _ _ h => h) (Or.inr ⟨by rfl, rfl⟩) ?_ ?_
      rotate_left
      ·simp only [Act.put, zs1, zs2, zs3, i64_w, i32_w]
       rfl
      refine pure_ (i := 10) (N := some 27) (v := undef) (a' := ?_) (bm 28 2047) rfl rfl (any_of HT_.out (by kernel_rfl)) (fun _ _ _ h => h) (Or.inr ⟨by rfl, rfl⟩) ?_ ?_
      rotate_left
      ·simp only [Act.put, zs1, zs2, zs3, i64_w, i32_w]
       rfl
      refine pure_ (i := 11) (N := some 28) (v := undef) (a' := ?_) (bm 28 4095) rfl rfl (any_of HT_.out (by kernel_rfl)) (fun _ _ _ h => h) (Or.inr ⟨by rfl, rfl⟩) ?_ ?_
      rotate_left
      ·simp only [Act.put, zs1, zs2, zs3, i64_w, i32_w]
       rfl
      refine pure_ (i := 12) (N := some 29) (v := undef) (a' := ?_) (bm 28 8191) rfl rfl (any_of HT_.out (by kernel_rfl)) (fun _ _ _ h => h) (Or.inr ⟨by rfl, rfl⟩) ?_ ?_
      rotate_left
      ·simp only [Act.put, zs1, zs2, zs3, i64_w, i32_w]
       rfl
      refine pure_ (i := 13) (N := some 30) (v := undef) (a' := ?_) (bm 28 16383) rfl rfl (any_of HT_.out (by kernel_rfl)) (fun _ _ _ h => h) (Or.inr ⟨by rfl, rfl⟩) ?_ ?_
      rotate_left
      ·simp only [Act.put, zs1, zs2, zs3, i64_w, i32_w]
       rfl
      refine pure_ (i := 14) (N := some 31) (v := undef) (a' := ?_) (bm 28 32767) rfl rfl (any_of HT_.out (by kernel_rfl)) (fun _ _ _ h => h) (Or.inr ⟨by rfl, rfl⟩) ?_ ?_
      rotate_left
      ·simp only [Act.put, zs1, zs2, zs3, i64_w, i32_w]
       rfl
      refine pure_ (i := 15) (N := some 32) (v := undef) (a' := ?_) (bm 28 65535) rfl rfl (any_of HT_.out (by kernel_rfl)) (fun _ _ _ h => h) (Or.inr ⟨by rfl, rfl⟩) ?_ ?_
      rotate_left
      ·simp only [Act.put, zs1, zs2, zs3, i64_w, i32_w]
       rfl
      refine pure_ (i := 16) (N := some 33) (v := undef) (a' := ?_) (bm 28 131071) rfl rfl (any_of HT_.out (by kernel_rfl)) (fun _ _ _ h => h) (Or.inr ⟨by rfl, rfl⟩) ?_ ?_
      rotate_left
      ·simp only [Act.put, zs1, zs2, zs3, i64_w, i32_w]
       rfl
      refine pure_ (i := 17) (N := some 34) (v := undef) (a' := ?_) (bm 28 262143) rfl rfl (any_of HT_.out (by kernel_rfl)) (fun _ _ _ h => h) (Or.inr ⟨by rfl, rfl⟩) ?_ ?_
      rotate_left
      ·simp only [Act.put, zs1, zs2, zs3, i64_w, i32_w]
       rfl
      refine pure_ (i := 18) (N := some 35) (v := undef) (a' := ?_) (bm 28 524287) rfl rfl (any_of HT_.out (by kernel_rfl)) (fun _ _ _ h => h) (Or.inr ⟨by rfl, rfl⟩) ?_ ?_
      rotate_left
      ·simp only [Act.put, zs1, zs2, zs3, i64_w, i32_w]
       rfl
      refine pure_ (i := 19) (N := some 36) (v := undef) (a' := ?_) (bm 28 1048575) rfl rfl (any_of HT_.out (by kernel_rfl)) (fun _ _ _ h => h) (Or.inr ⟨by rfl, rfl⟩) ?_ ?_
      rotate_left
      ·simp only [Act.put, zs1, zs2, zs3, i64_w, i32_w]
       rfl
      refine pure_ (i := 20) (N := some 37) (v := undef) (a' := ?_) (bm 28 2097151) rfl rfl (any_of HT_.out (by kernel_rfl)) (fun _ _ _ h => h) (Or.inr ⟨by rfl, rfl⟩) ?_ ?_
      rotate_left
      ·simp only [Act.put, zs1, zs2, zs3, i64_w, i32_w]
       rfl
      refine pure_ (i := 21) (N := some 38) (v := undef) (a' := ?_) (bm 28 4194303) rfl rfl (any_of HT_.out (by kernel_rfl)) (fun _ _ _ h => h) (Or.inr ⟨by rfl, rfl⟩) ?_ ?_
      rotate_left
      ·simp only [Act.put, zs1, zs2, zs3, i64_w, i32_w]
       rfl
      refine pure_ (i := 22) (N := some 39) (v := undef) (a' := ?_) (bm 28 8388607) rfl rfl (any_of HT_.out (by kernel_rfl)) (fun _ _ _ h => h) (Or.inr ⟨by rfl, rfl⟩) ?_ ?_
      rotate_left
      ·simp only [Act.put, zs1, zs2, zs3, i64_w, i32_w]
       rfl
      refine pure_ (i := 23) (N := some 40) (v := undef) (a' := ?_) (bm 28 16777215) rfl rfl (any_of HT_.out (by kernel_rfl)) (fun _ _ _ h => h) (Or.inr ⟨by rfl, rfl⟩) ?_ ?_
      rotate_left
      ·simp only [Act.put, zs1, zs2, zs3, i64_w, i32_w]
       rfl
      refine pure_ (i := 24) (N := some 41) (v := undef) (a' := ?_) (bm 28 33554431) rfl rfl (any_of HT_.out (by kernel_rfl)) (fun _ _ _ h => h) (Or.inr ⟨by rfl, rfl⟩) ?_ ?_
      rotate_left
      ·simp only [Act.put, zs1, zs2, zs3, i64_w, i32_w]
       rfl
      refine pure_ (i := 25) (N := some 42) (v := undef) (a' := ?_) (bm 28 67108863) rfl rfl (any_of HT_.out (by kernel_rfl)) (fun _ _ _ h => h) (Or.inr ⟨by rfl, rfl⟩) ?_ ?_
      rotate_left
      ·simp only [Act.put, zs1, zs2, zs3, i64_w, i32_w]
       rfl
      refine pure_ (i := 26) (N := some 43) (v := undef) (a' := ?_) (bm 28 134217727) rfl rfl (any_of HT_.out (by kernel_rfl)) (fun _ _ _ h => h) (Or.inr ⟨by rfl, rfl⟩) ?_ ?_
      rotate_left
      ·simp only [Act.put, zs1, zs2, zs3, i64_w, i32_w]
       rfl
      refine zp 27 44 (v := ?_) (a' := ?_) (bm 28 268435455) HT_.out (by kernel_rfl) ?_ ?_ ?_; rotate_left; (focus intro w'; go_simp; with_reducible rfl); rotate_left; (focus simp only [Act.put, zs1, zs2, zs3, i64_w, i32_w]; rfl)
      refine done_ (done_of HT_.out (by kernel_rfl)) ?_
      try go_wp2
      go_meet
      case rel => exact ⟨_, (true), (by first | rfl | (simp; done) | (simp [*]; done)), H', ⟨by have := HK1.out; first | omega | exact Nat.le_refl _⟩, ⟨by (with_reducible repeat (first | apply Kd.R_alloc | apply Kd.R_drewN | apply Kd.R_drew)); exact HO_7.out⟩, ⟨by (with_reducible repeat (first | refine blk_alloc ?_ _ | refine blk_drewN ?_ _ | refine blk_drew ?_)); exact BK236.out⟩, ⟨by apply_rules [HB.out, zb1, zb2, zb3, zb4, GE236.out]⟩⟩
     rw [if_neg c7] at H
     exact absurd H (by simp)
    case rest =>
     clear HC6
     (try clear c1); (try clear p2); (try clear q2); (try clear hx2); (try clear c3); (try clear c5); (try clear c5b0); (try clear p6); (try clear c7); (try clear c7b0); (try clear c9); (try clear c10); (try clear c10b0); (try clear c10b1); (try clear hx237_0); (try clear hx237_1); (try clear hx237_2); (try clear hx237_3); (try clear hx239_0); (try clear hx239_1); (try clear hx239_2); (try clear hx239_3)
     (try clear hx240_0); (try clear hx240_1); (try clear hx240_2); (try clear hx240_3); (try clear p2); (try clear p237); (try clear p239); (try clear p240); (try clear q237); (try clear q239); (try clear q240)
     obtain ⟨kq, x44_5, rfl, HA, HJ5, HO_7, BK236, HB⟩ := hcut
     cases kq with
     | zero => exact absurd HA.out (by simp [horariumref16_of.j1])
     | succ kj5 =>
      have H := HA.out
      clear HA
      simp only [horariumref16_of.j1] at H
      by_cases c17 : x44_5 = true
      ·subst c17
       have H1 : (horariumref16_of.l0 kj5 l1 a2 x7_1 (wrap64 (x8_1 + 1)) a0_0 a0_1 a0_2) = some r := by rw [if_pos rfl] at H; exact H
       clear H
       have H := H1
       clear H1
       have H' := zm H
       clear H
       go_wp2
       go_roundg kj5
       case measure => have := HK1.out; have := HJ5.out; omega
       case rel => exact ⟨(x7_1), (wrap64 (x8_1 + 1)), (by first | rfl | (simp; done) | (simp [*]; done)), H', ⟨by have := HK1.out; have := HJ5.out; omega⟩, ⟨by (with_reducible repeat (first | apply Kd.R_alloc | apply Kd.R_drewN | apply Kd.R_drew)); exact HO_7.out⟩, ⟨by (with_reducible repeat (first | refine blk_alloc ?_ _ | refine blk_drewN ?_ _ | refine blk_drew ?_)); exact BK236.out⟩, ⟨by apply_rules [HB.out, zb1, zb2, zb3, zb4, GE236.out]⟩⟩
      replace c17 := Bool.eq_false_iff.mpr c17
      subst c17
      have H1 : (horariumref16_of.l1 kj5 l1 a2 x7_1 x8_1 (x7_1.length : Int) a0_0 a0_1 a0_2) = some r := by rw [if_neg (show ¬ (false = true) by decide)] at H; exact H
      clear H
      have H := H1
      clear H1
      have H' := zm H
      clear H
      obtain ⟨Ao18, co18, eo18⟩ := Kd.R_slice HO_7.out
      subst eo18
      go_wp2
      go_loopg [9] kj5 (fun kq v9 w' => ∃ (x9_3 : Int), v9 = .int .i64 x9_3 ∧ Aside0 (horariumref16_of.l1 kq l1 a2 x7_1 x8_1 x9_3 a0_0 a0_1 a0_2 = some r) ∧ Aside0 (kq ≤ kj5) ∧ Aside0 (Kd.R k49 49 w' w.heap.size (fun _ => True) (.slice Ao18 x7_1.length co18) x7_1) ∧ Aside0 (w'.heap[gb236]? = some (.cells #[.int .i64 a0_0, .int .i64 a0_1, .int .i64 a0_2] 23 (0, 0))) ∧ Aside0 (Below w.heap.size w w'))
      case atStart => exact ⟨((x7_1.length : Int)), (by first | rfl | (simp; done) | (simp [*]; done)), H', ⟨Nat.le_refl _⟩, ⟨by (with_reducible repeat (first | apply Kd.R_alloc | apply Kd.R_drewN | apply Kd.R_drew)); exact HO_7.out⟩, ⟨by (with_reducible repeat (first | refine blk_alloc ?_ _ | refine blk_drewN ?_ _ | refine blk_drew ?_)); exact BK236.out⟩, ⟨by apply_rules [HB.out, zb1, zb2, zb3, zb4, GE236.out]⟩⟩
      case round =>
       clear H'
       (try clear c1); (try clear p2); (try clear q2); (try clear hx2); (try clear c3); (try clear c5); (try clear c5b0); (try clear p6); (try clear c7); (try clear c7b0); (try clear c9); (try clear c10); (try clear c10b0); (try clear c10b1); (try clear c17); (try clear hx237_0); (try clear hx237_1); (try clear hx237_2); (try clear hx237_3); (try clear hx239_0); (try clear hx239_1); (try clear hx239_2)
       (try clear hx239_3); (try clear hx240_0); (try clear hx240_1); (try clear hx240_2); (try clear hx240_3); (try clear p2); (try clear p237); (try clear p239); (try clear p240); (try clear p6); (try clear q2); (try clear q237); (try clear q239); (try clear q240)
       obtain ⟨x9_3, rfl, HA, HK3, HO_7, BK236, HB⟩ := hrel
       cases gk with
       | zero => exact absurd HA.out (by simp [horariumref16_of.l1])
       | succ k3 =>
        have H := HA.out
        clear HA
        simp only [horariumref16_of.l1] at H
        by_cases c19 : x9_3 > 0
        ·rw [if_pos c19] at H
         have c19b0 : decide (0 < x9_3) = true := decide_eq_true c19
         clear c19
         obtain ⟨ji20, hji20⟩ : ∃ j_ : Int, (wrap64 (x9_3 - 1)) = j_ := ⟨_, rfl⟩
         replace H : (if 0 ≤ (ji20) then (if (ji20) < (x7_1.length : Int) then (if 0 ≤ x8_1 then (if x8_1 < (l1.length : Int) then (if ((rd_T49 x7_1 (ji20)).f2) > ((rd_T49 l1 x8_1).f2) then (horariumref16_of.l1 k3 l1 a2 x7_1 x8_1 ji20 a0_0 a0_1 a0_2) else (if ((rd_T49 x7_1 (ji20)).f2) = ((rd_T49 l1 x8_1).f2) then (if ((rd_T49 x7_1 (ji20)).f3) > ((rd_T49 l1 x8_1).f3) then (horariumref16_of.l1 k3 l1 a2 x7_1 x8_1 ji20 a0_0 a0_1 a0_2) else (if 0 ≤ x9_3 then (if x9_3 ≤ (x7_1.length : Int) then ((some (x7_1.take (x9_3 : Int).toNat : List (S49))).bind fun y248 => (if ([] : List (S49)).length + y248.length < 5864062014805 then ((some (([] : List (S49)) ++ y248 : List (S49))).bind fun y252 => (if y252.length < 5864062014805 then ((some (y252 ++ [(⟨(rd_T49 l1 x8_1).f0, (rd_T49 l1 x8_1).f1, (rd_T49 l1 x8_1).f2, (rd_T49 l1 x8_1).f3⟩ : S49)] : List (S49))).bind fun y256 => ((some (x7_1.drop (x9_3 : Int).toNat : List (S49))).bind fun y259 => (if y256.length + y259.length < 5864062014805 then (horariumref16_of.l0 k3 l1 a2 (y256 ++ y259) (wrap64 (x8_1 + 1)) a0_0 a0_1 a0_2) else (none)))) else (none))) else (none))) else (none)) else (none))) else (if 0 ≤ x9_3 then (if x9_3 ≤ (x7_1.length : Int) then ((some (x7_1.take (x9_3 : Int).toNat : List (S49))).bind fun y266 => (if ([] : List (S49)).length + y266.length < 5864062014805 then ((some (([] : List (S49)) ++ y266 : List (S49))).bind fun y270 => (if y270.length < 5864062014805 then ((some (y270 ++ [(⟨(rd_T49 l1 x8_1).f0, (rd_T49 l1 x8_1).f1, (rd_T49 l1 x8_1).f2, (rd_T49 l1 x8_1).f3⟩ : S49)] : List (S49))).bind fun y274 => ((some (x7_1.drop (x9_3 : Int).toNat : List (S49))).bind fun y277 => (if y274.length + y277.length < 5864062014805 then (horariumref16_of.l0 k3 l1 a2 (y274 ++ y277) (wrap64 (x8_1 + 1)) a0_0 a0_1 a0_2) else (none)))) else (none))) else (none))) else (none)) else (none)))) else (none)) else (none)) else (none)) else (none)) = some r := by first | (rw [hji20] at H; exact H) | (simp only [hji20] at H ⊢; exact H)
         have hji20w : (IntKind.i64.wrap (x9_3 - 1)) = ji20 := (i64_w _).trans hji20
         by_cases c21 : 0 ≤ (ji20)
         ·rw [if_pos c21] at H
          have c21b0 : decide (0 ≤ (ji20)) = true := decide_eq_true c21
          clear c21
          by_cases c22 : (ji20) < (x7_1.length : Int)
          ·rw [if_pos c22] at H
           have c22b0 : decide ((ji20) < (x7_1.length : Int)) = true := decide_eq_true c22
           clear c22
           by_cases c23 : 0 ≤ x8_1
           ·rw [if_pos c23] at H
            have c23b0 : decide (0 ≤ x8_1) = true := decide_eq_true c23
            clear c23
            by_cases c24 : x8_1 < (l1.length : Int)
            ·rw [if_pos c24] at H
             have c24b0 : decide (x8_1 < (l1.length : Int)) = true := decide_eq_true c24
             clear c24
             by_cases c25 : ((rd_T49 x7_1 (ji20)).f2) > ((rd_T49 l1 x8_1).f2)
             ·rw [if_pos c25] at H
              have c25b0 : decide (((rd_T49 l1 x8_1).f2) < ((rd_T49 x7_1 (ji20)).f2)) = true := decide_eq_true c25
              clear c25
              have H' := zm H
              clear H
              try go_wp2
              have n0_ := zm (Kd.R_drew HO_7.out)
              have n1_ := zm (blk_drew BK236.out)
              have n2_ := zm (below_drew1 HB.out)
              clear HO_7
              clear BK236
              clear HB
              have HO_7 := n0_
              have BK236 := n1_
              have HB := n2_
              clear n0_ n1_ n2_
              have p242 : 0 ≤ ((ji20) : Int) := of_decide_eq_true (by first | (with_reducible assumption) | assumption)
              have q242 : (ji20) < (x7_1.length : Int) := of_decide_eq_true (by first | (with_reducible assumption) | assumption)
              obtain ⟨ad242, e242, hx242_0, hx242_1, hx242_2, hx242_3⟩ := at_T49 (Kd.R_reads' HO_7.out).2.2 (ji20) p242 q242
              cases e242
              replace p242 := eq_true p242
              replace q242 := eq_true q242
              have p243 : 0 ≤ (x8_1 : Int) := of_decide_eq_true (by first | (with_reducible assumption) | assumption)
              have q243 : x8_1 < (l1.length : Int) := of_decide_eq_true (by first | (with_reducible assumption) | assumption)
              obtain ⟨ad243, e243, hx243_0, hx243_1, hx243_2, hx243_3⟩ := at_T49 HR1.out x8_1 p243 q243
              have hw243_3 := hx243_3
              have hw243_2 := hx243_2
              have hw243_1 := hx243_1
              have hw243_0 := hx243_0
              cases e243
              (try (replace hx243_0 := (HB.out.cell (World.block_lt_of_cell? w _ hx243_0)).trans hx243_0))
              (try (replace hx243_1 := (HB.out.cell (World.block_lt_of_cell? w _ hx243_1)).trans hx243_1))
              (try (replace hx243_2 := (HB.out.cell (World.block_lt_of_cell? w _ hx243_2)).trans hx243_2))
              (try (replace hx243_3 := (HB.out.cell (World.block_lt_of_cell? w _ hx243_3)).trans hx243_3))
              replace p243 := eq_true p243
              replace q243 := eq_true q243
              refine start_ (n := 44) (S := fun w' => w'.cell? (ad242.add (((ji20)).toNat * 4)) = some (.int .u32 ((rd_T49 x7_1 (ji20)).f0)) ∧ w'.cell? ⟨(ad242.add (((ji20)).toNat * 4)).block, (ad242.add (((ji20)).toNat * 4)).off + 1, none⟩ = some (.int .u8 ((rd_T49 x7_1 (ji20)).f1)) ∧ w'.cell? ⟨(ad242.add (((ji20)).toNat * 4)).block, (ad242.add (((ji20)).toNat * 4)).off + 2, none⟩ = some (.int .i64 ((rd_T49 x7_1 (ji20)).f2)) ∧ w'.cell? ⟨(ad242.add (((ji20)).toNat * 4)).block, (ad242.add (((ji20)).toNat * 4)).off + 3, none⟩ = some (.int .i64 ((rd_T49 x7_1 (ji20)).f3)) ∧ w'.cell? (ad243.add ((x8_1).toNat * 4)) = some (.int .u32 ((rd_T49 l1 x8_1).f0)) ∧ w'.cell? ⟨(ad243.add ((x8_1).toNat * 4)).block, (ad243.add ((x8_1).toNat * 4)).off + 1, none⟩ = some (.int .u8 ((rd_T49 l1 x8_1).f1)) ∧ w'.cell? ⟨(ad243.add ((x8_1).toNat * 4)).block, (ad243.add ((x8_1).toNat * 4)).off + 2, none⟩ = some (.int .i64 ((rd_T49 l1 x8_1).f2)) ∧ w'.cell? ⟨(ad243.add ((x8_1).toNat * 4)).block, (ad243.add ((x8_1).toNat * 4)).off + 3, none⟩ = some (.int .i64 ((rd_T49 l1 x8_1).f3))) (ds := []) #[false, false, false, false, false, false, false, false, false, false, false, false, false, false, false, false, false, false, false, false, false, false, false, false, false, false, false, false, false, false, false, false, false, false, false, false, false, false, false, false, false, false, false, false] (by kernel_rfl) rfl rfl ⟨hx242_0, hx242_1, hx242_2, hx242_3, ((HB.out.cell (World.block_lt_of_cell? w _ hw243_0)).trans hw243_0), ((HB.out.cell (World.block_lt_of_cell? w _ hw243_1)).trans hw243_1), ((HB.out.cell (World.block_lt_of_cell? w _ hw243_2)).trans hw243_2), ((HB.out.cell (World.block_lt_of_cell? w _ hw243_3)).trans hw243_3)⟩ (fun hHeld => ?_); refine with_tabW horariumref16_of.tab7 horariumref16_of.bits7 (fun HT_ HW_ => ?_)
              generalize wr.drew = w26 at HO_7 BK236 HB hx242_0 hx242_1 hx242_2 hx242_3 hx243_0 hx243_1 hx243_2 hx243_3 hHeld ⊢
              refine zp 0 47 (v := ?_) (a' := ?_) (bm 44 1) HT_.out (by kernel_rfl) ?_ ?_ ?_; rotate_left; (focus intro w'; go_simp; with_reducible rfl); rotate_left; (focus simp only [Act.put, zs1, zs2, zs3, i64_w, i32_w]; rfl)
              refine zp 1 48 (v := ?_) (a' := ?_) (bm 44 3) HT_.out (by kernel_rfl) ?_ ?_ ?_; rotate_left; (focus intro w'; go_simp; with_reducible rfl); rotate_left; (focus simp only [Act.put, zs1, zs2, zs3, i64_w, i32_w]; rfl)
              refine zp 2 49 (v := ?_) (a' := ?_) (bm 44 7) HT_.out (by kernel_rfl) ?_ ?_ ?_; rotate_left; (focus intro w'; go_simp; with_reducible rfl); rotate_left; (focus simp only [Act.put, zs1, zs2, zs3, i64_w, i32_w]; rfl)
              refine zp 3 50 (v := ?_) (a' := ?_) (bm 44 15) HT_.out (by kernel_rfl) ?_ ?_ ?_; rotate_left; (focus intro w'; go_simp; with_reducible rfl); rotate_left; (focus simp only [Act.put, zs1, zs2, zs3, i64_w, i32_w]; rfl)
              refine zp 4 51 (v := ?_) (a' := ?_) (bm 44 31) HT_.out (by kernel_rfl) ?_ ?_ ?_; rotate_left; (focus intro w'; go_simp; with_reducible rfl); rotate_left; (focus simp only [Act.put, zs1, zs2, zs3, i64_w, i32_w]; rfl)
              refine zp 5 52 (v := ?_) (a' := ?_) (bm 44 63) HT_.out (by kernel_rfl) ?_ ?_ ?_; rotate_left; (focus intro w'; go_simp; with_reducible rfl); rotate_left; (focus simp only [Act.put, zs1, zs2, zs3, i64_w, i32_w]; rfl)
              refine zp 6 53 (v := ?_) (a' := ?_) (bm 44 127) HT_.out (by kernel_rfl) ?_ ?_ ?_; rotate_left; (focus intro w'; go_simp; with_reducible rfl); rotate_left; (focus simp only [Act.put, zs1, zs2, zs3, i64_w, i32_w]; rfl)
              refine zp 7 54 (v := ?_) (a' := ?_) (bm 44 255) HT_.out (by kernel_rfl) ?_ ?_ ?_; rotate_left; (focus intro w'; go_simp; with_reducible rfl); rotate_left; (focus simp only [Act.put, zs1, zs2, zs3, i64_w, i32_w]; rfl)
              refine zp 9 56 (v := ?_) (a' := ?_) (bm 44 767) HT_.out (by kernel_rfl) ?_ ?_ ?_; rotate_left; (focus intro w'; go_simp; with_reducible rfl); rotate_left; (focus simp only [Act.put, zs1, zs2, zs3, i64_w, i32_w]; rfl)
              refine zp 10 57 (v := ?_) (a' := ?_) (bm 44 1791) HT_.out (by kernel_rfl) ?_ ?_ ?_; rotate_left; (focus intro w'; go_simp; with_reducible rfl); rotate_left; (focus simp only [Act.put, zs1, zs2, zs3, i64_w, i32_w]; rfl)
              refine zp 11 58 (v := ?_) (a' := ?_) (bm 44 3839) HT_.out (by kernel_rfl) ?_ ?_ ?_; rotate_left; (focus intro w'; go_simp; with_reducible rfl); rotate_left; (focus simp only [Act.put, zs1, zs2, zs3, i64_w, i32_w]; rfl)
              refine zp 12 59 (v := ?_) (a' := ?_) (bm 44 7935) HT_.out (by kernel_rfl) ?_ ?_ ?_; rotate_left; (focus intro w'; go_simp; with_reducible rfl); rotate_left; (focus simp only [Act.put, zs1, zs2, zs3, i64_w, i32_w]; rfl)
              refine take_ (i := 8) (N := some 55) (v := ?_) (a' := ?_) (bm 44 8191) rfl rfl (take_ofW HT_.out HW_.out (by kernel_rfl)) (fun _ _ _ h => h) (Or.inl ⟨by rfl, ?_⟩) hHeld ?_ ?_; rotate_left; (focus rintro w' ⟨s0, s1, s2, s3, s4, s5, s6, s7⟩; go_simp; with_reducible rfl); rotate_left; (focus simp only [Act.put, zs1, zs2, zs3, i64_w, i32_w]; rfl)
              refine take_ (i := 13) (N := some 60) (v := ?_) (a' := ?_) (bm 44 16383) rfl rfl (take_ofW HT_.out HW_.out (by kernel_rfl)) (fun _ _ _ h => h) (Or.inl ⟨by rfl, ?_⟩) hHeld ?_ ?_; rotate_left; (focus rintro w' ⟨s0, s1, s2, s3, s4, s5, s6, s7⟩; go_simp; with_reducible rfl); rotate_left; (focus simp only [Act.put, zs1, zs2, zs3, i64_w, i32_w]; rfl)
              refine zp 14 61 (v := ?_) (a' := ?_) (bm 44 32767) HT_.out (by kernel_rfl) ?_ ?_ ?_; rotate_left; (focus intro w'; go_simp; with_reducible rfl); rotate_left; (focus simp only [Act.put, zs1, zs2, zs3, i64_w, i32_w]; rfl)
              refine zp 15 62 (v := ?_) (a' := ?_) (bm 44 65535) HT_.out (by kernel_rfl) ?_ ?_ ?_; rotate_left; (focus intro w'; go_simp; with_reducible rfl); rotate_left; (focus simp only [Act.put, zs1, zs2, zs3, i64_w, i32_w]; rfl)
              refine pure_ (i := 16) (N := some 63) (v := undef) (a' := ?_) (bm 44 131071) rfl rfl (any_of HT_.out (by kernel_rfl)) (fun _ _ _ h => h) (Or.inr ⟨by rfl, rfl⟩) ?_ ?_
              rotate_left
              ·simp only [Act.put, zs1, zs2, zs3, i64_w, i32_w]
               rfl
              refine pure_ (i := 17) (N := some 64) (v := undef) (a' := ?_) (bm 44 262143) rfl rfl (any_of HT_.out (by kernel_rfl)) (fun _ _ _ h => h) (Or.inr ⟨by rfl, rfl⟩) ?_ ?_
              rotate_left
              ·simp only [Act.put, zs1, zs2, zs3, i64_w, i32_w]
               rfl
              refine pure_ (i := 18) (N := some 65) (v := undef) (a' := ?_) (bm 44 524287) rfl rfl (any_of HT_.out (by kernel_rfl)) (fun _ _ _ h => h) (Or.inr ⟨by rfl, rfl⟩) ?_ ?_
              rotate_left
              ·simp only [Act.put, zs1, zs2, zs3, i64_w, i32_w]
               rfl
              refine pure_ (i := 19) (N := some 66) (v := undef) (a' := ?_) (bm 44 1048575) rfl rfl (any_of HT_.out (by kernel_rfl)) (fun _ _ _ h => h) (Or.inr ⟨by rfl, rfl⟩) ?_ ?_
              rotate_left
              ·simp only [Act.put, zs1, zs2, zs3, i64_w, i32_w]
               rfl
              refine pure_ (i := 20) (N := some 67) (v := undef) (a' := ?_) (bm 44 2097151) rfl rfl (any_of HT_.out (by kernel_rfl)) (fun _ _ _ h => h) (Or.inr ⟨by rfl, rfl⟩) ?_ ?_
              rotate_left
              ·simp only [Act.put, zs1, zs2, zs3, i64_w, i32_w]
               rfl
              refine pure_ (i := 21) (N := some 68) (v := undef) (a' := ?_) (bm 44 4194303) rfl rfl (any_of HT_.out (by kernel_rfl)) (fun _ _ _ h => h) (Or.inr ⟨by rfl, rfl⟩) ?_ ?_
              rotate_left
              ·simp only [Act.put, zs1, zs2, zs3, i64_w, i32_w]
               rfl
              refine pure_ (i := 22) (N := some 69) (v := undef) (a' := ?_) (bm 44 8388607) rfl rfl (any_of HT_.out (by kernel_rfl)) (fun _ _ _ h => h) (Or.inr ⟨by rfl, rfl⟩) ?_ ?_
              rotate_left
              ·simp only [Act.put, zs1, zs2, zs3, i64_w, i32_w]
               rfl
              refine pure_ (i := 23) (N := some 70) (v := undef) (a' := ?_) (bm 44 16777215) rfl rfl (any_of HT_.out (by kernel_rfl)) (fun _ _ _ h => h) (Or.inr ⟨by rfl, rfl⟩) ?_ ?_
              rotate_left
              ·simp only [Act.put, zs1, zs2, zs3, i64_w, i32_w]
               rfl
              refine pure_ (i := 24) (N := some 71) (v := undef) (a' := ?_) (bm 44 33554431) rfl rfl (any_of HT_.out (by kernel_rfl)) (fun _ _ _ h => h) (Or.inr ⟨by rfl, rfl⟩) ?_ ?_
              rotate_left
              ·simp only [Act.put, zs1, zs2, zs3, i64_w, i32_w]
               rfl
              refine pure_ (i := 25) (N := some 72) (v := undef) (a' := ?_) (bm 44 67108863) rfl rfl (any_of HT_.out (by kernel_rfl)) (fun _ _ _ h => h) (Or.inr ⟨by rfl, rfl⟩) ?_ ?_
              rotate_left
              ·simp only [Act.put, zs1, zs2, zs3, i64_w, i32_w]
               rfl
              refine pure_ (i := 26) (N := some 73) (v := undef) (a' := ?_) (bm 44 134217727) rfl rfl (any_of HT_.out (by kernel_rfl)) (fun _ _ _ h => h) (Or.inr ⟨by rfl, rfl⟩) ?_ ?_
              rotate_left
              ·simp only [Act.put, zs1, zs2, zs3, i64_w, i32_w]
               rfl
              refine pure_ (i := 27) (N := some 74) (v := undef) (a' := ?_) (bm 44 268435455) rfl rfl (any_of HT_.out (by kernel_rfl)) (fun _ _ _ h => h) (Or.inr ⟨by rfl, rfl⟩) ?_ ?_
              rotate_left
              ·simp only [Act.put, zs1, zs2, zs3, i64_w, i32_w]
               rfl
              refine pure_ (i := 28) (N := some 75) (v := undef) (a' := ?_) (bm 44 536870911) rfl rfl (any_of HT_.out (by kernel_rfl)) (fun _ _ _ h => h) (Or.inr ⟨by rfl, rfl⟩) ?_ ?_
              rotate_left
              ·simp only [Act.put, zs1, zs2, zs3, i64_w, i32_w]
               rfl
              refine pure_ (i := 29) (N := some 76) (v := undef) (a' := ?_) (bm 44 1073741823) rfl rfl (any_of HT_.out (by kernel_rfl)) (fun _ _ _ h => h) (Or.inr ⟨by rfl, rfl⟩) ?_ ?_
              rotate_left
              ·simp only [Act.put, zs1, zs2, zs3, i64_w, i32_w]
               rfl
              refine pure_ (i := 30) (N := some 77) (v := undef) (a' := ?_) (bm 44 2147483647) rfl rfl (any_of HT_.out (by kernel_rfl)) (fun _ _ _ h => h) (Or.inr ⟨by rfl, rfl⟩) ?_ ?_
              rotate_left
              ·simp only [Act.put, zs1, zs2, zs3, i64_w, i32_w]
               rfl
              refine pure_ (i := 31) (N := some 78) (v := undef) (a' := ?_) (bm 44 4294967295) rfl rfl (any_of HT_.out (by kernel_rfl)) (fun _ _ _ h => h) (Or.inr ⟨by rfl, rfl⟩) ?_ ?_
              rotate_left
              ·simp only [Act.put, zs1, zs2, zs3, i64_w, i32_w]
               rfl
              refine pure_ (i := 32) (N := some 79) (v := undef) (a' := ?_) (bm 44 8589934591) rfl rfl (any_of HT_.out (by kernel_rfl)) (fun _ _ _ h => h) (Or.inr ⟨by rfl, rfl⟩) ?_ ?_
              rotate_left
              ·simp only [Act.put, zs1, zs2, zs3, i64_w, i32_w]
               rfl
              refine pure_ (i := 33) (N := some 80) (v := undef) (a' := ?_) (bm 44 17179869183) rfl rfl (any_of HT_.out (by kernel_rfl)) (fun _ _ _ h => h) (Or.inr ⟨by rfl, rfl⟩) ?_ ?_
              rotate_left
              ·simp only [Act.put, zs1, zs2, zs3, i64_w, i32_w]
               rfl
              refine pure_ (i := 34) (N := some 81) (v := undef) (a' := ?_) (bm 44 34359738367) rfl rfl (any_of HT_.out (by kernel_rfl)) (fun _ _ _ h => h) (Or.inr ⟨by rfl, rfl⟩) ?_ ?_
              rotate_left
              ·simp only [Act.put, zs1, zs2, zs3, i64_w, i32_w]
               rfl
              refine pure_ (i := 35) (N := some 82) (v := undef) (a' := ?_) (bm 44 68719476735) rfl rfl (any_of HT_.out (by kernel_rfl)) (fun _ _ _ h => h) (Or.inr ⟨by rfl, rfl⟩) ?_ ?_
              rotate_left
              ·simp only [Act.put, zs1, zs2, zs3, i64_w, i32_w]
               rfl
              refine pure_ (i := 36) (N := some 83) (v := undef) (a' := ?_) (bm 44 137438953471) rfl rfl (any_of HT_.out (by kernel_rfl)) (fun _ _ _ h => h) (Or.inr ⟨by rfl, rfl⟩) ?_ ?_
              rotate_left
              ·simp only [Act.put, zs1, zs2, zs3, i64_w, i32_w]
               rfl
              refine pure_ (i := 37) (N := some 84) (v := undef) (a' := ?_) (bm 44 274877906943) rfl rfl (any_of HT_.out (by kernel_rfl)) (fun _ _ _ h => h) (Or.inr ⟨by rfl, rfl⟩) ?_ ?_
              rotate_left
              ·simp only [Act.put, zs1, zs2, zs3, i64_w, i32_w]
               rfl
              refine pure_ (i := 38) (N := some 85) (v := undef) (a' := ?_) (bm 44 549755813887) rfl rfl (any_of HT_.out (by kernel_rfl)) (fun _ _ _ h => h) (Or.inr ⟨by rfl, rfl⟩) ?_ ?_
              rotate_left
              ·simp only [Act.put, zs1, zs2, zs3, i64_w, i32_w]
               rfl
              refine pure_ (i := 39) (N := some 86) (v := undef) (a' := ?_) (bm 44 1099511627775) rfl rfl (any_of HT_.out (by kernel_rfl)) (fun _ _ _ h => h) (Or.inr ⟨by rfl, rfl⟩) ?_ ?_
              rotate_left
              ·simp only [Act.put, zs1, zs2, zs3, i64_w, i32_w]
               rfl
              refine pure_ (i := 40) (N := some 87) (v := undef) (a' := ?_) (bm 44 2199023255551) rfl rfl (any_of HT_.out (by kernel_rfl)) (fun _ _ _ h => h) (Or.inr ⟨by rfl, rfl⟩) ?_ ?_
              rotate_left
              ·simp only [Act.put, zs1, zs2, zs3, i64_w, i32_w]
               rfl
              refine pure_ (i := 41) (N := some 88) (v := undef) (a' := ?_) (bm 44 4398046511103) rfl rfl (any_of HT_.out (by kernel_rfl)) (fun _ _ _ h => h) (Or.inr ⟨by rfl, rfl⟩) ?_ ?_
              rotate_left
              ·simp only [Act.put, zs1, zs2, zs3, i64_w, i32_w]
               rfl
              refine zp 42 89 (v := ?_) (a' := ?_) (bm 44 8796093022207) HT_.out (by kernel_rfl) ?_ ?_ ?_; rotate_left; (focus intro w'; go_simp; with_reducible rfl); rotate_left; (focus simp only [Act.put, zs1, zs2, zs3, i64_w, i32_w]; rfl)
              refine zp 43 90 (v := ?_) (a' := ?_) (bm 44 17592186044415) HT_.out (by kernel_rfl) ?_ ?_ ?_; rotate_left; (focus intro w'; go_simp; with_reducible rfl); rotate_left; (focus simp only [Act.put, zs1, zs2, zs3, i64_w, i32_w]; rfl)
              refine done_ (done_of HT_.out (by kernel_rfl)) ?_
              try go_wp2
              go_roundg k3
              case measure => have := HK1.out; have := HJ5.out; have := HK3.out; omega
              case rel => exact ⟨(ji20), (by first | rfl | (simp; done) | (simp only [← hji20] <;> (first | rfl | simp)) | (simp [*]; done)), H', ⟨by have := HK1.out; have := HJ5.out; have := HK3.out; omega⟩, ⟨by (with_reducible repeat (first | apply Kd.R_alloc | apply Kd.R_drewN | apply Kd.R_drew)); exact HO_7.out⟩, ⟨by (with_reducible repeat (first | refine blk_alloc ?_ _ | refine blk_drewN ?_ _ | refine blk_drew ?_)); exact BK236.out⟩, ⟨by apply_rules [HB.out, zb1, zb2, zb3, zb4, GE236.out]⟩⟩
             rw [if_neg c25] at H
             have c25b0 : decide (((rd_T49 l1 x8_1).f2) < ((rd_T49 x7_1 (ji20)).f2)) = false := decide_eq_false c25
             clear c25
             by_cases c27 : ((rd_T49 x7_1 (ji20)).f2) = ((rd_T49 l1 x8_1).f2)
             ·rw [if_pos c27] at H
              have c27b0 : (((rd_T49 x7_1 (ji20)).f2) == ((rd_T49 l1 x8_1).f2)) = true := beq_iff_eq.mpr c27
              have c27b1 : (((rd_T49 x7_1 (ji20)).f2) != ((rd_T49 l1 x8_1).f2)) = false := bne_eq_false_iff_eq.mpr c27
              clear c27
              by_cases c28 : ((rd_T49 x7_1 (ji20)).f3) > ((rd_T49 l1 x8_1).f3)
              ·rw [if_pos c28] at H
               have c28b0 : decide (((rd_T49 l1 x8_1).f3) < ((rd_T49 x7_1 (ji20)).f3)) = true := decide_eq_true c28
               clear c28
               have H' := zm H
               clear H
               try go_wp2
               have n0_ := zm (Kd.R_drew HO_7.out)
               have n1_ := zm (blk_drew BK236.out)
               have n2_ := zm (below_drew1 HB.out)
               clear HO_7
               clear BK236
               clear HB
               have HO_7 := n0_
               have BK236 := n1_
               have HB := n2_
               clear n0_ n1_ n2_
               have p242 : 0 ≤ ((ji20) : Int) := of_decide_eq_true (by first | (with_reducible assumption) | assumption)
               have q242 : (ji20) < (x7_1.length : Int) := of_decide_eq_true (by first | (with_reducible assumption) | assumption)
               obtain ⟨ad242, e242, hx242_0, hx242_1, hx242_2, hx242_3⟩ := at_T49 (Kd.R_reads' HO_7.out).2.2 (ji20) p242 q242
               cases e242
               replace p242 := eq_true p242
               replace q242 := eq_true q242
               have p243 : 0 ≤ (x8_1 : Int) := of_decide_eq_true (by first | (with_reducible assumption) | assumption)
               have q243 : x8_1 < (l1.length : Int) := of_decide_eq_true (by first | (with_reducible assumption) | assumption)
               obtain ⟨ad243, e243, hx243_0, hx243_1, hx243_2, hx243_3⟩ := at_T49 HR1.out x8_1 p243 q243
               have hw243_3 := hx243_3
               have hw243_2 := hx243_2
               have hw243_1 := hx243_1
               have hw243_0 := hx243_0
               cases e243
               (try (replace hx243_0 := (HB.out.cell (World.block_lt_of_cell? w _ hx243_0)).trans hx243_0))
               (try (replace hx243_1 := (HB.out.cell (World.block_lt_of_cell? w _ hx243_1)).trans hx243_1))
               (try (replace hx243_2 := (HB.out.cell (World.block_lt_of_cell? w _ hx243_2)).trans hx243_2))
               (try (replace hx243_3 := (HB.out.cell (World.block_lt_of_cell? w _ hx243_3)).trans hx243_3))
               replace p243 := eq_true p243
               replace q243 := eq_true q243
               have p244 : 0 ≤ ((ji20) : Int) := of_decide_eq_true (by first | (with_reducible assumption) | assumption)
               have q244 : (ji20) < (x7_1.length : Int) := of_decide_eq_true (by first | (with_reducible assumption) | assumption)
               obtain ⟨ad244, e244, hx244_0, hx244_1, hx244_2, hx244_3⟩ := at_T49 (Kd.R_reads' HO_7.out).2.2 (ji20) p244 q244
               obtain rfl : ad242 = ad244 := (by injection e244)
               replace p244 := eq_true p244
               replace q244 := eq_true q244
               have p245 : 0 ≤ (x8_1 : Int) := of_decide_eq_true (by first | (with_reducible assumption) | assumption)
               have q245 : x8_1 < (l1.length : Int) := of_decide_eq_true (by first | (with_reducible assumption) | assumption)
               obtain ⟨ad245, e245, hx245_0, hx245_1, hx245_2, hx245_3⟩ := at_T49 HR1.out x8_1 p245 q245
               have hw245_3 := hx245_3
               have hw245_2 := hx245_2
               have hw245_1 := hx245_1
               have hw245_0 := hx245_0
               obtain rfl : ad243 = ad245 := (by injection e245)
               (try (replace hx245_0 := (HB.out.cell (World.block_lt_of_cell? w _ hx245_0)).trans hx245_0))
               (try (replace hx245_1 := (HB.out.cell (World.block_lt_of_cell? w _ hx245_1)).trans hx245_1))
               (try (replace hx245_2 := (HB.out.cell (World.block_lt_of_cell? w _ hx245_2)).trans hx245_2))
               (try (replace hx245_3 := (HB.out.cell (World.block_lt_of_cell? w _ hx245_3)).trans hx245_3))
               replace p245 := eq_true p245
               replace q245 := eq_true q245
               have p246 : 0 ≤ ((ji20) : Int) := of_decide_eq_true (by first | (with_reducible assumption) | assumption)
               have q246 : (ji20) < (x7_1.length : Int) := of_decide_eq_true (by first | (with_reducible assumption) | assumption)
               obtain ⟨ad246, e246, hx246_0, hx246_1, hx246_2, hx246_3⟩ := at_T49 (Kd.R_reads' HO_7.out).2.2 (ji20) p246 q246
               obtain rfl : ad242 = ad246 := (by injection e246)
               replace p246 := eq_true p246
               replace q246 := eq_true q246
               have p247 : 0 ≤ (x8_1 : Int) := of_decide_eq_true (by first | (with_reducible assumption) | assumption)
               have q247 : x8_1 < (l1.length : Int) := of_decide_eq_true (by first | (with_reducible assumption) | assumption)
               obtain ⟨ad247, e247, hx247_0, hx247_1, hx247_2, hx247_3⟩ := at_T49 HR1.out x8_1 p247 q247
               have hw247_3 := hx247_3
               have hw247_2 := hx247_2
               have hw247_1 := hx247_1
               have hw247_0 := hx247_0
               obtain rfl : ad243 = ad247 := (by injection e247)
               (try (replace hx247_0 := (HB.out.cell (World.block_lt_of_cell? w _ hx247_0)).trans hx247_0))
               (try (replace hx247_1 := (HB.out.cell (World.block_lt_of_cell? w _ hx247_1)).trans hx247_1))
               (try (replace hx247_2 := (HB.out.cell (World.block_lt_of_cell? w _ hx247_2)).trans hx247_2))
               (try (replace hx247_3 := (HB.out.cell (World.block_lt_of_cell? w _ hx247_3)).trans hx247_3))
               replace p247 := eq_true p247
               replace q247 := eq_true q247
               refine start_ (n := 44) (S := fun w' => w'.cell? (ad242.add (((ji20)).toNat * 4)) = some (.int .u32 ((rd_T49 x7_1 (ji20)).f0)) ∧ w'.cell? ⟨(ad242.add (((ji20)).toNat * 4)).block, (ad242.add (((ji20)).toNat * 4)).off + 1, none⟩ = some (.int .u8 ((rd_T49 x7_1 (ji20)).f1)) ∧ w'.cell? ⟨(ad242.add (((ji20)).toNat * 4)).block, (ad242.add (((ji20)).toNat * 4)).off + 2, none⟩ = some (.int .i64 ((rd_T49 x7_1 (ji20)).f2)) ∧ w'.cell? ⟨(ad242.add (((ji20)).toNat * 4)).block, (ad242.add (((ji20)).toNat * 4)).off + 3, none⟩ = some (.int .i64 ((rd_T49 x7_1 (ji20)).f3)) ∧ w'.cell? (ad243.add ((x8_1).toNat * 4)) = some (.int .u32 ((rd_T49 l1 x8_1).f0)) ∧ w'.cell? ⟨(ad243.add ((x8_1).toNat * 4)).block, (ad243.add ((x8_1).toNat * 4)).off + 1, none⟩ = some (.int .u8 ((rd_T49 l1 x8_1).f1)) ∧ w'.cell? ⟨(ad243.add ((x8_1).toNat * 4)).block, (ad243.add ((x8_1).toNat * 4)).off + 2, none⟩ = some (.int .i64 ((rd_T49 l1 x8_1).f2)) ∧ w'.cell? ⟨(ad243.add ((x8_1).toNat * 4)).block, (ad243.add ((x8_1).toNat * 4)).off + 3, none⟩ = some (.int .i64 ((rd_T49 l1 x8_1).f3)) ∧ w'.cell? (ad242.add (((ji20)).toNat * 4)) = some (.int .u32 ((rd_T49 x7_1 (ji20)).f0)) ∧ w'.cell? ⟨(ad242.add (((ji20)).toNat * 4)).block, (ad242.add (((ji20)).toNat * 4)).off + 1, none⟩ = some (.int .u8 ((rd_T49 x7_1 (ji20)).f1)) ∧ w'.cell? ⟨(ad242.add (((ji20)).toNat * 4)).block, (ad242.add (((ji20)).toNat * 4)).off + 2, none⟩ = some (.int .i64 ((rd_T49 x7_1 (ji20)).f2)) ∧ w'.cell? ⟨(ad242.add (((ji20)).toNat * 4)).block, (ad242.add (((ji20)).toNat * 4)).off + 3, none⟩ = some (.int .i64 ((rd_T49 x7_1 (ji20)).f3)) ∧ w'.cell? (ad243.add ((x8_1).toNat * 4)) = some (.int .u32 ((rd_T49 l1 x8_1).f0)) ∧ w'.cell? ⟨(ad243.add ((x8_1).toNat * 4)).block, (ad243.add ((x8_1).toNat * 4)).off + 1, none⟩ = some (.int .u8 ((rd_T49 l1 x8_1).f1)) ∧ w'.cell? ⟨(ad243.add ((x8_1).toNat * 4)).block, (ad243.add ((x8_1).toNat * 4)).off + 2, none⟩ = some (.int .i64 ((rd_T49 l1 x8_1).f2)) ∧ w'.cell? ⟨(ad243.add ((x8_1).toNat * 4)).block, (ad243.add ((x8_1).toNat * 4)).off + 3, none⟩ = some (.int .i64 ((rd_T49 l1 x8_1).f3)) ∧ w'.cell? (ad242.add (((ji20)).toNat * 4)) = some (.int .u32 ((rd_T49 x7_1 (ji20)).f0)) ∧ w'.cell? ⟨(ad242.add (((ji20)).toNat * 4)).block, (ad242.add (((ji20)).toNat * 4)).off + 1, none⟩ = some (.int .u8 ((rd_T49 x7_1 (ji20)).f1)) ∧ w'.cell? ⟨(ad242.add (((ji20)).toNat * 4)).block, (ad242.add (((ji20)).toNat * 4)).off + 2, none⟩ = some (.int .i64 ((rd_T49 x7_1 (ji20)).f2)) ∧ w'.cell? ⟨(ad242.add (((ji20)).toNat * 4)).block, (ad242.add (((ji20)).toNat * 4)).off + 3, none⟩ = some (.int .i64 ((rd_T49 x7_1 (ji20)).f3)) ∧ w'.cell? (ad243.add ((x8_1).toNat * 4)) = some (.int .u32 ((rd_T49 l1 x8_1).f0)) ∧ w'.cell? ⟨(ad243.add ((x8_1).toNat * 4)).block, (ad243.add ((x8_1).toNat * 4)).off + 1, none⟩ = some (.int .u8 ((rd_T49 l1 x8_1).f1)) ∧ w'.cell? ⟨(ad243.add ((x8_1).toNat * 4)).block, (ad243.add ((x8_1).toNat * 4)).off + 2, none⟩ = some (.int .i64 ((rd_T49 l1 x8_1).f2)) ∧ w'.cell? ⟨(ad243.add ((x8_1).toNat * 4)).block, (ad243.add ((x8_1).toNat * 4)).off + 3, none⟩ = some (.int .i64 ((rd_T49 l1 x8_1).f3))) (ds := []) #[false, false, false, false, false, false, false, false, false, false, false, false, false, false, false, false, false, false, false, false, false, false, false, false, false, false, false, false, false, false, false, false, false, false, false, false, false, false, false, false, false, false, false, false] (by kernel_rfl) rfl rfl ⟨hx242_0, hx242_1, hx242_2, hx242_3, ((HB.out.cell (World.block_lt_of_cell? w _ hw243_0)).trans hw243_0), ((HB.out.cell (World.block_lt_of_cell? w _ hw243_1)).trans hw243_1), ((HB.out.cell (World.block_lt_of_cell? w _ hw243_2)).trans hw243_2), ((HB.out.cell (World.block_lt_of_cell? w _ hw243_3)).trans hw243_3), hx244_0, hx244_1, hx244_2, hx244_3, ((HB.out.cell (World.block_lt_of_cell? w _ hw245_0)).trans hw245_0), ((HB.out.cell (World.block_lt_of_cell? w _ hw245_1)).trans hw245_1), ((HB.out.cell (World.block_lt_of_cell? w _ hw245_2)).trans hw245_2), ((HB.out.cell (World.block_lt_of_cell? w _ hw245_3)).trans hw245_3), hx246_0, hx246_1, hx246_2, hx246_3, ((HB.out.cell (World.block_lt_of_cell? w _ hw247_0)).trans hw247_0), ((HB.out.cell (World.block_lt_of_cell? w _ hw247_1)).trans hw247_1), ((HB.out.cell (World.block_lt_of_cell? w _ hw247_2)).trans hw247_2), ((HB.out.cell (World.block_lt_of_cell? w _ hw247_3)).trans hw247_3)⟩ (fun hHeld => ?_); refine with_tabW horariumref16_of.tab7 horariumref16_of.bits7 (fun HT_ HW_ => ?_)
               generalize wr.drew = w29 at HO_7 BK236 HB hx242_0 hx242_1 hx242_2 hx242_3 hx243_0 hx243_1 hx243_2 hx243_3 hx244_0 hx244_1 hx244_2 hx244_3 hx245_0 hx245_1 hx245_2 hx245_3 hx246_0 hx246_1 hx246_2 hx246_3 hx247_0 hx247_1 hx247_2 hx247_3 hHeld ⊢
               refine zp 0 47 (v := ?_) (a' := ?_) (bm 44 1) HT_.out (by kernel_rfl) ?_ ?_ ?_; rotate_left; (focus intro w'; go_simp; with_reducible rfl); rotate_left; (focus simp only [Act.put, zs1, zs2, zs3, i64_w, i32_w]; rfl)
               refine zp 1 48 (v := ?_) (a' := ?_) (bm 44 3) HT_.out (by kernel_rfl) ?_ ?_ ?_; rotate_left; (focus intro w'; go_simp; with_reducible rfl); rotate_left; (focus simp only [Act.put, zs1, zs2, zs3, i64_w, i32_w]; rfl)
               refine zp 2 49 (v := ?_) (a' := ?_) (bm 44 7) HT_.out (by kernel_rfl) ?_ ?_ ?_; rotate_left; (focus intro w'; go_simp; with_reducible rfl); rotate_left; (focus simp only [Act.put, zs1, zs2, zs3, i64_w, i32_w]; rfl)
               refine zp 3 50 (v := ?_) (a' := ?_) (bm 44 15) HT_.out (by kernel_rfl) ?_ ?_ ?_; rotate_left; (focus intro w'; go_simp; with_reducible rfl); rotate_left; (focus simp only [Act.put, zs1, zs2, zs3, i64_w, i32_w]; rfl)
               refine zp 4 51 (v := ?_) (a' := ?_) (bm 44 31) HT_.out (by kernel_rfl) ?_ ?_ ?_; rotate_left; (focus intro w'; go_simp; with_reducible rfl); rotate_left; (focus simp only [Act.put, zs1, zs2, zs3, i64_w, i32_w]; rfl)
               refine zp 5 52 (v := ?_) (a' := ?_) (bm 44 63) HT_.out (by kernel_rfl) ?_ ?_ ?_; rotate_left; (focus intro w'; go_simp; with_reducible rfl); rotate_left; (focus simp only [Act.put, zs1, zs2, zs3, i64_w, i32_w]; rfl)
               refine zp 6 53 (v := ?_) (a' := ?_) (bm 44 127) HT_.out (by kernel_rfl) ?_ ?_ ?_; rotate_left; (focus intro w'; go_simp; with_reducible rfl); rotate_left; (focus simp only [Act.put, zs1, zs2, zs3, i64_w, i32_w]; rfl)
               refine zp 7 54 (v := ?_) (a' := ?_) (bm 44 255) HT_.out (by kernel_rfl) ?_ ?_ ?_; rotate_left; (focus intro w'; go_simp; with_reducible rfl); rotate_left; (focus simp only [Act.put, zs1, zs2, zs3, i64_w, i32_w]; rfl)
               refine zp 9 56 (v := ?_) (a' := ?_) (bm 44 767) HT_.out (by kernel_rfl) ?_ ?_ ?_; rotate_left; (focus intro w'; go_simp; with_reducible rfl); rotate_left; (focus simp only [Act.put, zs1, zs2, zs3, i64_w, i32_w]; rfl)
               refine zp 10 57 (v := ?_) (a' := ?_) (bm 44 1791) HT_.out (by kernel_rfl) ?_ ?_ ?_; rotate_left; (focus intro w'; go_simp; with_reducible rfl); rotate_left; (focus simp only [Act.put, zs1, zs2, zs3, i64_w, i32_w]; rfl)
               refine zp 11 58 (v := ?_) (a' := ?_) (bm 44 3839) HT_.out (by kernel_rfl) ?_ ?_ ?_; rotate_left; (focus intro w'; go_simp; with_reducible rfl); rotate_left; (focus simp only [Act.put, zs1, zs2, zs3, i64_w, i32_w]; rfl)
               refine zp 12 59 (v := ?_) (a' := ?_) (bm 44 7935) HT_.out (by kernel_rfl) ?_ ?_ ?_; rotate_left; (focus intro w'; go_simp; with_reducible rfl); rotate_left; (focus simp only [Act.put, zs1, zs2, zs3, i64_w, i32_w]; rfl)
               refine take_ (i := 8) (N := some 55) (v := ?_) (a' := ?_) (bm 44 8191) rfl rfl (take_ofW HT_.out HW_.out (by kernel_rfl)) (fun _ _ _ h => h) (Or.inl ⟨by rfl, ?_⟩) hHeld ?_ ?_; rotate_left; (focus rintro w' ⟨s0, s1, s2, s3, s4, s5, s6, s7, s8, s9, s10, s11, s12, s13, s14, s15, s16, s17, s18, s19, s20, s21, s22, s23⟩; go_simp; with_reducible rfl); rotate_left; (focus simp only [Act.put, zs1, zs2, zs3, i64_w, i32_w]; rfl)
               refine take_ (i := 13) (N := some 60) (v := ?_) (a' := ?_) (bm 44 16383) rfl rfl (take_ofW HT_.out HW_.out (by kernel_rfl)) (fun _ _ _ h => h) (Or.inl ⟨by rfl, ?_⟩) hHeld ?_ ?_; rotate_left; (focus rintro w' ⟨s0, s1, s2, s3, s4, s5, s6, s7, s8, s9, s10, s11, s12, s13, s14, s15, s16, s17, s18, s19, s20, s21, s22, s23⟩; go_simp; with_reducible rfl); rotate_left; (focus simp only [Act.put, zs1, zs2, zs3, i64_w, i32_w]; rfl)
               refine zp 14 61 (v := ?_) (a' := ?_) (bm 44 32767) HT_.out (by kernel_rfl) ?_ ?_ ?_; rotate_left; (focus intro w'; go_simp; with_reducible rfl); rotate_left; (focus simp only [Act.put, zs1, zs2, zs3, i64_w, i32_w]; rfl)
               refine zp 15 62 (v := ?_) (a' := ?_) (bm 44 65535) HT_.out (by kernel_rfl) ?_ ?_ ?_; rotate_left; (focus intro w'; go_simp; with_reducible rfl); rotate_left; (focus simp only [Act.put, zs1, zs2, zs3, i64_w, i32_w]; rfl)
               refine zp 16 63 (v := ?_) (a' := ?_) (bm 44 131071) HT_.out (by kernel_rfl) ?_ ?_ ?_; rotate_left; (focus intro w'; go_simp; with_reducible rfl); rotate_left; (focus simp only [Act.put, zs1, zs2, zs3, i64_w, i32_w]; rfl)
               refine zp 17 64 (v := ?_) (a' := ?_) (bm 44 262143) HT_.out (by kernel_rfl) ?_ ?_ ?_; rotate_left; (focus intro w'; go_simp; with_reducible rfl); rotate_left; (focus simp only [Act.put, zs1, zs2, zs3, i64_w, i32_w]; rfl)
               refine zp 18 65 (v := ?_) (a' := ?_) (bm 44 524287) HT_.out (by kernel_rfl) ?_ ?_ ?_; rotate_left; (focus intro w'; go_simp; with_reducible rfl); rotate_left; (focus simp only [Act.put, zs1, zs2, zs3, i64_w, i32_w]; rfl)
               refine zp 19 66 (v := ?_) (a' := ?_) (bm 44 1048575) HT_.out (by kernel_rfl) ?_ ?_ ?_; rotate_left; (focus intro w'; go_simp; with_reducible rfl); rotate_left; (focus simp only [Act.put, zs1, zs2, zs3, i64_w, i32_w]; rfl)
               refine zp 20 67 (v := ?_) (a' := ?_) (bm 44 2097151) HT_.out (by kernel_rfl) ?_ ?_ ?_; rotate_left; (focus intro w'; go_simp; with_reducible rfl); rotate_left; (focus simp only [Act.put, zs1, zs2, zs3, i64_w, i32_w]; rfl)
               refine zp 22 69 (v := ?_) (a' := ?_) (bm 44 6291455) HT_.out (by kernel_rfl) ?_ ?_ ?_; rotate_left; (focus intro w'; go_simp; with_reducible rfl); rotate_left; (focus simp only [Act.put, zs1, zs2, zs3, i64_w, i32_w]; rfl)
               refine zp 23 70 (v := ?_) (a' := ?_) (bm 44 14680063) HT_.out (by kernel_rfl) ?_ ?_ ?_; rotate_left; (focus intro w'; go_simp; with_reducible rfl); rotate_left; (focus simp only [Act.put, zs1, zs2, zs3, i64_w, i32_w]; rfl)
               refine zp 24 71 (v := ?_) (a' := ?_) (bm 44 31457279) HT_.out (by kernel_rfl) ?_ ?_ ?_; rotate_left; (focus intro w'; go_simp; with_reducible rfl); rotate_left; (focus simp only [Act.put, zs1, zs2, zs3, i64_w, i32_w]; rfl)
               refine zp 25 72 (v := ?_) (a' := ?_) (bm 44 65011711) HT_.out (by kernel_rfl) ?_ ?_ ?_; rotate_left; (focus intro w'; go_simp; with_reducible rfl); rotate_left; (focus simp only [Act.put, zs1, zs2, zs3, i64_w, i32_w]; rfl)
               refine take_ (i := 21) (N := some 68) (v := ?_) (a' := ?_) (bm 44 67108863) rfl rfl (take_ofW HT_.out HW_.out (by kernel_rfl)) (fun _ _ _ h => h) (Or.inl ⟨by rfl, ?_⟩) hHeld ?_ ?_; rotate_left; (focus rintro w' ⟨s0, s1, s2, s3, s4, s5, s6, s7, s8, s9, s10, s11, s12, s13, s14, s15, s16, s17, s18, s19, s20, s21, s22, s23⟩; go_simp; with_reducible rfl); rotate_left; (focus simp only [Act.put, zs1, zs2, zs3, i64_w, i32_w]; rfl)
               refine take_ (i := 26) (N := some 73) (v := ?_) (a' := ?_) (bm 44 134217727) rfl rfl (take_ofW HT_.out HW_.out (by kernel_rfl)) (fun _ _ _ h => h) (Or.inl ⟨by rfl, ?_⟩) hHeld ?_ ?_; rotate_left; (focus rintro w' ⟨s0, s1, s2, s3, s4, s5, s6, s7, s8, s9, s10, s11, s12, s13, s14, s15, s16, s17, s18, s19, s20, s21, s22, s23⟩; go_simp; with_reducible rfl); rotate_left; (focus simp only [Act.put, zs1, zs2, zs3, i64_w, i32_w]; rfl)
               refine zp 27 74 (v := ?_) (a' := ?_) (bm 44 268435455) HT_.out (by kernel_rfl) ?_ ?_ ?_; rotate_left; (focus intro w'; go_simp; with_reducible rfl); rotate_left; (focus simp only [Act.put, zs1, zs2, zs3, i64_w, i32_w]; rfl)
               refine zp 28 75 (v := ?_) (a' := ?_) (bm 44 536870911) HT_.out (by kernel_rfl) ?_ ?_ ?_; rotate_left; (focus intro w'; go_simp; with_reducible rfl); rotate_left; (focus simp only [Act.put, zs1, zs2, zs3, i64_w, i32_w]; rfl)
               refine zp 29 76 (v := ?_) (a' := ?_) (bm 44 1073741823) HT_.out (by kernel_rfl) ?_ ?_ ?_; rotate_left; (focus intro w'; go_simp; with_reducible rfl); rotate_left; (focus simp only [Act.put, zs1, zs2, zs3, i64_w, i32_w]; rfl)
               refine zp 30 77 (v := ?_) (a' := ?_) (bm 44 2147483647) HT_.out (by kernel_rfl) ?_ ?_ ?_; rotate_left; (focus intro w'; go_simp; with_reducible rfl); rotate_left; (focus simp only [Act.put, zs1, zs2, zs3, i64_w, i32_w]; rfl)
               refine zp 31 78 (v := ?_) (a' := ?_) (bm 44 4294967295) HT_.out (by kernel_rfl) ?_ ?_ ?_; rotate_left; (focus intro w'; go_simp; with_reducible rfl); rotate_left; (focus simp only [Act.put, zs1, zs2, zs3, i64_w, i32_w]; rfl)
               refine zp 32 79 (v := ?_) (a' := ?_) (bm 44 8589934591) HT_.out (by kernel_rfl) ?_ ?_ ?_; rotate_left; (focus intro w'; go_simp; with_reducible rfl); rotate_left; (focus simp only [Act.put, zs1, zs2, zs3, i64_w, i32_w]; rfl)
               refine zp 33 80 (v := ?_) (a' := ?_) (bm 44 17179869183) HT_.out (by kernel_rfl) ?_ ?_ ?_; rotate_left; (focus intro w'; go_simp; with_reducible rfl); rotate_left; (focus simp only [Act.put, zs1, zs2, zs3, i64_w, i32_w]; rfl)
               refine zp 35 82 (v := ?_) (a' := ?_) (bm 44 51539607551) HT_.out (by kernel_rfl) ?_ ?_ ?_; rotate_left; (focus intro w'; go_simp; with_reducible rfl); rotate_left; (focus simp only [Act.put, zs1, zs2, zs3, i64_w, i32_w]; rfl)
               refine zp 36 83 (v := ?_) (a' := ?_) (bm 44 120259084287) HT_.out (by kernel_rfl) ?_ ?_ ?_; rotate_left; (focus intro w'; go_simp; with_reducible rfl); rotate_left; (focus simp only [Act.put, zs1, zs2, zs3, i64_w, i32_w]; rfl)
               refine zp 37 84 (v := ?_) (a' := ?_) (bm 44 257698037759) HT_.out (by kernel_rfl) ?_ ?_ ?_; rotate_left; (focus intro w'; go_simp; with_reducible rfl); rotate_left; (focus simp only [Act.put, zs1, zs2, zs3, i64_w, i32_w]; rfl)
               refine zp 38 85 (v := ?_) (a' := ?_) (bm 44 532575944703) HT_.out (by kernel_rfl) ?_ ?_ ?_; rotate_left; (focus intro w'; go_simp; with_reducible rfl); rotate_left; (focus simp only [Act.put, zs1, zs2, zs3, i64_w, i32_w]; rfl)
               refine take_ (i := 34) (N := some 81) (v := ?_) (a' := ?_) (bm 44 549755813887) rfl rfl (take_ofW HT_.out HW_.out (by kernel_rfl)) (fun _ _ _ h => h) (Or.inl ⟨by rfl, ?_⟩) hHeld ?_ ?_; rotate_left; (focus rintro w' ⟨s0, s1, s2, s3, s4, s5, s6, s7, s8, s9, s10, s11, s12, s13, s14, s15, s16, s17, s18, s19, s20, s21, s22, s23⟩; go_simp; with_reducible rfl); rotate_left; (focus simp only [Act.put, zs1, zs2, zs3, i64_w, i32_w]; rfl)
               refine take_ (i := 39) (N := some 86) (v := ?_) (a' := ?_) (bm 44 1099511627775) rfl rfl (take_ofW HT_.out HW_.out (by kernel_rfl)) (fun _ _ _ h => h) (Or.inl ⟨by rfl, ?_⟩) hHeld ?_ ?_; rotate_left; (focus rintro w' ⟨s0, s1, s2, s3, s4, s5, s6, s7, s8, s9, s10, s11, s12, s13, s14, s15, s16, s17, s18, s19, s20, s21, s22, s23⟩; go_simp; with_reducible rfl); rotate_left; (focus simp only [Act.put, zs1, zs2, zs3, i64_w, i32_w]; rfl)
               refine zp 40 87 (v := ?_) (a' := ?_) (bm 44 2199023255551) HT_.out (by kernel_rfl) ?_ ?_ ?_; rotate_left; (focus intro w'; go_simp; with_reducible rfl); rotate_left; (focus simp only [Act.put, zs1, zs2, zs3, i64_w, i32_w]; rfl)
               refine zp 41 88 (v := ?_) (a' := ?_) (bm 44 4398046511103) HT_.out (by kernel_rfl) ?_ ?_ ?_; rotate_left; (focus intro w'; go_simp; with_reducible rfl); rotate_left; (focus simp only [Act.put, zs1, zs2, zs3, i64_w, i32_w]; rfl)
               refine zp 42 89 (v := ?_) (a' := ?_) (bm 44 8796093022207) HT_.out (by kernel_rfl) ?_ ?_ ?_; rotate_left; (focus intro w'; go_simp; with_reducible rfl); rotate_left; (focus simp only [Act.put, zs1, zs2, zs3, i64_w, i32_w]; rfl)
               refine zp 43 90 (v := ?_) (a' := ?_) (bm 44 17592186044415) HT_.out (by kernel_rfl) ?_ ?_ ?_; rotate_left; (focus intro w'; go_simp; with_reducible rfl); rotate_left; (focus simp only [Act.put, zs1, zs2, zs3, i64_w, i32_w]; rfl)
               refine done_ (done_of HT_.out (by kernel_rfl)) ?_
               try go_wp2
               go_roundg k3
               case measure => have := HK1.out; have := HJ5.out; have := HK3.out; omega
               case rel => exact ⟨(ji20), (by first | rfl | (simp; done) | (simp only [← hji20] <;> (first | rfl | simp)) | (simp [*]; done)), H', ⟨by have := HK1.out; have := HJ5.out; have := HK3.out; omega⟩, ⟨by (with_reducible repeat (first | apply Kd.R_alloc | apply Kd.R_drewN | apply Kd.R_drew)); exact HO_7.out⟩, ⟨by (with_reducible repeat (first | refine blk_alloc ?_ _ | refine blk_drewN ?_ _ | refine blk_drew ?_)); exact BK236.out⟩, ⟨by apply_rules [HB.out, zb1, zb2, zb3, zb4, GE236.out]⟩⟩
              rw [if_neg c28] at H
              have c28b0 : decide (((rd_T49 l1 x8_1).f3) < ((rd_T49 x7_1 (ji20)).f3)) = false := decide_eq_false c28
              clear c28
              by_cases c30 : 0 ≤ x9_3
              ·rw [if_pos c30] at H
               have c30b0 := eq_true c30
               have c30b1 : decide (0 ≤ x9_3) = true := decide_eq_true c30
               clear c30
               by_cases c31 : x9_3 ≤ (x7_1.length : Int)
               ·rw [if_pos c31] at H
                have c31b0 := eq_true c31
                have c31b1 : decide (x9_3 ≤ (x7_1.length : Int)) = true := decide_eq_true c31
                clear c31
                obtain ⟨y248, hy248⟩ : ∃ y_ : List (S49), y_ = (x7_1.take (x9_3 : Int).toNat) := ⟨_, rfl⟩
                replace H : (if ([] : List (S49)).length + y248.length < 5864062014805 then ((some (([] : List (S49)) ++ y248 : List (S49))).bind fun y252 => (if y252.length < 5864062014805 then ((some (y252 ++ [(⟨(rd_T49 l1 x8_1).f0, (rd_T49 l1 x8_1).f1, (rd_T49 l1 x8_1).f2, (rd_T49 l1 x8_1).f3⟩ : S49)] : List (S49))).bind fun y256 => ((some (x7_1.drop (x9_3 : Int).toNat : List (S49))).bind fun y259 => (if y256.length + y259.length < 5864062014805 then (horariumref16_of.l0 k3 l1 a2 (y256 ++ y259) (wrap64 (x8_1 + 1)) a0_0 a0_1 a0_2) else (none)))) else (none))) else (none)) = some r := by first | (rw [hy248]; with_reducible exact H) | (have H2_ := (Option.bind_some _ _).symm.trans H; rw [hy248]; with_reducible exact H2_) | (have H2_ := (Option.bind_some _ _).symm.trans H; with_reducible exact H2_) | with_reducible exact H | (rw [hy248]; exact H) | exact H
                have Ny248 := zm hy248
                clear hy248
                by_cases c32 : ([] : List (S49)).length + y248.length < 5864062014805
                ·rw [if_pos c32] at H
                 have LMc32 := zm c32
                 clear c32
                 obtain ⟨y252, hy252⟩ : ∃ y_ : List (S49), y_ = (([] : List (S49)) ++ y248) := ⟨_, rfl⟩
                 replace H : (if y252.length < 5864062014805 then ((some (y252 ++ [(⟨(rd_T49 l1 x8_1).f0, (rd_T49 l1 x8_1).f1, (rd_T49 l1 x8_1).f2, (rd_T49 l1 x8_1).f3⟩ : S49)] : List (S49))).bind fun y256 => ((some (x7_1.drop (x9_3 : Int).toNat : List (S49))).bind fun y259 => (if y256.length + y259.length < 5864062014805 then (horariumref16_of.l0 k3 l1 a2 (y256 ++ y259) (wrap64 (x8_1 + 1)) a0_0 a0_1 a0_2) else (none)))) else (none)) = some r := by first | (rw [hy252]; with_reducible exact H) | (have H2_ := (Option.bind_some _ _).symm.trans H; rw [hy252]; with_reducible exact H2_) | (have H2_ := (Option.bind_some _ _).symm.trans H; with_reducible exact H2_) | with_reducible exact H | (rw [hy252]; exact H) | exact H
                 have Ny252 := zm hy252
                 clear hy252
                 by_cases c33 : y252.length < 5864062014805
                 ·rw [if_pos c33] at H
                  have LMc33 := zm c33
                  clear c33
                  obtain ⟨y256, hy256⟩ : ∃ y_ : List (S49), y_ = (y252 ++ [(⟨(rd_T49 l1 x8_1).f0, (rd_T49 l1 x8_1).f1, (rd_T49 l1 x8_1).f2, (rd_T49 l1 x8_1).f3⟩ : S49)]) := ⟨_, rfl⟩
                  replace H : ((some (x7_1.drop (x9_3 : Int).toNat : List (S49))).bind fun y259 => (if y256.length + y259.length < 5864062014805 then (horariumref16_of.l0 k3 l1 a2 (y256 ++ y259) (wrap64 (x8_1 + 1)) a0_0 a0_1 a0_2) else (none))) = some r := by first | (rw [hy256]; with_reducible exact H) | (have H2_ := (Option.bind_some _ _).symm.trans H; rw [hy256]; with_reducible exact H2_) | (have H2_ := (Option.bind_some _ _).symm.trans H; with_reducible exact H2_) | with_reducible exact H | (rw [hy256]; exact H) | exact H
                  have Ny256 := zm hy256
                  clear hy256
                  have c34b0 := eq_true (of_decide_eq_true (by first | (with_reducible assumption) | assumption) : 0 ≤ x9_3)
                  have c35b0 := eq_true (of_decide_eq_true (by first | (with_reducible assumption) | assumption) : x9_3 ≤ (x7_1.length : Int))
                  obtain ⟨y259, hy259⟩ : ∃ y_ : List (S49), y_ = (x7_1.drop (x9_3 : Int).toNat) := ⟨_, rfl⟩
                  replace H : (if y256.length + y259.length < 5864062014805 then (horariumref16_of.l0 k3 l1 a2 (y256 ++ y259) (wrap64 (x8_1 + 1)) a0_0 a0_1 a0_2) else (none)) = some r := by first | (rw [hy259]; with_reducible exact H) | (have H2_ := (Option.bind_some _ _).symm.trans H; rw [hy259]; with_reducible exact H2_) | (have H2_ := (Option.bind_some _ _).symm.trans H; with_reducible exact H2_) | with_reducible exact H | (rw [hy259]; exact H) | exact H
                  have Ny259 := zm hy259
                  clear hy259
                  by_cases c36 : y256.length + y259.length < 5864062014805
                  ·rw [if_pos c36] at H
                   have LMc36 := zm c36
                   clear c36
                   obtain ⟨y263, hy263⟩ : ∃ y_ : List (S49), y_ = (y256 ++ y259) := ⟨_, rfl⟩
                   replace H : (horariumref16_of.l0 k3 l1 a2 y263 (wrap64 (x8_1 + 1)) a0_0 a0_1 a0_2) = some r := by first | (rw [hy263]; with_reducible exact H) | (have H2_ := (Option.bind_some _ _).symm.trans H; rw [hy263]; with_reducible exact H2_) | (have H2_ := (Option.bind_some _ _).symm.trans H; with_reducible exact H2_) | with_reducible exact H | (rw [hy263]; exact H) | exact H
                   have Ny263 := zm hy263
                   clear hy263
                   have H' := zm H
                   clear H
                   try go_wp2
                   have n0_ := zm (Kd.R_drew HO_7.out)
                   have n1_ := zm (blk_drew BK236.out)
                   have n2_ := zm (below_drew1 HB.out)
                   clear HO_7
                   clear BK236
                   clear HB
                   have HO_7 := n0_
                   have BK236 := n1_
                   have HB := n2_
                   clear n0_ n1_ n2_
                   have p242 : 0 ≤ ((ji20) : Int) := of_decide_eq_true (by first | (with_reducible assumption) | assumption)
                   have q242 : (ji20) < (x7_1.length : Int) := of_decide_eq_true (by first | (with_reducible assumption) | assumption)
                   obtain ⟨ad242, e242, hx242_0, hx242_1, hx242_2, hx242_3⟩ := at_T49 (Kd.R_reads' HO_7.out).2.2 (ji20) p242 q242
                   cases e242
                   replace p242 := eq_true p242
                   replace q242 := eq_true q242
                   have p243 : 0 ≤ (x8_1 : Int) := of_decide_eq_true (by first | (with_reducible assumption) | assumption)
                   have q243 : x8_1 < (l1.length : Int) := of_decide_eq_true (by first | (with_reducible assumption) | assumption)
                   obtain ⟨ad243, e243, hx243_0, hx243_1, hx243_2, hx243_3⟩ := at_T49 HR1.out x8_1 p243 q243
                   have hw243_3 := hx243_3
                   have hw243_2 := hx243_2
                   have hw243_1 := hx243_1
                   have hw243_0 := hx243_0
                   cases e243
                   (try (replace hx243_0 := (HB.out.cell (World.block_lt_of_cell? w _ hx243_0)).trans hx243_0))
                   (try (replace hx243_1 := (HB.out.cell (World.block_lt_of_cell? w _ hx243_1)).trans hx243_1))
                   (try (replace hx243_2 := (HB.out.cell (World.block_lt_of_cell? w _ hx243_2)).trans hx243_2))
                   (try (replace hx243_3 := (HB.out.cell (World.block_lt_of_cell? w _ hx243_3)).trans hx243_3))
                   replace p243 := eq_true p243
                   replace q243 := eq_true q243
                   have p244 : 0 ≤ ((ji20) : Int) := of_decide_eq_true (by first | (with_reducible assumption) | assumption)
                   have q244 : (ji20) < (x7_1.length : Int) := of_decide_eq_true (by first | (with_reducible assumption) | assumption)
                   obtain ⟨ad244, e244, hx244_0, hx244_1, hx244_2, hx244_3⟩ := at_T49 (Kd.R_reads' HO_7.out).2.2 (ji20) p244 q244
                   obtain rfl : ad242 = ad244 := (by injection e244)
                   replace p244 := eq_true p244
                   replace q244 := eq_true q244
                   have p245 : 0 ≤ (x8_1 : Int) := of_decide_eq_true (by first | (with_reducible assumption) | assumption)
                   have q245 : x8_1 < (l1.length : Int) := of_decide_eq_true (by first | (with_reducible assumption) | assumption)
                   obtain ⟨ad245, e245, hx245_0, hx245_1, hx245_2, hx245_3⟩ := at_T49 HR1.out x8_1 p245 q245
                   have hw245_3 := hx245_3
                   have hw245_2 := hx245_2
                   have hw245_1 := hx245_1
                   have hw245_0 := hx245_0
                   obtain rfl : ad243 = ad245 := (by injection e245)
                   (try (replace hx245_0 := (HB.out.cell (World.block_lt_of_cell? w _ hx245_0)).trans hx245_0))
                   (try (replace hx245_1 := (HB.out.cell (World.block_lt_of_cell? w _ hx245_1)).trans hx245_1))
                   (try (replace hx245_2 := (HB.out.cell (World.block_lt_of_cell? w _ hx245_2)).trans hx245_2))
                   (try (replace hx245_3 := (HB.out.cell (World.block_lt_of_cell? w _ hx245_3)).trans hx245_3))
                   replace p245 := eq_true p245
                   replace q245 := eq_true q245
                   have p246 : 0 ≤ ((ji20) : Int) := of_decide_eq_true (by first | (with_reducible assumption) | assumption)
                   have q246 : (ji20) < (x7_1.length : Int) := of_decide_eq_true (by first | (with_reducible assumption) | assumption)
                   obtain ⟨ad246, e246, hx246_0, hx246_1, hx246_2, hx246_3⟩ := at_T49 (Kd.R_reads' HO_7.out).2.2 (ji20) p246 q246
                   obtain rfl : ad242 = ad246 := (by injection e246)
                   replace p246 := eq_true p246
                   replace q246 := eq_true q246
                   have p247 : 0 ≤ (x8_1 : Int) := of_decide_eq_true (by first | (with_reducible assumption) | assumption)
                   have q247 : x8_1 < (l1.length : Int) := of_decide_eq_true (by first | (with_reducible assumption) | assumption)
                   obtain ⟨ad247, e247, hx247_0, hx247_1, hx247_2, hx247_3⟩ := at_T49 HR1.out x8_1 p247 q247
                   have hw247_3 := hx247_3
                   have hw247_2 := hx247_2
                   have hw247_1 := hx247_1
                   have hw247_0 := hx247_0
                   obtain rfl : ad243 = ad247 := (by injection e247)
                   (try (replace hx247_0 := (HB.out.cell (World.block_lt_of_cell? w _ hx247_0)).trans hx247_0))
                   (try (replace hx247_1 := (HB.out.cell (World.block_lt_of_cell? w _ hx247_1)).trans hx247_1))
                   (try (replace hx247_2 := (HB.out.cell (World.block_lt_of_cell? w _ hx247_2)).trans hx247_2))
                   (try (replace hx247_3 := (HB.out.cell (World.block_lt_of_cell? w _ hx247_3)).trans hx247_3))
                   replace p247 := eq_true p247
                   replace q247 := eq_true q247
                   refine start_ (n := 44) (S := fun w' => w'.cell? (ad242.add (((ji20)).toNat * 4)) = some (.int .u32 ((rd_T49 x7_1 (ji20)).f0)) ∧ w'.cell? ⟨(ad242.add (((ji20)).toNat * 4)).block, (ad242.add (((ji20)).toNat * 4)).off + 1, none⟩ = some (.int .u8 ((rd_T49 x7_1 (ji20)).f1)) ∧ w'.cell? ⟨(ad242.add (((ji20)).toNat * 4)).block, (ad242.add (((ji20)).toNat * 4)).off + 2, none⟩ = some (.int .i64 ((rd_T49 x7_1 (ji20)).f2)) ∧ w'.cell? ⟨(ad242.add (((ji20)).toNat * 4)).block, (ad242.add (((ji20)).toNat * 4)).off + 3, none⟩ = some (.int .i64 ((rd_T49 x7_1 (ji20)).f3)) ∧ w'.cell? (ad243.add ((x8_1).toNat * 4)) = some (.int .u32 ((rd_T49 l1 x8_1).f0)) ∧ w'.cell? ⟨(ad243.add ((x8_1).toNat * 4)).block, (ad243.add ((x8_1).toNat * 4)).off + 1, none⟩ = some (.int .u8 ((rd_T49 l1 x8_1).f1)) ∧ w'.cell? ⟨(ad243.add ((x8_1).toNat * 4)).block, (ad243.add ((x8_1).toNat * 4)).off + 2, none⟩ = some (.int .i64 ((rd_T49 l1 x8_1).f2)) ∧ w'.cell? ⟨(ad243.add ((x8_1).toNat * 4)).block, (ad243.add ((x8_1).toNat * 4)).off + 3, none⟩ = some (.int .i64 ((rd_T49 l1 x8_1).f3)) ∧ w'.cell? (ad242.add (((ji20)).toNat * 4)) = some (.int .u32 ((rd_T49 x7_1 (ji20)).f0)) ∧ w'.cell? ⟨(ad242.add (((ji20)).toNat * 4)).block, (ad242.add (((ji20)).toNat * 4)).off + 1, none⟩ = some (.int .u8 ((rd_T49 x7_1 (ji20)).f1)) ∧ w'.cell? ⟨(ad242.add (((ji20)).toNat * 4)).block, (ad242.add (((ji20)).toNat * 4)).off + 2, none⟩ = some (.int .i64 ((rd_T49 x7_1 (ji20)).f2)) ∧ w'.cell? ⟨(ad242.add (((ji20)).toNat * 4)).block, (ad242.add (((ji20)).toNat * 4)).off + 3, none⟩ = some (.int .i64 ((rd_T49 x7_1 (ji20)).f3)) ∧ w'.cell? (ad243.add ((x8_1).toNat * 4)) = some (.int .u32 ((rd_T49 l1 x8_1).f0)) ∧ w'.cell? ⟨(ad243.add ((x8_1).toNat * 4)).block, (ad243.add ((x8_1).toNat * 4)).off + 1, none⟩ = some (.int .u8 ((rd_T49 l1 x8_1).f1)) ∧ w'.cell? ⟨(ad243.add ((x8_1).toNat * 4)).block, (ad243.add ((x8_1).toNat * 4)).off + 2, none⟩ = some (.int .i64 ((rd_T49 l1 x8_1).f2)) ∧ w'.cell? ⟨(ad243.add ((x8_1).toNat * 4)).block, (ad243.add ((x8_1).toNat * 4)).off + 3, none⟩ = some (.int .i64 ((rd_T49 l1 x8_1).f3)) ∧ w'.cell? (ad242.add (((ji20)).toNat * 4)) = some (.int .u32 ((rd_T49 x7_1 (ji20)).f0)) ∧ w'.cell? ⟨(ad242.add (((ji20)).toNat * 4)).block, (ad242.add (((ji20)).toNat * 4)).off + 1, none⟩ = some (.int .u8 ((rd_T49 x7_1 (ji20)).f1)) ∧ w'.cell? ⟨(ad242.add (((ji20)).toNat * 4)).block, (ad242.add (((ji20)).toNat * 4)).off + 2, none⟩ = some (.int .i64 ((rd_T49 x7_1 (ji20)).f2)) ∧ w'.cell? ⟨(ad242.add (((ji20)).toNat * 4)).block, (ad242.add (((ji20)).toNat * 4)).off + 3, none⟩ = some (.int .i64 ((rd_T49 x7_1 (ji20)).f3)) ∧ w'.cell? (ad243.add ((x8_1).toNat * 4)) = some (.int .u32 ((rd_T49 l1 x8_1).f0)) ∧ w'.cell? ⟨(ad243.add ((x8_1).toNat * 4)).block, (ad243.add ((x8_1).toNat * 4)).off + 1, none⟩ = some (.int .u8 ((rd_T49 l1 x8_1).f1)) ∧ w'.cell? ⟨(ad243.add ((x8_1).toNat * 4)).block, (ad243.add ((x8_1).toNat * 4)).off + 2, none⟩ = some (.int .i64 ((rd_T49 l1 x8_1).f2)) ∧ w'.cell? ⟨(ad243.add ((x8_1).toNat * 4)).block, (ad243.add ((x8_1).toNat * 4)).off + 3, none⟩ = some (.int .i64 ((rd_T49 l1 x8_1).f3))) (ds := []) #[false, false, false, false, false, false, false, false, false, false, false, false, false, false, false, false, false, false, false, false, false, false, false, false, false, false, false, false, false, false, false, false, false, false, false, false, false, false, false, false, false, false, false, false] (by kernel_rfl) rfl rfl ⟨hx242_0, hx242_1, hx242_2, hx242_3, ((HB.out.cell (World.block_lt_of_cell? w _ hw243_0)).trans hw243_0), ((HB.out.cell (World.block_lt_of_cell? w _ hw243_1)).trans hw243_1), ((HB.out.cell (World.block_lt_of_cell? w _ hw243_2)).trans hw243_2), ((HB.out.cell (World.block_lt_of_cell? w _ hw243_3)).trans hw243_3), hx244_0, hx244_1, hx244_2, hx244_3, ((HB.out.cell (World.block_lt_of_cell? w _ hw245_0)).trans hw245_0), ((HB.out.cell (World.block_lt_of_cell? w _ hw245_1)).trans hw245_1), ((HB.out.cell (World.block_lt_of_cell? w _ hw245_2)).trans hw245_2), ((HB.out.cell (World.block_lt_of_cell? w _ hw245_3)).trans hw245_3), hx246_0, hx246_1, hx246_2, hx246_3, ((HB.out.cell (World.block_lt_of_cell? w _ hw247_0)).trans hw247_0), ((HB.out.cell (World.block_lt_of_cell? w _ hw247_1)).trans hw247_1), ((HB.out.cell (World.block_lt_of_cell? w _ hw247_2)).trans hw247_2), ((HB.out.cell (World.block_lt_of_cell? w _ hw247_3)).trans hw247_3)⟩ (fun hHeld => ?_); refine with_tabW horariumref16_of.tab7 horariumref16_of.bits7 (fun HT_ HW_ => ?_)
                   generalize wr.drew = w37 at HO_7 BK236 HB hx242_0 hx242_1 hx242_2 hx242_3 hx243_0 hx243_1 hx243_2 hx243_3 hx244_0 hx244_1 hx244_2 hx244_3 hx245_0 hx245_1 hx245_2 hx245_3 hx246_0 hx246_1 hx246_2 hx246_3 hx247_0 hx247_1 hx247_2 hx247_3 hHeld ⊢
                   refine zp 0 47 (v := ?_) (a' := ?_) (bm 44 1) HT_.out (by kernel_rfl) ?_ ?_ ?_; rotate_left; (focus intro w'; go_simp; with_reducible rfl); rotate_left; (focus simp only [Act.put, zs1, zs2, zs3, i64_w, i32_w]; rfl)
                   refine zp 1 48 (v := ?_) (a' := ?_) (bm 44 3) HT_.out (by kernel_rfl) ?_ ?_ ?_; rotate_left; (focus intro w'; go_simp; with_reducible rfl); rotate_left; (focus simp only [Act.put, zs1, zs2, zs3, i64_w, i32_w]; rfl)
                   refine zp 2 49 (v := ?_) (a' := ?_) (bm 44 7) HT_.out (by kernel_rfl) ?_ ?_ ?_; rotate_left; (focus intro w'; go_simp; with_reducible rfl); rotate_left; (focus simp only [Act.put, zs1, zs2, zs3, i64_w, i32_w]; rfl)
                   refine zp 3 50 (v := ?_) (a' := ?_) (bm 44 15) HT_.out (by kernel_rfl) ?_ ?_ ?_; rotate_left; (focus intro w'; go_simp; with_reducible rfl); rotate_left; (focus simp only [Act.put, zs1, zs2, zs3, i64_w, i32_w]; rfl)
                   refine zp 4 51 (v := ?_) (a' := ?_) (bm 44 31) HT_.out (by kernel_rfl) ?_ ?_ ?_; rotate_left; (focus intro w'; go_simp; with_reducible rfl); rotate_left; (focus simp only [Act.put, zs1, zs2, zs3, i64_w, i32_w]; rfl)
                   refine zp 5 52 (v := ?_) (a' := ?_) (bm 44 63) HT_.out (by kernel_rfl) ?_ ?_ ?_; rotate_left; (focus intro w'; go_simp; with_reducible rfl); rotate_left; (focus simp only [Act.put, zs1, zs2, zs3, i64_w, i32_w]; rfl)
                   refine zp 6 53 (v := ?_) (a' := ?_) (bm 44 127) HT_.out (by kernel_rfl) ?_ ?_ ?_; rotate_left; (focus intro w'; go_simp; with_reducible rfl); rotate_left; (focus simp only [Act.put, zs1, zs2, zs3, i64_w, i32_w]; rfl)
                   refine zp 7 54 (v := ?_) (a' := ?_) (bm 44 255) HT_.out (by kernel_rfl) ?_ ?_ ?_; rotate_left; (focus intro w'; go_simp; with_reducible rfl); rotate_left; (focus simp only [Act.put, zs1, zs2, zs3, i64_w, i32_w]; rfl)
                   refine zp 9 56 (v := ?_) (a' := ?_) (bm 44 767) HT_.out (by kernel_rfl) ?_ ?_ ?_; rotate_left; (focus intro w'; go_simp; with_reducible rfl); rotate_left; (focus simp only [Act.put, zs1, zs2, zs3, i64_w, i32_w]; rfl)
                   refine zp 10 57 (v := ?_) (a' := ?_) (bm 44 1791) HT_.out (by kernel_rfl) ?_ ?_ ?_; rotate_left; (focus intro w'; go_simp; with_reducible rfl); rotate_left; (focus simp only [Act.put, zs1, zs2, zs3, i64_w, i32_w]; rfl)
                   refine zp 11 58 (v := ?_) (a' := ?_) (bm 44 3839) HT_.out (by kernel_rfl) ?_ ?_ ?_; rotate_left; (focus intro w'; go_simp; with_reducible rfl); rotate_left; (focus simp only [Act.put, zs1, zs2, zs3, i64_w, i32_w]; rfl)
                   refine zp 12 59 (v := ?_) (a' := ?_) (bm 44 7935) HT_.out (by kernel_rfl) ?_ ?_ ?_; rotate_left; (focus intro w'; go_simp; with_reducible rfl); rotate_left; (focus simp only [Act.put, zs1, zs2, zs3, i64_w, i32_w]; rfl)
                   refine take_ (i := 8) (N := some 55) (v := ?_) (a' := ?_) (bm 44 8191) rfl rfl (take_ofW HT_.out HW_.out (by kernel_rfl)) (fun _ _ _ h => h) (Or.inl ⟨by rfl, ?_⟩) hHeld ?_ ?_; rotate_left; (focus rintro w' ⟨s0, s1, s2, s3, s4, s5, s6, s7, s8, s9, s10, s11, s12, s13, s14, s15, s16, s17, s18, s19, s20, s21, s22, s23⟩; go_simp; with_reducible rfl); rotate_left; (focus simp only [Act.put, zs1, zs2, zs3, i64_w, i32_w]; rfl)
                   refine take_ (i := 13) (N := some 60) (v := ?_) (a' := ?_) (bm 44 16383) rfl rfl (take_ofW HT_.out HW_.out (by kernel_rfl)) (fun _ _ _ h => h) (Or.inl ⟨by rfl, ?_⟩) hHeld ?_ ?_; rotate_left; (focus rintro w' ⟨s0, s1, s2, s3, s4, s5, s6, s7, s8, s9, s10, s11, s12, s13, s14, s15, s16, s17, s18, s19, s20, s21, s22, s23⟩; go_simp; with_reducible rfl); rotate_left; (focus simp only [Act.put, zs1, zs2, zs3, i64_w, i32_w]; rfl)
                   refine zp 14 61 (v := ?_) (a' := ?_) (bm 44 32767) HT_.out (by kernel_rfl) ?_ ?_ ?_; rotate_left; (focus intro w'; go_simp; with_reducible rfl); rotate_left; (focus simp only [Act.put, zs1, zs2, zs3, i64_w, i32_w]; rfl)
                   refine zp 15 62 (v := ?_) (a' := ?_) (bm 44 65535) HT_.out (by kernel_rfl) ?_ ?_ ?_; rotate_left; (focus intro w'; go_simp; with_reducible rfl); rotate_left; (focus simp only [Act.put, zs1, zs2, zs3, i64_w, i32_w]; rfl)
                   refine zp 16 63 (v := ?_) (a' := ?_) (bm 44 131071) HT_.out (by kernel_rfl) ?_ ?_ ?_; rotate_left; (focus intro w'; go_simp; with_reducible rfl); rotate_left; (focus simp only [Act.put, zs1, zs2, zs3, i64_w, i32_w]; rfl)
                   refine zp 17 64 (v := ?_) (a' := ?_) (bm 44 262143) HT_.out (by kernel_rfl) ?_ ?_ ?_; rotate_left; (focus intro w'; go_simp; with_reducible rfl); rotate_left; (focus simp only [Act.put, zs1, zs2, zs3, i64_w, i32_w]; rfl)
                   refine zp 18 65 (v := ?_) (a' := ?_) (bm 44 524287) HT_.out (by kernel_rfl) ?_ ?_ ?_; rotate_left; (focus intro w'; go_simp; with_reducible rfl); rotate_left; (focus simp only [Act.put, zs1, zs2, zs3, i64_w, i32_w]; rfl)
                   refine zp 19 66 (v := ?_) (a' := ?_) (bm 44 1048575) HT_.out (by kernel_rfl) ?_ ?_ ?_; rotate_left; (focus intro w'; go_simp; with_reducible rfl); rotate_left; (focus simp only [Act.put, zs1, zs2, zs3, i64_w, i32_w]; rfl)
                   refine zp 20 67 (v := ?_) (a' := ?_) (bm 44 2097151) HT_.out (by kernel_rfl) ?_ ?_ ?_; rotate_left; (focus intro w'; go_simp; with_reducible rfl); rotate_left; (focus simp only [Act.put, zs1, zs2, zs3, i64_w, i32_w]; rfl)
                   refine zp 22 69 (v := ?_) (a' := ?_) (bm 44 6291455) HT_.out (by kernel_rfl) ?_ ?_ ?_; rotate_left; (focus intro w'; go_simp; with_reducible rfl); rotate_left; (focus simp only [Act.put, zs1, zs2, zs3, i64_w, i32_w]; rfl)
                   refine zp 23 70 (v := ?_) (a' := ?_) (bm 44 14680063) HT_.out (by kernel_rfl) ?_ ?_ ?_; rotate_left; (focus intro w'; go_simp; with_reducible rfl); rotate_left; (focus simp only [Act.put, zs1, zs2, zs3, i64_w, i32_w]; rfl)
                   refine zp 24 71 (v := ?_) (a' := ?_) (bm 44 31457279) HT_.out (by kernel_rfl) ?_ ?_ ?_; rotate_left; (focus intro w'; go_simp; with_reducible rfl); rotate_left; (focus simp only [Act.put, zs1, zs2, zs3, i64_w, i32_w]; rfl)
                   refine zp 25 72 (v := ?_) (a' := ?_) (bm 44 65011711) HT_.out (by kernel_rfl) ?_ ?_ ?_; rotate_left; (focus intro w'; go_simp; with_reducible rfl); rotate_left; (focus simp only [Act.put, zs1, zs2, zs3, i64_w, i32_w]; rfl)
                   refine take_ (i := 21) (N := some 68) (v := ?_) (a' := ?_) (bm 44 67108863) rfl rfl (take_ofW HT_.out HW_.out (by kernel_rfl)) (fun _ _ _ h => h) (Or.inl ⟨by rfl, ?_⟩) hHeld ?_ ?_; rotate_left; (focus rintro w' ⟨s0, s1, s2, s3, s4, s5, s6, s7, s8, s9, s10, s11, s12, s13, s14, s15, s16, s17, s18, s19, s20, s21, s22, s23⟩; go_simp; with_reducible rfl); rotate_left; (focus simp only [Act.put, zs1, zs2, zs3, i64_w, i32_w]; rfl)
                   refine take_ (i := 26) (N := some 73) (v := ?_) (a' := ?_) (bm 44 134217727) rfl rfl (take_ofW HT_.out HW_.out (by kernel_rfl)) (fun _ _ _ h => h) (Or.inl ⟨by rfl, ?_⟩) hHeld ?_ ?_; rotate_left; (focus rintro w' ⟨s0, s1, s2, s3, s4, s5, s6, s7, s8, s9, s10, s11, s12, s13, s14, s15, s16, s17, s18, s19, s20, s21, s22, s23⟩; go_simp; with_reducible rfl); rotate_left; (focus simp only [Act.put, zs1, zs2, zs3, i64_w, i32_w]; rfl)
                   refine zp 27 74 (v := ?_) (a' := ?_) (bm 44 268435455) HT_.out (by kernel_rfl) ?_ ?_ ?_; rotate_left; (focus intro w'; go_simp; with_reducible rfl); rotate_left; (focus simp only [Act.put, zs1, zs2, zs3, i64_w, i32_w]; rfl)
                   refine zp 28 75 (v := ?_) (a' := ?_) (bm 44 536870911) HT_.out (by kernel_rfl) ?_ ?_ ?_; rotate_left; (focus intro w'; go_simp; with_reducible rfl); rotate_left; (focus simp only [Act.put, zs1, zs2, zs3, i64_w, i32_w]; rfl)
                   refine zp 29 76 (v := ?_) (a' := ?_) (bm 44 1073741823) HT_.out (by kernel_rfl) ?_ ?_ ?_; rotate_left; (focus intro w'; go_simp; with_reducible rfl); rotate_left; (focus simp only [Act.put, zs1, zs2, zs3, i64_w, i32_w]; rfl)
                   refine zp 30 77 (v := ?_) (a' := ?_) (bm 44 2147483647) HT_.out (by kernel_rfl) ?_ ?_ ?_; rotate_left; (focus intro w'; go_simp; with_reducible rfl); rotate_left; (focus simp only [Act.put, zs1, zs2, zs3, i64_w, i32_w]; rfl)
                   refine zp 31 78 (v := ?_) (a' := ?_) (bm 44 4294967295) HT_.out (by kernel_rfl) ?_ ?_ ?_; rotate_left; (focus intro w'; go_simp; with_reducible rfl); rotate_left; (focus simp only [Act.put, zs1, zs2, zs3, i64_w, i32_w]; rfl)
                   refine zp 32 79 (v := ?_) (a' := ?_) (bm 44 8589934591) HT_.out (by kernel_rfl) ?_ ?_ ?_; rotate_left; (focus intro w'; go_simp; with_reducible rfl); rotate_left; (focus simp only [Act.put, zs1, zs2, zs3, i64_w, i32_w]; rfl)
                   refine zp 33 80 (v := ?_) (a' := ?_) (bm 44 17179869183) HT_.out (by kernel_rfl) ?_ ?_ ?_; rotate_left; (focus intro w'; go_simp; with_reducible rfl); rotate_left; (focus simp only [Act.put, zs1, zs2, zs3, i64_w, i32_w]; rfl)
                   refine zp 35 82 (v := ?_) (a' := ?_) (bm 44 51539607551) HT_.out (by kernel_rfl) ?_ ?_ ?_; rotate_left; (focus intro w'; go_simp; with_reducible rfl); rotate_left; (focus simp only [Act.put, zs1, zs2, zs3, i64_w, i32_w]; rfl)
                   refine zp 36 83 (v := ?_) (a' := ?_) (bm 44 120259084287) HT_.out (by kernel_rfl) ?_ ?_ ?_; rotate_left; (focus intro w'; go_simp; with_reducible rfl); rotate_left; (focus simp only [Act.put, zs1, zs2, zs3, i64_w, i32_w]; rfl)
                   refine zp 37 84 (v := ?_) (a' := ?_) (bm 44 257698037759) HT_.out (by kernel_rfl) ?_ ?_ ?_; rotate_left; (focus intro w'; go_simp; with_reducible rfl); rotate_left; (focus simp only [Act.put, zs1, zs2, zs3, i64_w, i32_w]; rfl)
                   refine zp 38 85 (v := ?_) (a' := ?_) (bm 44 532575944703) HT_.out (by kernel_rfl) ?_ ?_ ?_; rotate_left; (focus intro w'; go_simp; with_reducible rfl); rotate_left; (focus simp only [Act.put, zs1, zs2, zs3, i64_w, i32_w]; rfl)
                   refine take_ (i := 34) (N := some 81) (v := ?_) (a' := ?_) (bm 44 549755813887) rfl rfl (take_ofW HT_.out HW_.out (by kernel_rfl)) (fun _ _ _ h => h) (Or.inl ⟨by rfl, ?_⟩) hHeld ?_ ?_; rotate_left; (focus rintro w' ⟨s0, s1, s2, s3, s4, s5, s6, s7, s8, s9, s10, s11, s12, s13, s14, s15, s16, s17, s18, s19, s20, s21, s22, s23⟩; go_simp; with_reducible rfl); rotate_left; (focus simp only [Act.put, zs1, zs2, zs3, i64_w, i32_w]; rfl)
                   refine take_ (i := 39) (N := some 86) (v := ?_) (a' := ?_) (bm 44 1099511627775) rfl rfl (take_ofW HT_.out HW_.out (by kernel_rfl)) (fun _ _ _ h => h) (Or.inl ⟨by rfl, ?_⟩) hHeld ?_ ?_; rotate_left; (focus rintro w' ⟨s0, s1, s2, s3, s4, s5, s6, s7, s8, s9, s10, s11, s12, s13, s14, s15, s16, s17, s18, s19, s20, s21, s22, s23⟩; go_simp; with_reducible rfl); rotate_left; (focus simp only [Act.put, zs1, zs2, zs3, i64_w, i32_w]; rfl)
                   refine zp 40 87 (v := ?_) (a' := ?_) (bm 44 2199023255551) HT_.out (by kernel_rfl) ?_ ?_ ?_; rotate_left; (focus intro w'; go_simp; with_reducible rfl); rotate_left; (focus simp only [Act.put, zs1, zs2, zs3, i64_w, i32_w]; rfl)
                   refine zp 41 88 (v := ?_) (a' := ?_) (bm 44 4398046511103) HT_.out (by kernel_rfl) ?_ ?_ ?_; rotate_left; (focus intro w'; go_simp; with_reducible rfl); rotate_left; (focus simp only [Act.put, zs1, zs2, zs3, i64_w, i32_w]; rfl)
                   refine zp 42 89 (v := ?_) (a' := ?_) (bm 44 8796093022207) HT_.out (by kernel_rfl) ?_ ?_ ?_; rotate_left; (focus intro w'; go_simp; with_reducible rfl); rotate_left; (focus simp only [Act.put, zs1, zs2, zs3, i64_w, i32_w]; rfl)
                   refine zp 43 90 (v := ?_) (a' := ?_) (bm 44 17592186044415) HT_.out (by kernel_rfl) ?_ ?_ ?_; rotate_left; (focus intro w'; go_simp; with_reducible rfl); rotate_left; (focus simp only [Act.put, zs1, zs2, zs3, i64_w, i32_w]; rfl)
                   refine done_ (done_of HT_.out (by kernel_rfl)) ?_
                   have q38 : (x9_3 : Int) ≤ ((x7_1.length : Int) : Int) := of_decide_eq_true (by first | (with_reducible assumption) | assumption)
                   obtain ⟨i038, hi038, _, hsz38, _⟩ := info_parts info49
                   have hroom38 : x7_1.length ≤ co18 := (Kd.R_reads' HO_7.out).2.1
                   have hC38 : Kd.C k49 _ (some ad242) x7_1.length x7_1 := (Kd.R_reads' HO_7.out).2.2
                   have hcut38 := cut_to (P := Try.prog) 26 49 .i64 Try.underlying26 hi038 (some ad242) x7_1.length co18 x9_3 (of_decide_eq_true (by first | (with_reducible assumption) | assumption)) q38 hroom38
                   have hr38 := Kd.C_take (m := (x9_3 : Int).toNat) hC38 (by omega)
                   have hy38 : y248.length = (x9_3 : Int).toNat := (by rw [Ny248.out, List.length_take]; omega)
                   rw [← Ny248.out] at hr38
                   rw [← hy38] at hcut38
                   have HR251 := zm hr38
                   have HC251 := zm (show y248.length ≤ co18 from by omega)
                   clear hr38 hC38 hroom38 hi038 hsz38
                   have KY38 := zm hy38
                   clear hy38
                   have KL38 := zm (show (x9_3 : Int).toNat ≤ x7_1.length from by omega)
                   replace q38 := eq_true q38
                   try go_wp2_with (first | ((with_reducible refine gate_builtin (b := .append) (xs := #[.tmp 93, .tmp 96]) rfl ?_); at_builtin; refine Kd.R_append_rows k49 (w0 := w) w.heap.size rfl (.tmp 93) (.tmp 96) 26 49 (.agg #[(.int .u32 0), (.int .u8 0), (.int .i64 0), (.int .i64 0)]) 24 rfl Try.underlying26 info49 rfl (by decide) (by omega) (.slice none 0 0) ([] : List (S49)) y248 _ _ _ (fun k_ => some k_ ≠ (.slice (some ad242) x7_1.length co18 : Value).ownBlock) (fun _ => False) rfl rfl ?aO ?aR (fun _ _ h => h) (fun _ h => h.elim) ?aF ?aB ?aS ?aL ?_; (case aR => repeat (first | exact (by repeat (first | (with_reducible exact HR251.out) | (with_reducible refine Kd.C_alloc ?_ _) | (with_reducible refine Kd.C_drewN ?_ _) | (with_reducible refine Kd.C_drew ?_) | exact HR251.out)) | (with_reducible refine Kd.C_alloc ?_ _) | (with_reducible refine Kd.C_drewN ?_ _) | (with_reducible refine Kd.C_drew ?_))); (case aB => exact (by apply_rules [HB.out, zb1, zb2, zb3, zb4, GE236.out])); (case aF => exact (fun k_ hk => Kd.fresh' (Kd.R_lt (by apply_rules [HO_7.out, Kd.R_alloc, Kd.R_drewN, Kd.R_drew])) k_ hk)); (case aO => exact ((Kd.R_nil _ _ _ _ (fun k_ => some k_ ≠ (.slice (some ad242) x7_1.length co18 : Value).ownBlock)))); (case aS => exact (below_size (by apply_rules [HB.out, zb1, zb2, zb3, zb4, GE236.out]))); (case aL => have := LMc32.out; omega); intro v253 w39 ho hb hg hat; rw [← Ny252.out] at ho; have n0_ := zm (Kd.R_after (Kd.R_apart_nil (by apply_rules [HO_7.out, Kd.R_alloc, Kd.R_drewN, Kd.R_drew])) hg hat); have n1_ := zm (blk_grown (by apply_rules [BK236.out, zk1, zk2, zk3]) hg (by simp [Value.ownBlock])); have n2_ := zm (hb); have n3_ := zm ((show Kd.C k49 w39 (some ad242) y248.length y248 from by rw [Ny248.out]; exact Kd.C_take (m := (x9_3 : Int).toNat) ((Kd.R_reads' (Kd.R_after (Kd.R_apart_nil (by apply_rules [HO_7.out, Kd.R_alloc, Kd.R_drewN, Kd.R_drew])) hg hat)).2.2) KL38.out)); have n4_ := zm (ho); clear HO_7; clear BK236; clear HB; clear HR251; have HO_7 := n0_; have BK236 := n1_; have HB := n2_; have HR251 := n3_; have HO254 := n4_; clear n0_ n1_ n2_ n3_ n4_; clear ho hb hg hat; have p255 : 0 ≤ (x8_1 : Int) := of_decide_eq_true (by first | (with_reducible assumption) | assumption); have q255 : x8_1 < (l1.length : Int) := of_decide_eq_true (by first | (with_reducible assumption) | assumption); obtain ⟨ad255, e255, hx255_0, hx255_1, hx255_2, hx255_3⟩ := at_T49 HR1.out x8_1 p255 q255; obtain rfl : ad243 = ad255 := (by injection e255); replace hx255_0 := (HB.out.cell (World.block_lt_of_cell? w _ hx255_0)).trans hx255_0; replace hx255_1 := (HB.out.cell (World.block_lt_of_cell? w _ hx255_1)).trans hx255_1; replace hx255_2 := (HB.out.cell (World.block_lt_of_cell? w _ hx255_2)).trans hx255_2; replace hx255_3 := (HB.out.cell (World.block_lt_of_cell? w _ hx255_3)).trans hx255_3; replace p255 := eq_true p255; replace q255 := eq_true q255) | ((with_reducible refine gate_builtin (b := .append) (xs := #[.tmp 98, .tmp 103]) rfl ?_); at_builtin; refine Kd.R_append k49 (w0 := w) w.heap.size rfl (.tmp 98) (.tmp 103) 26 49 (.agg #[(.int .u32 0), (.int .u8 0), (.int .i64 0), (.int .i64 0)]) 24 rfl Try.underlying26 info49 rfl (by decide) (by omega) v253 y252 (⟨(rd_T49 l1 x8_1).f0, (rd_T49 l1 x8_1).f1, (rd_T49 l1 x8_1).f2, (rd_T49 l1 x8_1).f3⟩ : S49) [.int .u32 ((rd_T49 l1 x8_1).f0), .int .u8 ((rd_T49 l1 x8_1).f1), .int .i64 ((rd_T49 l1 x8_1).f2), .int .i64 ((rd_T49 l1 x8_1).f3)] (fun k_ => some k_ ≠ (.slice (some ad242) x7_1.length co18 : Value).ownBlock) (fun _ => False) rfl rfl ?aP (fun _ hk => hk.elim) ?aF ?aO ?aB ?aS ?aL ?_; (case aP => exact k49_mkM _ _ _ (⟨(rd_T49 l1 x8_1).f0, (rd_T49 l1 x8_1).f1, (rd_T49 l1 x8_1).f2, (rd_T49 l1 x8_1).f3⟩ : S49)); (case aB => exact (by apply_rules [HB.out, zb1, zb2, zb3, zb4, GE236.out])); (case aF => exact (fun k_ hk => Kd.fresh' (Kd.R_lt (by apply_rules [HO_7.out, Kd.R_alloc, Kd.R_drewN, Kd.R_drew])) k_ hk)); (case aO => exact (by apply_rules [HO254.out, Kd.R_alloc, Kd.R_drewN, Kd.R_drew])); (case aS => exact (below_size (by apply_rules [HB.out, zb1, zb2, zb3, zb4, GE236.out]))); (case aL => have := LMc33.out; omega); intro v257 w40 ho hb hg hat; rw [← Ny256.out] at ho; have n0_ := zm (Kd.R_after (ok := (fun _ => True)) (by apply_rules [HO_7.out, Kd.R_alloc, Kd.R_drewN, Kd.R_drew]) hg hat); have n1_ := zm (blk_grown (by apply_rules [BK236.out, zk1, zk2, zk3]) hg (Kd.R_ne HO254.out BK236.out (by decide))); have n2_ := zm (hb); have n3_ := zm ((show Kd.C k49 w40 (some ad242) y248.length y248 from by rw [Ny248.out]; exact Kd.C_take (m := (x9_3 : Int).toNat) ((Kd.R_reads' (Kd.R_after (ok := (fun _ => True)) (by apply_rules [HO_7.out, Kd.R_alloc, Kd.R_drewN, Kd.R_drew]) hg hat)).2.2) KL38.out)); have n4_ := zm (ho); clear HO_7; clear BK236; clear HB; clear HR251; clear HO254; have HO_7 := n0_; have BK236 := n1_; have HB := n2_; have HR251 := n3_; have HO258 := n4_; clear n0_ n1_ n2_ n3_ n4_; clear ho hb hg hat; have q41 : (x9_3 : Int) ≤ ((x7_1.length : Int) : Int) := of_decide_eq_true (by first | (with_reducible assumption) | assumption); obtain ⟨i041, hi041, _, hsz41, _⟩ := info_parts info49; have hroom41 : x7_1.length ≤ co18 := (Kd.R_reads' HO_7.out).2.1; have hC41 : Kd.C k49 _ (some ad242) x7_1.length x7_1 := (Kd.R_reads' HO_7.out).2.2; have q041 : (0 : Int) ≤ (x9_3 : Int) := of_decide_eq_true (by first | (with_reducible assumption) | assumption); have hcut41 := cut_from (P := Try.prog) 26 49 .i64 Try.underlying26 hi041 4 hsz41 (some ad242) x7_1.length co18 x9_3 q041 q41; have hr41 := Kd.C_drop (m := (x9_3 : Int).toNat) (c := co18) hC41 (by omega) hroom41; obtain ⟨A41, hA41⟩ : ∃ A1, A1 = (if co18 = (x9_3 : Int).toNat then (some ad242) else ((some ad242) : Option Addr).map (·.add ((x9_3 : Int).toNat * 4))) := ⟨_, rfl⟩; obtain ⟨c41, hc41⟩ : ∃ c1, c1 = co18 - (x9_3 : Int).toNat := ⟨_, rfl⟩; have hy41 : y259.length = x7_1.length - (x9_3 : Int).toNat := (by rw [Ny259.out, List.length_drop] <;> omega); rw [show (x7_1).drop (x9_3 : Int).toNat = y259 from Ny259.out.symm] at hr41; replace hr41 : Kd.C k49 _ A41 y259.length y259 := (by rw [hA41]; exact hr41); rw [← hy41, ← hA41, ← hc41] at hcut41; have HR262 := zm hr41; have HC262 := zm (show y259.length ≤ c41 from by rw [hy41, hc41]; exact Nat.sub_le_sub_right hroom41 _); clear hr41 hC41 hroom41 hi041 hsz41 hc41; have KY41 := zm hy41; have KA41 := zm hA41; clear hy41 hA41; have KL41 := zm (show (x9_3 : Int).toNat ≤ x7_1.length from by omega); replace q41 := eq_true q41) | ((with_reducible refine gate_builtin (b := .append) (xs := #[.tmp 105, .tmp 108]) rfl ?_); at_builtin; refine Kd.R_append_rows k49 (w0 := w) w.heap.size rfl (.tmp 105) (.tmp 108) 26 49 (.agg #[(.int .u32 0), (.int .u8 0), (.int .i64 0), (.int .i64 0)]) 24 rfl Try.underlying26 info49 rfl (by decide) (by omega) v257 y256 y259 _ _ _ (fun k_ => some k_ ≠ (.slice (some ad242) x7_1.length co18 : Value).ownBlock) (fun _ => False) rfl rfl ?aO ?aR (fun _ _ h => h) (fun _ h => h.elim) ?aF ?aB ?aS ?aL ?_; (case aR => repeat (first | exact (by repeat (first | (with_reducible exact HR262.out) | (with_reducible refine Kd.C_alloc ?_ _) | (with_reducible refine Kd.C_drewN ?_ _) | (with_reducible refine Kd.C_drew ?_) | exact HR262.out)) | (with_reducible refine Kd.C_alloc ?_ _) | (with_reducible refine Kd.C_drewN ?_ _) | (with_reducible refine Kd.C_drew ?_))); (case aB => exact (by apply_rules [HB.out, zb1, zb2, zb3, zb4, GE236.out])); (case aF => exact (fun k_ hk => Kd.fresh' (Kd.R_lt (by apply_rules [HO_7.out, Kd.R_alloc, Kd.R_drewN, Kd.R_drew])) k_ hk)); (case aO => exact (by apply_rules [HO258.out, Kd.R_alloc, Kd.R_drewN, Kd.R_drew])); (case aS => exact (below_size (by apply_rules [HB.out, zb1, zb2, zb3, zb4, GE236.out]))); (case aL => have := LMc36.out; omega); intro v264 w42 ho hb hg hat; rw [← Ny263.out] at ho; have n0_ := zm (Kd.R_after (ok := (fun _ => True)) (by apply_rules [HO_7.out, Kd.R_alloc, Kd.R_drewN, Kd.R_drew]) hg hat); have n1_ := zm (blk_grown (by apply_rules [BK236.out, zk1, zk2, zk3]) hg (Kd.R_ne HO258.out BK236.out (by decide))); have n2_ := zm (hb); have n3_ := zm ((show Kd.C k49 w42 (some ad242) y248.length y248 from by rw [Ny248.out]; exact Kd.C_take (m := (x9_3 : Int).toNat) ((Kd.R_reads' (Kd.R_after (ok := (fun _ => True)) (by apply_rules [HO_7.out, Kd.R_alloc, Kd.R_drewN, Kd.R_drew]) hg hat)).2.2) KL38.out)); have n4_ := zm ((show Kd.C k49 w42 A41 y259.length y259 from by rw [Ny259.out, KA41.out]; exact Kd.C_drop (m := (x9_3 : Int).toNat) (c := co18) ((Kd.R_reads' (Kd.R_after (ok := (fun _ => True)) (by apply_rules [HO_7.out, Kd.R_alloc, Kd.R_drewN, Kd.R_drew]) hg hat)).2.2) KL41.out ((Kd.R_reads' (Kd.R_after (ok := (fun _ => True)) (by apply_rules [HO_7.out, Kd.R_alloc, Kd.R_drewN, Kd.R_drew]) hg hat)).2.1))); have n5_ := zm (ho); clear HO_7; clear BK236; clear HB; clear HR251; clear HR262; clear HO258; have HO_7 := n0_; have BK236 := n1_; have HB := n2_; have HR251 := n3_; have HR262 := n4_; have HO265 := n5_; clear n0_ n1_ n2_ n3_ n4_ n5_; clear ho hb hg hat))
                   go_roundg k3
                   case measure => have := HK1.out; have := HJ5.out; have := HK3.out; omega
                   case rel => exact ⟨(y263), (wrap64 (x8_1 + 1)), (by first | rfl | (simp; done) | (simp [*]; done)), H', ⟨by have := HK1.out; have := HJ5.out; have := HK3.out; omega⟩, ⟨by (with_reducible repeat (first | apply Kd.R_alloc | apply Kd.R_drewN | apply Kd.R_drew)); exact Kd.R_mono HO265.out (fun _ hk => trivial)⟩, ⟨by (with_reducible repeat (first | refine blk_alloc ?_ _ | refine blk_drewN ?_ _ | refine blk_drew ?_)); exact BK236.out⟩, ⟨by apply_rules [HB.out, zb1, zb2, zb3, zb4, GE236.out]⟩⟩
                  rw [if_neg c36] at H
                  exact absurd H (by simp)
                 rw [if_neg c33] at H
                 exact absurd H (by simp)
                rw [if_neg c32] at H
                exact absurd H (by simp)
               rw [if_neg c31] at H
               exact absurd H (by simp)
              rw [if_neg c30] at H
              exact absurd H (by simp)
             rw [if_neg c27] at H
             have c27b0 : (((rd_T49 x7_1 (ji20)).f2) == ((rd_T49 l1 x8_1).f2)) = false := beq_eq_false_iff_ne.mpr c27
             have c27b1 : (((rd_T49 x7_1 (ji20)).f2) != ((rd_T49 l1 x8_1).f2)) = true := bne_iff_ne.mpr c27
             by_cases c43 : 0 ≤ x9_3
             ·rw [if_pos c43] at H
              have c43b0 := eq_true c43
              have c43b1 : decide (0 ≤ x9_3) = true := decide_eq_true c43
              clear c43
              by_cases c44 : x9_3 ≤ (x7_1.length : Int)
              ·rw [if_pos c44] at H
               have c44b0 := eq_true c44
               have c44b1 : decide (x9_3 ≤ (x7_1.length : Int)) = true := decide_eq_true c44
               clear c44
               obtain ⟨y266, hy266⟩ : ∃ y_ : List (S49), y_ = (x7_1.take (x9_3 : Int).toNat) := ⟨_, rfl⟩
               replace H : (if ([] : List (S49)).length + y266.length < 5864062014805 then ((some (([] : List (S49)) ++ y266 : List (S49))).bind fun y270 => (if y270.length < 5864062014805 then ((some (y270 ++ [(⟨(rd_T49 l1 x8_1).f0, (rd_T49 l1 x8_1).f1, (rd_T49 l1 x8_1).f2, (rd_T49 l1 x8_1).f3⟩ : S49)] : List (S49))).bind fun y274 => ((some (x7_1.drop (x9_3 : Int).toNat : List (S49))).bind fun y277 => (if y274.length + y277.length < 5864062014805 then (horariumref16_of.l0 k3 l1 a2 (y274 ++ y277) (wrap64 (x8_1 + 1)) a0_0 a0_1 a0_2) else (none)))) else (none))) else (none)) = some r := by first | (rw [hy266]; with_reducible exact H) | (have H2_ := (Option.bind_some _ _).symm.trans H; rw [hy266]; with_reducible exact H2_) | (have H2_ := (Option.bind_some _ _).symm.trans H; with_reducible exact H2_) | with_reducible exact H | (rw [hy266]; exact H) | exact H
               have Ny266 := zm hy266
               clear hy266
               by_cases c45 : ([] : List (S49)).length + y266.length < 5864062014805
               ·rw [if_pos c45] at H
                have LMc45 := zm c45
                clear c45
                obtain ⟨y270, hy270⟩ : ∃ y_ : List (S49), y_ = (([] : List (S49)) ++ y266) := ⟨_, rfl⟩
                replace H : (if y270.length < 5864062014805 then ((some (y270 ++ [(⟨(rd_T49 l1 x8_1).f0, (rd_T49 l1 x8_1).f1, (rd_T49 l1 x8_1).f2, (rd_T49 l1 x8_1).f3⟩ : S49)] : List (S49))).bind fun y274 => ((some (x7_1.drop (x9_3 : Int).toNat : List (S49))).bind fun y277 => (if y274.length + y277.length < 5864062014805 then (horariumref16_of.l0 k3 l1 a2 (y274 ++ y277) (wrap64 (x8_1 + 1)) a0_0 a0_1 a0_2) else (none)))) else (none)) = some r := by first | (rw [hy270]; with_reducible exact H) | (have H2_ := (Option.bind_some _ _).symm.trans H; rw [hy270]; with_reducible exact H2_) | (have H2_ := (Option.bind_some _ _).symm.trans H; with_reducible exact H2_) | with_reducible exact H | (rw [hy270]; exact H) | exact H
                have Ny270 := zm hy270
                clear hy270
                by_cases c46 : y270.length < 5864062014805
                ·rw [if_pos c46] at H
                 have LMc46 := zm c46
                 clear c46
                 obtain ⟨y274, hy274⟩ : ∃ y_ : List (S49), y_ = (y270 ++ [(⟨(rd_T49 l1 x8_1).f0, (rd_T49 l1 x8_1).f1, (rd_T49 l1 x8_1).f2, (rd_T49 l1 x8_1).f3⟩ : S49)]) := ⟨_, rfl⟩
                 replace H : ((some (x7_1.drop (x9_3 : Int).toNat : List (S49))).bind fun y277 => (if y274.length + y277.length < 5864062014805 then (horariumref16_of.l0 k3 l1 a2 (y274 ++ y277) (wrap64 (x8_1 + 1)) a0_0 a0_1 a0_2) else (none))) = some r := by first | (rw [hy274]; with_reducible exact H) | (have H2_ := (Option.bind_some _ _).symm.trans H; rw [hy274]; with_reducible exact H2_) | (have H2_ := (Option.bind_some _ _).symm.trans H; with_reducible exact H2_) | with_reducible exact H | (rw [hy274]; exact H) | exact H
                 have Ny274 := zm hy274
                 clear hy274
                 have c47b0 := eq_true (of_decide_eq_true (by first | (with_reducible assumption) | assumption) : 0 ≤ x9_3)
                 have c48b0 := eq_true (of_decide_eq_true (by first | (with_reducible assumption) | assumption) : x9_3 ≤ (x7_1.length : Int))
                 obtain ⟨y277, hy277⟩ : ∃ y_ : List (S49), y_ = (x7_1.drop (x9_3 : Int).toNat) := ⟨_, rfl⟩
                 replace H : (if y274.length + y277.length < 5864062014805 then (horariumref16_of.l0 k3 l1 a2 (y274 ++ y277) (wrap64 (x8_1 + 1)) a0_0 a0_1 a0_2) else (none)) = some r := by first | (rw [hy277]; with_reducible exact H) | (have H2_ := (Option.bind_some _ _).symm.trans H; rw [hy277]; with_reducible exact H2_) | (have H2_ := (Option.bind_some _ _).symm.trans H; with_reducible exact H2_) | with_reducible exact H | (rw [hy277]; exact H) | exact H
                 have Ny277 := zm hy277
                 clear hy277
                 by_cases c49 : y274.length + y277.length < 5864062014805
                 ·rw [if_pos c49] at H
                  have LMc49 := zm c49
                  clear c49
                  obtain ⟨y281, hy281⟩ : ∃ y_ : List (S49), y_ = (y274 ++ y277) := ⟨_, rfl⟩
                  replace H : (horariumref16_of.l0 k3 l1 a2 y281 (wrap64 (x8_1 + 1)) a0_0 a0_1 a0_2) = some r := by first | (rw [hy281]; with_reducible exact H) | (have H2_ := (Option.bind_some _ _).symm.trans H; rw [hy281]; with_reducible exact H2_) | (have H2_ := (Option.bind_some _ _).symm.trans H; with_reducible exact H2_) | with_reducible exact H | (rw [hy281]; exact H) | exact H
                  have Ny281 := zm hy281
                  clear hy281
                  have H' := zm H
                  clear H
                  try go_wp2
                  have n0_ := zm (Kd.R_drew HO_7.out)
                  have n1_ := zm (blk_drew BK236.out)
                  have n2_ := zm (below_drew1 HB.out)
                  clear HO_7
                  clear BK236
                  clear HB
                  have HO_7 := n0_
                  have BK236 := n1_
                  have HB := n2_
                  clear n0_ n1_ n2_
                  have p242 : 0 ≤ ((ji20) : Int) := of_decide_eq_true (by first | (with_reducible assumption) | assumption)
                  have q242 : (ji20) < (x7_1.length : Int) := of_decide_eq_true (by first | (with_reducible assumption) | assumption)
                  obtain ⟨ad242, e242, hx242_0, hx242_1, hx242_2, hx242_3⟩ := at_T49 (Kd.R_reads' HO_7.out).2.2 (ji20) p242 q242
                  cases e242
                  replace p242 := eq_true p242
                  replace q242 := eq_true q242
                  have p243 : 0 ≤ (x8_1 : Int) := of_decide_eq_true (by first | (with_reducible assumption) | assumption)
                  have q243 : x8_1 < (l1.length : Int) := of_decide_eq_true (by first | (with_reducible assumption) | assumption)
                  obtain ⟨ad243, e243, hx243_0, hx243_1, hx243_2, hx243_3⟩ := at_T49 HR1.out x8_1 p243 q243
                  have hw243_3 := hx243_3
                  have hw243_2 := hx243_2
                  have hw243_1 := hx243_1
                  have hw243_0 := hx243_0
                  cases e243
                  (try (replace hx243_0 := (HB.out.cell (World.block_lt_of_cell? w _ hx243_0)).trans hx243_0))
                  (try (replace hx243_1 := (HB.out.cell (World.block_lt_of_cell? w _ hx243_1)).trans hx243_1))
                  (try (replace hx243_2 := (HB.out.cell (World.block_lt_of_cell? w _ hx243_2)).trans hx243_2))
                  (try (replace hx243_3 := (HB.out.cell (World.block_lt_of_cell? w _ hx243_3)).trans hx243_3))
                  replace p243 := eq_true p243
                  replace q243 := eq_true q243
                  have p244 : 0 ≤ ((ji20) : Int) := of_decide_eq_true (by first | (with_reducible assumption) | assumption)
                  have q244 : (ji20) < (x7_1.length : Int) := of_decide_eq_true (by first | (with_reducible assumption) | assumption)
                  obtain ⟨ad244, e244, hx244_0, hx244_1, hx244_2, hx244_3⟩ := at_T49 (Kd.R_reads' HO_7.out).2.2 (ji20) p244 q244
                  obtain rfl : ad242 = ad244 := (by injection e244)
                  replace p244 := eq_true p244
                  replace q244 := eq_true q244
                  have p245 : 0 ≤ (x8_1 : Int) := of_decide_eq_true (by first | (with_reducible assumption) | assumption)
                  have q245 : x8_1 < (l1.length : Int) := of_decide_eq_true (by first | (with_reducible assumption) | assumption)
                  obtain ⟨ad245, e245, hx245_0, hx245_1, hx245_2, hx245_3⟩ := at_T49 HR1.out x8_1 p245 q245
                  have hw245_3 := hx245_3
                  have hw245_2 := hx245_2
                  have hw245_1 := hx245_1
                  have hw245_0 := hx245_0
                  obtain rfl : ad243 = ad245 := (by injection e245)
                  (try (replace hx245_0 := (HB.out.cell (World.block_lt_of_cell? w _ hx245_0)).trans hx245_0))
                  (try (replace hx245_1 := (HB.out.cell (World.block_lt_of_cell? w _ hx245_1)).trans hx245_1))
                  (try (replace hx245_2 := (HB.out.cell (World.block_lt_of_cell? w _ hx245_2)).trans hx245_2))
                  (try (replace hx245_3 := (HB.out.cell (World.block_lt_of_cell? w _ hx245_3)).trans hx245_3))
                  replace p245 := eq_true p245
                  replace q245 := eq_true q245
                  refine start_ (n := 44) (S := fun w' => w'.cell? (ad242.add (((ji20)).toNat * 4)) = some (.int .u32 ((rd_T49 x7_1 (ji20)).f0)) ∧ w'.cell? ⟨(ad242.add (((ji20)).toNat * 4)).block, (ad242.add (((ji20)).toNat * 4)).off + 1, none⟩ = some (.int .u8 ((rd_T49 x7_1 (ji20)).f1)) ∧ w'.cell? ⟨(ad242.add (((ji20)).toNat * 4)).block, (ad242.add (((ji20)).toNat * 4)).off + 2, none⟩ = some (.int .i64 ((rd_T49 x7_1 (ji20)).f2)) ∧ w'.cell? ⟨(ad242.add (((ji20)).toNat * 4)).block, (ad242.add (((ji20)).toNat * 4)).off + 3, none⟩ = some (.int .i64 ((rd_T49 x7_1 (ji20)).f3)) ∧ w'.cell? (ad243.add ((x8_1).toNat * 4)) = some (.int .u32 ((rd_T49 l1 x8_1).f0)) ∧ w'.cell? ⟨(ad243.add ((x8_1).toNat * 4)).block, (ad243.add ((x8_1).toNat * 4)).off + 1, none⟩ = some (.int .u8 ((rd_T49 l1 x8_1).f1)) ∧ w'.cell? ⟨(ad243.add ((x8_1).toNat * 4)).block, (ad243.add ((x8_1).toNat * 4)).off + 2, none⟩ = some (.int .i64 ((rd_T49 l1 x8_1).f2)) ∧ w'.cell? ⟨(ad243.add ((x8_1).toNat * 4)).block, (ad243.add ((x8_1).toNat * 4)).off + 3, none⟩ = some (.int .i64 ((rd_T49 l1 x8_1).f3)) ∧ w'.cell? (ad242.add (((ji20)).toNat * 4)) = some (.int .u32 ((rd_T49 x7_1 (ji20)).f0)) ∧ w'.cell? ⟨(ad242.add (((ji20)).toNat * 4)).block, (ad242.add (((ji20)).toNat * 4)).off + 1, none⟩ = some (.int .u8 ((rd_T49 x7_1 (ji20)).f1)) ∧ w'.cell? ⟨(ad242.add (((ji20)).toNat * 4)).block, (ad242.add (((ji20)).toNat * 4)).off + 2, none⟩ = some (.int .i64 ((rd_T49 x7_1 (ji20)).f2)) ∧ w'.cell? ⟨(ad242.add (((ji20)).toNat * 4)).block, (ad242.add (((ji20)).toNat * 4)).off + 3, none⟩ = some (.int .i64 ((rd_T49 x7_1 (ji20)).f3)) ∧ w'.cell? (ad243.add ((x8_1).toNat * 4)) = some (.int .u32 ((rd_T49 l1 x8_1).f0)) ∧ w'.cell? ⟨(ad243.add ((x8_1).toNat * 4)).block, (ad243.add ((x8_1).toNat * 4)).off + 1, none⟩ = some (.int .u8 ((rd_T49 l1 x8_1).f1)) ∧ w'.cell? ⟨(ad243.add ((x8_1).toNat * 4)).block, (ad243.add ((x8_1).toNat * 4)).off + 2, none⟩ = some (.int .i64 ((rd_T49 l1 x8_1).f2)) ∧ w'.cell? ⟨(ad243.add ((x8_1).toNat * 4)).block, (ad243.add ((x8_1).toNat * 4)).off + 3, none⟩ = some (.int .i64 ((rd_T49 l1 x8_1).f3))) (ds := []) #[false, false, false, false, false, false, false, false, false, false, false, false, false, false, false, false, false, false, false, false, false, false, false, false, false, false, false, false, false, false, false, false, false, false, false, false, false, false, false, false, false, false, false, false] (by kernel_rfl) rfl rfl ⟨hx242_0, hx242_1, hx242_2, hx242_3, ((HB.out.cell (World.block_lt_of_cell? w _ hw243_0)).trans hw243_0), ((HB.out.cell (World.block_lt_of_cell? w _ hw243_1)).trans hw243_1), ((HB.out.cell (World.block_lt_of_cell? w _ hw243_2)).trans hw243_2), ((HB.out.cell (World.block_lt_of_cell? w _ hw243_3)).trans hw243_3), hx244_0, hx244_1, hx244_2, hx244_3, ((HB.out.cell (World.block_lt_of_cell? w _ hw245_0)).trans hw245_0), ((HB.out.cell (World.block_lt_of_cell? w _ hw245_1)).trans hw245_1), ((HB.out.cell (World.block_lt_of_cell? w _ hw245_2)).trans hw245_2), ((HB.out.cell (World.block_lt_of_cell? w _ hw245_3)).trans hw245_3)⟩ (fun hHeld => ?_); refine with_tabW horariumref16_of.tab7 horariumref16_of.bits7 (fun HT_ HW_ => ?_)
                  generalize wr.drew = w50 at HO_7 BK236 HB hx242_0 hx242_1 hx242_2 hx242_3 hx243_0 hx243_1 hx243_2 hx243_3 hx244_0 hx244_1 hx244_2 hx244_3 hx245_0 hx245_1 hx245_2 hx245_3 hHeld ⊢
                  refine zp 0 47 (v := ?_) (a' := ?_) (bm 44 1) HT_.out (by kernel_rfl) ?_ ?_ ?_; rotate_left; (focus intro w'; go_simp; with_reducible rfl); rotate_left; (focus simp only [Act.put, zs1, zs2, zs3, i64_w, i32_w]; rfl)
                  refine zp 1 48 (v := ?_) (a' := ?_) (bm 44 3) HT_.out (by kernel_rfl) ?_ ?_ ?_; rotate_left; (focus intro w'; go_simp; with_reducible rfl); rotate_left; (focus simp only [Act.put, zs1, zs2, zs3, i64_w, i32_w]; rfl)
                  refine zp 2 49 (v := ?_) (a' := ?_) (bm 44 7) HT_.out (by kernel_rfl) ?_ ?_ ?_; rotate_left; (focus intro w'; go_simp; with_reducible rfl); rotate_left; (focus simp only [Act.put, zs1, zs2, zs3, i64_w, i32_w]; rfl)
                  refine zp 3 50 (v := ?_) (a' := ?_) (bm 44 15) HT_.out (by kernel_rfl) ?_ ?_ ?_; rotate_left; (focus intro w'; go_simp; with_reducible rfl); rotate_left; (focus simp only [Act.put, zs1, zs2, zs3, i64_w, i32_w]; rfl)
                  refine zp 4 51 (v := ?_) (a' := ?_) (bm 44 31) HT_.out (by kernel_rfl) ?_ ?_ ?_; rotate_left; (focus intro w'; go_simp; with_reducible rfl); rotate_left; (focus simp only [Act.put, zs1, zs2, zs3, i64_w, i32_w]; rfl)
                  refine zp 5 52 (v := ?_) (a' := ?_) (bm 44 63) HT_.out (by kernel_rfl) ?_ ?_ ?_; rotate_left; (focus intro w'; go_simp; with_reducible rfl); rotate_left; (focus simp only [Act.put, zs1, zs2, zs3, i64_w, i32_w]; rfl)
                  refine zp 6 53 (v := ?_) (a' := ?_) (bm 44 127) HT_.out (by kernel_rfl) ?_ ?_ ?_; rotate_left; (focus intro w'; go_simp; with_reducible rfl); rotate_left; (focus simp only [Act.put, zs1, zs2, zs3, i64_w, i32_w]; rfl)
                  refine zp 7 54 (v := ?_) (a' := ?_) (bm 44 255) HT_.out (by kernel_rfl) ?_ ?_ ?_; rotate_left; (focus intro w'; go_simp; with_reducible rfl); rotate_left; (focus simp only [Act.put, zs1, zs2, zs3, i64_w, i32_w]; rfl)
                  refine zp 9 56 (v := ?_) (a' := ?_) (bm 44 767) HT_.out (by kernel_rfl) ?_ ?_ ?_; rotate_left; (focus intro w'; go_simp; with_reducible rfl); rotate_left; (focus simp only [Act.put, zs1, zs2, zs3, i64_w, i32_w]; rfl)
                  refine zp 10 57 (v := ?_) (a' := ?_) (bm 44 1791) HT_.out (by kernel_rfl) ?_ ?_ ?_; rotate_left; (focus intro w'; go_simp; with_reducible rfl); rotate_left; (focus simp only [Act.put, zs1, zs2, zs3, i64_w, i32_w]; rfl)
                  refine zp 11 58 (v := ?_) (a' := ?_) (bm 44 3839) HT_.out (by kernel_rfl) ?_ ?_ ?_; rotate_left; (focus intro w'; go_simp; with_reducible rfl); rotate_left; (focus simp only [Act.put, zs1, zs2, zs3, i64_w, i32_w]; rfl)
                  refine zp 12 59 (v := ?_) (a' := ?_) (bm 44 7935) HT_.out (by kernel_rfl) ?_ ?_ ?_; rotate_left; (focus intro w'; go_simp; with_reducible rfl); rotate_left; (focus simp only [Act.put, zs1, zs2, zs3, i64_w, i32_w]; rfl)
                  refine take_ (i := 8) (N := some 55) (v := ?_) (a' := ?_) (bm 44 8191) rfl rfl (take_ofW HT_.out HW_.out (by kernel_rfl)) (fun _ _ _ h => h) (Or.inl ⟨by rfl, ?_⟩) hHeld ?_ ?_; rotate_left; (focus rintro w' ⟨s0, s1, s2, s3, s4, s5, s6, s7, s8, s9, s10, s11, s12, s13, s14, s15⟩; go_simp; with_reducible rfl); rotate_left; (focus simp only [Act.put, zs1, zs2, zs3, i64_w, i32_w]; rfl)
                  refine take_ (i := 13) (N := some 60) (v := ?_) (a' := ?_) (bm 44 16383) rfl rfl (take_ofW HT_.out HW_.out (by kernel_rfl)) (fun _ _ _ h => h) (Or.inl ⟨by rfl, ?_⟩) hHeld ?_ ?_; rotate_left; (focus rintro w' ⟨s0, s1, s2, s3, s4, s5, s6, s7, s8, s9, s10, s11, s12, s13, s14, s15⟩; go_simp; with_reducible rfl); rotate_left; (focus simp only [Act.put, zs1, zs2, zs3, i64_w, i32_w]; rfl)
                  refine zp 14 61 (v := ?_) (a' := ?_) (bm 44 32767) HT_.out (by kernel_rfl) ?_ ?_ ?_; rotate_left; (focus intro w'; go_simp; with_reducible rfl); rotate_left; (focus simp only [Act.put, zs1, zs2, zs3, i64_w, i32_w]; rfl)
                  refine zp 15 62 (v := ?_) (a' := ?_) (bm 44 65535) HT_.out (by kernel_rfl) ?_ ?_ ?_; rotate_left; (focus intro w'; go_simp; with_reducible rfl); rotate_left; (focus simp only [Act.put, zs1, zs2, zs3, i64_w, i32_w]; rfl)
                  refine zp 16 63 (v := ?_) (a' := ?_) (bm 44 131071) HT_.out (by kernel_rfl) ?_ ?_ ?_; rotate_left; (focus intro w'; go_simp; with_reducible rfl); rotate_left; (focus simp only [Act.put, zs1, zs2, zs3, i64_w, i32_w]; rfl)
                  refine zp 17 64 (v := ?_) (a' := ?_) (bm 44 262143) HT_.out (by kernel_rfl) ?_ ?_ ?_; rotate_left; (focus intro w'; go_simp; with_reducible rfl); rotate_left; (focus simp only [Act.put, zs1, zs2, zs3, i64_w, i32_w]; rfl)
                  refine zp 18 65 (v := ?_) (a' := ?_) (bm 44 524287) HT_.out (by kernel_rfl) ?_ ?_ ?_; rotate_left; (focus intro w'; go_simp; with_reducible rfl); rotate_left; (focus simp only [Act.put, zs1, zs2, zs3, i64_w, i32_w]; rfl)
                  refine zp 19 66 (v := ?_) (a' := ?_) (bm 44 1048575) HT_.out (by kernel_rfl) ?_ ?_ ?_; rotate_left; (focus intro w'; go_simp; with_reducible rfl); rotate_left; (focus simp only [Act.put, zs1, zs2, zs3, i64_w, i32_w]; rfl)
                  refine zp 20 67 (v := ?_) (a' := ?_) (bm 44 2097151) HT_.out (by kernel_rfl) ?_ ?_ ?_; rotate_left; (focus intro w'; go_simp; with_reducible rfl); rotate_left; (focus simp only [Act.put, zs1, zs2, zs3, i64_w, i32_w]; rfl)
                  refine zp 22 69 (v := ?_) (a' := ?_) (bm 44 6291455) HT_.out (by kernel_rfl) ?_ ?_ ?_; rotate_left; (focus intro w'; go_simp; with_reducible rfl); rotate_left; (focus simp only [Act.put, zs1, zs2, zs3, i64_w, i32_w]; rfl)
                  refine zp 23 70 (v := ?_) (a' := ?_) (bm 44 14680063) HT_.out (by kernel_rfl) ?_ ?_ ?_; rotate_left; (focus intro w'; go_simp; with_reducible rfl); rotate_left; (focus simp only [Act.put, zs1, zs2, zs3, i64_w, i32_w]; rfl)
                  refine zp 24 71 (v := ?_) (a' := ?_) (bm 44 31457279) HT_.out (by kernel_rfl) ?_ ?_ ?_; rotate_left; (focus intro w'; go_simp; with_reducible rfl); rotate_left; (focus simp only [Act.put, zs1, zs2, zs3, i64_w, i32_w]; rfl)
                  refine zp 25 72 (v := ?_) (a' := ?_) (bm 44 65011711) HT_.out (by kernel_rfl) ?_ ?_ ?_; rotate_left; (focus intro w'; go_simp; with_reducible rfl); rotate_left; (focus simp only [Act.put, zs1, zs2, zs3, i64_w, i32_w]; rfl)
                  refine take_ (i := 21) (N := some 68) (v := ?_) (a' := ?_) (bm 44 67108863) rfl rfl (take_ofW HT_.out HW_.out (by kernel_rfl)) (fun _ _ _ h => h) (Or.inl ⟨by rfl, ?_⟩) hHeld ?_ ?_; rotate_left; (focus rintro w' ⟨s0, s1, s2, s3, s4, s5, s6, s7, s8, s9, s10, s11, s12, s13, s14, s15⟩; go_simp; with_reducible rfl); rotate_left; (focus simp only [Act.put, zs1, zs2, zs3, i64_w, i32_w]; rfl)
                  refine take_ (i := 26) (N := some 73) (v := ?_) (a' := ?_) (bm 44 134217727) rfl rfl (take_ofW HT_.out HW_.out (by kernel_rfl)) (fun _ _ _ h => h) (Or.inl ⟨by rfl, ?_⟩) hHeld ?_ ?_; rotate_left; (focus rintro w' ⟨s0, s1, s2, s3, s4, s5, s6, s7, s8, s9, s10, s11, s12, s13, s14, s15⟩; go_simp; with_reducible rfl); rotate_left; (focus simp only [Act.put, zs1, zs2, zs3, i64_w, i32_w]; rfl)
                  refine zp 27 74 (v := ?_) (a' := ?_) (bm 44 268435455) HT_.out (by kernel_rfl) ?_ ?_ ?_; rotate_left; (focus intro w'; go_simp; with_reducible rfl); rotate_left; (focus simp only [Act.put, zs1, zs2, zs3, i64_w, i32_w]; rfl)
                  refine zp 28 75 (v := ?_) (a' := ?_) (bm 44 536870911) HT_.out (by kernel_rfl) ?_ ?_ ?_; rotate_left; (focus intro w'; go_simp; with_reducible rfl); rotate_left; (focus simp only [Act.put, zs1, zs2, zs3, i64_w, i32_w]; rfl)
                  refine pure_ (i := 29) (N := some 76) (v := undef) (a' := ?_) (bm 44 1073741823) rfl rfl (any_of HT_.out (by kernel_rfl)) (fun _ _ _ h => h) (Or.inr ⟨by rfl, rfl⟩) ?_ ?_
                  rotate_left
                  ·simp only [Act.put, zs1, zs2, zs3, i64_w, i32_w]
                   rfl
                  refine pure_ (i := 30) (N := some 77) (v := undef) (a' := ?_) (bm 44 2147483647) rfl rfl (any_of HT_.out (by kernel_rfl)) (fun _ _ _ h => h) (Or.inr ⟨by rfl, rfl⟩) ?_ ?_
                  rotate_left
                  ·simp only [Act.put, zs1, zs2, zs3, i64_w, i32_w]
                   rfl
                  refine pure_ (i := 31) (N := some 78) (v := undef) (a' := ?_) (bm 44 4294967295) rfl rfl (any_of HT_.out (by kernel_rfl)) (fun _ _ _ h => h) (Or.inr ⟨by rfl, rfl⟩) ?_ ?_
                  rotate_left
                  ·simp only [Act.put, zs1, zs2, zs3, i64_w, i32_w]
                   rfl
                  refine pure_ (i := 32) (N := some 79) (v := undef) (a' := ?_) (bm 44 8589934591) rfl rfl (any_of HT_.out (by kernel_rfl)) (fun _ _ _ h => h) (Or.inr ⟨by rfl, rfl⟩) ?_ ?_
                  rotate_left
                  ·simp only [Act.put, zs1, zs2, zs3, i64_w, i32_w]
                   rfl
                  refine pure_ (i := 33) (N := some 80) (v := undef) (a' := ?_) (bm 44 17179869183) rfl rfl (any_of HT_.out (by kernel_rfl)) (fun _ _ _ h => h) (Or.inr ⟨by rfl, rfl⟩) ?_ ?_
                  rotate_left
                  ·simp only [Act.put, zs1, zs2, zs3, i64_w, i32_w]
                   rfl
                  refine pure_ (i := 34) (N := some 81) (v := undef) (a' := ?_) (bm 44 34359738367) rfl rfl (any_of HT_.out (by kernel_rfl)) (fun _ _ _ h => h) (Or.inr ⟨by rfl, rfl⟩) ?_ ?_
                  rotate_left
                  ·simp only [Act.put, zs1, zs2, zs3, i64_w, i32_w]
                   rfl
                  refine pure_ (i := 35) (N := some 82) (v := undef) (a' := ?_) (bm 44 68719476735) rfl rfl (any_of HT_.out (by kernel_rfl)) (fun _ _ _ h => h) (Or.inr ⟨by rfl, rfl⟩) ?_ ?_
                  rotate_left
                  ·simp only [Act.put, zs1, zs2, zs3, i64_w, i32_w]
                   rfl
                  refine pure_ (i := 36) (N := some 83) (v := undef) (a' := ?_) (bm 44 137438953471) rfl rfl (any_of HT_.out (by kernel_rfl)) (fun _ _ _ h => h) (Or.inr ⟨by rfl, rfl⟩) ?_ ?_
                  rotate_left
                  ·simp only [Act.put, zs1, zs2, zs3, i64_w, i32_w]
                   rfl
                  refine pure_ (i := 37) (N := some 84) (v := undef) (a' := ?_) (bm 44 274877906943) rfl rfl (any_of HT_.out (by kernel_rfl)) (fun _ _ _ h => h) (Or.inr ⟨by rfl, rfl⟩) ?_ ?_
                  rotate_left
                  ·simp only [Act.put, zs1, zs2, zs3, i64_w, i32_w]
                   rfl
                  refine pure_ (i := 38) (N := some 85) (v := undef) (a' := ?_) (bm 44 549755813887) rfl rfl (any_of HT_.out (by kernel_rfl)) (fun _ _ _ h => h) (Or.inr ⟨by rfl, rfl⟩) ?_ ?_
                  rotate_left
                  ·simp only [Act.put, zs1, zs2, zs3, i64_w, i32_w]
                   rfl
                  refine pure_ (i := 39) (N := some 86) (v := undef) (a' := ?_) (bm 44 1099511627775) rfl rfl (any_of HT_.out (by kernel_rfl)) (fun _ _ _ h => h) (Or.inr ⟨by rfl, rfl⟩) ?_ ?_
                  rotate_left
                  ·simp only [Act.put, zs1, zs2, zs3, i64_w, i32_w]
                   rfl
                  refine pure_ (i := 40) (N := some 87) (v := undef) (a' := ?_) (bm 44 2199023255551) rfl rfl (any_of HT_.out (by kernel_rfl)) (fun _ _ _ h => h) (Or.inr ⟨by rfl, rfl⟩) ?_ ?_
                  rotate_left
                  ·simp only [Act.put, zs1, zs2, zs3, i64_w, i32_w]
                   rfl
                  refine zp 41 88 (v := ?_) (a' := ?_) (bm 44 4398046511103) HT_.out (by kernel_rfl) ?_ ?_ ?_; rotate_left; (focus intro w'; go_simp; with_reducible rfl); rotate_left; (focus simp only [Act.put, zs1, zs2, zs3, i64_w, i32_w]; rfl)
                  refine zp 42 89 (v := ?_) (a' := ?_) (bm 44 8796093022207) HT_.out (by kernel_rfl) ?_ ?_ ?_; rotate_left; (focus intro w'; go_simp; with_reducible rfl); rotate_left; (focus simp only [Act.put, zs1, zs2, zs3, i64_w, i32_w]; rfl)
                  refine zp 43 90 (v := ?_) (a' := ?_) (bm 44 17592186044415) HT_.out (by kernel_rfl) ?_ ?_ ?_; rotate_left; (focus intro w'; go_simp; with_reducible rfl); rotate_left; (focus simp only [Act.put, zs1, zs2, zs3, i64_w, i32_w]; rfl)
                  refine done_ (done_of HT_.out (by kernel_rfl)) ?_
                  have q51 : (x9_3 : Int) ≤ ((x7_1.length : Int) : Int) := of_decide_eq_true (by first | (with_reducible assumption) | assumption)
                  obtain ⟨i051, hi051, _, hsz51, _⟩ := info_parts info49
                  have hroom51 : x7_1.length ≤ co18 := (Kd.R_reads' HO_7.out).2.1
                  have hC51 : Kd.C k49 _ (some ad242) x7_1.length x7_1 := (Kd.R_reads' HO_7.out).2.2
                  have hcut51 := cut_to (P := Try.prog) 26 49 .i64 Try.underlying26 hi051 (some ad242) x7_1.length co18 x9_3 (of_decide_eq_true (by first | (with_reducible assumption) | assumption)) q51 hroom51
                  have hr51 := Kd.C_take (m := (x9_3 : Int).toNat) hC51 (by omega)
                  have hy51 : y266.length = (x9_3 : Int).toNat := (by rw [Ny266.out, List.length_take]; omega)
                  rw [← Ny266.out] at hr51
                  rw [← hy51] at hcut51
                  have HR269 := zm hr51
                  have HC269 := zm (show y266.length ≤ co18 from by omega)
                  clear hr51 hC51 hroom51 hi051 hsz51
                  have KY51 := zm hy51
                  clear hy51
                  have KL51 := zm (show (x9_3 : Int).toNat ≤ x7_1.length from by omega)
                  replace q51 := eq_true q51
                  try go_wp2_with (first | ((with_reducible refine gate_builtin (b := .append) (xs := #[.tmp 93, .tmp 96]) rfl ?_); at_builtin; refine Kd.R_append_rows k49 (w0 := w) w.heap.size rfl (.tmp 93) (.tmp 96) 26 49 (.agg #[(.int .u32 0), (.int .u8 0), (.int .i64 0), (.int .i64 0)]) 24 rfl Try.underlying26 info49 rfl (by decide) (by omega) (.slice none 0 0) ([] : List (S49)) y266 _ _ _ (fun k_ => some k_ ≠ (.slice (some ad242) x7_1.length co18 : Value).ownBlock) (fun _ => False) rfl rfl ?aO ?aR (fun _ _ h => h) (fun _ h => h.elim) ?aF ?aB ?aS ?aL ?_; (case aR => repeat (first | exact (by repeat (first | (with_reducible exact HR269.out) | (with_reducible refine Kd.C_alloc ?_ _) | (with_reducible refine Kd.C_drewN ?_ _) | (with_reducible refine Kd.C_drew ?_) | exact HR269.out)) | (with_reducible refine Kd.C_alloc ?_ _) | (with_reducible refine Kd.C_drewN ?_ _) | (with_reducible refine Kd.C_drew ?_))); (case aB => exact (by apply_rules [HB.out, zb1, zb2, zb3, zb4, GE236.out])); (case aF => exact (fun k_ hk => Kd.fresh' (Kd.R_lt (by apply_rules [HO_7.out, Kd.R_alloc, Kd.R_drewN, Kd.R_drew])) k_ hk)); (case aO => exact ((Kd.R_nil _ _ _ _ (fun k_ => some k_ ≠ (.slice (some ad242) x7_1.length co18 : Value).ownBlock)))); (case aS => exact (below_size (by apply_rules [HB.out, zb1, zb2, zb3, zb4, GE236.out]))); (case aL => have := LMc45.out; omega); intro v271 w52 ho hb hg hat; rw [← Ny270.out] at ho; have n0_ := zm (Kd.R_after (Kd.R_apart_nil (by apply_rules [HO_7.out, Kd.R_alloc, Kd.R_drewN, Kd.R_drew])) hg hat); have n1_ := zm (blk_grown (by apply_rules [BK236.out, zk1, zk2, zk3]) hg (by simp [Value.ownBlock])); have n2_ := zm (hb); have n3_ := zm ((show Kd.C k49 w52 (some ad242) y266.length y266 from by rw [Ny266.out]; exact Kd.C_take (m := (x9_3 : Int).toNat) ((Kd.R_reads' (Kd.R_after (Kd.R_apart_nil (by apply_rules [HO_7.out, Kd.R_alloc, Kd.R_drewN, Kd.R_drew])) hg hat)).2.2) KL51.out)); have n4_ := zm (ho); clear HO_7; clear BK236; clear HB; clear HR269; have HO_7 := n0_; have BK236 := n1_; have HB := n2_; have HR269 := n3_; have HO272 := n4_; clear n0_ n1_ n2_ n3_ n4_; clear ho hb hg hat; have p273 : 0 ≤ (x8_1 : Int) := of_decide_eq_true (by first | (with_reducible assumption) | assumption); have q273 : x8_1 < (l1.length : Int) := of_decide_eq_true (by first | (with_reducible assumption) | assumption); obtain ⟨ad273, e273, hx273_0, hx273_1, hx273_2, hx273_3⟩ := at_T49 HR1.out x8_1 p273 q273; obtain rfl : ad243 = ad273 := (by injection e273); replace hx273_0 := (HB.out.cell (World.block_lt_of_cell? w _ hx273_0)).trans hx273_0; replace hx273_1 := (HB.out.cell (World.block_lt_of_cell? w _ hx273_1)).trans hx273_1; replace hx273_2 := (HB.out.cell (World.block_lt_of_cell? w _ hx273_2)).trans hx273_2; replace hx273_3 := (HB.out.cell (World.block_lt_of_cell? w _ hx273_3)).trans hx273_3; replace p273 := eq_true p273; replace q273 := eq_true q273) | ((with_reducible refine gate_builtin (b := .append) (xs := #[.tmp 98, .tmp 103]) rfl ?_); at_builtin; refine Kd.R_append k49 (w0 := w) w.heap.size rfl (.tmp 98) (.tmp 103) 26 49 (.agg #[(.int .u32 0), (.int .u8 0), (.int .i64 0), (.int .i64 0)]) 24 rfl Try.underlying26 info49 rfl (by decide) (by omega) v271 y270 (⟨(rd_T49 l1 x8_1).f0, (rd_T49 l1 x8_1).f1, (rd_T49 l1 x8_1).f2, (rd_T49 l1 x8_1).f3⟩ : S49) [.int .u32 ((rd_T49 l1 x8_1).f0), .int .u8 ((rd_T49 l1 x8_1).f1), .int .i64 ((rd_T49 l1 x8_1).f2), .int .i64 ((rd_T49 l1 x8_1).f3)] (fun k_ => some k_ ≠ (.slice (some ad242) x7_1.length co18 : Value).ownBlock) (fun _ => False) rfl rfl ?aP (fun _ hk => hk.elim) ?aF ?aO ?aB ?aS ?aL ?_; (case aP => exact k49_mkM _ _ _ (⟨(rd_T49 l1 x8_1).f0, (rd_T49 l1 x8_1).f1, (rd_T49 l1 x8_1).f2, (rd_T49 l1 x8_1).f3⟩ : S49)); (case aB => exact (by apply_rules [HB.out, zb1, zb2, zb3, zb4, GE236.out])); (case aF => exact (fun k_ hk => Kd.fresh' (Kd.R_lt (by apply_rules [HO_7.out, Kd.R_alloc, Kd.R_drewN, Kd.R_drew])) k_ hk)); (case aO => exact (by apply_rules [HO272.out, Kd.R_alloc, Kd.R_drewN, Kd.R_drew])); (case aS => exact (below_size (by apply_rules [HB.out, zb1, zb2, zb3, zb4, GE236.out]))); (case aL => have := LMc46.out; omega); intro v275 w53 ho hb hg hat; rw [← Ny274.out] at ho; have n0_ := zm (Kd.R_after (ok := (fun _ => True)) (by apply_rules [HO_7.out, Kd.R_alloc, Kd.R_drewN, Kd.R_drew]) hg hat); have n1_ := zm (blk_grown (by apply_rules [BK236.out, zk1, zk2, zk3]) hg (Kd.R_ne HO272.out BK236.out (by decide))); have n2_ := zm (hb); have n3_ := zm ((show Kd.C k49 w53 (some ad242) y266.length y266 from by rw [Ny266.out]; exact Kd.C_take (m := (x9_3 : Int).toNat) ((Kd.R_reads' (Kd.R_after (ok := (fun _ => True)) (by apply_rules [HO_7.out, Kd.R_alloc, Kd.R_drewN, Kd.R_drew]) hg hat)).2.2) KL51.out)); have n4_ := zm (ho); clear HO_7; clear BK236; clear HB; clear HR269; clear HO272; have HO_7 := n0_; have BK236 := n1_; have HB := n2_; have HR269 := n3_; have HO276 := n4_; clear n0_ n1_ n2_ n3_ n4_; clear ho hb hg hat; have q54 : (x9_3 : Int) ≤ ((x7_1.length : Int) : Int) := of_decide_eq_true (by first | (with_reducible assumption) | assumption); obtain ⟨i054, hi054, _, hsz54, _⟩ := info_parts info49; have hroom54 : x7_1.length ≤ co18 := (Kd.R_reads' HO_7.out).2.1; have hC54 : Kd.C k49 _ (some ad242) x7_1.length x7_1 := (Kd.R_reads' HO_7.out).2.2; have q054 : (0 : Int) ≤ (x9_3 : Int) := of_decide_eq_true (by first | (with_reducible assumption) | assumption); have hcut54 := cut_from (P := Try.prog) 26 49 .i64 Try.underlying26 hi054 4 hsz54 (some ad242) x7_1.length co18 x9_3 q054 q54; have hr54 := Kd.C_drop (m := (x9_3 : Int).toNat) (c := co18) hC54 (by omega) hroom54; obtain ⟨A54, hA54⟩ : ∃ A1, A1 = (if co18 = (x9_3 : Int).toNat then (some ad242) else ((some ad242) : Option Addr).map (·.add ((x9_3 : Int).toNat * 4))) := ⟨_, rfl⟩; obtain ⟨c54, hc54⟩ : ∃ c1, c1 = co18 - (x9_3 : Int).toNat := ⟨_, rfl⟩; have hy54 : y277.length = x7_1.length - (x9_3 : Int).toNat := (by rw [Ny277.out, List.length_drop] <;> omega); rw [show (x7_1).drop (x9_3 : Int).toNat = y277 from Ny277.out.symm] at hr54; replace hr54 : Kd.C k49 _ A54 y277.length y277 := (by rw [hA54]; exact hr54); rw [← hy54, ← hA54, ← hc54] at hcut54; have HR280 := zm hr54; have HC280 := zm (show y277.length ≤ c54 from by rw [hy54, hc54]; exact Nat.sub_le_sub_right hroom54 _); clear hr54 hC54 hroom54 hi054 hsz54 hc54; have KY54 := zm hy54; have KA54 := zm hA54; clear hy54 hA54; have KL54 := zm (show (x9_3 : Int).toNat ≤ x7_1.length from by omega); replace q54 := eq_true q54) | ((with_reducible refine gate_builtin (b := .append) (xs := #[.tmp 105, .tmp 108]) rfl ?_); at_builtin; refine Kd.R_append_rows k49 (w0 := w) w.heap.size rfl (.tmp 105) (.tmp 108) 26 49 (.agg #[(.int .u32 0), (.int .u8 0), (.int .i64 0), (.int .i64 0)]) 24 rfl Try.underlying26 info49 rfl (by decide) (by omega) v275 y274 y277 _ _ _ (fun k_ => some k_ ≠ (.slice (some ad242) x7_1.length co18 : Value).ownBlock) (fun _ => False) rfl rfl ?aO ?aR (fun _ _ h => h) (fun _ h => h.elim) ?aF ?aB ?aS ?aL ?_; (case aR => repeat (first | exact (by repeat (first | (with_reducible exact HR280.out) | (with_reducible refine Kd.C_alloc ?_ _) | (with_reducible refine Kd.C_drewN ?_ _) | (with_reducible refine Kd.C_drew ?_) | exact HR280.out)) | (with_reducible refine Kd.C_alloc ?_ _) | (with_reducible refine Kd.C_drewN ?_ _) | (with_reducible refine Kd.C_drew ?_))); (case aB => exact (by apply_rules [HB.out, zb1, zb2, zb3, zb4, GE236.out])); (case aF => exact (fun k_ hk => Kd.fresh' (Kd.R_lt (by apply_rules [HO_7.out, Kd.R_alloc, Kd.R_drewN, Kd.R_drew])) k_ hk)); (case aO => exact (by apply_rules [HO276.out, Kd.R_alloc, Kd.R_drewN, Kd.R_drew])); (case aS => exact (below_size (by apply_rules [HB.out, zb1, zb2, zb3, zb4, GE236.out]))); (case aL => have := LMc49.out; omega); intro v282 w55 ho hb hg hat; rw [← Ny281.out] at ho; have n0_ := zm (Kd.R_after (ok := (fun _ => True)) (by apply_rules [HO_7.out, Kd.R_alloc, Kd.R_drewN, Kd.R_drew]) hg hat); have n1_ := zm (blk_grown (by apply_rules [BK236.out, zk1, zk2, zk3]) hg (Kd.R_ne HO276.out BK236.out (by decide))); have n2_ := zm (hb); have n3_ := zm ((show Kd.C k49 w55 (some ad242) y266.length y266 from by rw [Ny266.out]; exact Kd.C_take (m := (x9_3 : Int).toNat) ((Kd.R_reads' (Kd.R_after (ok := (fun _ => True)) (by apply_rules [HO_7.out, Kd.R_alloc, Kd.R_drewN, Kd.R_drew]) hg hat)).2.2) KL51.out)); have n4_ := zm ((show Kd.C k49 w55 A54 y277.length y277 from by rw [Ny277.out, KA54.out]; exact Kd.C_drop (m := (x9_3 : Int).toNat) (c := co18) ((Kd.R_reads' (Kd.R_after (ok := (fun _ => True)) (by apply_rules [HO_7.out, Kd.R_alloc, Kd.R_drewN, Kd.R_drew]) hg hat)).2.2) KL54.out ((Kd.R_reads' (Kd.R_after (ok := (fun _ => True)) (by apply_rules [HO_7.out, Kd.R_alloc, Kd.R_drewN, Kd.R_drew]) hg hat)).2.1))); have n5_ := zm (ho); clear HO_7; clear BK236; clear HB; clear HR269; clear HR280; clear HO276; have HO_7 := n0_; have BK236 := n1_; have HB := n2_; have HR269 := n3_; have HR280 := n4_; have HO283 := n5_; clear n0_ n1_ n2_ n3_ n4_ n5_; clear ho hb hg hat))
                  go_roundg k3
                  case measure => have := HK1.out; have := HJ5.out; have := HK3.out; omega
                  case rel => exact ⟨(y281), (wrap64 (x8_1 + 1)), (by first | rfl | (simp; done) | (simp [*]; done)), H', ⟨by have := HK1.out; have := HJ5.out; have := HK3.out; omega⟩, ⟨by (with_reducible repeat (first | apply Kd.R_alloc | apply Kd.R_drewN | apply Kd.R_drew)); exact Kd.R_mono HO283.out (fun _ hk => trivial)⟩, ⟨by (with_reducible repeat (first | refine blk_alloc ?_ _ | refine blk_drewN ?_ _ | refine blk_drew ?_)); exact BK236.out⟩, ⟨by apply_rules [HB.out, zb1, zb2, zb3, zb4, GE236.out]⟩⟩
                 rw [if_neg c49] at H
                 exact absurd H (by simp)
                rw [if_neg c46] at H
                exact absurd H (by simp)
               rw [if_neg c45] at H
               exact absurd H (by simp)
              rw [if_neg c44] at H
              exact absurd H (by simp)
             rw [if_neg c43] at H
             exact absurd H (by simp)
            rw [if_neg c24] at H
            exact absurd H (by simp)
           rw [if_neg c23] at H
           exact absurd H (by simp)
          rw [if_neg c22] at H
          exact absurd H (by simp)
         rw [if_neg c21] at H
         exact absurd H (by simp)
        rw [if_neg c19] at H
        have c19b0 : decide (0 < x9_3) = false := decide_eq_false c19
        clear c19
        by_cases c56 : 0 ≤ x9_3
        ·rw [if_pos c56] at H
         have c56b0 := eq_true c56
         have c56b1 : decide (0 ≤ x9_3) = true := decide_eq_true c56
         clear c56
         by_cases c57 : x9_3 ≤ (x7_1.length : Int)
         ·rw [if_pos c57] at H
          have c57b0 := eq_true c57
          have c57b1 : decide (x9_3 ≤ (x7_1.length : Int)) = true := decide_eq_true c57
          clear c57
          obtain ⟨y284, hy284⟩ : ∃ y_ : List (S49), y_ = (x7_1.take (x9_3 : Int).toNat) := ⟨_, rfl⟩
          replace H : (if ([] : List (S49)).length + y284.length < 5864062014805 then ((some (([] : List (S49)) ++ y284 : List (S49))).bind fun y288 => (if 0 ≤ x8_1 then (if x8_1 < (l1.length : Int) then (if y288.length < 5864062014805 then ((some (y288 ++ [(⟨(rd_T49 l1 x8_1).f0, (rd_T49 l1 x8_1).f1, (rd_T49 l1 x8_1).f2, (rd_T49 l1 x8_1).f3⟩ : S49)] : List (S49))).bind fun y292 => ((some (x7_1.drop (x9_3 : Int).toNat : List (S49))).bind fun y295 => (if y292.length + y295.length < 5864062014805 then (horariumref16_of.l0 k3 l1 a2 (y292 ++ y295) (wrap64 (x8_1 + 1)) a0_0 a0_1 a0_2) else (none)))) else (none)) else (none)) else (none))) else (none)) = some r := by first | (rw [hy284]; with_reducible exact H) | (have H2_ := (Option.bind_some _ _).symm.trans H; rw [hy284]; with_reducible exact H2_) | (have H2_ := (Option.bind_some _ _).symm.trans H; with_reducible exact H2_) | with_reducible exact H | (rw [hy284]; exact H) | exact H
          have Ny284 := zm hy284
          clear hy284
          by_cases c58 : ([] : List (S49)).length + y284.length < 5864062014805
          ·rw [if_pos c58] at H
           have LMc58 := zm c58
           clear c58
           obtain ⟨y288, hy288⟩ : ∃ y_ : List (S49), y_ = (([] : List (S49)) ++ y284) := ⟨_, rfl⟩
           replace H : (if 0 ≤ x8_1 then (if x8_1 < (l1.length : Int) then (if y288.length < 5864062014805 then ((some (y288 ++ [(⟨(rd_T49 l1 x8_1).f0, (rd_T49 l1 x8_1).f1, (rd_T49 l1 x8_1).f2, (rd_T49 l1 x8_1).f3⟩ : S49)] : List (S49))).bind fun y292 => ((some (x7_1.drop (x9_3 : Int).toNat : List (S49))).bind fun y295 => (if y292.length + y295.length < 5864062014805 then (horariumref16_of.l0 k3 l1 a2 (y292 ++ y295) (wrap64 (x8_1 + 1)) a0_0 a0_1 a0_2) else (none)))) else (none)) else (none)) else (none)) = some r := by first | (rw [hy288]; with_reducible exact H) | (have H2_ := (Option.bind_some _ _).symm.trans H; rw [hy288]; with_reducible exact H2_) | (have H2_ := (Option.bind_some _ _).symm.trans H; with_reducible exact H2_) | with_reducible exact H | (rw [hy288]; exact H) | exact H
           have Ny288 := zm hy288
           clear hy288
           by_cases c59 : 0 ≤ x8_1
           ·rw [if_pos c59] at H
            have c59b0 : decide (0 ≤ x8_1) = true := decide_eq_true c59
            clear c59
            by_cases c60 : x8_1 < (l1.length : Int)
            ·rw [if_pos c60] at H
             have c60b0 : decide (x8_1 < (l1.length : Int)) = true := decide_eq_true c60
             clear c60
             by_cases c61 : y288.length < 5864062014805
             ·rw [if_pos c61] at H
              have LMc61 := zm c61
              clear c61
              obtain ⟨y292, hy292⟩ : ∃ y_ : List (S49), y_ = (y288 ++ [(⟨(rd_T49 l1 x8_1).f0, (rd_T49 l1 x8_1).f1, (rd_T49 l1 x8_1).f2, (rd_T49 l1 x8_1).f3⟩ : S49)]) := ⟨_, rfl⟩
              replace H : ((some (x7_1.drop (x9_3 : Int).toNat : List (S49))).bind fun y295 => (if y292.length + y295.length < 5864062014805 then (horariumref16_of.l0 k3 l1 a2 (y292 ++ y295) (wrap64 (x8_1 + 1)) a0_0 a0_1 a0_2) else (none))) = some r := by first | (rw [hy292]; with_reducible exact H) | (have H2_ := (Option.bind_some _ _).symm.trans H; rw [hy292]; with_reducible exact H2_) | (have H2_ := (Option.bind_some _ _).symm.trans H; with_reducible exact H2_) | with_reducible exact H | (rw [hy292]; exact H) | exact H
              have Ny292 := zm hy292
              clear hy292
              have c62b0 := eq_true (of_decide_eq_true (by first | (with_reducible assumption) | assumption) : 0 ≤ x9_3)
              have c63b0 := eq_true (of_decide_eq_true (by first | (with_reducible assumption) | assumption) : x9_3 ≤ (x7_1.length : Int))
              obtain ⟨y295, hy295⟩ : ∃ y_ : List (S49), y_ = (x7_1.drop (x9_3 : Int).toNat) := ⟨_, rfl⟩
              replace H : (if y292.length + y295.length < 5864062014805 then (horariumref16_of.l0 k3 l1 a2 (y292 ++ y295) (wrap64 (x8_1 + 1)) a0_0 a0_1 a0_2) else (none)) = some r := by first | (rw [hy295]; with_reducible exact H) | (have H2_ := (Option.bind_some _ _).symm.trans H; rw [hy295]; with_reducible exact H2_) | (have H2_ := (Option.bind_some _ _).symm.trans H; with_reducible exact H2_) | with_reducible exact H | (rw [hy295]; exact H) | exact H
              have Ny295 := zm hy295
              clear hy295
              by_cases c64 : y292.length + y295.length < 5864062014805
              ·rw [if_pos c64] at H
               have LMc64 := zm c64
               clear c64
               obtain ⟨y299, hy299⟩ : ∃ y_ : List (S49), y_ = (y292 ++ y295) := ⟨_, rfl⟩
               replace H : (horariumref16_of.l0 k3 l1 a2 y299 (wrap64 (x8_1 + 1)) a0_0 a0_1 a0_2) = some r := by first | (rw [hy299]; with_reducible exact H) | (have H2_ := (Option.bind_some _ _).symm.trans H; rw [hy299]; with_reducible exact H2_) | (have H2_ := (Option.bind_some _ _).symm.trans H; with_reducible exact H2_) | with_reducible exact H | (rw [hy299]; exact H) | exact H
               have Ny299 := zm hy299
               clear hy299
               have H' := zm H
               clear H
               try go_wp2
               have n0_ := zm (Kd.R_drew HO_7.out)
               have n1_ := zm (blk_drew BK236.out)
               have n2_ := zm (below_drew1 HB.out)
               clear HO_7
               clear BK236
               clear HB
               have HO_7 := n0_
               have BK236 := n1_
               have HB := n2_
               clear n0_ n1_ n2_
               refine start_ (n := 44) (S := fun w' => True) (ds := []) #[false, false, false, false, false, false, false, false, false, false, false, false, false, false, false, false, false, false, false, false, false, false, false, false, false, false, false, false, false, false, false, false, false, false, false, false, false, false, false, false, false, false, false, false] (by kernel_rfl) rfl rfl trivial (fun hHeld => ?_); refine with_tabW horariumref16_of.tab7 horariumref16_of.bits7 (fun HT_ HW_ => ?_)
               generalize wr.drew = w65 at HO_7 BK236 HB hHeld ⊢
               refine zp 0 47 (v := ?_) (a' := ?_) (bm 44 1) HT_.out (by kernel_rfl) ?_ ?_ ?_; rotate_left; (focus intro w'; go_simp; with_reducible rfl); rotate_left; (focus simp only [Act.put, zs1, zs2, zs3, i64_w, i32_w]; rfl)
               refine zp 1 48 (v := ?_) (a' := ?_) (bm 44 3) HT_.out (by kernel_rfl) ?_ ?_ ?_; rotate_left; (focus intro w'; go_simp; with_reducible rfl); rotate_left; (focus simp only [Act.put, zs1, zs2, zs3, i64_w, i32_w]; rfl)
               refine zp 2 49 (v := ?_) (a' := ?_) (bm 44 7) HT_.out (by kernel_rfl) ?_ ?_ ?_; rotate_left; (focus intro w'; go_simp; with_reducible rfl); rotate_left; (focus simp only [Act.put, zs1, zs2, zs3, i64_w, i32_w]; rfl)
               refine pure_ (i := 3) (N := some 50) (v := undef) (a' := ?_) (bm 44 15) rfl rfl (any_of HT_.out (by kernel_rfl)) (fun _ _ _ h => h) (Or.inr ⟨by rfl, rfl⟩) ?_ ?_
               rotate_left
               ·simp only [Act.put, zs1, zs2, zs3, i64_w, i32_w]
                rfl
               refine pure_ (i := 4) (N := some 51) (v := undef) (a' := ?_) (bm 44 31) rfl rfl (any_of HT_.out (by kernel_rfl)) (fun _ _ _ h => h) (Or.inr ⟨by rfl, rfl⟩) ?_ ?_
               rotate_left
               ·simp only [Act.put, zs1, zs2, zs3, i64_w, i32_w]
                rfl
               refine pure_ (i := 5) (N := some 52) (v := undef) (a' := ?_) (bm 44 63) rfl rfl (any_of HT_.out (by kernel_rfl)) (fun _ _ _ h => h) (Or.inr ⟨by rfl, rfl⟩) ?_ ?_
               rotate_left
               ·simp only [Act.put, zs1, zs2, zs3, i64_w, i32_w]
                rfl
               refine pure_ (i := 6) (N := some 53) (v := undef) (a' := ?_) (bm 44 127) rfl rfl (any_of HT_.out (by kernel_rfl)) (fun _ _ _ h => h) (Or.inr ⟨by rfl, rfl⟩) ?_ ?_
               rotate_left
               ·simp only [Act.put, zs1, zs2, zs3, i64_w, i32_w]
                rfl
               refine pure_ (i := 7) (N := some 54) (v := undef) (a' := ?_) (bm 44 255) rfl rfl (any_of HT_.out (by kernel_rfl)) (fun _ _ _ h => h) (Or.inr ⟨by rfl, rfl⟩) ?_ ?_
               rotate_left
               ·simp only [Act.put, zs1, zs2, zs3, i64_w, i32_w]
                rfl
               refine pure_ (i := 8) (N := some 55) (v := undef) (a' := ?_) (bm 44 511) rfl rfl (any_of HT_.out (by kernel_rfl)) (fun _ _ _ h => h) (Or.inr ⟨by rfl, rfl⟩) ?_ ?_
               rotate_left
               ·simp only [Act.put, zs1, zs2, zs3, i64_w, i32_w]
                rfl
               refine pure_ (i := 9) (N := some 56) (v := undef) (a' := ?_) (bm 44 1023) rfl rfl (any_of HT_.out (by kernel_rfl)) (fun _ _ _ h => h) (Or.inr ⟨by rfl, rfl⟩) ?_ ?_
               rotate_left
               ·simp only [Act.put, zs1, zs2, zs3, i64_w, i32_w]
                rfl
               refine pure_ (i := 10) (N := some 57) (v := undef) (a' := ?_) (bm 44 2047) rfl rfl (any_of HT_.out (by kernel_rfl)) (fun _ _ _ h => h) (Or.inr ⟨by rfl, rfl⟩) ?_ ?_
               rotate_left
               ·simp only [Act.put, zs1, zs2, zs3, i64_w, i32_w]
                rfl
               refine pure_ (i := 11) (N := some 58) (v := undef) (a' := ?_) (bm 44 4095) rfl rfl (any_of HT_.out (by kernel_rfl)) (fun _ _ _ h => h) (Or.inr ⟨by rfl, rfl⟩) ?_ ?_
               rotate_left
               ·simp only [Act.put, zs1, zs2, zs3, i64_w, i32_w]
                rfl
               refine pure_ (i := 12) (N := some 59) (v := undef) (a' := ?_) (bm 44 8191) rfl rfl (any_of HT_.out (by kernel_rfl)) (fun _ _ _ h => h) (Or.inr ⟨by rfl, rfl⟩) ?_ ?_
               rotate_left
               ·simp only [Act.put, zs1, zs2, zs3, i64_w, i32_w]
                rfl
               refine pure_ (i := 13) (N := some 60) (v := undef) (a' := ?_) (bm 44 16383) rfl rfl (any_of HT_.out (by kernel_rfl)) (fun _ _ _ h => h) (Or.inr ⟨by rfl, rfl⟩) ?_ ?_
               rotate_left
               ·simp only [Act.put, zs1, zs2, zs3, i64_w, i32_w]
                rfl
               refine pure_ (i := 14) (N := some 61) (v := undef) (a' := ?_) (bm 44 32767) rfl rfl (any_of HT_.out (by kernel_rfl)) (fun _ _ _ h => h) (Or.inr ⟨by rfl, rfl⟩) ?_ ?_
               rotate_left
               ·simp only [Act.put, zs1, zs2, zs3, i64_w, i32_w]
                rfl
               refine pure_ (i := 15) (N := some 62) (v := undef) (a' := ?_) (bm 44 65535) rfl rfl (any_of HT_.out (by kernel_rfl)) (fun _ _ _ h => h) (Or.inr ⟨by rfl, rfl⟩) ?_ ?_
               rotate_left
               ·simp only [Act.put, zs1, zs2, zs3, i64_w, i32_w]
                rfl
               refine pure_ (i := 16) (N := some 63) (v := undef) (a' := ?_) (bm 44 131071) rfl rfl (any_of HT_.out (by kernel_rfl)) (fun _ _ _ h => h) (Or.inr ⟨by rfl, rfl⟩) ?_ ?_
               rotate_left
               ·simp only [Act.put, zs1, zs2, zs3, i64_w, i32_w]
                rfl
               refine pure_ (i := 17) (N := some 64) (v := undef) (a' := ?_) (bm 44 262143) rfl rfl (any_of HT_.out (by kernel_rfl)) (fun _ _ _ h => h) (Or.inr ⟨by rfl, rfl⟩) ?_ ?_
               rotate_left
               ·simp only [Act.put, zs1, zs2, zs3, i64_w, i32_w]
                rfl
               refine pure_ (i := 18) (N := some 65) (v := undef) (a' := ?_) (bm 44 524287) rfl rfl (any_of HT_.out (by kernel_rfl)) (fun _ _ _ h => h) (Or.inr ⟨by rfl, rfl⟩) ?_ ?_
               rotate_left
               ·simp only [Act.put, zs1, zs2, zs3, i64_w, i32_w]
                rfl
               refine pure_ (i := 19) (N := some 66) (v := undef) (a' := ?_) (bm 44 1048575) rfl rfl (any_of HT_.out (by kernel_rfl)) (fun _ _ _ h => h) (Or.inr ⟨by rfl, rfl⟩) ?_ ?_
               rotate_left
               ·simp only [Act.put, zs1, zs2, zs3, i64_w, i32_w]
                rfl
               refine pure_ (i := 20) (N := some 67) (v := undef) (a' := ?_) (bm 44 2097151) rfl rfl (any_of HT_.out (by kernel_rfl)) (fun _ _ _ h => h) (Or.inr ⟨by rfl, rfl⟩) ?_ ?_
               rotate_left
               ·simp only [Act.put, zs1, zs2, zs3, i64_w, i32_w]
                rfl
               refine pure_ (i := 21) (N := some 68) (v := undef) (a' := ?_) (bm 44 4194303) rfl rfl (any_of HT_.out (by kernel_rfl)) (fun _ _ _ h => h) (Or.inr ⟨by rfl, rfl⟩) ?_ ?_
               rotate_left
               ·simp only [Act.put, zs1, zs2, zs3, i64_w, i32_w]
                rfl
               refine pure_ (i := 22) (N := some 69) (v := undef) (a' := ?_) (bm 44 8388607) rfl rfl (any_of HT_.out (by kernel_rfl)) (fun _ _ _ h => h) (Or.inr ⟨by rfl, rfl⟩) ?_ ?_
               rotate_left
               ·simp only [Act.put, zs1, zs2, zs3, i64_w, i32_w]
                rfl
               refine pure_ (i := 23) (N := some 70) (v := undef) (a' := ?_) (bm 44 16777215) rfl rfl (any_of HT_.out (by kernel_rfl)) (fun _ _ _ h => h) (Or.inr ⟨by rfl, rfl⟩) ?_ ?_
               rotate_left
               ·simp only [Act.put, zs1, zs2, zs3, i64_w, i32_w]
                rfl
               refine pure_ (i := 24) (N := some 71) (v := undef) (a' := ?_) (bm 44 33554431) rfl rfl (any_of HT_.out (by kernel_rfl)) (fun _ _ _ h => h) (Or.inr ⟨by rfl, rfl⟩) ?_ ?_
               rotate_left
               ·simp only [Act.put, zs1, zs2, zs3, i64_w, i32_w]
                rfl
               refine pure_ (i := 25) (N := some 72) (v := undef) (a' := ?_) (bm 44 67108863) rfl rfl (any_of HT_.out (by kernel_rfl)) (fun _ _ _ h => h) (Or.inr ⟨by rfl, rfl⟩) ?_ ?_
               rotate_left
               ·simp only [Act.put, zs1, zs2, zs3, i64_w, i32_w]
                rfl
               refine pure_ (i := 26) (N := some 73) (v := undef) (a' := ?_) (bm 44 134217727) rfl rfl (any_of HT_.out (by kernel_rfl)) (fun _ _ _ h => h) (Or.inr ⟨by rfl, rfl⟩) ?_ ?_
               rotate_left
               ·simp only [Act.put, zs1, zs2, zs3, i64_w, i32_w]
                rfl
               refine pure_ (i := 27) (N := some 74) (v := undef) (a' := ?_) (bm 44 268435455) rfl rfl (any_of HT_.out (by kernel_rfl)) (fun _ _ _ h => h) (Or.inr ⟨by rfl, rfl⟩) ?_ ?_
               rotate_left
               ·simp only [Act.put, zs1, zs2, zs3, i64_w, i32_w]
                rfl
               refine pure_ (i := 28) (N := some 75) (v := undef) (a' := ?_) (bm 44 536870911) rfl rfl (any_of HT_.out (by kernel_rfl)) (fun _ _ _ h => h) (Or.inr ⟨by rfl, rfl⟩) ?_ ?_
               rotate_left
               ·simp only [Act.put, zs1, zs2, zs3, i64_w, i32_w]
                rfl
               refine pure_ (i := 29) (N := some 76) (v := undef) (a' := ?_) (bm 44 1073741823) rfl rfl (any_of HT_.out (by kernel_rfl)) (fun _ _ _ h => h) (Or.inr ⟨by rfl, rfl⟩) ?_ ?_
               rotate_left
               ·simp only [Act.put, zs1, zs2, zs3, i64_w, i32_w]
                rfl
               refine pure_ (i := 30) (N := some 77) (v := undef) (a' := ?_) (bm 44 2147483647) rfl rfl (any_of HT_.out (by kernel_rfl)) (fun _ _ _ h => h) (Or.inr ⟨by rfl, rfl⟩) ?_ ?_
               rotate_left
               ·simp only [Act.put, zs1, zs2, zs3, i64_w, i32_w]
                rfl
               refine pure_ (i := 31) (N := some 78) (v := undef) (a' := ?_) (bm 44 4294967295) rfl rfl (any_of HT_.out (by kernel_rfl)) (fun _ _ _ h => h) (Or.inr ⟨by rfl, rfl⟩) ?_ ?_
               rotate_left
               ·simp only [Act.put, zs1, zs2, zs3, i64_w, i32_w]
                rfl
               refine pure_ (i := 32) (N := some 79) (v := undef) (a' := ?_) (bm 44 8589934591) rfl rfl (any_of HT_.out (by kernel_rfl)) (fun _ _ _ h => h) (Or.inr ⟨by rfl, rfl⟩) ?_ ?_
               rotate_left
               ·simp only [Act.put, zs1, zs2, zs3, i64_w, i32_w]
                rfl
               refine pure_ (i := 33) (N := some 80) (v := undef) (a' := ?_) (bm 44 17179869183) rfl rfl (any_of HT_.out (by kernel_rfl)) (fun _ _ _ h => h) (Or.inr ⟨by rfl, rfl⟩) ?_ ?_
               rotate_left
               ·simp only [Act.put, zs1, zs2, zs3, i64_w, i32_w]
                rfl
               refine pure_ (i := 34) (N := some 81) (v := undef) (a' := ?_) (bm 44 34359738367) rfl rfl (any_of HT_.out (by kernel_rfl)) (fun _ _ _ h => h) (Or.inr ⟨by rfl, rfl⟩) ?_ ?_
               rotate_left
               ·simp only [Act.put, zs1, zs2, zs3, i64_w, i32_w]
                rfl
               refine pure_ (i := 35) (N := some 82) (v := undef) (a' := ?_) (bm 44 68719476735) rfl rfl (any_of HT_.out (by kernel_rfl)) (fun _ _ _ h => h) (Or.inr ⟨by rfl, rfl⟩) ?_ ?_
               rotate_left
               ·simp only [Act.put, zs1, zs2, zs3, i64_w, i32_w]
                rfl
               refine pure_ (i := 36) (N := some 83) (v := undef) (a' := ?_) (bm 44 137438953471) rfl rfl (any_of HT_.out (by kernel_rfl)) (fun _ _ _ h => h) (Or.inr ⟨by rfl, rfl⟩) ?_ ?_
               rotate_left
               ·simp only [Act.put, zs1, zs2, zs3, i64_w, i32_w]
                rfl
               refine pure_ (i := 37) (N := some 84) (v := undef) (a' := ?_) (bm 44 274877906943) rfl rfl (any_of HT_.out (by kernel_rfl)) (fun _ _ _ h => h) (Or.inr ⟨by rfl, rfl⟩) ?_ ?_
               rotate_left
               ·simp only [Act.put, zs1, zs2, zs3, i64_w, i32_w]
                rfl
               refine pure_ (i := 38) (N := some 85) (v := undef) (a' := ?_) (bm 44 549755813887) rfl rfl (any_of HT_.out (by kernel_rfl)) (fun _ _ _ h => h) (Or.inr ⟨by rfl, rfl⟩) ?_ ?_
               rotate_left
               ·simp only [Act.put, zs1, zs2, zs3, i64_w, i32_w]
                rfl
               refine pure_ (i := 39) (N := some 86) (v := undef) (a' := ?_) (bm 44 1099511627775) rfl rfl (any_of HT_.out (by kernel_rfl)) (fun _ _ _ h => h) (Or.inr ⟨by rfl, rfl⟩) ?_ ?_
               rotate_left
               ·simp only [Act.put, zs1, zs2, zs3, i64_w, i32_w]
                rfl
               refine pure_ (i := 40) (N := some 87) (v := undef) (a' := ?_) (bm 44 2199023255551) rfl rfl (any_of HT_.out (by kernel_rfl)) (fun _ _ _ h => h) (Or.inr ⟨by rfl, rfl⟩) ?_ ?_
               rotate_left
               ·simp only [Act.put, zs1, zs2, zs3, i64_w, i32_w]
                rfl
               refine pure_ (i := 41) (N := some 88) (v := undef) (a' := ?_) (bm 44 4398046511103) rfl rfl (any_of HT_.out (by kernel_rfl)) (fun _ _ _ h => h) (Or.inr ⟨by rfl, rfl⟩) ?_ ?_
               rotate_left
               ·simp only [Act.put, zs1, zs2, zs3, i64_w, i32_w]
                rfl
               refine pure_ (i := 42) (N := some 89) (v := undef) (a' := ?_) (bm 44 8796093022207) rfl rfl (any_of HT_.out (by kernel_rfl)) (fun _ _ _ h => h) (Or.inr ⟨by rfl, rfl⟩) ?_ ?_
               rotate_left
               ·simp only [Act.put, zs1, zs2, zs3, i64_w, i32_w]
                rfl
               refine zp 43 90 (v := ?_) (a' := ?_) (bm 44 17592186044415) HT_.out (by kernel_rfl) ?_ ?_ ?_; rotate_left; (focus intro w'; go_simp; with_reducible rfl); rotate_left; (focus simp only [Act.put, zs1, zs2, zs3, i64_w, i32_w]; rfl)
               refine done_ (done_of HT_.out (by kernel_rfl)) ?_
               have q66 : (x9_3 : Int) ≤ ((x7_1.length : Int) : Int) := of_decide_eq_true (by first | (with_reducible assumption) | assumption)
               obtain ⟨i066, hi066, _, hsz66, _⟩ := info_parts info49
               have hroom66 : x7_1.length ≤ co18 := (Kd.R_reads' HO_7.out).2.1
               have hC66 : Kd.C k49 _ Ao18 x7_1.length x7_1 := (Kd.R_reads' HO_7.out).2.2
               have hcut66 := cut_to (P := Try.prog) 26 49 .i64 Try.underlying26 hi066 Ao18 x7_1.length co18 x9_3 (of_decide_eq_true (by first | (with_reducible assumption) | assumption)) q66 hroom66
               have hr66 := Kd.C_take (m := (x9_3 : Int).toNat) hC66 (by omega)
               have hy66 : y284.length = (x9_3 : Int).toNat := (by rw [Ny284.out, List.length_take]; omega)
               rw [← Ny284.out] at hr66
               rw [← hy66] at hcut66
               have HR287 := zm hr66
               have HC287 := zm (show y284.length ≤ co18 from by omega)
               clear hr66 hC66 hroom66 hi066 hsz66
               have KY66 := zm hy66
               clear hy66
               have KL66 := zm (show (x9_3 : Int).toNat ≤ x7_1.length from by omega)
               replace q66 := eq_true q66
               try go_wp2_with (first | ((with_reducible refine gate_builtin (b := .append) (xs := #[.tmp 93, .tmp 96]) rfl ?_); at_builtin; refine Kd.R_append_rows k49 (w0 := w) w.heap.size rfl (.tmp 93) (.tmp 96) 26 49 (.agg #[(.int .u32 0), (.int .u8 0), (.int .i64 0), (.int .i64 0)]) 24 rfl Try.underlying26 info49 rfl (by decide) (by omega) (.slice none 0 0) ([] : List (S49)) y284 _ _ _ (fun k_ => some k_ ≠ (.slice Ao18 x7_1.length co18 : Value).ownBlock) (fun _ => False) rfl rfl ?aO ?aR (fun _ _ h => h) (fun _ h => h.elim) ?aF ?aB ?aS ?aL ?_; (case aR => repeat (first | exact (by repeat (first | (with_reducible exact HR287.out) | (with_reducible refine Kd.C_alloc ?_ _) | (with_reducible refine Kd.C_drewN ?_ _) | (with_reducible refine Kd.C_drew ?_) | exact HR287.out)) | (with_reducible refine Kd.C_alloc ?_ _) | (with_reducible refine Kd.C_drewN ?_ _) | (with_reducible refine Kd.C_drew ?_))); (case aB => exact (by apply_rules [HB.out, zb1, zb2, zb3, zb4, GE236.out])); (case aF => exact (fun k_ hk => Kd.fresh' (Kd.R_lt (by apply_rules [HO_7.out, Kd.R_alloc, Kd.R_drewN, Kd.R_drew])) k_ hk)); (case aO => exact ((Kd.R_nil _ _ _ _ (fun k_ => some k_ ≠ (.slice Ao18 x7_1.length co18 : Value).ownBlock)))); (case aS => exact (below_size (by apply_rules [HB.out, zb1, zb2, zb3, zb4, GE236.out]))); (case aL => have := LMc58.out; omega); intro v289 w67 ho hb hg hat; rw [← Ny288.out] at ho; have n0_ := zm (Kd.R_after (Kd.R_apart_nil (by apply_rules [HO_7.out, Kd.R_alloc, Kd.R_drewN, Kd.R_drew])) hg hat); have n1_ := zm (blk_grown (by apply_rules [BK236.out, zk1, zk2, zk3]) hg (by simp [Value.ownBlock])); have n2_ := zm (hb); have n3_ := zm ((show Kd.C k49 w67 Ao18 y284.length y284 from by rw [Ny284.out]; exact Kd.C_take (m := (x9_3 : Int).toNat) ((Kd.R_reads' (Kd.R_after (Kd.R_apart_nil (by apply_rules [HO_7.out, Kd.R_alloc, Kd.R_drewN, Kd.R_drew])) hg hat)).2.2) KL66.out)); have n4_ := zm (ho); clear HO_7; clear BK236; clear HB; clear HR287; have HO_7 := n0_; have BK236 := n1_; have HB := n2_; have HR287 := n3_; have HO290 := n4_; clear n0_ n1_ n2_ n3_ n4_; clear ho hb hg hat; have p291 : 0 ≤ (x8_1 : Int) := of_decide_eq_true (by first | (with_reducible assumption) | assumption); have q291 : x8_1 < (l1.length : Int) := of_decide_eq_true (by first | (with_reducible assumption) | assumption); obtain ⟨ad291, e291, hx291_0, hx291_1, hx291_2, hx291_3⟩ := at_T49 HR1.out x8_1 p291 q291; cases e291; replace hx291_0 := (HB.out.cell (World.block_lt_of_cell? w _ hx291_0)).trans hx291_0; replace hx291_1 := (HB.out.cell (World.block_lt_of_cell? w _ hx291_1)).trans hx291_1; replace hx291_2 := (HB.out.cell (World.block_lt_of_cell? w _ hx291_2)).trans hx291_2; replace hx291_3 := (HB.out.cell (World.block_lt_of_cell? w _ hx291_3)).trans hx291_3; replace p291 := eq_true p291; replace q291 := eq_true q291) | ((with_reducible refine gate_builtin (b := .append) (xs := #[.tmp 98, .tmp 103]) rfl ?_); at_builtin; refine Kd.R_append k49 (w0 := w) w.heap.size rfl (.tmp 98) (.tmp 103) 26 49 (.agg #[(.int .u32 0), (.int .u8 0), (.int .i64 0), (.int .i64 0)]) 24 rfl Try.underlying26 info49 rfl (by decide) (by omega) v289 y288 (⟨(rd_T49 l1 x8_1).f0, (rd_T49 l1 x8_1).f1, (rd_T49 l1 x8_1).f2, (rd_T49 l1 x8_1).f3⟩ : S49) [.int .u32 ((rd_T49 l1 x8_1).f0), .int .u8 ((rd_T49 l1 x8_1).f1), .int .i64 ((rd_T49 l1 x8_1).f2), .int .i64 ((rd_T49 l1 x8_1).f3)] (fun k_ => some k_ ≠ (.slice Ao18 x7_1.length co18 : Value).ownBlock) (fun _ => False) rfl rfl ?aP (fun _ hk => hk.elim) ?aF ?aO ?aB ?aS ?aL ?_; (case aP => exact k49_mkM _ _ _ (⟨(rd_T49 l1 x8_1).f0, (rd_T49 l1 x8_1).f1, (rd_T49 l1 x8_1).f2, (rd_T49 l1 x8_1).f3⟩ : S49)); (case aB => exact (by apply_rules [HB.out, zb1, zb2, zb3, zb4, GE236.out])); (case aF => exact (fun k_ hk => Kd.fresh' (Kd.R_lt (by apply_rules [HO_7.out, Kd.R_alloc, Kd.R_drewN, Kd.R_drew])) k_ hk)); (case aO => exact (by apply_rules [HO290.out, Kd.R_alloc, Kd.R_drewN, Kd.R_drew])); (case aS => exact (below_size (by apply_rules [HB.out, zb1, zb2, zb3, zb4, GE236.out]))); (case aL => have := LMc61.out; omega); intro v293 w68 ho hb hg hat; rw [← Ny292.out] at ho; have n0_ := zm (Kd.R_after (ok := (fun _ => True)) (by apply_rules [HO_7.out, Kd.R_alloc, Kd.R_drewN, Kd.R_drew]) hg hat); have n1_ := zm (blk_grown (by apply_rules [BK236.out, zk1, zk2, zk3]) hg (Kd.R_ne HO290.out BK236.out (by decide))); have n2_ := zm (hb); have n3_ := zm ((show Kd.C k49 w68 Ao18 y284.length y284 from by rw [Ny284.out]; exact Kd.C_take (m := (x9_3 : Int).toNat) ((Kd.R_reads' (Kd.R_after (ok := (fun _ => True)) (by apply_rules [HO_7.out, Kd.R_alloc, Kd.R_drewN, Kd.R_drew]) hg hat)).2.2) KL66.out)); have n4_ := zm (ho); clear HO_7; clear BK236; clear HB; clear HR287; clear HO290; have HO_7 := n0_; have BK236 := n1_; have HB := n2_; have HR287 := n3_; have HO294 := n4_; clear n0_ n1_ n2_ n3_ n4_; clear ho hb hg hat; have q69 : (x9_3 : Int) ≤ ((x7_1.length : Int) : Int) := of_decide_eq_true (by first | (with_reducible assumption) | assumption); obtain ⟨i069, hi069, _, hsz69, _⟩ := info_parts info49; have hroom69 : x7_1.length ≤ co18 := (Kd.R_reads' HO_7.out).2.1; have hC69 : Kd.C k49 _ Ao18 x7_1.length x7_1 := (Kd.R_reads' HO_7.out).2.2; have q069 : (0 : Int) ≤ (x9_3 : Int) := of_decide_eq_true (by first | (with_reducible assumption) | assumption); have hcut69 := cut_from (P := Try.prog) 26 49 .i64 Try.underlying26 hi069 4 hsz69 Ao18 x7_1.length co18 x9_3 q069 q69; have hr69 := Kd.C_drop (m := (x9_3 : Int).toNat) (c := co18) hC69 (by omega) hroom69; obtain ⟨A69, hA69⟩ : ∃ A1, A1 = (if co18 = (x9_3 : Int).toNat then Ao18 else (Ao18 : Option Addr).map (·.add ((x9_3 : Int).toNat * 4))) := ⟨_, rfl⟩; obtain ⟨c69, hc69⟩ : ∃ c1, c1 = co18 - (x9_3 : Int).toNat := ⟨_, rfl⟩; have hy69 : y295.length = x7_1.length - (x9_3 : Int).toNat := (by rw [Ny295.out, List.length_drop] <;> omega); rw [show (x7_1).drop (x9_3 : Int).toNat = y295 from Ny295.out.symm] at hr69; replace hr69 : Kd.C k49 _ A69 y295.length y295 := (by rw [hA69]; exact hr69); rw [← hy69, ← hA69, ← hc69] at hcut69; have HR298 := zm hr69; have HC298 := zm (show y295.length ≤ c69 from by rw [hy69, hc69]; exact Nat.sub_le_sub_right hroom69 _); clear hr69 hC69 hroom69 hi069 hsz69 hc69; have KY69 := zm hy69; have KA69 := zm hA69; clear hy69 hA69; have KL69 := zm (show (x9_3 : Int).toNat ≤ x7_1.length from by omega); replace q69 := eq_true q69) | ((with_reducible refine gate_builtin (b := .append) (xs := #[.tmp 105, .tmp 108]) rfl ?_); at_builtin; refine Kd.R_append_rows k49 (w0 := w) w.heap.size rfl (.tmp 105) (.tmp 108) 26 49 (.agg #[(.int .u32 0), (.int .u8 0), (.int .i64 0), (.int .i64 0)]) 24 rfl Try.underlying26 info49 rfl (by decide) (by omega) v293 y292 y295 _ _ _ (fun k_ => some k_ ≠ (.slice Ao18 x7_1.length co18 : Value).ownBlock) (fun _ => False) rfl rfl ?aO ?aR (fun _ _ h => h) (fun _ h => h.elim) ?aF ?aB ?aS ?aL ?_; (case aR => repeat (first | exact (by repeat (first | (with_reducible exact HR298.out) | (with_reducible refine Kd.C_alloc ?_ _) | (with_reducible refine Kd.C_drewN ?_ _) | (with_reducible refine Kd.C_drew ?_) | exact HR298.out)) | (with_reducible refine Kd.C_alloc ?_ _) | (with_reducible refine Kd.C_drewN ?_ _) | (with_reducible refine Kd.C_drew ?_))); (case aB => exact (by apply_rules [HB.out, zb1, zb2, zb3, zb4, GE236.out])); (case aF => exact (fun k_ hk => Kd.fresh' (Kd.R_lt (by apply_rules [HO_7.out, Kd.R_alloc, Kd.R_drewN, Kd.R_drew])) k_ hk)); (case aO => exact (by apply_rules [HO294.out, Kd.R_alloc, Kd.R_drewN, Kd.R_drew])); (case aS => exact (below_size (by apply_rules [HB.out, zb1, zb2, zb3, zb4, GE236.out]))); (case aL => have := LMc64.out; omega); intro v300 w70 ho hb hg hat; rw [← Ny299.out] at ho; have n0_ := zm (Kd.R_after (ok := (fun _ => True)) (by apply_rules [HO_7.out, Kd.R_alloc, Kd.R_drewN, Kd.R_drew]) hg hat); have n1_ := zm (blk_grown (by apply_rules [BK236.out, zk1, zk2, zk3]) hg (Kd.R_ne HO294.out BK236.out (by decide))); have n2_ := zm (hb); have n3_ := zm ((show Kd.C k49 w70 Ao18 y284.length y284 from by rw [Ny284.out]; exact Kd.C_take (m := (x9_3 : Int).toNat) ((Kd.R_reads' (Kd.R_after (ok := (fun _ => True)) (by apply_rules [HO_7.out, Kd.R_alloc, Kd.R_drewN, Kd.R_drew]) hg hat)).2.2) KL66.out)); have n4_ := zm ((show Kd.C k49 w70 A69 y295.length y295 from by rw [Ny295.out, KA69.out]; exact Kd.C_drop (m := (x9_3 : Int).toNat) (c := co18) ((Kd.R_reads' (Kd.R_after (ok := (fun _ => True)) (by apply_rules [HO_7.out, Kd.R_alloc, Kd.R_drewN, Kd.R_drew]) hg hat)).2.2) KL69.out ((Kd.R_reads' (Kd.R_after (ok := (fun _ => True)) (by apply_rules [HO_7.out, Kd.R_alloc, Kd.R_drewN, Kd.R_drew]) hg hat)).2.1))); have n5_ := zm (ho); clear HO_7; clear BK236; clear HB; clear HR287; clear HR298; clear HO294; have HO_7 := n0_; have BK236 := n1_; have HB := n2_; have HR287 := n3_; have HR298 := n4_; have HO301 := n5_; clear n0_ n1_ n2_ n3_ n4_ n5_; clear ho hb hg hat))
               go_roundg k3
               case measure => have := HK1.out; have := HJ5.out; have := HK3.out; omega
               case rel => exact ⟨(y299), (wrap64 (x8_1 + 1)), (by first | rfl | (simp; done) | (simp [*]; done)), H', ⟨by have := HK1.out; have := HJ5.out; have := HK3.out; omega⟩, ⟨by (with_reducible repeat (first | apply Kd.R_alloc | apply Kd.R_drewN | apply Kd.R_drew)); exact Kd.R_mono HO301.out (fun _ hk => trivial)⟩, ⟨by (with_reducible repeat (first | refine blk_alloc ?_ _ | refine blk_drewN ?_ _ | refine blk_drew ?_)); exact BK236.out⟩, ⟨by apply_rules [HB.out, zb1, zb2, zb3, zb4, GE236.out]⟩⟩
              rw [if_neg c64] at H
              exact absurd H (by simp)
             rw [if_neg c61] at H
             exact absurd H (by simp)
            rw [if_neg c60] at H
            exact absurd H (by simp)
           rw [if_neg c59] at H
           exact absurd H (by simp)
          rw [if_neg c58] at H
          exact absurd H (by simp)
         rw [if_neg c57] at H
         exact absurd H (by simp)
        rw [if_neg c56] at H
        exact absurd H (by simp)
   rw [if_neg c5] at H
   have c5b0 : decide (x8_1 < (l1.length : Int)) = false := decide_eq_false c5
   clear c5
   obtain rfl := Option.some.inj H
   go_wp2
   go_ret
   exact ⟨_, by first | rfl | (simp [errW_none, errW_some] <;> rfl) | (simp [*, errW_none, errW_some] <;> rfl), by (with_reducible repeat (first | apply Kd.R_alloc | apply Kd.R_drewN | apply Kd.R_drew)); exact HO_7.out, by apply_rules [HB.out, zb1, zb2, zb3, zb4, GE236.out]⟩
end Go.Proofs.Ytlfnpakpkniipaa.Q
