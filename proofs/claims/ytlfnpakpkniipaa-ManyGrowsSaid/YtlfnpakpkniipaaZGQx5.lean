/- Words for the claim. -/
import Derived.Test.YtlfnpakpkniipaaZGWords
import Derived.Test.YtlfnpakpkniipaaZGQx0
import Derived.Test.YtlfnpakpkniipaaZGQx2
import Derived.Test.YtlfnpakpkniipaaZGQStable40
namespace Go.Proofs.Ytlfnpakpkniipaa.Q
open Go.RowKit Go.Proofs.YtlfnpakpkniipaaW.PrintWords Go.Proofs.YtlfnpakpkniipaaW.PrintLast Go.Proofs.YtlfnpakpkniipaaW.PrintMore
attribute [local go_sem] max2_int min2_int max_two min_two max_three min_three max_four min_four
set_option linter.unusedVariables false
set_option linter.unusedSimpArgs false
def many_on.l0 : Nat → Int → List (S49) → List (S49) → Int → Int → Int → Int → Int → Option ((List (S49)))
 | 0, _, _, _, _, _, _, _, _ => none
 | k + 1, x2, x7, x10, x11, x12, x113000, x113001, x113002 => if x12 < x11 then (if 0 ≤ x12 then (if x12 < (x10.length : Int) then ((when_Right.f x113000 x113001 x113002 ((rd_T49 x10 x12).f0) ((rd_T49 x10 x12).f1) ((rd_T49 x10 x12).f2) ((rd_T49 x10 x12).f3)).bind fun t115 => (if t115 = true then (if x113001 = 0 then (none) else (if 0 ≤ (wrap64 (Int.tdiv x2 x113001)) then (if (Go.bits .and .u32 (shr .u32 ((rd_T49 x10 x12).f0) (wrap64 (Int.tdiv x2 x113001))) 1) = 1 then (if 0 ≤ (Int.tmod x2 x113001) then (if (Go.bits .and .u8 (shr .u8 ((rd_T49 x10 x12).f1) (Int.tmod x2 x113001)) 1) = 1 then (if x7.length < 5864062014805 then (many_on.l0 k x2 (x7 ++ [(⟨(rd_T49 x10 x12).f0, (rd_T49 x10 x12).f1, (rd_T49 x10 x12).f2, (rd_T49 x10 x12).f3⟩ : S49)]) x10 x11 (wrap64 (x12 + 1)) x113000 x113001 x113002) else (none)) else (many_on.l0 k x2 x7 x10 x11 (wrap64 (x12 + 1)) x113000 x113001 x113002)) else (none)) else (many_on.l0 k x2 x7 x10 x11 (wrap64 (x12 + 1)) x113000 x113001 x113002)) else (none))) else (many_on.l0 k x2 x7 x10 x11 (wrap64 (x12 + 1)) x113000 x113001 x113002))) else (none)) else (none)) else (if x7.length < 40 then (some (srt x7)) else none)
def many_on.f (k : Nat) (a0_0 : Int) (a0_1 : Int) (a0_2 : Int) (l1 : List (S49)) (a2 : Int) : Option ((List (S49))) := many_on.l0 k a2 ([] : List (S49)) l1 (l1.length : Int) 0 a0_0 a0_1 a0_2
theorem many_on.mono_l : ∀ k, (∀ y0 y1 y2 y3 y4 y5 y6 y7, LeO (many_on.l0 k y0 y1 y2 y3 y4 y5 y6 y7) (many_on.l0 (k + 1) y0 y1 y2 y3 y4 y5 y6 y7))
 | 0 => fun _ _ _ _ _ _ _ _ r h => by simp [many_on.l0] at h
 | k + 1 => by
  have ih0 := many_on.mono_l k
  intro y0 y1 y2 y3 y4 y5 y6 y7
  unfold many_on.l0
  repeat' first
  | (with_reducible exact ih0 _ _ _ _ _ _ _ _)
  | (with_reducible exact LeO.refl _)
  | (with_reducible exact LeO.none _)
  | (with_reducible refine LeO.ite ?_ ?_)
  | (with_reducible refine LeO.bind ?_ (fun _ => ?_))
  | refine LeO.ite ?_ ?_
  | refine LeO.bind ?_ (fun _ => ?_)
theorem many_on.mono : ∀ a0 a1 a2 a3 a4 k, LeO (many_on.f k a0 a1 a2 a3 a4) (many_on.f (k + 1) a0 a1 a2 a3 a4) := by
 intro a0 a1 a2 a3 a4 k
 have ih0 := many_on.mono_l k
 unfold many_on.f
 repeat' first
   | (with_reducible exact ih0 _ _ _ _ _ _ _ _)
   | (with_reducible exact LeO.refl _)
   | (with_reducible exact LeO.none _)
   | (with_reducible refine LeO.ite ?_ ?_)
   | (with_reducible refine LeO.bind ?_ (fun _ => ?_))
   | refine LeO.ite ?_ ?_
   | refine LeO.bind ?_ (fun _ => ?_)
def many_on.T5 : Bool × List (List Nat × List Nat) := (true, [([], []), ([], []), ([0, 1], [0, 1]), ([2, 2], [2]), ([3], [3]), ([4, 3], [3, 4]), ([3], [3]), ([3], [3]), ([7, 3], [3, 7]), ([6, 8, 3], [3, 6, 8]), ([5, 9, 3], [3, 5, 9]), ([10, 3], [3, 10]), ([11, 3], [3, 11]), ([3, 12], [3, 12]), ([13, 3], [13]), ([14], [14]), ([15, 14], [14, 15]), ([14], [14]), ([14], [14]), ([18, 14], [14, 18]), ([17, 19, 14], [14, 17, 19]), ([16, 20, 14], [14, 16, 20]), ([21, 14], [14, 21]), ([22, 14], [14, 22]), ([14, 23], [14, 23])])
def many_on.B5 : List Nat := [0, 0, 3, 7, 15, 31, 15, 15, 143, 463, 1023, 2047, 4095, 8191, 16383, 32767, 65535, 32767, 32767, 294911, 950271, 2097151, 4194303, 8388607, 16777215]
theorem many_on.tab5 : rtab .any (opsOf Try.f35 5) = many_on.T5 := by kernel_rfl
theorem many_on.bits5 : waitsOk many_on.T5.2 many_on.B5 = true := by kernel_rfl
set_option maxHeartbeats 8000000 in
set_option maxRecDepth 100000 in
theorem many_on.calls (k : Nat) (a0_0 : Int) (a0_1 : Int) (a0_2 : Int) (A1 : Option Addr) (c1 : Nat) (l1 : List (S49)) (a2 : Int) (r : List (S49)) (w : World) (hr1 : Kd.C k49 w A1 l1.length l1) (hc1 : l1.length ≤ c1) (h : many_on.f k a0_0 a0_1 a0_2 l1 a2 = some r) :
  Calls Try.prog 35 #[.agg #[.int .i64 a0_0, .int .i64 a0_1, .int .i64 a0_2], .slice A1 l1.length c1, .int .i64 a2] w fun e w' => ∃ v0_ : Value, e = .returned (v0_) ∧ Kd.R k49 49 w' w.heap.size (fun _ => True) v0_ r ∧ Below w.heap.size w w' := by
 have hu23 := Try.underlying23
 have hu49 := Try.underlying49
 have HR1 := zm hr1
 have HC1 := zm hc1
 clear hr1 hc1
 have HB := zm (Below.refl w.heap.size w)
 have H : (many_on.l0 k a2 ([] : List (S49)) l1 (l1.length : Int) 0 a0_0 a0_1 a0_2) = some r := h
 clear h
 have H' := zm H
 clear H
 go_enter Try.func35, Try.ntmps35
 go_wp2_with (first | ((with_reducible refine gate_dst (N := 3) rfl ?_); refine box_event ?hg (N := 3) ?hd (cs := #[.int .i64 a0_0, .int .i64 a0_1, .int .i64 a0_2]) (t := 23) ?hr ?_; (case hd => rfl); (case hg => rfl); (case hr => go_simp; try rfl); intro gb112 hg w4 hbox hb; have BK112 := zm (hbox); have GW112 := zm ((by rw [hg]; exact (below_size (by apply_rules [HB.out, zb1, zb2, zb3])) : w.heap.size ≤ gb112)); have GE112 := GW112; replace HB := zm (below_step (by apply_rules [HB.out, zb1, zb2, zb3]) hb); clear hb hbox hg))
 go_loopg [7, 12] k (fun kq v7 v12 w' => ∃ (x7_1 : List (S49)) (x12_1 : Int), v12 = .int .i64 x12_1 ∧ Aside0 (many_on.l0 kq a2 x7_1 l1 (l1.length : Int) x12_1 a0_0 a0_1 a0_2 = some r) ∧ Aside0 (kq ≤ k) ∧ Aside0 (Kd.R k49 49 w' w.heap.size (fun _ => True) v7 x7_1) ∧ Aside0 (w'.heap[gb112]? = some (.cells #[.int .i64 a0_0, .int .i64 a0_1, .int .i64 a0_2] 23 (0, 0))) ∧ Aside0 (Below w.heap.size w w'))
 case atStart => exact ⟨(([] : List (S49))), (0), (by first | rfl | (simp; done) | (simp [*]; done)), H', ⟨Nat.le_refl _⟩, ⟨by first | exact Kd.R_nil _ _ _ _ _ | exact Kd.N_nil _ _ _ _ _ | exact Kd.V_nil _ _ _ _ _ | exact Kd.Q_nil _ _ _ _ _ | exact Kd.S_nil _ _ _ _ _⟩, ⟨by (with_reducible repeat (first | refine blk_alloc ?_ _ | refine blk_drewN ?_ _ | refine blk_drew ?_)); exact BK112.out⟩, ⟨by apply_rules [HB.out, zb1, zb2, zb3, zb4, GE112.out]⟩⟩
 case round =>
  clear H'
  (try clear c1); (try clear p2); (try clear c3)
  obtain ⟨x7_1, x12_1, rfl, HA, HK1, HO_7, BK112, HB⟩ := hrel
  cases gk with
  | zero => exact absurd HA.out (by simp [many_on.l0])
  | succ k1 =>
   have H := HA.out
   clear HA
   simp only [many_on.l0] at H
   by_cases c5 : x12_1 < (l1.length : Int)
   ·rw [if_pos c5] at H
    have c5b0 : decide (x12_1 < (l1.length : Int)) = true := decide_eq_true c5
    clear c5
    by_cases c6 : 0 ≤ x12_1
    ·rw [if_pos c6] at H
     have c6b0 : decide (0 ≤ x12_1) = true := decide_eq_true c6
     clear c6
     by_cases c7 : x12_1 < (l1.length : Int)
     ·rw [if_pos c7] at H
      have c7b0 : decide (x12_1 < (l1.length : Int)) = true := decide_eq_true c7
      clear c7
      replace H := zo H
      obtain ⟨t115, A80, H⟩ := H
      have A8 := zm A80
      clear A80
      by_cases c9 : t115 = true
      ·subst c9
       have H1 : (if a0_1 = 0 then (none) else (if 0 ≤ (wrap64 (Int.tdiv a2 a0_1)) then (if (Go.bits .and .u32 (shr .u32 ((rd_T49 l1 x12_1).f0) (wrap64 (Int.tdiv a2 a0_1))) 1) = 1 then (if 0 ≤ (Int.tmod a2 a0_1) then (if (Go.bits .and .u8 (shr .u8 ((rd_T49 l1 x12_1).f1) (Int.tmod a2 a0_1)) 1) = 1 then (if x7_1.length < 5864062014805 then (many_on.l0 k1 a2 (x7_1 ++ [(⟨(rd_T49 l1 x12_1).f0, (rd_T49 l1 x12_1).f1, (rd_T49 l1 x12_1).f2, (rd_T49 l1 x12_1).f3⟩ : S49)]) l1 (l1.length : Int) (wrap64 (x12_1 + 1)) a0_0 a0_1 a0_2) else (none)) else (many_on.l0 k1 a2 x7_1 l1 (l1.length : Int) (wrap64 (x12_1 + 1)) a0_0 a0_1 a0_2)) else (none)) else (many_on.l0 k1 a2 x7_1 l1 (l1.length : Int) (wrap64 (x12_1 + 1)) a0_0 a0_1 a0_2)) else (none))) = some r := by rw [if_pos rfl] at H; exact H
       clear H
       have H := H1
       clear H1
       by_cases c10 : a0_1 = 0
       ·rw [if_pos c10] at H
        exact absurd H (by simp)
       rw [if_neg c10] at H
       have c10b0 : (a0_1 == 0) = false := beq_eq_false_iff_ne.mpr c10
       have c10b1 : (a0_1 != 0) = true := bne_iff_ne.mpr c10
       obtain ⟨ji11, hji11⟩ : ∃ j_ : Int, (wrap64 (Int.tdiv a2 a0_1)) = j_ := ⟨_, rfl⟩
       replace H : (if 0 ≤ (ji11) then (if (Go.bits .and .u32 (shr .u32 ((rd_T49 l1 x12_1).f0) (ji11)) 1) = 1 then (if 0 ≤ (Int.tmod a2 a0_1) then (if (Go.bits .and .u8 (shr .u8 ((rd_T49 l1 x12_1).f1) (Int.tmod a2 a0_1)) 1) = 1 then (if x7_1.length < 5864062014805 then (many_on.l0 k1 a2 (x7_1 ++ [(⟨(rd_T49 l1 x12_1).f0, (rd_T49 l1 x12_1).f1, (rd_T49 l1 x12_1).f2, (rd_T49 l1 x12_1).f3⟩ : S49)]) l1 (l1.length : Int) (wrap64 (x12_1 + 1)) a0_0 a0_1 a0_2) else (none)) else (many_on.l0 k1 a2 x7_1 l1 (l1.length : Int) (wrap64 (x12_1 + 1)) a0_0 a0_1 a0_2)) else (none)) else (many_on.l0 k1 a2 x7_1 l1 (l1.length : Int) (wrap64 (x12_1 + 1)) a0_0 a0_1 a0_2)) else (none)) = some r := by first | (rw [hji11] at H; exact H) | (simp only [hji11] at H ⊢; exact H)
       (try rw [hji11] at A8)
       have hji11w : (IntKind.i64.wrap (Int.tdiv a2 a0_1)) = ji11 := (i64_w _).trans hji11
       by_cases c12 : 0 ≤ (ji11)
       ·rw [if_pos c12] at H
        have c12b0 := eq_true c12
        have c12b1 : decide (0 ≤ (ji11)) = true := decide_eq_true c12
        clear c12
        obtain ⟨ji13, hji13⟩ : ∃ j_ : Int, (shr .u32 ((rd_T49 l1 x12_1).f0) (ji11)) = j_ := ⟨_, rfl⟩
        replace H : (if (Go.bits .and .u32 (ji13) 1) = 1 then (if 0 ≤ (Int.tmod a2 a0_1) then (if (Go.bits .and .u8 (shr .u8 ((rd_T49 l1 x12_1).f1) (Int.tmod a2 a0_1)) 1) = 1 then (if x7_1.length < 5864062014805 then (many_on.l0 k1 a2 (x7_1 ++ [(⟨(rd_T49 l1 x12_1).f0, (rd_T49 l1 x12_1).f1, (rd_T49 l1 x12_1).f2, (rd_T49 l1 x12_1).f3⟩ : S49)]) l1 (l1.length : Int) (wrap64 (x12_1 + 1)) a0_0 a0_1 a0_2) else (none)) else (many_on.l0 k1 a2 x7_1 l1 (l1.length : Int) (wrap64 (x12_1 + 1)) a0_0 a0_1 a0_2)) else (none)) else (many_on.l0 k1 a2 x7_1 l1 (l1.length : Int) (wrap64 (x12_1 + 1)) a0_0 a0_1 a0_2)) = some r := by first | (rw [hji13] at H; exact H) | (simp only [hji13] at H ⊢; exact H)
        (try rw [hji13] at A8)
        have hji13_ : (((rd_T49 l1 x12_1).f0) / 2 ^ min (ji11).toNat 32) = ji13 := hji13
        have hji13z : (ji11) ≤ 32 → (((rd_T49 l1 x12_1).f0) / 2 ^ (ji11).toNat) = ji13 := shr_small hji13
        by_cases c14 : (Go.bits .and .u32 (ji13) 1) = 1
        ·rw [if_pos c14] at H
         have c14b0 : ((Go.bits .and .u32 (ji13) 1) == 1) = true := beq_iff_eq.mpr c14
         have c14b1 : ((Go.bits .and .u32 (ji13) 1) != 1) = false := bne_eq_false_iff_eq.mpr c14
         clear c14
         obtain ⟨ji15, hji15⟩ : ∃ j_ : Int, (Int.tmod a2 a0_1) = j_ := ⟨_, rfl⟩
         replace H : (if 0 ≤ (ji15) then (if (Go.bits .and .u8 (shr .u8 ((rd_T49 l1 x12_1).f1) (ji15)) 1) = 1 then (if x7_1.length < 5864062014805 then (many_on.l0 k1 a2 (x7_1 ++ [(⟨(rd_T49 l1 x12_1).f0, (rd_T49 l1 x12_1).f1, (rd_T49 l1 x12_1).f2, (rd_T49 l1 x12_1).f3⟩ : S49)]) l1 (l1.length : Int) (wrap64 (x12_1 + 1)) a0_0 a0_1 a0_2) else (none)) else (many_on.l0 k1 a2 x7_1 l1 (l1.length : Int) (wrap64 (x12_1 + 1)) a0_0 a0_1 a0_2)) else (none)) = some r := by first | (rw [hji15] at H; exact H) | (simp only [hji15] at H ⊢; exact H)
         (try rw [hji15] at A8)
         by_cases c16 : 0 ≤ (ji15)
         ·rw [if_pos c16] at H
          have c16b0 := eq_true c16
          have c16b1 : decide (0 ≤ (ji15)) = true := decide_eq_true c16
          clear c16
          obtain ⟨ji17, hji17⟩ : ∃ j_ : Int, (shr .u8 ((rd_T49 l1 x12_1).f1) (ji15)) = j_ := ⟨_, rfl⟩
          replace H : (if (Go.bits .and .u8 (ji17) 1) = 1 then (if x7_1.length < 5864062014805 then (many_on.l0 k1 a2 (x7_1 ++ [(⟨(rd_T49 l1 x12_1).f0, (rd_T49 l1 x12_1).f1, (rd_T49 l1 x12_1).f2, (rd_T49 l1 x12_1).f3⟩ : S49)]) l1 (l1.length : Int) (wrap64 (x12_1 + 1)) a0_0 a0_1 a0_2) else (none)) else (many_on.l0 k1 a2 x7_1 l1 (l1.length : Int) (wrap64 (x12_1 + 1)) a0_0 a0_1 a0_2)) = some r := by first | (rw [hji17] at H; exact H) | (simp only [hji17] at H ⊢; exact H)
          (try rw [hji17] at A8)
          have hji17_ : (((rd_T49 l1 x12_1).f1) / 2 ^ min (ji15).toNat 8) = ji17 := hji17
          have hji17z : (ji15) ≤ 8 → (((rd_T49 l1 x12_1).f1) / 2 ^ (ji15).toNat) = ji17 := shr_small hji17
          by_cases c18 : (Go.bits .and .u8 (ji17) 1) = 1
          ·rw [if_pos c18] at H
           have c18b0 : ((Go.bits .and .u8 (ji17) 1) == 1) = true := beq_iff_eq.mpr c18
           have c18b1 : ((Go.bits .and .u8 (ji17) 1) != 1) = false := bne_eq_false_iff_eq.mpr c18
           clear c18
           by_cases c19 : x7_1.length < 5864062014805
           ·rw [if_pos c19] at H
            have LMc19 := zm c19
            clear c19
            obtain ⟨y116, hy116⟩ : ∃ y_ : List (S49), y_ = (x7_1 ++ [(⟨(rd_T49 l1 x12_1).f0, (rd_T49 l1 x12_1).f1, (rd_T49 l1 x12_1).f2, (rd_T49 l1 x12_1).f3⟩ : S49)]) := ⟨_, rfl⟩
            replace H : (many_on.l0 k1 a2 y116 l1 (l1.length : Int) (wrap64 (x12_1 + 1)) a0_0 a0_1 a0_2) = some r := by first | (rw [hy116]; with_reducible exact H) | (have H2_ := (Option.bind_some _ _).symm.trans H; rw [hy116]; with_reducible exact H2_) | (have H2_ := (Option.bind_some _ _).symm.trans H; with_reducible exact H2_) | with_reducible exact H | (rw [hy116]; exact H) | exact H
            have Ny116 := zm hy116
            clear hy116
            have H' := zm H
            clear H
            have p113 : 0 ≤ (x12_1 : Int) := of_decide_eq_true (by first | (with_reducible assumption) | assumption)
            have q113 : x12_1 < (l1.length : Int) := of_decide_eq_true (by first | (with_reducible assumption) | assumption)
            obtain ⟨ad113, e113, hx113_0, hx113_1, hx113_2, hx113_3⟩ := at_T49 HR1.out x12_1 p113 q113
            cases e113
            (try (replace hx113_0 := (HB.out.cell (World.block_lt_of_cell? w _ hx113_0)).trans hx113_0))
            (try (replace hx113_1 := (HB.out.cell (World.block_lt_of_cell? w _ hx113_1)).trans hx113_1))
            (try (replace hx113_2 := (HB.out.cell (World.block_lt_of_cell? w _ hx113_2)).trans hx113_2))
            (try (replace hx113_3 := (HB.out.cell (World.block_lt_of_cell? w _ hx113_3)).trans hx113_3))
            replace p113 := eq_true p113
            replace q113 := eq_true q113
            try go_wp2_with (first | ((with_reducible refine gate_dst (N := 9) rfl ?_); refine box_event ?hg (N := 9) ?hd (cs := #[.int .u32 0, .int .u8 0, .int .i64 0, .int .i64 0]) (t := 49) ?hr ?_; (case hd => rfl); (case hg => rfl); (case hr => go_simp; try rfl); intro gb114 hg w20 hbox hb; have n0_ := zm (Kd.R_below (Kd.R_elderB (by apply_rules [HO_7.out, Kd.R_alloc, Kd.R_drewN, Kd.R_drew]) gb114 (Nat.le_of_eq hg.symm)) hb); have n1_ := zm (blk_below (by apply_rules [BK112.out, zk1, zk2, zk3]) hb); have n2_ := zm (below_step (by apply_rules [HB.out, zb1, zb2, zb3, zb4, GE112.out]) hb); have n3_ := zm (hbox); have n4_ := zm ((by rw [hg]; exact (below_size (by apply_rules [HB.out, zb1, zb2, zb3, zb4, GE112.out])) : w.heap.size ≤ gb114)); have n5_ := n4_; have n6_ := zm ((by rw [hg]; exact Nat.ne_of_lt (blk_lt (by apply_rules [BK112.out, zk1, zk2, zk3])) : gb112 ≠ gb114)); have n7_ := zm ((by rw [hg]; exact Nat.ne_of_gt (blk_lt (by apply_rules [BK112.out, zk1, zk2, zk3])) : gb114 ≠ gb112)); clear HO_7; clear BK112; clear HB; have HO_7 := n0_; have BK112 := n1_; have HB := n2_; have BK114 := n3_; have GW114 := n4_; have GE114 := n5_; have NB112_114 := n6_; have NB114_112 := n7_; clear n0_ n1_ n2_ n3_ n4_ n5_ n6_ n7_; clear hb hbox hg; have hnb21 := NB114_112.out; have hnc21 := NB112_114.out; obtain ⟨hcz22_0, hcz22_1, hcz22_2, hcz22_3, hfz22_0, hfz22_1, hfz22_2, hfz22_3⟩ := zf4 BK114.out))
            have n0_ : Aside0 (Kd.R k49 49 ((((w20.setCell ⟨gb114, 0, none⟩ (.int .u32 ((rd_T49 l1 x12_1).f0))).setCell ⟨gb114, 1, none⟩ (.int .u8 ((rd_T49 l1 x12_1).f1))).setCell ⟨gb114, 2, none⟩ (.int .i64 ((rd_T49 l1 x12_1).f2))).setCell ⟨gb114, 3, none⟩ (.int .i64 ((rd_T49 l1 x12_1).f3))) w.heap.size (fun k_ => k_ ≠ gb114) u7 x7_1) := ⟨by (with_reducible repeat (first | apply Kd.R_alloc | apply Kd.R_drewN | apply Kd.R_drew)); exact Kd.R_mono (Kd.R_far (p := ⟨gb114, 3, none⟩) (Kd.R_far (p := ⟨gb114, 2, none⟩) (Kd.R_far (p := ⟨gb114, 1, none⟩) (Kd.R_far (p := ⟨gb114, 0, none⟩) (Kd.R_mono HO_7.out (fun k_ hk => (⟨hk, hk.2⟩ : _ ∧ k_ ≠ gb114))) (fun _ hk => hk.2) (.int .u32 ((rd_T49 l1 x12_1).f0))) (fun _ hk => hk.2) (.int .u8 ((rd_T49 l1 x12_1).f1))) (fun _ hk => hk.2) (.int .i64 ((rd_T49 l1 x12_1).f2))) (fun _ hk => hk.2) (.int .i64 ((rd_T49 l1 x12_1).f3))) (fun _ hk => hk.1.2)⟩
            have n1_ : Aside0 (((((w20.setCell ⟨gb114, 0, none⟩ (.int .u32 ((rd_T49 l1 x12_1).f0))).setCell ⟨gb114, 1, none⟩ (.int .u8 ((rd_T49 l1 x12_1).f1))).setCell ⟨gb114, 2, none⟩ (.int .i64 ((rd_T49 l1 x12_1).f2))).setCell ⟨gb114, 3, none⟩ (.int .i64 ((rd_T49 l1 x12_1).f3))).heap[gb112]? = some (.cells #[.int .i64 a0_0, .int .i64 a0_1, .int .i64 a0_2] 23 (0, 0))) := ⟨by (with_reducible repeat (first | refine blk_alloc ?_ _ | refine blk_drewN ?_ _ | refine blk_drew ?_)); refine blk_far ?_ NB112_114.out _; (with_reducible repeat (first | refine blk_alloc ?_ _ | refine blk_drewN ?_ _ | refine blk_drew ?_)); refine blk_far ?_ NB112_114.out _; (with_reducible repeat (first | refine blk_alloc ?_ _ | refine blk_drewN ?_ _ | refine blk_drew ?_)); refine blk_far ?_ NB112_114.out _; (with_reducible repeat (first | refine blk_alloc ?_ _ | refine blk_drewN ?_ _ | refine blk_drew ?_)); refine blk_far ?_ NB112_114.out _; (with_reducible repeat (first | refine blk_alloc ?_ _ | refine blk_drewN ?_ _ | refine blk_drew ?_)); exact BK112.out⟩
            have n2_ : Aside0 (((((w20.setCell ⟨gb114, 0, none⟩ (.int .u32 ((rd_T49 l1 x12_1).f0))).setCell ⟨gb114, 1, none⟩ (.int .u8 ((rd_T49 l1 x12_1).f1))).setCell ⟨gb114, 2, none⟩ (.int .i64 ((rd_T49 l1 x12_1).f2))).setCell ⟨gb114, 3, none⟩ (.int .i64 ((rd_T49 l1 x12_1).f3))).heap[gb114]? = some (.cells #[.int .u32 ((rd_T49 l1 x12_1).f0), .int .u8 ((rd_T49 l1 x12_1).f1), .int .i64 ((rd_T49 l1 x12_1).f2), .int .i64 ((rd_T49 l1 x12_1).f3)] 49 (0, 0))) := ⟨by (with_reducible repeat (first | refine blk_alloc ?_ _ | refine blk_drewN ?_ _ | refine blk_drew ?_)); refine blk_put (cs := #[.int .u32 ((rd_T49 l1 x12_1).f0), .int .u8 ((rd_T49 l1 x12_1).f1), .int .i64 ((rd_T49 l1 x12_1).f2), .int .i64 0]) ?_ 3 _ rfl; (with_reducible repeat (first | refine blk_alloc ?_ _ | refine blk_drewN ?_ _ | refine blk_drew ?_)); refine blk_put (cs := #[.int .u32 ((rd_T49 l1 x12_1).f0), .int .u8 ((rd_T49 l1 x12_1).f1), .int .i64 0, .int .i64 0]) ?_ 2 _ rfl; (with_reducible repeat (first | refine blk_alloc ?_ _ | refine blk_drewN ?_ _ | refine blk_drew ?_)); refine blk_put (cs := #[.int .u32 ((rd_T49 l1 x12_1).f0), .int .u8 0, .int .i64 0, .int .i64 0]) ?_ 1 _ rfl; (with_reducible repeat (first | refine blk_alloc ?_ _ | refine blk_drewN ?_ _ | refine blk_drew ?_)); refine blk_put (cs := #[.int .u32 0, .int .u8 0, .int .i64 0, .int .i64 0]) ?_ 0 _ rfl; (with_reducible repeat (first | refine blk_alloc ?_ _ | refine blk_drewN ?_ _ | refine blk_drew ?_)); exact BK114.out⟩
            have n3_ : Aside0 (Below w.heap.size w ((((w20.setCell ⟨gb114, 0, none⟩ (.int .u32 ((rd_T49 l1 x12_1).f0))).setCell ⟨gb114, 1, none⟩ (.int .u8 ((rd_T49 l1 x12_1).f1))).setCell ⟨gb114, 2, none⟩ (.int .i64 ((rd_T49 l1 x12_1).f2))).setCell ⟨gb114, 3, none⟩ (.int .i64 ((rd_T49 l1 x12_1).f3)))) := ⟨by apply_rules [HB.out, zb1, zb2, zb3, zb4, GE112.out, zb4, GE114.out]⟩
            (try clear HO_7)
            (try clear BK112)
            (try clear BK114)
            (try clear HB)
            generalize ((((w20.setCell ⟨gb114, 0, none⟩ (.int .u32 ((rd_T49 l1 x12_1).f0))).setCell ⟨gb114, 1, none⟩ (.int .u8 ((rd_T49 l1 x12_1).f1))).setCell ⟨gb114, 2, none⟩ (.int .i64 ((rd_T49 l1 x12_1).f2))).setCell ⟨gb114, 3, none⟩ (.int .i64 ((rd_T49 l1 x12_1).f3))) = w23 at n0_ n1_ n2_ n3_ ⊢
            have HO_7 := n0_
            have BK112 := n1_
            have BK114 := n2_
            have HB := n3_
            clear n0_ n1_ n2_ n3_
            have n0_ := zm (Kd.R_drew HO_7.out)
            have n1_ := zm (blk_drew BK112.out)
            have n2_ := zm (blk_drew BK114.out)
            have n3_ := zm (below_drew1 HB.out)
            clear HO_7
            clear BK112
            clear BK114
            clear HB
            have HO_7 := n0_
            have BK112 := n1_
            have BK114 := n2_
            have HB := n3_
            clear n0_ n1_ n2_ n3_
            refine start_ (n := 25) (S := fun w' => w'.cell? ⟨gb112, 0, none⟩ = some (.int .i64 a0_0) ∧ w'.cell? ⟨gb112, 1, none⟩ = some (.int .i64 a0_1) ∧ w'.cell? ⟨gb112, 2, none⟩ = some (.int .i64 a0_2) ∧ w'.cell? ⟨gb114, 0, none⟩ = some (.int .u32 ((rd_T49 l1 x12_1).f0)) ∧ w'.cell? ⟨gb114, 1, none⟩ = some (.int .u8 ((rd_T49 l1 x12_1).f1)) ∧ w'.cell? ⟨gb114, 2, none⟩ = some (.int .i64 ((rd_T49 l1 x12_1).f2)) ∧ w'.cell? ⟨gb114, 3, none⟩ = some (.int .i64 ((rd_T49 l1 x12_1).f3))) (ds := []) #[false, false, false, false, false, false, false, false, false, false, false, false, false, false, false, false, false, false, false, false, false, false, false, false, false] (by kernel_rfl) rfl rfl ⟨(blk_cell BK112.out 0).trans rfl, (blk_cell BK112.out 1).trans rfl, (blk_cell BK112.out 2).trans rfl, (blk_cell BK114.out 0).trans rfl, (blk_cell BK114.out 1).trans rfl, (blk_cell BK114.out 2).trans rfl, (blk_cell BK114.out 3).trans rfl⟩ (fun hHeld => ?_); refine with_tabW many_on.tab5 many_on.bits5 (fun HT_ HW_ => ?_)
            generalize w23.drew = w24 at HO_7 BK112 BK114 HB hHeld ⊢
            refine take_ (i := 0) (N := some 16) (v := ?_) (a' := ?_) (bm 25 1) rfl rfl (take_ofW HT_.out HW_.out (by kernel_rfl)) (fun _ _ _ h => h) (Or.inl ⟨by rfl, ?_⟩) hHeld ?_ ?_; rotate_left; (focus rintro w' ⟨s0, s1, s2, s3, s4, s5, s6⟩; go_simp; with_reducible rfl); rotate_left; (focus simp only [Act.put, zs1, zs2, zs3, i64_w, i32_w]; rfl)
            refine take_ (i := 1) (N := some 17) (v := ?_) (a' := ?_) (bm 25 3) rfl rfl (take_ofW HT_.out HW_.out (by kernel_rfl)) (fun _ _ _ h => h) (Or.inl ⟨by rfl, ?_⟩) hHeld ?_ ?_; rotate_left; (focus rintro w' ⟨s0, s1, s2, s3, s4, s5, s6⟩; go_simp; with_reducible rfl); rotate_left; (focus simp only [Act.put, zs1, zs2, zs3, i64_w, i32_w]; rfl)
            refine one_ (i := 2) (N := some 18) (bm 25 7) rfl rfl (one_of HT_.out (by kernel_rfl)) (by decide) (fun K hK => ?_)
            refine goes_ Try.func27 (by kernel_rfl) rfl #[.agg #[.int .i64 a0_0, .int .i64 a0_1, .int .i64 a0_2], .agg #[.int .u32 ((rd_T49 l1 x12_1).f0), .int .u8 ((rd_T49 l1 x12_1).f1), .int .i64 ((rd_T49 l1 x12_1).f2), .int .i64 ((rd_T49 l1 x12_1).f3)]] (by rfl) rfl rfl (by (try simp only [zt1, zt2, zt3]) <;> rfl) ?_
            with_reducible refine (when_Right.calls a0_0 a0_1 a0_2 ((rd_T49 l1 x12_1).f0) ((rd_T49 l1 x12_1).f1) ((rd_T49 l1 x12_1).f2) ((rd_T49 l1 x12_1).f3) true _ A8.out).mono ?_
            rintro e w25 ⟨rfl, hb⟩
            refine ⟨_, rfl, ?_⟩
            have n0_ := zm (Kd.R_below (by apply_rules [HO_7.out, Kd.R_alloc, Kd.R_drewN, Kd.R_drew]) hb)
            have n1_ := zm (blk_below (by apply_rules [BK112.out, zk1, zk2, zk3]) hb)
            have n2_ := zm (blk_below (by apply_rules [BK114.out, zk1, zk2, zk3]) hb)
            have n3_ := zm (below_step (by apply_rules [HB.out, zb1, zb2, zb3, zb4, GE112.out, zb4, GE114.out]) hb)
            clear HO_7
            clear BK112
            clear BK114
            clear HB
            have HO_7 := n0_
            have BK112 := n1_
            have BK114 := n2_
            have HB := n3_
            clear n0_ n1_ n2_ n3_
            (try clear hb)
            (try clear hb2)
            (try clear hk)
            (try clear hi)
            refine hK.out _ _ ⟨(blk_cell BK112.out 0).trans rfl, (blk_cell BK112.out 1).trans rfl, (blk_cell BK112.out 2).trans rfl, (blk_cell BK114.out 0).trans rfl, (blk_cell BK114.out 1).trans rfl, (blk_cell BK114.out 2).trans rfl, (blk_cell BK114.out 3).trans rfl⟩ (fun hHeld => ?_)
            clear hK K
            refine norm_ (a' := ?_) ?_ ?_
            rotate_left
            ·show Act.put _ (some 18) _ = _
             simp only [Act.put, zs1, zs2, zs3, i64_w, i32_w]
             rfl
            refine zp 3 19 (v := ?_) (a' := ?_) (bm 25 15) HT_.out (by kernel_rfl) ?_ ?_ ?_; rotate_left; (focus intro w'; go_simp; with_reducible rfl); rotate_left; (focus simp only [Act.put, zs1, zs2, zs3, i64_w, i32_w]; rfl)
            refine zp 4 20 (v := ?_) (a' := ?_) (bm 25 31) HT_.out (by kernel_rfl) ?_ ?_ ?_; rotate_left; (focus intro w'; go_simp; with_reducible rfl); rotate_left; (focus simp only [Act.put, zs1, zs2, zs3, i64_w, i32_w]; rfl)
            refine zp 6 22 (v := ?_) (a' := ?_) (bm 25 95) HT_.out (by kernel_rfl) ?_ ?_ ?_; rotate_left; (focus intro w'; go_simp; with_reducible rfl); rotate_left; (focus simp only [Act.put, zs1, zs2, zs3, i64_w, i32_w]; rfl)
            refine zp 7 23 (v := ?_) (a' := ?_) (bm 25 223) HT_.out (by kernel_rfl) ?_ ?_ ?_; rotate_left; (focus intro w'; go_simp; with_reducible rfl); rotate_left; (focus simp only [Act.put, zs1, zs2, zs3, i64_w, i32_w]; rfl)
            refine take_ (i := 5) (N := some 21) (v := ?_) (a' := ?_) (bm 25 255) rfl rfl (take_ofW HT_.out HW_.out (by kernel_rfl)) (fun _ _ _ h => h) (Or.inl ⟨by rfl, ?_⟩) hHeld ?_ ?_; rotate_left; (focus rintro w' ⟨s0, s1, s2, s3, s4, s5, s6⟩; go_simp; with_reducible rfl); rotate_left; (focus simp only [Act.put, zs1, zs2, zs3, i64_w, i32_w]; rfl)
            refine take_ (i := 8) (N := some 24) (v := ?_) (a' := ?_) (bm 25 511) rfl rfl (take_ofW HT_.out HW_.out (by kernel_rfl)) (fun _ _ _ h => h) (Or.inl ⟨by rfl, ?_⟩) hHeld ?_ ?_; rotate_left; (focus rintro w' ⟨s0, s1, s2, s3, s4, s5, s6⟩; go_simp; with_reducible rfl); rotate_left; (focus simp only [Act.put, zs1, zs2, zs3, i64_w, i32_w]; rfl)
            refine zp 9 25 (v := ?_) (a' := ?_) (bm 25 1023) HT_.out (by kernel_rfl) ?_ ?_ ?_; rotate_left; (focus intro w'; go_simp; with_reducible rfl); rotate_left; (focus simp only [Act.put, zs1, zs2, zs3, i64_w, i32_w]; rfl)
            refine zp 10 26 (v := ?_) (a' := ?_) (bm 25 2047) HT_.out (by kernel_rfl) ?_ ?_ ?_; rotate_left; (focus intro w'; go_simp; with_reducible rfl); rotate_left; (focus simp only [Act.put, zs1, zs2, zs3, i64_w, i32_w]; rfl)
            refine zp 11 27 (v := ?_) (a' := ?_) (bm 25 4095) HT_.out (by kernel_rfl) ?_ ?_ ?_; rotate_left; (focus intro w'; go_simp; with_reducible rfl); rotate_left; (focus simp only [Act.put, zs1, zs2, zs3, i64_w, i32_w]; rfl)
            refine zp 12 28 (v := ?_) (a' := ?_) (bm 25 8191) HT_.out (by kernel_rfl) ?_ ?_ ?_; rotate_left; (focus intro w'; go_simp; with_reducible rfl); rotate_left; (focus simp only [Act.put, zs1, zs2, zs3, i64_w, i32_w]; rfl)
            refine zp 13 29 (v := ?_) (a' := ?_) (bm 25 16383) HT_.out (by kernel_rfl) ?_ ?_ ?_; rotate_left; (focus intro w'; go_simp; with_reducible rfl); rotate_left; (focus simp only [Act.put, zs1, zs2, zs3, i64_w, i32_w]; rfl)
            refine zp 14 30 (v := ?_) (a' := ?_) (bm 25 32767) HT_.out (by kernel_rfl) ?_ ?_ ?_; rotate_left; (focus intro w'; go_simp; with_reducible rfl); rotate_left; (focus simp only [Act.put, zs1, zs2, zs3, i64_w, i32_w]; rfl)
            refine zp 15 31 (v := ?_) (a' := ?_) (bm 25 65535) HT_.out (by kernel_rfl) ?_ ?_ ?_; rotate_left; (focus intro w'; go_simp; with_reducible rfl); rotate_left; (focus simp only [Act.put, zs1, zs2, zs3, i64_w, i32_w]; rfl)
            refine zp 17 33 (v := ?_) (a' := ?_) (bm 25 196607) HT_.out (by kernel_rfl) ?_ ?_ ?_; rotate_left; (focus intro w'; go_simp; with_reducible rfl); rotate_left; (focus simp only [Act.put, zs1, zs2, zs3, i64_w, i32_w]; rfl)
            refine zp 18 34 (v := ?_) (a' := ?_) (bm 25 458751) HT_.out (by kernel_rfl) ?_ ?_ ?_; rotate_left; (focus intro w'; go_simp; with_reducible rfl); rotate_left; (focus simp only [Act.put, zs1, zs2, zs3, i64_w, i32_w]; rfl)
            refine take_ (i := 16) (N := some 32) (v := ?_) (a' := ?_) (bm 25 524287) rfl rfl (take_ofW HT_.out HW_.out (by kernel_rfl)) (fun _ _ _ h => h) (Or.inl ⟨by rfl, ?_⟩) hHeld ?_ ?_; rotate_left; (focus rintro w' ⟨s0, s1, s2, s3, s4, s5, s6⟩; go_simp; with_reducible rfl); rotate_left; (focus simp only [Act.put, zs1, zs2, zs3, i64_w, i32_w]; rfl)
            refine take_ (i := 19) (N := some 35) (v := ?_) (a' := ?_) (bm 25 1048575) rfl rfl (take_ofW HT_.out HW_.out (by kernel_rfl)) (fun _ _ _ h => h) (Or.inl ⟨by rfl, ?_⟩) hHeld ?_ ?_; rotate_left; (focus rintro w' ⟨s0, s1, s2, s3, s4, s5, s6⟩; go_simp; with_reducible rfl); rotate_left; (focus simp only [Act.put, zs1, zs2, zs3, i64_w, i32_w]; rfl)
            refine zp 20 36 (v := ?_) (a' := ?_) (bm 25 2097151) HT_.out (by kernel_rfl) ?_ ?_ ?_; rotate_left; (focus intro w'; go_simp; with_reducible rfl); rotate_left; (focus simp only [Act.put, zs1, zs2, zs3, i64_w, i32_w]; rfl)
            refine zp 21 37 (v := ?_) (a' := ?_) (bm 25 4194303) HT_.out (by kernel_rfl) ?_ ?_ ?_; rotate_left; (focus intro w'; go_simp; with_reducible rfl); rotate_left; (focus simp only [Act.put, zs1, zs2, zs3, i64_w, i32_w]; rfl)
            refine zp 22 38 (v := ?_) (a' := ?_) (bm 25 8388607) HT_.out (by kernel_rfl) ?_ ?_ ?_; rotate_left; (focus intro w'; go_simp; with_reducible rfl); rotate_left; (focus simp only [Act.put, zs1, zs2, zs3, i64_w, i32_w]; rfl)
            refine zp 23 39 (v := ?_) (a' := ?_) (bm 25 16777215) HT_.out (by kernel_rfl) ?_ ?_ ?_; rotate_left; (focus intro w'; go_simp; with_reducible rfl); rotate_left; (focus simp only [Act.put, zs1, zs2, zs3, i64_w, i32_w]; rfl)
            refine zp 24 40 (v := ?_) (a' := ?_) (bm 25 33554431) HT_.out (by kernel_rfl) ?_ ?_ ?_; rotate_left; (focus intro w'; go_simp; with_reducible rfl); rotate_left; (focus simp only [Act.put, zs1, zs2, zs3, i64_w, i32_w]; rfl)
            refine done_ (done_of HT_.out (by kernel_rfl)) ?_
            obtain ⟨hcz26_0, hcz26_1, hcz26_2, hcz26_3, hfz26_0, hfz26_1, hfz26_2, hfz26_3⟩ := zf4 BK114.out
            try go_wp2_with (first | ((with_reducible refine gate_builtin (b := .append) (xs := #[.tmp 41, .tmp 43]) rfl ?_); at_builtin; refine Kd.R_append k49 (w0 := w) w.heap.size rfl (.tmp 41) (.tmp 43) 26 49 (.agg #[(.int .u32 0), (.int .u8 0), (.int .i64 0), (.int .i64 0)]) 24 rfl Try.underlying26 info49 rfl (by decide) (by omega) u7 x7_1 (⟨(rd_T49 l1 x12_1).f0, (rd_T49 l1 x12_1).f1, (rd_T49 l1 x12_1).f2, (rd_T49 l1 x12_1).f3⟩ : S49) [.int .u32 ((rd_T49 l1 x12_1).f0), .int .u8 ((rd_T49 l1 x12_1).f1), .int .i64 ((rd_T49 l1 x12_1).f2), .int .i64 ((rd_T49 l1 x12_1).f3)] (fun k_ => k_ ≠ gb114) (fun _ => False) rfl rfl ?aP (fun _ hk => hk.elim) ?aF ?aO ?aB ?aS ?aL ?_; (case aP => exact k49_mkM _ _ _ (⟨(rd_T49 l1 x12_1).f0, (rd_T49 l1 x12_1).f1, (rd_T49 l1 x12_1).f2, (rd_T49 l1 x12_1).f3⟩ : S49)); (case aB => exact (by apply_rules [HB.out, zb1, zb2, zb3, zb4, GE112.out, zb4, GE114.out])); (case aF => exact (fun k_ hk => Kd.freshB (g := gb114) (o := .cells #[.int .u32 ((rd_T49 l1 x12_1).f0), .int .u8 ((rd_T49 l1 x12_1).f1), .int .i64 ((rd_T49 l1 x12_1).f2), .int .i64 ((rd_T49 l1 x12_1).f3)] 49 (0, 0)) (by apply_rules [BK114.out, zk1, zk2, zk3]) k_ hk)); (case aO => exact (by apply_rules [HO_7.out, Kd.R_alloc, Kd.R_drewN, Kd.R_drew])); (case aS => exact (below_size (by apply_rules [HB.out, zb1, zb2, zb3, zb4, GE112.out, zb4, GE114.out]))); (case aL => have := LMc19.out; omega); intro v117 w27 ho hb hg hat; rw [← Ny116.out] at ho; replace BK112 := zm (blk_grown (by apply_rules [BK112.out, zk1, zk2, zk3]) hg (Kd.R_ne HO_7.out BK112.out (by decide))); replace BK114 := zm (blk_grown (by apply_rules [BK114.out, zk1, zk2, zk3]) hg (Kd.R_away HO_7.out (fun _ hk => hk))); have HO118 := zm (ho); replace HB := zm (hb); clear HO_7; clear ho hb hg hat))
            go_roundg k1
            case measure => have := HK1.out; omega
            case rel => exact ⟨(y116), (wrap64 (x12_1 + 1)), (by first | rfl | (simp; done) | (simp [*]; done)), H', ⟨by have := HK1.out; omega⟩, ⟨by (with_reducible repeat (first | apply Kd.R_alloc | apply Kd.R_drewN | apply Kd.R_drew)); exact Kd.R_mono HO118.out (fun _ hk => trivial)⟩, ⟨by (with_reducible repeat (first | refine blk_alloc ?_ _ | refine blk_drewN ?_ _ | refine blk_drew ?_)); exact BK112.out⟩, ⟨by apply_rules [HB.out, zb1, zb2, zb3, zb4, GE112.out, zb4, GE114.out]⟩⟩
           rw [if_neg c19] at H
           exact absurd H (by simp)
          rw [if_neg c18] at H
          have c18b0 : ((Go.bits .and .u8 (ji17) 1) == 1) = false := beq_eq_false_iff_ne.mpr c18
          have c18b1 : ((Go.bits .and .u8 (ji17) 1) != 1) = true := bne_iff_ne.mpr c18
          have H' := zm H
          clear H
          have p113 : 0 ≤ (x12_1 : Int) := of_decide_eq_true (by first | (with_reducible assumption) | assumption)
          have q113 : x12_1 < (l1.length : Int) := of_decide_eq_true (by first | (with_reducible assumption) | assumption)
          obtain ⟨ad113, e113, hx113_0, hx113_1, hx113_2, hx113_3⟩ := at_T49 HR1.out x12_1 p113 q113
          cases e113
          (try (replace hx113_0 := (HB.out.cell (World.block_lt_of_cell? w _ hx113_0)).trans hx113_0))
          (try (replace hx113_1 := (HB.out.cell (World.block_lt_of_cell? w _ hx113_1)).trans hx113_1))
          (try (replace hx113_2 := (HB.out.cell (World.block_lt_of_cell? w _ hx113_2)).trans hx113_2))
          (try (replace hx113_3 := (HB.out.cell (World.block_lt_of_cell? w _ hx113_3)).trans hx113_3))
          replace p113 := eq_true p113
          replace q113 := eq_true q113
          try go_wp2_with (first | ((with_reducible refine gate_dst (N := 9) rfl ?_); refine box_event ?hg (N := 9) ?hd (cs := #[.int .u32 0, .int .u8 0, .int .i64 0, .int .i64 0]) (t := 49) ?hr ?_; (case hd => rfl); (case hg => rfl); (case hr => go_simp; try rfl); intro gb114 hg w28 hbox hb; have n0_ := zm (Kd.R_below (Kd.R_elderB (by apply_rules [HO_7.out, Kd.R_alloc, Kd.R_drewN, Kd.R_drew]) gb114 (Nat.le_of_eq hg.symm)) hb); have n1_ := zm (blk_below (by apply_rules [BK112.out, zk1, zk2, zk3]) hb); have n2_ := zm (below_step (by apply_rules [HB.out, zb1, zb2, zb3, zb4, GE112.out]) hb); have n3_ := zm (hbox); have n4_ := zm ((by rw [hg]; exact (below_size (by apply_rules [HB.out, zb1, zb2, zb3, zb4, GE112.out])) : w.heap.size ≤ gb114)); have n5_ := n4_; have n6_ := zm ((by rw [hg]; exact Nat.ne_of_lt (blk_lt (by apply_rules [BK112.out, zk1, zk2, zk3])) : gb112 ≠ gb114)); have n7_ := zm ((by rw [hg]; exact Nat.ne_of_gt (blk_lt (by apply_rules [BK112.out, zk1, zk2, zk3])) : gb114 ≠ gb112)); clear HO_7; clear BK112; clear HB; have HO_7 := n0_; have BK112 := n1_; have HB := n2_; have BK114 := n3_; have GW114 := n4_; have GE114 := n5_; have NB112_114 := n6_; have NB114_112 := n7_; clear n0_ n1_ n2_ n3_ n4_ n5_ n6_ n7_; clear hb hbox hg; have hnb29 := NB114_112.out; have hnc29 := NB112_114.out; obtain ⟨hcz30_0, hcz30_1, hcz30_2, hcz30_3, hfz30_0, hfz30_1, hfz30_2, hfz30_3⟩ := zf4 BK114.out))
          have n0_ : Aside0 (Kd.R k49 49 ((((w28.setCell ⟨gb114, 0, none⟩ (.int .u32 ((rd_T49 l1 x12_1).f0))).setCell ⟨gb114, 1, none⟩ (.int .u8 ((rd_T49 l1 x12_1).f1))).setCell ⟨gb114, 2, none⟩ (.int .i64 ((rd_T49 l1 x12_1).f2))).setCell ⟨gb114, 3, none⟩ (.int .i64 ((rd_T49 l1 x12_1).f3))) w.heap.size (fun k_ => k_ ≠ gb114) u7 x7_1) := ⟨by (with_reducible repeat (first | apply Kd.R_alloc | apply Kd.R_drewN | apply Kd.R_drew)); exact Kd.R_mono (Kd.R_far (p := ⟨gb114, 3, none⟩) (Kd.R_far (p := ⟨gb114, 2, none⟩) (Kd.R_far (p := ⟨gb114, 1, none⟩) (Kd.R_far (p := ⟨gb114, 0, none⟩) (Kd.R_mono HO_7.out (fun k_ hk => (⟨hk, hk.2⟩ : _ ∧ k_ ≠ gb114))) (fun _ hk => hk.2) (.int .u32 ((rd_T49 l1 x12_1).f0))) (fun _ hk => hk.2) (.int .u8 ((rd_T49 l1 x12_1).f1))) (fun _ hk => hk.2) (.int .i64 ((rd_T49 l1 x12_1).f2))) (fun _ hk => hk.2) (.int .i64 ((rd_T49 l1 x12_1).f3))) (fun _ hk => hk.1.2)⟩
          have n1_ : Aside0 (((((w28.setCell ⟨gb114, 0, none⟩ (.int .u32 ((rd_T49 l1 x12_1).f0))).setCell ⟨gb114, 1, none⟩ (.int .u8 ((rd_T49 l1 x12_1).f1))).setCell ⟨gb114, 2, none⟩ (.int .i64 ((rd_T49 l1 x12_1).f2))).setCell ⟨gb114, 3, none⟩ (.int .i64 ((rd_T49 l1 x12_1).f3))).heap[gb112]? = some (.cells #[.int .i64 a0_0, .int .i64 a0_1, .int .i64 a0_2] 23 (0, 0))) := ⟨by (with_reducible repeat (first | refine blk_alloc ?_ _ | refine blk_drewN ?_ _ | refine blk_drew ?_)); refine blk_far ?_ NB112_114.out _; (with_reducible repeat (first | refine blk_alloc ?_ _ | refine blk_drewN ?_ _ | refine blk_drew ?_)); refine blk_far ?_ NB112_114.out _; (with_reducible repeat (first | refine blk_alloc ?_ _ | refine blk_drewN ?_ _ | refine blk_drew ?_)); refine blk_far ?_ NB112_114.out _; (with_reducible repeat (first | refine blk_alloc ?_ _ | refine blk_drewN ?_ _ | refine blk_drew ?_)); refine blk_far ?_ NB112_114.out _; (with_reducible repeat (first | refine blk_alloc ?_ _ | refine blk_drewN ?_ _ | refine blk_drew ?_)); exact BK112.out⟩
          have n2_ : Aside0 (((((w28.setCell ⟨gb114, 0, none⟩ (.int .u32 ((rd_T49 l1 x12_1).f0))).setCell ⟨gb114, 1, none⟩ (.int .u8 ((rd_T49 l1 x12_1).f1))).setCell ⟨gb114, 2, none⟩ (.int .i64 ((rd_T49 l1 x12_1).f2))).setCell ⟨gb114, 3, none⟩ (.int .i64 ((rd_T49 l1 x12_1).f3))).heap[gb114]? = some (.cells #[.int .u32 ((rd_T49 l1 x12_1).f0), .int .u8 ((rd_T49 l1 x12_1).f1), .int .i64 ((rd_T49 l1 x12_1).f2), .int .i64 ((rd_T49 l1 x12_1).f3)] 49 (0, 0))) := ⟨by (with_reducible repeat (first | refine blk_alloc ?_ _ | refine blk_drewN ?_ _ | refine blk_drew ?_)); refine blk_put (cs := #[.int .u32 ((rd_T49 l1 x12_1).f0), .int .u8 ((rd_T49 l1 x12_1).f1), .int .i64 ((rd_T49 l1 x12_1).f2), .int .i64 0]) ?_ 3 _ rfl; (with_reducible repeat (first | refine blk_alloc ?_ _ | refine blk_drewN ?_ _ | refine blk_drew ?_)); refine blk_put (cs := #[.int .u32 ((rd_T49 l1 x12_1).f0), .int .u8 ((rd_T49 l1 x12_1).f1), .int .i64 0, .int .i64 0]) ?_ 2 _ rfl; (with_reducible repeat (first | refine blk_alloc ?_ _ | refine blk_drewN ?_ _ | refine blk_drew ?_)); refine blk_put (cs := #[.int .u32 ((rd_T49 l1 x12_1).f0), .int .u8 0, .int .i64 0, .int .i64 0]) ?_ 1 _ rfl; (with_reducible repeat (first | refine blk_alloc ?_ _ | refine blk_drewN ?_ _ | refine blk_drew ?_)); refine blk_put (cs := #[.int .u32 0, .int .u8 0, .int .i64 0, .int .i64 0]) ?_ 0 _ rfl; (with_reducible repeat (first | refine blk_alloc ?_ _ | refine blk_drewN ?_ _ | refine blk_drew ?_)); exact BK114.out⟩
          have n3_ : Aside0 (Below w.heap.size w ((((w28.setCell ⟨gb114, 0, none⟩ (.int .u32 ((rd_T49 l1 x12_1).f0))).setCell ⟨gb114, 1, none⟩ (.int .u8 ((rd_T49 l1 x12_1).f1))).setCell ⟨gb114, 2, none⟩ (.int .i64 ((rd_T49 l1 x12_1).f2))).setCell ⟨gb114, 3, none⟩ (.int .i64 ((rd_T49 l1 x12_1).f3)))) := ⟨by apply_rules [HB.out, zb1, zb2, zb3, zb4, GE112.out, zb4, GE114.out]⟩
          (try clear HO_7)
          (try clear BK112)
          (try clear BK114)
          (try clear HB)
          generalize ((((w28.setCell ⟨gb114, 0, none⟩ (.int .u32 ((rd_T49 l1 x12_1).f0))).setCell ⟨gb114, 1, none⟩ (.int .u8 ((rd_T49 l1 x12_1).f1))).setCell ⟨gb114, 2, none⟩ (.int .i64 ((rd_T49 l1 x12_1).f2))).setCell ⟨gb114, 3, none⟩ (.int .i64 ((rd_T49 l1 x12_1).f3))) = w31 at n0_ n1_ n2_ n3_ ⊢
          have HO_7 := n0_
          have BK112 := n1_
          have BK114 := n2_
          have HB := n3_
          clear n0_ n1_ n2_ n3_
          have n0_ := zm (Kd.R_drew HO_7.out)
          have n1_ := zm (blk_drew BK112.out)
          have n2_ := zm (blk_drew BK114.out)
          have n3_ := zm (below_drew1 HB.out)
          clear HO_7
          clear BK112
          clear BK114
          clear HB
          have HO_7 := n0_
          have BK112 := n1_
          have BK114 := n2_
          have HB := n3_
          clear n0_ n1_ n2_ n3_
          refine start_ (n := 25) (S := fun w' => w'.cell? ⟨gb112, 0, none⟩ = some (.int .i64 a0_0) ∧ w'.cell? ⟨gb112, 1, none⟩ = some (.int .i64 a0_1) ∧ w'.cell? ⟨gb112, 2, none⟩ = some (.int .i64 a0_2) ∧ w'.cell? ⟨gb114, 0, none⟩ = some (.int .u32 ((rd_T49 l1 x12_1).f0)) ∧ w'.cell? ⟨gb114, 1, none⟩ = some (.int .u8 ((rd_T49 l1 x12_1).f1)) ∧ w'.cell? ⟨gb114, 2, none⟩ = some (.int .i64 ((rd_T49 l1 x12_1).f2)) ∧ w'.cell? ⟨gb114, 3, none⟩ = some (.int .i64 ((rd_T49 l1 x12_1).f3))) (ds := []) #[false, false, false, false, false, false, false, false, false, false, false, false, false, false, false, false, false, false, false, false, false, false, false, false, false] (by kernel_rfl) rfl rfl ⟨(blk_cell BK112.out 0).trans rfl, (blk_cell BK112.out 1).trans rfl, (blk_cell BK112.out 2).trans rfl, (blk_cell BK114.out 0).trans rfl, (blk_cell BK114.out 1).trans rfl, (blk_cell BK114.out 2).trans rfl, (blk_cell BK114.out 3).trans rfl⟩ (fun hHeld => ?_); refine with_tabW many_on.tab5 many_on.bits5 (fun HT_ HW_ => ?_)
          generalize w31.drew = w32 at HO_7 BK112 BK114 HB hHeld ⊢
          refine take_ (i := 0) (N := some 16) (v := ?_) (a' := ?_) (bm 25 1) rfl rfl (take_ofW HT_.out HW_.out (by kernel_rfl)) (fun _ _ _ h => h) (Or.inl ⟨by rfl, ?_⟩) hHeld ?_ ?_; rotate_left; (focus rintro w' ⟨s0, s1, s2, s3, s4, s5, s6⟩; go_simp; with_reducible rfl); rotate_left; (focus simp only [Act.put, zs1, zs2, zs3, i64_w, i32_w]; rfl)
          refine take_ (i := 1) (N := some 17) (v := ?_) (a' := ?_) (bm 25 3) rfl rfl (take_ofW HT_.out HW_.out (by kernel_rfl)) (fun _ _ _ h => h) (Or.inl ⟨by rfl, ?_⟩) hHeld ?_ ?_; rotate_left; (focus rintro w' ⟨s0, s1, s2, s3, s4, s5, s6⟩; go_simp; with_reducible rfl); rotate_left; (focus simp only [Act.put, zs1, zs2, zs3, i64_w, i32_w]; rfl)
          refine one_ (i := 2) (N := some 18) (bm 25 7) rfl rfl (one_of HT_.out (by kernel_rfl)) (by decide) (fun K hK => ?_)
          refine goes_ Try.func27 (by kernel_rfl) rfl #[.agg #[.int .i64 a0_0, .int .i64 a0_1, .int .i64 a0_2], .agg #[.int .u32 ((rd_T49 l1 x12_1).f0), .int .u8 ((rd_T49 l1 x12_1).f1), .int .i64 ((rd_T49 l1 x12_1).f2), .int .i64 ((rd_T49 l1 x12_1).f3)]] (by rfl) rfl rfl (by (try simp only [zt1, zt2, zt3]) <;> rfl) ?_
          with_reducible refine (when_Right.calls a0_0 a0_1 a0_2 ((rd_T49 l1 x12_1).f0) ((rd_T49 l1 x12_1).f1) ((rd_T49 l1 x12_1).f2) ((rd_T49 l1 x12_1).f3) true _ A8.out).mono ?_
          rintro e w33 ⟨rfl, hb⟩
          refine ⟨_, rfl, ?_⟩
          have n0_ := zm (Kd.R_below (by apply_rules [HO_7.out, Kd.R_alloc, Kd.R_drewN, Kd.R_drew]) hb)
          have n1_ := zm (blk_below (by apply_rules [BK112.out, zk1, zk2, zk3]) hb)
          have n2_ := zm (blk_below (by apply_rules [BK114.out, zk1, zk2, zk3]) hb)
          have n3_ := zm (below_step (by apply_rules [HB.out, zb1, zb2, zb3, zb4, GE112.out, zb4, GE114.out]) hb)
          clear HO_7
          clear BK112
          clear BK114
          clear HB
          have HO_7 := n0_
          have BK112 := n1_
          have BK114 := n2_
          have HB := n3_
          clear n0_ n1_ n2_ n3_
          (try clear hb)
          (try clear hb2)
          (try clear hk)
          (try clear hi)
          refine hK.out _ _ ⟨(blk_cell BK112.out 0).trans rfl, (blk_cell BK112.out 1).trans rfl, (blk_cell BK112.out 2).trans rfl, (blk_cell BK114.out 0).trans rfl, (blk_cell BK114.out 1).trans rfl, (blk_cell BK114.out 2).trans rfl, (blk_cell BK114.out 3).trans rfl⟩ (fun hHeld => ?_)
          clear hK K
          refine norm_ (a' := ?_) ?_ ?_
          rotate_left
          ·show Act.put _ (some 18) _ = _
           simp only [Act.put, zs1, zs2, zs3, i64_w, i32_w]
           rfl
          refine zp 3 19 (v := ?_) (a' := ?_) (bm 25 15) HT_.out (by kernel_rfl) ?_ ?_ ?_; rotate_left; (focus intro w'; go_simp; with_reducible rfl); rotate_left; (focus simp only [Act.put, zs1, zs2, zs3, i64_w, i32_w]; rfl)
          refine zp 4 20 (v := ?_) (a' := ?_) (bm 25 31) HT_.out (by kernel_rfl) ?_ ?_ ?_; rotate_left; (focus intro w'; go_simp; with_reducible rfl); rotate_left; (focus simp only [Act.put, zs1, zs2, zs3, i64_w, i32_w]; rfl)
          refine zp 6 22 (v := ?_) (a' := ?_) (bm 25 95) HT_.out (by kernel_rfl) ?_ ?_ ?_; rotate_left; (focus intro w'; go_simp; with_reducible rfl); rotate_left; (focus simp only [Act.put, zs1, zs2, zs3, i64_w, i32_w]; rfl)
          refine zp 7 23 (v := ?_) (a' := ?_) (bm 25 223) HT_.out (by kernel_rfl) ?_ ?_ ?_; rotate_left; (focus intro w'; go_simp; with_reducible rfl); rotate_left; (focus simp only [Act.put, zs1, zs2, zs3, i64_w, i32_w]; rfl)
          refine take_ (i := 5) (N := some 21) (v := ?_) (a' := ?_) (bm 25 255) rfl rfl (take_ofW HT_.out HW_.out (by kernel_rfl)) (fun _ _ _ h => h) (Or.inl ⟨by rfl, ?_⟩) hHeld ?_ ?_; rotate_left; (focus rintro w' ⟨s0, s1, s2, s3, s4, s5, s6⟩; go_simp; with_reducible rfl); rotate_left; (focus simp only [Act.put, zs1, zs2, zs3, i64_w, i32_w]; rfl)
          refine take_ (i := 8) (N := some 24) (v := ?_) (a' := ?_) (bm 25 511) rfl rfl (take_ofW HT_.out HW_.out (by kernel_rfl)) (fun _ _ _ h => h) (Or.inl ⟨by rfl, ?_⟩) hHeld ?_ ?_; rotate_left; (focus rintro w' ⟨s0, s1, s2, s3, s4, s5, s6⟩; go_simp; with_reducible rfl); rotate_left; (focus simp only [Act.put, zs1, zs2, zs3, i64_w, i32_w]; rfl)
          refine zp 9 25 (v := ?_) (a' := ?_) (bm 25 1023) HT_.out (by kernel_rfl) ?_ ?_ ?_; rotate_left; (focus intro w'; go_simp; with_reducible rfl); rotate_left; (focus simp only [Act.put, zs1, zs2, zs3, i64_w, i32_w]; rfl)
          refine zp 10 26 (v := ?_) (a' := ?_) (bm 25 2047) HT_.out (by kernel_rfl) ?_ ?_ ?_; rotate_left; (focus intro w'; go_simp; with_reducible rfl); rotate_left; (focus simp only [Act.put, zs1, zs2, zs3, i64_w, i32_w]; rfl)
          refine zp 11 27 (v := ?_) (a' := ?_) (bm 25 4095) HT_.out (by kernel_rfl) ?_ ?_ ?_; rotate_left; (focus intro w'; go_simp; with_reducible rfl); rotate_left; (focus simp only [Act.put, zs1, zs2, zs3, i64_w, i32_w]; rfl)
          refine zp 12 28 (v := ?_) (a' := ?_) (bm 25 8191) HT_.out (by kernel_rfl) ?_ ?_ ?_; rotate_left; (focus intro w'; go_simp; with_reducible rfl); rotate_left; (focus simp only [Act.put, zs1, zs2, zs3, i64_w, i32_w]; rfl)
          refine zp 13 29 (v := ?_) (a' := ?_) (bm 25 16383) HT_.out (by kernel_rfl) ?_ ?_ ?_; rotate_left; (focus intro w'; go_simp; with_reducible rfl); rotate_left; (focus simp only [Act.put, zs1, zs2, zs3, i64_w, i32_w]; rfl)
          refine zp 14 30 (v := ?_) (a' := ?_) (bm 25 32767) HT_.out (by kernel_rfl) ?_ ?_ ?_; rotate_left; (focus intro w'; go_simp; with_reducible rfl); rotate_left; (focus simp only [Act.put, zs1, zs2, zs3, i64_w, i32_w]; rfl)
          refine zp 15 31 (v := ?_) (a' := ?_) (bm 25 65535) HT_.out (by kernel_rfl) ?_ ?_ ?_; rotate_left; (focus intro w'; go_simp; with_reducible rfl); rotate_left; (focus simp only [Act.put, zs1, zs2, zs3, i64_w, i32_w]; rfl)
          refine zp 17 33 (v := ?_) (a' := ?_) (bm 25 196607) HT_.out (by kernel_rfl) ?_ ?_ ?_; rotate_left; (focus intro w'; go_simp; with_reducible rfl); rotate_left; (focus simp only [Act.put, zs1, zs2, zs3, i64_w, i32_w]; rfl)
          refine zp 18 34 (v := ?_) (a' := ?_) (bm 25 458751) HT_.out (by kernel_rfl) ?_ ?_ ?_; rotate_left; (focus intro w'; go_simp; with_reducible rfl); rotate_left; (focus simp only [Act.put, zs1, zs2, zs3, i64_w, i32_w]; rfl)
          refine take_ (i := 16) (N := some 32) (v := ?_) (a' := ?_) (bm 25 524287) rfl rfl (take_ofW HT_.out HW_.out (by kernel_rfl)) (fun _ _ _ h => h) (Or.inl ⟨by rfl, ?_⟩) hHeld ?_ ?_; rotate_left; (focus rintro w' ⟨s0, s1, s2, s3, s4, s5, s6⟩; go_simp; with_reducible rfl); rotate_left; (focus simp only [Act.put, zs1, zs2, zs3, i64_w, i32_w]; rfl)
          refine take_ (i := 19) (N := some 35) (v := ?_) (a' := ?_) (bm 25 1048575) rfl rfl (take_ofW HT_.out HW_.out (by kernel_rfl)) (fun _ _ _ h => h) (Or.inl ⟨by rfl, ?_⟩) hHeld ?_ ?_; rotate_left; (focus rintro w' ⟨s0, s1, s2, s3, s4, s5, s6⟩; go_simp; with_reducible rfl); rotate_left; (focus simp only [Act.put, zs1, zs2, zs3, i64_w, i32_w]; rfl)
          refine zp 20 36 (v := ?_) (a' := ?_) (bm 25 2097151) HT_.out (by kernel_rfl) ?_ ?_ ?_; rotate_left; (focus intro w'; go_simp; with_reducible rfl); rotate_left; (focus simp only [Act.put, zs1, zs2, zs3, i64_w, i32_w]; rfl)
          refine zp 21 37 (v := ?_) (a' := ?_) (bm 25 4194303) HT_.out (by kernel_rfl) ?_ ?_ ?_; rotate_left; (focus intro w'; go_simp; with_reducible rfl); rotate_left; (focus simp only [Act.put, zs1, zs2, zs3, i64_w, i32_w]; rfl)
          refine zp 22 38 (v := ?_) (a' := ?_) (bm 25 8388607) HT_.out (by kernel_rfl) ?_ ?_ ?_; rotate_left; (focus intro w'; go_simp; with_reducible rfl); rotate_left; (focus simp only [Act.put, zs1, zs2, zs3, i64_w, i32_w]; rfl)
          refine zp 23 39 (v := ?_) (a' := ?_) (bm 25 16777215) HT_.out (by kernel_rfl) ?_ ?_ ?_; rotate_left; (focus intro w'; go_simp; with_reducible rfl); rotate_left; (focus simp only [Act.put, zs1, zs2, zs3, i64_w, i32_w]; rfl)
          refine zp 24 40 (v := ?_) (a' := ?_) (bm 25 33554431) HT_.out (by kernel_rfl) ?_ ?_ ?_; rotate_left; (focus intro w'; go_simp; with_reducible rfl); rotate_left; (focus simp only [Act.put, zs1, zs2, zs3, i64_w, i32_w]; rfl)
          refine done_ (done_of HT_.out (by kernel_rfl)) ?_
          try go_wp2
          go_roundg k1
          case measure => have := HK1.out; omega
          case rel => exact ⟨(x7_1), (wrap64 (x12_1 + 1)), (by first | rfl | (simp; done) | (simp [*]; done)), H', ⟨by have := HK1.out; omega⟩, ⟨by (with_reducible repeat (first | apply Kd.R_alloc | apply Kd.R_drewN | apply Kd.R_drew)); exact Kd.R_mono HO_7.out (fun _ hk => trivial)⟩, ⟨by (with_reducible repeat (first | refine blk_alloc ?_ _ | refine blk_drewN ?_ _ | refine blk_drew ?_)); exact BK112.out⟩, ⟨by apply_rules [HB.out, zb1, zb2, zb3, zb4, GE112.out, zb4, GE114.out]⟩⟩
         rw [if_neg c16] at H
         exact absurd H (by simp)
        rw [if_neg c14] at H
        have c14b0 : ((Go.bits .and .u32 (ji13) 1) == 1) = false := beq_eq_false_iff_ne.mpr c14
        have c14b1 : ((Go.bits .and .u32 (ji13) 1) != 1) = true := bne_iff_ne.mpr c14
        have H' := zm H
        clear H
        have p113 : 0 ≤ (x12_1 : Int) := of_decide_eq_true (by first | (with_reducible assumption) | assumption)
        have q113 : x12_1 < (l1.length : Int) := of_decide_eq_true (by first | (with_reducible assumption) | assumption)
        obtain ⟨ad113, e113, hx113_0, hx113_1, hx113_2, hx113_3⟩ := at_T49 HR1.out x12_1 p113 q113
        cases e113
        (try (replace hx113_0 := (HB.out.cell (World.block_lt_of_cell? w _ hx113_0)).trans hx113_0))
        (try (replace hx113_1 := (HB.out.cell (World.block_lt_of_cell? w _ hx113_1)).trans hx113_1))
        (try (replace hx113_2 := (HB.out.cell (World.block_lt_of_cell? w _ hx113_2)).trans hx113_2))
        (try (replace hx113_3 := (HB.out.cell (World.block_lt_of_cell? w _ hx113_3)).trans hx113_3))
        replace p113 := eq_true p113
        replace q113 := eq_true q113
        try go_wp2_with (first | ((with_reducible refine gate_dst (N := 9) rfl ?_); refine box_event ?hg (N := 9) ?hd (cs := #[.int .u32 0, .int .u8 0, .int .i64 0, .int .i64 0]) (t := 49) ?hr ?_; (case hd => rfl); (case hg => rfl); (case hr => go_simp; try rfl); intro gb114 hg w34 hbox hb; have n0_ := zm (Kd.R_below (Kd.R_elderB (by apply_rules [HO_7.out, Kd.R_alloc, Kd.R_drewN, Kd.R_drew]) gb114 (Nat.le_of_eq hg.symm)) hb); have n1_ := zm (blk_below (by apply_rules [BK112.out, zk1, zk2, zk3]) hb); have n2_ := zm (below_step (by apply_rules [HB.out, zb1, zb2, zb3, zb4, GE112.out]) hb); have n3_ := zm (hbox); have n4_ := zm ((by rw [hg]; exact (below_size (by apply_rules [HB.out, zb1, zb2, zb3, zb4, GE112.out])) : w.heap.size ≤ gb114)); have n5_ := n4_; have n6_ := zm ((by rw [hg]; exact Nat.ne_of_lt (blk_lt (by apply_rules [BK112.out, zk1, zk2, zk3])) : gb112 ≠ gb114)); have n7_ := zm ((by rw [hg]; exact Nat.ne_of_gt (blk_lt (by apply_rules [BK112.out, zk1, zk2, zk3])) : gb114 ≠ gb112)); clear HO_7; clear BK112; clear HB; have HO_7 := n0_; have BK112 := n1_; have HB := n2_; have BK114 := n3_; have GW114 := n4_; have GE114 := n5_; have NB112_114 := n6_; have NB114_112 := n7_; clear n0_ n1_ n2_ n3_ n4_ n5_ n6_ n7_; clear hb hbox hg; have hnb35 := NB114_112.out; have hnc35 := NB112_114.out; obtain ⟨hcz36_0, hcz36_1, hcz36_2, hcz36_3, hfz36_0, hfz36_1, hfz36_2, hfz36_3⟩ := zf4 BK114.out))
        have n0_ : Aside0 (Kd.R k49 49 ((((w34.setCell ⟨gb114, 0, none⟩ (.int .u32 ((rd_T49 l1 x12_1).f0))).setCell ⟨gb114, 1, none⟩ (.int .u8 ((rd_T49 l1 x12_1).f1))).setCell ⟨gb114, 2, none⟩ (.int .i64 ((rd_T49 l1 x12_1).f2))).setCell ⟨gb114, 3, none⟩ (.int .i64 ((rd_T49 l1 x12_1).f3))) w.heap.size (fun k_ => k_ ≠ gb114) u7 x7_1) := ⟨by (with_reducible repeat (first | apply Kd.R_alloc | apply Kd.R_drewN | apply Kd.R_drew)); exact Kd.R_mono (Kd.R_far (p := ⟨gb114, 3, none⟩) (Kd.R_far (p := ⟨gb114, 2, none⟩) (Kd.R_far (p := ⟨gb114, 1, none⟩) (Kd.R_far (p := ⟨gb114, 0, none⟩) (Kd.R_mono HO_7.out (fun k_ hk => (⟨hk, hk.2⟩ : _ ∧ k_ ≠ gb114))) (fun _ hk => hk.2) (.int .u32 ((rd_T49 l1 x12_1).f0))) (fun _ hk => hk.2) (.int .u8 ((rd_T49 l1 x12_1).f1))) (fun _ hk => hk.2) (.int .i64 ((rd_T49 l1 x12_1).f2))) (fun _ hk => hk.2) (.int .i64 ((rd_T49 l1 x12_1).f3))) (fun _ hk => hk.1.2)⟩
        have n1_ : Aside0 (((((w34.setCell ⟨gb114, 0, none⟩ (.int .u32 ((rd_T49 l1 x12_1).f0))).setCell ⟨gb114, 1, none⟩ (.int .u8 ((rd_T49 l1 x12_1).f1))).setCell ⟨gb114, 2, none⟩ (.int .i64 ((rd_T49 l1 x12_1).f2))).setCell ⟨gb114, 3, none⟩ (.int .i64 ((rd_T49 l1 x12_1).f3))).heap[gb112]? = some (.cells #[.int .i64 a0_0, .int .i64 a0_1, .int .i64 a0_2] 23 (0, 0))) := ⟨by (with_reducible repeat (first | refine blk_alloc ?_ _ | refine blk_drewN ?_ _ | refine blk_drew ?_)); refine blk_far ?_ NB112_114.out _; (with_reducible repeat (first | refine blk_alloc ?_ _ | refine blk_drewN ?_ _ | refine blk_drew ?_)); refine blk_far ?_ NB112_114.out _; (with_reducible repeat (first | refine blk_alloc ?_ _ | refine blk_drewN ?_ _ | refine blk_drew ?_)); refine blk_far ?_ NB112_114.out _; (with_reducible repeat (first | refine blk_alloc ?_ _ | refine blk_drewN ?_ _ | refine blk_drew ?_)); refine blk_far ?_ NB112_114.out _; (with_reducible repeat (first | refine blk_alloc ?_ _ | refine blk_drewN ?_ _ | refine blk_drew ?_)); exact BK112.out⟩
        have n2_ : Aside0 (((((w34.setCell ⟨gb114, 0, none⟩ (.int .u32 ((rd_T49 l1 x12_1).f0))).setCell ⟨gb114, 1, none⟩ (.int .u8 ((rd_T49 l1 x12_1).f1))).setCell ⟨gb114, 2, none⟩ (.int .i64 ((rd_T49 l1 x12_1).f2))).setCell ⟨gb114, 3, none⟩ (.int .i64 ((rd_T49 l1 x12_1).f3))).heap[gb114]? = some (.cells #[.int .u32 ((rd_T49 l1 x12_1).f0), .int .u8 ((rd_T49 l1 x12_1).f1), .int .i64 ((rd_T49 l1 x12_1).f2), .int .i64 ((rd_T49 l1 x12_1).f3)] 49 (0, 0))) := ⟨by (with_reducible repeat (first | refine blk_alloc ?_ _ | refine blk_drewN ?_ _ | refine blk_drew ?_)); refine blk_put (cs := #[.int .u32 ((rd_T49 l1 x12_1).f0), .int .u8 ((rd_T49 l1 x12_1).f1), .int .i64 ((rd_T49 l1 x12_1).f2), .int .i64 0]) ?_ 3 _ rfl; (with_reducible repeat (first | refine blk_alloc ?_ _ | refine blk_drewN ?_ _ | refine blk_drew ?_)); refine blk_put (cs := #[.int .u32 ((rd_T49 l1 x12_1).f0), .int .u8 ((rd_T49 l1 x12_1).f1), .int .i64 0, .int .i64 0]) ?_ 2 _ rfl; (with_reducible repeat (first | refine blk_alloc ?_ _ | refine blk_drewN ?_ _ | refine blk_drew ?_)); refine blk_put (cs := #[.int .u32 ((rd_T49 l1 x12_1).f0), .int .u8 0, .int .i64 0, .int .i64 0]) ?_ 1 _ rfl; (with_reducible repeat (first | refine blk_alloc ?_ _ | refine blk_drewN ?_ _ | refine blk_drew ?_)); refine blk_put (cs := #[.int .u32 0, .int .u8 0, .int .i64 0, .int .i64 0]) ?_ 0 _ rfl; (with_reducible repeat (first | refine blk_alloc ?_ _ | refine blk_drewN ?_ _ | refine blk_drew ?_)); exact BK114.out⟩
        have n3_ : Aside0 (Below w.heap.size w ((((w34.setCell ⟨gb114, 0, none⟩ (.int .u32 ((rd_T49 l1 x12_1).f0))).setCell ⟨gb114, 1, none⟩ (.int .u8 ((rd_T49 l1 x12_1).f1))).setCell ⟨gb114, 2, none⟩ (.int .i64 ((rd_T49 l1 x12_1).f2))).setCell ⟨gb114, 3, none⟩ (.int .i64 ((rd_T49 l1 x12_1).f3)))) := ⟨by apply_rules [HB.out, zb1, zb2, zb3, zb4, GE112.out, zb4, GE114.out]⟩
        (try clear HO_7)
        (try clear BK112)
        (try clear BK114)
        (try clear HB)
        generalize ((((w34.setCell ⟨gb114, 0, none⟩ (.int .u32 ((rd_T49 l1 x12_1).f0))).setCell ⟨gb114, 1, none⟩ (.int .u8 ((rd_T49 l1 x12_1).f1))).setCell ⟨gb114, 2, none⟩ (.int .i64 ((rd_T49 l1 x12_1).f2))).setCell ⟨gb114, 3, none⟩ (.int .i64 ((rd_T49 l1 x12_1).f3))) = w37 at n0_ n1_ n2_ n3_ ⊢
        have HO_7 := n0_
        have BK112 := n1_
        have BK114 := n2_
        have HB := n3_
        clear n0_ n1_ n2_ n3_
        have n0_ := zm (Kd.R_drew HO_7.out)
        have n1_ := zm (blk_drew BK112.out)
        have n2_ := zm (blk_drew BK114.out)
        have n3_ := zm (below_drew1 HB.out)
        clear HO_7
        clear BK112
        clear BK114
        clear HB
        have HO_7 := n0_
        have BK112 := n1_
        have BK114 := n2_
        have HB := n3_
        clear n0_ n1_ n2_ n3_
        refine start_ (n := 25) (S := fun w' => w'.cell? ⟨gb112, 0, none⟩ = some (.int .i64 a0_0) ∧ w'.cell? ⟨gb112, 1, none⟩ = some (.int .i64 a0_1) ∧ w'.cell? ⟨gb112, 2, none⟩ = some (.int .i64 a0_2) ∧ w'.cell? ⟨gb114, 0, none⟩ = some (.int .u32 ((rd_T49 l1 x12_1).f0)) ∧ w'.cell? ⟨gb114, 1, none⟩ = some (.int .u8 ((rd_T49 l1 x12_1).f1)) ∧ w'.cell? ⟨gb114, 2, none⟩ = some (.int .i64 ((rd_T49 l1 x12_1).f2)) ∧ w'.cell? ⟨gb114, 3, none⟩ = some (.int .i64 ((rd_T49 l1 x12_1).f3))) (ds := []) #[false, false, false, false, false, false, false, false, false, false, false, false, false, false, false, false, false, false, false, false, false, false, false, false, false] (by kernel_rfl) rfl rfl ⟨(blk_cell BK112.out 0).trans rfl, (blk_cell BK112.out 1).trans rfl, (blk_cell BK112.out 2).trans rfl, (blk_cell BK114.out 0).trans rfl, (blk_cell BK114.out 1).trans rfl, (blk_cell BK114.out 2).trans rfl, (blk_cell BK114.out 3).trans rfl⟩ (fun hHeld => ?_); refine with_tabW many_on.tab5 many_on.bits5 (fun HT_ HW_ => ?_)
        generalize w37.drew = w38 at HO_7 BK112 BK114 HB hHeld ⊢
        refine take_ (i := 0) (N := some 16) (v := ?_) (a' := ?_) (bm 25 1) rfl rfl (take_ofW HT_.out HW_.out (by kernel_rfl)) (fun _ _ _ h => h) (Or.inl ⟨by rfl, ?_⟩) hHeld ?_ ?_; rotate_left; (focus rintro w' ⟨s0, s1, s2, s3, s4, s5, s6⟩; go_simp; with_reducible rfl); rotate_left; (focus simp only [Act.put, zs1, zs2, zs3, i64_w, i32_w]; rfl)
        refine take_ (i := 1) (N := some 17) (v := ?_) (a' := ?_) (bm 25 3) rfl rfl (take_ofW HT_.out HW_.out (by kernel_rfl)) (fun _ _ _ h => h) (Or.inl ⟨by rfl, ?_⟩) hHeld ?_ ?_; rotate_left; (focus rintro w' ⟨s0, s1, s2, s3, s4, s5, s6⟩; go_simp; with_reducible rfl); rotate_left; (focus simp only [Act.put, zs1, zs2, zs3, i64_w, i32_w]; rfl)
        refine one_ (i := 2) (N := some 18) (bm 25 7) rfl rfl (one_of HT_.out (by kernel_rfl)) (by decide) (fun K hK => ?_)
        refine goes_ Try.func27 (by kernel_rfl) rfl #[.agg #[.int .i64 a0_0, .int .i64 a0_1, .int .i64 a0_2], .agg #[.int .u32 ((rd_T49 l1 x12_1).f0), .int .u8 ((rd_T49 l1 x12_1).f1), .int .i64 ((rd_T49 l1 x12_1).f2), .int .i64 ((rd_T49 l1 x12_1).f3)]] (by rfl) rfl rfl (by (try simp only [zt1, zt2, zt3]) <;> rfl) ?_
        with_reducible refine (when_Right.calls a0_0 a0_1 a0_2 ((rd_T49 l1 x12_1).f0) ((rd_T49 l1 x12_1).f1) ((rd_T49 l1 x12_1).f2) ((rd_T49 l1 x12_1).f3) true _ A8.out).mono ?_
        rintro e w39 ⟨rfl, hb⟩
        refine ⟨_, rfl, ?_⟩
        have n0_ := zm (Kd.R_below (by apply_rules [HO_7.out, Kd.R_alloc, Kd.R_drewN, Kd.R_drew]) hb)
        have n1_ := zm (blk_below (by apply_rules [BK112.out, zk1, zk2, zk3]) hb)
        have n2_ := zm (blk_below (by apply_rules [BK114.out, zk1, zk2, zk3]) hb)
        have n3_ := zm (below_step (by apply_rules [HB.out, zb1, zb2, zb3, zb4, GE112.out, zb4, GE114.out]) hb)
        clear HO_7
        clear BK112
        clear BK114
        clear HB
        have HO_7 := n0_
        have BK112 := n1_
        have BK114 := n2_
        have HB := n3_
        clear n0_ n1_ n2_ n3_
        (try clear hb)
        (try clear hb2)
        (try clear hk)
        (try clear hi)
        refine hK.out _ _ ⟨(blk_cell BK112.out 0).trans rfl, (blk_cell BK112.out 1).trans rfl, (blk_cell BK112.out 2).trans rfl, (blk_cell BK114.out 0).trans rfl, (blk_cell BK114.out 1).trans rfl, (blk_cell BK114.out 2).trans rfl, (blk_cell BK114.out 3).trans rfl⟩ (fun hHeld => ?_)
        clear hK K
        refine norm_ (a' := ?_) ?_ ?_
        rotate_left
        ·show Act.put _ (some 18) _ = _
         simp only [Act.put, zs1, zs2, zs3, i64_w, i32_w]
         rfl
        refine zp 3 19 (v := ?_) (a' := ?_) (bm 25 15) HT_.out (by kernel_rfl) ?_ ?_ ?_; rotate_left; (focus intro w'; go_simp; with_reducible rfl); rotate_left; (focus simp only [Act.put, zs1, zs2, zs3, i64_w, i32_w]; rfl)
        refine zp 4 20 (v := ?_) (a' := ?_) (bm 25 31) HT_.out (by kernel_rfl) ?_ ?_ ?_; rotate_left; (focus intro w'; go_simp; with_reducible rfl); rotate_left; (focus simp only [Act.put, zs1, zs2, zs3, i64_w, i32_w]; rfl)
        refine zp 6 22 (v := ?_) (a' := ?_) (bm 25 95) HT_.out (by kernel_rfl) ?_ ?_ ?_; rotate_left; (focus intro w'; go_simp; with_reducible rfl); rotate_left; (focus simp only [Act.put, zs1, zs2, zs3, i64_w, i32_w]; rfl)
        refine zp 7 23 (v := ?_) (a' := ?_) (bm 25 223) HT_.out (by kernel_rfl) ?_ ?_ ?_; rotate_left; (focus intro w'; go_simp; with_reducible rfl); rotate_left; (focus simp only [Act.put, zs1, zs2, zs3, i64_w, i32_w]; rfl)
        refine take_ (i := 5) (N := some 21) (v := ?_) (a' := ?_) (bm 25 255) rfl rfl (take_ofW HT_.out HW_.out (by kernel_rfl)) (fun _ _ _ h => h) (Or.inl ⟨by rfl, ?_⟩) hHeld ?_ ?_; rotate_left; (focus rintro w' ⟨s0, s1, s2, s3, s4, s5, s6⟩; go_simp; with_reducible rfl); rotate_left; (focus simp only [Act.put, zs1, zs2, zs3, i64_w, i32_w]; rfl)
        refine take_ (i := 8) (N := some 24) (v := ?_) (a' := ?_) (bm 25 511) rfl rfl (take_ofW HT_.out HW_.out (by kernel_rfl)) (fun _ _ _ h => h) (Or.inl ⟨by rfl, ?_⟩) hHeld ?_ ?_; rotate_left; (focus rintro w' ⟨s0, s1, s2, s3, s4, s5, s6⟩; go_simp; with_reducible rfl); rotate_left; (focus simp only [Act.put, zs1, zs2, zs3, i64_w, i32_w]; rfl)
        refine zp 9 25 (v := ?_) (a' := ?_) (bm 25 1023) HT_.out (by kernel_rfl) ?_ ?_ ?_; rotate_left; (focus intro w'; go_simp; with_reducible rfl); rotate_left; (focus simp only [Act.put, zs1, zs2, zs3, i64_w, i32_w]; rfl)
        refine zp 10 26 (v := ?_) (a' := ?_) (bm 25 2047) HT_.out (by kernel_rfl) ?_ ?_ ?_; rotate_left; (focus intro w'; go_simp; with_reducible rfl); rotate_left; (focus simp only [Act.put, zs1, zs2, zs3, i64_w, i32_w]; rfl)
        refine zp 11 27 (v := ?_) (a' := ?_) (bm 25 4095) HT_.out (by kernel_rfl) ?_ ?_ ?_; rotate_left; (focus intro w'; go_simp; with_reducible rfl); rotate_left; (focus simp only [Act.put, zs1, zs2, zs3, i64_w, i32_w]; rfl)
        refine zp 12 28 (v := ?_) (a' := ?_) (bm 25 8191) HT_.out (by kernel_rfl) ?_ ?_ ?_; rotate_left; (focus intro w'; go_simp; with_reducible rfl); rotate_left; (focus simp only [Act.put, zs1, zs2, zs3, i64_w, i32_w]; rfl)
        refine zp 13 29 (v := ?_) (a' := ?_) (bm 25 16383) HT_.out (by kernel_rfl) ?_ ?_ ?_; rotate_left; (focus intro w'; go_simp; with_reducible rfl); rotate_left; (focus simp only [Act.put, zs1, zs2, zs3, i64_w, i32_w]; rfl)
        refine zp 14 30 (v := ?_) (a' := ?_) (bm 25 32767) HT_.out (by kernel_rfl) ?_ ?_ ?_; rotate_left; (focus intro w'; go_simp; with_reducible rfl); rotate_left; (focus simp only [Act.put, zs1, zs2, zs3, i64_w, i32_w]; rfl)
        refine pure_ (i := 15) (N := some 31) (v := undef) (a' := ?_) (bm 25 65535) rfl rfl (any_of HT_.out (by kernel_rfl)) (fun _ _ _ h => h) (Or.inr ⟨by rfl, rfl⟩) ?_ ?_
        rotate_left
        ·simp only [Act.put, zs1, zs2, zs3, i64_w, i32_w]
         rfl
        refine pure_ (i := 16) (N := some 32) (v := undef) (a' := ?_) (bm 25 131071) rfl rfl (any_of HT_.out (by kernel_rfl)) (fun _ _ _ h => h) (Or.inr ⟨by rfl, rfl⟩) ?_ ?_
        rotate_left
        ·simp only [Act.put, zs1, zs2, zs3, i64_w, i32_w]
         rfl
        refine pure_ (i := 17) (N := some 33) (v := undef) (a' := ?_) (bm 25 262143) rfl rfl (any_of HT_.out (by kernel_rfl)) (fun _ _ _ h => h) (Or.inr ⟨by rfl, rfl⟩) ?_ ?_
        rotate_left
        ·simp only [Act.put, zs1, zs2, zs3, i64_w, i32_w]
         rfl
        refine pure_ (i := 18) (N := some 34) (v := undef) (a' := ?_) (bm 25 524287) rfl rfl (any_of HT_.out (by kernel_rfl)) (fun _ _ _ h => h) (Or.inr ⟨by rfl, rfl⟩) ?_ ?_
        rotate_left
        ·simp only [Act.put, zs1, zs2, zs3, i64_w, i32_w]
         rfl
        refine pure_ (i := 19) (N := some 35) (v := undef) (a' := ?_) (bm 25 1048575) rfl rfl (any_of HT_.out (by kernel_rfl)) (fun _ _ _ h => h) (Or.inr ⟨by rfl, rfl⟩) ?_ ?_
        rotate_left
        ·simp only [Act.put, zs1, zs2, zs3, i64_w, i32_w]
         rfl
        refine pure_ (i := 20) (N := some 36) (v := undef) (a' := ?_) (bm 25 2097151) rfl rfl (any_of HT_.out (by kernel_rfl)) (fun _ _ _ h => h) (Or.inr ⟨by rfl, rfl⟩) ?_ ?_
        rotate_left
        ·simp only [Act.put, zs1, zs2, zs3, i64_w, i32_w]
         rfl
        refine pure_ (i := 21) (N := some 37) (v := undef) (a' := ?_) (bm 25 4194303) rfl rfl (any_of HT_.out (by kernel_rfl)) (fun _ _ _ h => h) (Or.inr ⟨by rfl, rfl⟩) ?_ ?_
        rotate_left
        ·simp only [Act.put, zs1, zs2, zs3, i64_w, i32_w]
         rfl
        refine pure_ (i := 22) (N := some 38) (v := undef) (a' := ?_) (bm 25 8388607) rfl rfl (any_of HT_.out (by kernel_rfl)) (fun _ _ _ h => h) (Or.inr ⟨by rfl, rfl⟩) ?_ ?_
        rotate_left
        ·simp only [Act.put, zs1, zs2, zs3, i64_w, i32_w]
         rfl
        refine pure_ (i := 23) (N := some 39) (v := undef) (a' := ?_) (bm 25 16777215) rfl rfl (any_of HT_.out (by kernel_rfl)) (fun _ _ _ h => h) (Or.inr ⟨by rfl, rfl⟩) ?_ ?_
        rotate_left
        ·simp only [Act.put, zs1, zs2, zs3, i64_w, i32_w]
         rfl
        refine zp 24 40 (v := ?_) (a' := ?_) (bm 25 33554431) HT_.out (by kernel_rfl) ?_ ?_ ?_; rotate_left; (focus intro w'; go_simp; with_reducible rfl); rotate_left; (focus simp only [Act.put, zs1, zs2, zs3, i64_w, i32_w]; rfl)
        refine done_ (done_of HT_.out (by kernel_rfl)) ?_
        try go_wp2
        go_roundg k1
        case measure => have := HK1.out; omega
        case rel => exact ⟨(x7_1), (wrap64 (x12_1 + 1)), (by first | rfl | (simp; done) | (simp [*]; done)), H', ⟨by have := HK1.out; omega⟩, ⟨by (with_reducible repeat (first | apply Kd.R_alloc | apply Kd.R_drewN | apply Kd.R_drew)); exact Kd.R_mono HO_7.out (fun _ hk => trivial)⟩, ⟨by (with_reducible repeat (first | refine blk_alloc ?_ _ | refine blk_drewN ?_ _ | refine blk_drew ?_)); exact BK112.out⟩, ⟨by apply_rules [HB.out, zb1, zb2, zb3, zb4, GE112.out, zb4, GE114.out]⟩⟩
       rw [if_neg c12] at H
       exact absurd H (by simp)
      replace c9 := Bool.eq_false_iff.mpr c9
      subst c9
      have H1 : (many_on.l0 k1 a2 x7_1 l1 (l1.length : Int) (wrap64 (x12_1 + 1)) a0_0 a0_1 a0_2) = some r := by rw [if_neg (show ¬ (false = true) by decide)] at H; exact H
      clear H
      have H := H1
      clear H1
      have H' := zm H
      clear H
      have p113 : 0 ≤ (x12_1 : Int) := of_decide_eq_true (by first | (with_reducible assumption) | assumption)
      have q113 : x12_1 < (l1.length : Int) := of_decide_eq_true (by first | (with_reducible assumption) | assumption)
      obtain ⟨ad113, e113, hx113_0, hx113_1, hx113_2, hx113_3⟩ := at_T49 HR1.out x12_1 p113 q113
      cases e113
      (try (replace hx113_0 := (HB.out.cell (World.block_lt_of_cell? w _ hx113_0)).trans hx113_0))
      (try (replace hx113_1 := (HB.out.cell (World.block_lt_of_cell? w _ hx113_1)).trans hx113_1))
      (try (replace hx113_2 := (HB.out.cell (World.block_lt_of_cell? w _ hx113_2)).trans hx113_2))
      (try (replace hx113_3 := (HB.out.cell (World.block_lt_of_cell? w _ hx113_3)).trans hx113_3))
      replace p113 := eq_true p113
      replace q113 := eq_true q113
      try go_wp2_with (first | ((with_reducible refine gate_dst (N := 9) rfl ?_); refine box_event ?hg (N := 9) ?hd (cs := #[.int .u32 0, .int .u8 0, .int .i64 0, .int .i64 0]) (t := 49) ?hr ?_; (case hd => rfl); (case hg => rfl); (case hr => go_simp; try rfl); intro gb114 hg w40 hbox hb; have n0_ := zm (Kd.R_below (Kd.R_elderB (by apply_rules [HO_7.out, Kd.R_alloc, Kd.R_drewN, Kd.R_drew]) gb114 (Nat.le_of_eq hg.symm)) hb); have n1_ := zm (blk_below (by apply_rules [BK112.out, zk1, zk2, zk3]) hb); have n2_ := zm (below_step (by apply_rules [HB.out, zb1, zb2, zb3, zb4, GE112.out]) hb); have n3_ := zm (hbox); have n4_ := zm ((by rw [hg]; exact (below_size (by apply_rules [HB.out, zb1, zb2, zb3, zb4, GE112.out])) : w.heap.size ≤ gb114)); have n5_ := n4_; have n6_ := zm ((by rw [hg]; exact Nat.ne_of_lt (blk_lt (by apply_rules [BK112.out, zk1, zk2, zk3])) : gb112 ≠ gb114)); have n7_ := zm ((by rw [hg]; exact Nat.ne_of_gt (blk_lt (by apply_rules [BK112.out, zk1, zk2, zk3])) : gb114 ≠ gb112)); clear HO_7; clear BK112; clear HB; have HO_7 := n0_; have BK112 := n1_; have HB := n2_; have BK114 := n3_; have GW114 := n4_; have GE114 := n5_; have NB112_114 := n6_; have NB114_112 := n7_; clear n0_ n1_ n2_ n3_ n4_ n5_ n6_ n7_; clear hb hbox hg; have hnb41 := NB114_112.out; have hnc41 := NB112_114.out; obtain ⟨hcz42_0, hcz42_1, hcz42_2, hcz42_3, hfz42_0, hfz42_1, hfz42_2, hfz42_3⟩ := zf4 BK114.out))
      have n0_ : Aside0 (Kd.R k49 49 ((((w40.setCell ⟨gb114, 0, none⟩ (.int .u32 ((rd_T49 l1 x12_1).f0))).setCell ⟨gb114, 1, none⟩ (.int .u8 ((rd_T49 l1 x12_1).f1))).setCell ⟨gb114, 2, none⟩ (.int .i64 ((rd_T49 l1 x12_1).f2))).setCell ⟨gb114, 3, none⟩ (.int .i64 ((rd_T49 l1 x12_1).f3))) w.heap.size (fun k_ => k_ ≠ gb114) u7 x7_1) := ⟨by (with_reducible repeat (first | apply Kd.R_alloc | apply Kd.R_drewN | apply Kd.R_drew)); exact Kd.R_mono (Kd.R_far (p := ⟨gb114, 3, none⟩) (Kd.R_far (p := ⟨gb114, 2, none⟩) (Kd.R_far (p := ⟨gb114, 1, none⟩) (Kd.R_far (p := ⟨gb114, 0, none⟩) (Kd.R_mono HO_7.out (fun k_ hk => (⟨hk, hk.2⟩ : _ ∧ k_ ≠ gb114))) (fun _ hk => hk.2) (.int .u32 ((rd_T49 l1 x12_1).f0))) (fun _ hk => hk.2) (.int .u8 ((rd_T49 l1 x12_1).f1))) (fun _ hk => hk.2) (.int .i64 ((rd_T49 l1 x12_1).f2))) (fun _ hk => hk.2) (.int .i64 ((rd_T49 l1 x12_1).f3))) (fun _ hk => hk.1.2)⟩
      have n1_ : Aside0 (((((w40.setCell ⟨gb114, 0, none⟩ (.int .u32 ((rd_T49 l1 x12_1).f0))).setCell ⟨gb114, 1, none⟩ (.int .u8 ((rd_T49 l1 x12_1).f1))).setCell ⟨gb114, 2, none⟩ (.int .i64 ((rd_T49 l1 x12_1).f2))).setCell ⟨gb114, 3, none⟩ (.int .i64 ((rd_T49 l1 x12_1).f3))).heap[gb112]? = some (.cells #[.int .i64 a0_0, .int .i64 a0_1, .int .i64 a0_2] 23 (0, 0))) := ⟨by (with_reducible repeat (first | refine blk_alloc ?_ _ | refine blk_drewN ?_ _ | refine blk_drew ?_)); refine blk_far ?_ NB112_114.out _; (with_reducible repeat (first | refine blk_alloc ?_ _ | refine blk_drewN ?_ _ | refine blk_drew ?_)); refine blk_far ?_ NB112_114.out _; (with_reducible repeat (first | refine blk_alloc ?_ _ | refine blk_drewN ?_ _ | refine blk_drew ?_)); refine blk_far ?_ NB112_114.out _; (with_reducible repeat (first | refine blk_alloc ?_ _ | refine blk_drewN ?_ _ | refine blk_drew ?_)); refine blk_far ?_ NB112_114.out _; (with_reducible repeat (first | refine blk_alloc ?_ _ | refine blk_drewN ?_ _ | refine blk_drew ?_)); exact BK112.out⟩
      have n2_ : Aside0 (((((w40.setCell ⟨gb114, 0, none⟩ (.int .u32 ((rd_T49 l1 x12_1).f0))).setCell ⟨gb114, 1, none⟩ (.int .u8 ((rd_T49 l1 x12_1).f1))).setCell ⟨gb114, 2, none⟩ (.int .i64 ((rd_T49 l1 x12_1).f2))).setCell ⟨gb114, 3, none⟩ (.int .i64 ((rd_T49 l1 x12_1).f3))).heap[gb114]? = some (.cells #[.int .u32 ((rd_T49 l1 x12_1).f0), .int .u8 ((rd_T49 l1 x12_1).f1), .int .i64 ((rd_T49 l1 x12_1).f2), .int .i64 ((rd_T49 l1 x12_1).f3)] 49 (0, 0))) := ⟨by (with_reducible repeat (first | refine blk_alloc ?_ _ | refine blk_drewN ?_ _ | refine blk_drew ?_)); refine blk_put (cs := #[.int .u32 ((rd_T49 l1 x12_1).f0), .int .u8 ((rd_T49 l1 x12_1).f1), .int .i64 ((rd_T49 l1 x12_1).f2), .int .i64 0]) ?_ 3 _ rfl; (with_reducible repeat (first | refine blk_alloc ?_ _ | refine blk_drewN ?_ _ | refine blk_drew ?_)); refine blk_put (cs := #[.int .u32 ((rd_T49 l1 x12_1).f0), .int .u8 ((rd_T49 l1 x12_1).f1), .int .i64 0, .int .i64 0]) ?_ 2 _ rfl; (with_reducible repeat (first | refine blk_alloc ?_ _ | refine blk_drewN ?_ _ | refine blk_drew ?_)); refine blk_put (cs := #[.int .u32 ((rd_T49 l1 x12_1).f0), .int .u8 0, .int .i64 0, .int .i64 0]) ?_ 1 _ rfl; (with_reducible repeat (first | refine blk_alloc ?_ _ | refine blk_drewN ?_ _ | refine blk_drew ?_)); refine blk_put (cs := #[.int .u32 0, .int .u8 0, .int .i64 0, .int .i64 0]) ?_ 0 _ rfl; (with_reducible repeat (first | refine blk_alloc ?_ _ | refine blk_drewN ?_ _ | refine blk_drew ?_)); exact BK114.out⟩
      have n3_ : Aside0 (Below w.heap.size w ((((w40.setCell ⟨gb114, 0, none⟩ (.int .u32 ((rd_T49 l1 x12_1).f0))).setCell ⟨gb114, 1, none⟩ (.int .u8 ((rd_T49 l1 x12_1).f1))).setCell ⟨gb114, 2, none⟩ (.int .i64 ((rd_T49 l1 x12_1).f2))).setCell ⟨gb114, 3, none⟩ (.int .i64 ((rd_T49 l1 x12_1).f3)))) := ⟨by apply_rules [HB.out, zb1, zb2, zb3, zb4, GE112.out, zb4, GE114.out]⟩
      (try clear HO_7)
      (try clear BK112)
      (try clear BK114)
      (try clear HB)
      generalize ((((w40.setCell ⟨gb114, 0, none⟩ (.int .u32 ((rd_T49 l1 x12_1).f0))).setCell ⟨gb114, 1, none⟩ (.int .u8 ((rd_T49 l1 x12_1).f1))).setCell ⟨gb114, 2, none⟩ (.int .i64 ((rd_T49 l1 x12_1).f2))).setCell ⟨gb114, 3, none⟩ (.int .i64 ((rd_T49 l1 x12_1).f3))) = w43 at n0_ n1_ n2_ n3_ ⊢
      have HO_7 := n0_
      have BK112 := n1_
      have BK114 := n2_
      have HB := n3_
      clear n0_ n1_ n2_ n3_
      have n0_ := zm (Kd.R_drew HO_7.out)
      have n1_ := zm (blk_drew BK112.out)
      have n2_ := zm (blk_drew BK114.out)
      have n3_ := zm (below_drew1 HB.out)
      clear HO_7
      clear BK112
      clear BK114
      clear HB
      have HO_7 := n0_
      have BK112 := n1_
      have BK114 := n2_
      have HB := n3_
      clear n0_ n1_ n2_ n3_
      refine start_ (n := 25) (S := fun w' => w'.cell? ⟨gb112, 0, none⟩ = some (.int .i64 a0_0) ∧ w'.cell? ⟨gb112, 1, none⟩ = some (.int .i64 a0_1) ∧ w'.cell? ⟨gb112, 2, none⟩ = some (.int .i64 a0_2) ∧ w'.cell? ⟨gb114, 0, none⟩ = some (.int .u32 ((rd_T49 l1 x12_1).f0)) ∧ w'.cell? ⟨gb114, 1, none⟩ = some (.int .u8 ((rd_T49 l1 x12_1).f1)) ∧ w'.cell? ⟨gb114, 2, none⟩ = some (.int .i64 ((rd_T49 l1 x12_1).f2)) ∧ w'.cell? ⟨gb114, 3, none⟩ = some (.int .i64 ((rd_T49 l1 x12_1).f3))) (ds := []) #[false, false, false, false, false, false, false, false, false, false, false, false, false, false, false, false, false, false, false, false, false, false, false, false, false] (by kernel_rfl) rfl rfl ⟨(blk_cell BK112.out 0).trans rfl, (blk_cell BK112.out 1).trans rfl, (blk_cell BK112.out 2).trans rfl, (blk_cell BK114.out 0).trans rfl, (blk_cell BK114.out 1).trans rfl, (blk_cell BK114.out 2).trans rfl, (blk_cell BK114.out 3).trans rfl⟩ (fun hHeld => ?_); refine with_tabW many_on.tab5 many_on.bits5 (fun HT_ HW_ => ?_)
      generalize w43.drew = w44 at HO_7 BK112 BK114 HB hHeld ⊢
      refine take_ (i := 0) (N := some 16) (v := ?_) (a' := ?_) (bm 25 1) rfl rfl (take_ofW HT_.out HW_.out (by kernel_rfl)) (fun _ _ _ h => h) (Or.inl ⟨by rfl, ?_⟩) hHeld ?_ ?_; rotate_left; (focus rintro w' ⟨s0, s1, s2, s3, s4, s5, s6⟩; go_simp; with_reducible rfl); rotate_left; (focus simp only [Act.put, zs1, zs2, zs3, i64_w, i32_w]; rfl)
      refine take_ (i := 1) (N := some 17) (v := ?_) (a' := ?_) (bm 25 3) rfl rfl (take_ofW HT_.out HW_.out (by kernel_rfl)) (fun _ _ _ h => h) (Or.inl ⟨by rfl, ?_⟩) hHeld ?_ ?_; rotate_left; (focus rintro w' ⟨s0, s1, s2, s3, s4, s5, s6⟩; go_simp; with_reducible rfl); rotate_left; (focus simp only [Act.put, zs1, zs2, zs3, i64_w, i32_w]; rfl)
      refine one_ (i := 2) (N := some 18) (bm 25 7) rfl rfl (one_of HT_.out (by kernel_rfl)) (by decide) (fun K hK => ?_)
      refine goes_ Try.func27 (by kernel_rfl) rfl #[.agg #[.int .i64 a0_0, .int .i64 a0_1, .int .i64 a0_2], .agg #[.int .u32 ((rd_T49 l1 x12_1).f0), .int .u8 ((rd_T49 l1 x12_1).f1), .int .i64 ((rd_T49 l1 x12_1).f2), .int .i64 ((rd_T49 l1 x12_1).f3)]] (by rfl) rfl rfl (by (try simp only [zt1, zt2, zt3]) <;> rfl) ?_
      with_reducible refine (when_Right.calls a0_0 a0_1 a0_2 ((rd_T49 l1 x12_1).f0) ((rd_T49 l1 x12_1).f1) ((rd_T49 l1 x12_1).f2) ((rd_T49 l1 x12_1).f3) false _ A8.out).mono ?_
      rintro e w45 ⟨rfl, hb⟩
      refine ⟨_, rfl, ?_⟩
      have n0_ := zm (Kd.R_below (by apply_rules [HO_7.out, Kd.R_alloc, Kd.R_drewN, Kd.R_drew]) hb)
      have n1_ := zm (blk_below (by apply_rules [BK112.out, zk1, zk2, zk3]) hb)
      have n2_ := zm (blk_below (by apply_rules [BK114.out, zk1, zk2, zk3]) hb)
      have n3_ := zm (below_step (by apply_rules [HB.out, zb1, zb2, zb3, zb4, GE112.out, zb4, GE114.out]) hb)
      clear HO_7
      clear BK112
      clear BK114
      clear HB
      have HO_7 := n0_
      have BK112 := n1_
      have BK114 := n2_
      have HB := n3_
      clear n0_ n1_ n2_ n3_
      (try clear hb)
      (try clear hb2)
      (try clear hk)
      (try clear hi)
      refine hK.out _ _ ⟨(blk_cell BK112.out 0).trans rfl, (blk_cell BK112.out 1).trans rfl, (blk_cell BK112.out 2).trans rfl, (blk_cell BK114.out 0).trans rfl, (blk_cell BK114.out 1).trans rfl, (blk_cell BK114.out 2).trans rfl, (blk_cell BK114.out 3).trans rfl⟩ (fun hHeld => ?_)
      clear hK K
      refine norm_ (a' := ?_) ?_ ?_
      rotate_left
      ·show Act.put _ (some 18) _ = _
       simp only [Act.put, zs1, zs2, zs3, i64_w, i32_w]
       rfl
      refine zp 3 19 (v := ?_) (a' := ?_) (bm 25 15) HT_.out (by kernel_rfl) ?_ ?_ ?_; rotate_left; (focus intro w'; go_simp; with_reducible rfl); rotate_left; (focus simp only [Act.put, zs1, zs2, zs3, i64_w, i32_w]; rfl)
      refine pure_ (i := 4) (N := some 20) (v := undef) (a' := ?_) (bm 25 31) rfl rfl (any_of HT_.out (by kernel_rfl)) (fun _ _ _ h => h) (Or.inr ⟨by rfl, rfl⟩) ?_ ?_
      rotate_left
      ·simp only [Act.put, zs1, zs2, zs3, i64_w, i32_w]
       rfl
      refine pure_ (i := 5) (N := some 21) (v := undef) (a' := ?_) (bm 25 63) rfl rfl (any_of HT_.out (by kernel_rfl)) (fun _ _ _ h => h) (Or.inr ⟨by rfl, rfl⟩) ?_ ?_
      rotate_left
      ·simp only [Act.put, zs1, zs2, zs3, i64_w, i32_w]
       rfl
      refine pure_ (i := 6) (N := some 22) (v := undef) (a' := ?_) (bm 25 127) rfl rfl (any_of HT_.out (by kernel_rfl)) (fun _ _ _ h => h) (Or.inr ⟨by rfl, rfl⟩) ?_ ?_
      rotate_left
      ·simp only [Act.put, zs1, zs2, zs3, i64_w, i32_w]
       rfl
      refine pure_ (i := 7) (N := some 23) (v := undef) (a' := ?_) (bm 25 255) rfl rfl (any_of HT_.out (by kernel_rfl)) (fun _ _ _ h => h) (Or.inr ⟨by rfl, rfl⟩) ?_ ?_
      rotate_left
      ·simp only [Act.put, zs1, zs2, zs3, i64_w, i32_w]
       rfl
      refine pure_ (i := 8) (N := some 24) (v := undef) (a' := ?_) (bm 25 511) rfl rfl (any_of HT_.out (by kernel_rfl)) (fun _ _ _ h => h) (Or.inr ⟨by rfl, rfl⟩) ?_ ?_
      rotate_left
      ·simp only [Act.put, zs1, zs2, zs3, i64_w, i32_w]
       rfl
      refine pure_ (i := 9) (N := some 25) (v := undef) (a' := ?_) (bm 25 1023) rfl rfl (any_of HT_.out (by kernel_rfl)) (fun _ _ _ h => h) (Or.inr ⟨by rfl, rfl⟩) ?_ ?_
      rotate_left
      ·simp only [Act.put, zs1, zs2, zs3, i64_w, i32_w]
       rfl
      refine pure_ (i := 10) (N := some 26) (v := undef) (a' := ?_) (bm 25 2047) rfl rfl (any_of HT_.out (by kernel_rfl)) (fun _ _ _ h => h) (Or.inr ⟨by rfl, rfl⟩) ?_ ?_
      rotate_left
      ·simp only [Act.put, zs1, zs2, zs3, i64_w, i32_w]
       rfl
      refine pure_ (i := 11) (N := some 27) (v := undef) (a' := ?_) (bm 25 4095) rfl rfl (any_of HT_.out (by kernel_rfl)) (fun _ _ _ h => h) (Or.inr ⟨by rfl, rfl⟩) ?_ ?_
      rotate_left
      ·simp only [Act.put, zs1, zs2, zs3, i64_w, i32_w]
       rfl
      refine pure_ (i := 12) (N := some 28) (v := undef) (a' := ?_) (bm 25 8191) rfl rfl (any_of HT_.out (by kernel_rfl)) (fun _ _ _ h => h) (Or.inr ⟨by rfl, rfl⟩) ?_ ?_
      rotate_left
      ·simp only [Act.put, zs1, zs2, zs3, i64_w, i32_w]
       rfl
      refine zp 13 29 (v := ?_) (a' := ?_) (bm 25 16383) HT_.out (by kernel_rfl) ?_ ?_ ?_; rotate_left; (focus intro w'; go_simp; with_reducible rfl); rotate_left; (focus simp only [Act.put, zs1, zs2, zs3, i64_w, i32_w]; rfl)
      refine zp 14 30 (v := ?_) (a' := ?_) (bm 25 32767) HT_.out (by kernel_rfl) ?_ ?_ ?_; rotate_left; (focus intro w'; go_simp; with_reducible rfl); rotate_left; (focus simp only [Act.put, zs1, zs2, zs3, i64_w, i32_w]; rfl)
      refine pure_ (i := 15) (N := some 31) (v := undef) (a' := ?_) (bm 25 65535) rfl rfl (any_of HT_.out (by kernel_rfl)) (fun _ _ _ h => h) (Or.inr ⟨by rfl, rfl⟩) ?_ ?_
      rotate_left
      ·simp only [Act.put, zs1, zs2, zs3, i64_w, i32_w]
       rfl
      refine pure_ (i := 16) (N := some 32) (v := undef) (a' := ?_) (bm 25 131071) rfl rfl (any_of HT_.out (by kernel_rfl)) (fun _ _ _ h => h) (Or.inr ⟨by rfl, rfl⟩) ?_ ?_
      rotate_left
      ·simp only [Act.put, zs1, zs2, zs3, i64_w, i32_w]
       rfl
      refine pure_ (i := 17) (N := some 33) (v := undef) (a' := ?_) (bm 25 262143) rfl rfl (any_of HT_.out (by kernel_rfl)) (fun _ _ _ h => h) (Or.inr ⟨by rfl, rfl⟩) ?_ ?_
      rotate_left
      ·simp only [Act.put, zs1, zs2, zs3, i64_w, i32_w]
       rfl
      refine pure_ (i := 18) (N := some 34) (v := undef) (a' := ?_) (bm 25 524287) rfl rfl (any_of HT_.out (by kernel_rfl)) (fun _ _ _ h => h) (Or.inr ⟨by rfl, rfl⟩) ?_ ?_
      rotate_left
      ·simp only [Act.put, zs1, zs2, zs3, i64_w, i32_w]
       rfl
      refine pure_ (i := 19) (N := some 35) (v := undef) (a' := ?_) (bm 25 1048575) rfl rfl (any_of HT_.out (by kernel_rfl)) (fun _ _ _ h => h) (Or.inr ⟨by rfl, rfl⟩) ?_ ?_
      rotate_left
      ·simp only [Act.put, zs1, zs2, zs3, i64_w, i32_w]
       rfl
      refine pure_ (i := 20) (N := some 36) (v := undef) (a' := ?_) (bm 25 2097151) rfl rfl (any_of HT_.out (by kernel_rfl)) (fun _ _ _ h => h) (Or.inr ⟨by rfl, rfl⟩) ?_ ?_
      rotate_left
      ·simp only [Act.put, zs1, zs2, zs3, i64_w, i32_w]
       rfl
      refine pure_ (i := 21) (N := some 37) (v := undef) (a' := ?_) (bm 25 4194303) rfl rfl (any_of HT_.out (by kernel_rfl)) (fun _ _ _ h => h) (Or.inr ⟨by rfl, rfl⟩) ?_ ?_
      rotate_left
      ·simp only [Act.put, zs1, zs2, zs3, i64_w, i32_w]
       rfl
      refine pure_ (i := 22) (N := some 38) (v := undef) (a' := ?_) (bm 25 8388607) rfl rfl (any_of HT_.out (by kernel_rfl)) (fun _ _ _ h => h) (Or.inr ⟨by rfl, rfl⟩) ?_ ?_
      rotate_left
      ·simp only [Act.put, zs1, zs2, zs3, i64_w, i32_w]
       rfl
      refine pure_ (i := 23) (N := some 39) (v := undef) (a' := ?_) (bm 25 16777215) rfl rfl (any_of HT_.out (by kernel_rfl)) (fun _ _ _ h => h) (Or.inr ⟨by rfl, rfl⟩) ?_ ?_
      rotate_left
      ·simp only [Act.put, zs1, zs2, zs3, i64_w, i32_w]
       rfl
      refine zp 24 40 (v := ?_) (a' := ?_) (bm 25 33554431) HT_.out (by kernel_rfl) ?_ ?_ ?_; rotate_left; (focus intro w'; go_simp; with_reducible rfl); rotate_left; (focus simp only [Act.put, zs1, zs2, zs3, i64_w, i32_w]; rfl)
      refine done_ (done_of HT_.out (by kernel_rfl)) ?_
      try go_wp2
      go_roundg k1
      case measure => have := HK1.out; omega
      case rel => exact ⟨(x7_1), (wrap64 (x12_1 + 1)), (by first | rfl | (simp; done) | (simp [*]; done)), H', ⟨by have := HK1.out; omega⟩, ⟨by (with_reducible repeat (first | apply Kd.R_alloc | apply Kd.R_drewN | apply Kd.R_drew)); exact Kd.R_mono HO_7.out (fun _ hk => trivial)⟩, ⟨by (with_reducible repeat (first | refine blk_alloc ?_ _ | refine blk_drewN ?_ _ | refine blk_drew ?_)); exact BK112.out⟩, ⟨by apply_rules [HB.out, zb1, zb2, zb3, zb4, GE112.out, zb4, GE114.out]⟩⟩
     rw [if_neg c7] at H
     exact absurd H (by simp)
    rw [if_neg c6] at H
    exact absurd H (by simp)
   rw [if_neg c5] at H
   have c5b0 : decide (x12_1 < (l1.length : Int)) = false := decide_eq_false c5
   clear c5
   by_cases c20 : x7_1.length < 40
   rotate_left
   ·rw [if_neg c20] at H
    exact absurd H (by simp)
   rw [if_pos c20] at H
   obtain rfl := Option.some.inj H
   clear H
   obtain ⟨inner, ho⟩ := Kd.R_own HO_7.out
   obtain ⟨_, ⟨rfl, hz⟩ | ⟨go, cap, cur, rfl, hbase, _⟩⟩ := ho
   ·obtain rfl : x7_1 = [] := List.length_eq_zero_iff.1 hz
    clear hz
    go_wp2_with (go_at_call 46; refine (stable_nil _).mono ?_; rintro ex w2 ⟨rfl, rfl⟩)
    go_ret
    exact ⟨_, rfl, HO_7.out, HB.out⟩
   have HS := zm (stable_calls x7_1 wr HO_7.out c20)
   have HGB := zm hbase
   clear hbase c20
   go_wp2_with (go_at_call 46; refine HS.out.mono ?_; rintro ex w2 ⟨rfl, hr2, hg2⟩; have HR2 := zm hr2; have HB2 := zm (HB.out.grown hg2 HB.out.size (fun k e => by injection e with e; subst e; exact HGB.out)); clear hr2 hg2)
   go_ret
   exact ⟨_, rfl, HR2.out, HB2.out⟩
end Go.Proofs.Ytlfnpakpkniipaa.Q
