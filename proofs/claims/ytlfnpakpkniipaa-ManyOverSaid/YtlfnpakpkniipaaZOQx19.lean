/- Words for the claim. -/
import Derived.Test.YtlfnpakpkniipaaZOWords
import Derived.Test.YtlfnpakpkniipaaZOQx0
import Derived.Test.YtlfnpakpkniipaaZOQx12
import Derived.Test.YtlfnpakpkniipaaZOQx15
namespace Go.Proofs.Ytlfnpakpkniipaa.Q
open Go.RowKit Go.Proofs.YtlfnpakpkniipaaW.PrintWords Go.Proofs.YtlfnpakpkniipaaW.PrintLast Go.Proofs.YtlfnpakpkniipaaW.PrintMore
attribute [local go_sem] max2_int min2_int max_two min_two max_three min_three max_four min_four
set_option linter.unusedVariables false
set_option linter.unusedSimpArgs false
def horariumref12_in.l0 : Nat → List (S49) → Int → Int → Int → Int → Int → Int → Option (Bool)
 | 0, _, _, _, _, _, _, _ => none
 | k + 1, x1, x2, x3, x9, x345000, x345001, x345002 => if x9 < (x1.length : Int) then (if 0 ≤ x9 then ((horariumref09_Right.f k x345000 x345001 x345002 ((rd_T49 x1 x9).f0) ((rd_T49 x1 x9).f1) ((rd_T49 x1 x9).f2) ((rd_T49 x1 x9).f3)).bind fun t346 => (if t346 = true then (if x345001 = 0 then (none) else ((horariumref09_On.f k ((rd_T49 x1 x9).f0) ((rd_T49 x1 x9).f1) ((rd_T49 x1 x9).f2) ((rd_T49 x1 x9).f3) (wrap64 (Int.tdiv x2 x345001)) (Int.tmod x2 x345001) x3).bind fun t348 => (if t348 = true then (some true) else (horariumref12_in.l0 k x1 x2 x3 (wrap64 (x9 + 1)) x345000 x345001 x345002)))) else (horariumref12_in.l0 k x1 x2 x3 (wrap64 (x9 + 1)) x345000 x345001 x345002))) else (none)) else (some false)
def horariumref12_in.f (k : Nat) (a0_0 : Int) (a0_1 : Int) (a0_2 : Int) (l1 : List (S49)) (a2 : Int) (a3 : Int) : Option (Bool) := horariumref12_in.l0 k l1 a2 a3 0 a0_0 a0_1 a0_2
def horariumref12_in.T4 : Bool × List (List Nat × List Nat) := (true, [([], []), ([], []), ([], []), ([1, 2], [1, 2]), ([3], [3]), ([0, 4], [0, 4]), ([5, 5], [5]), ([6], [6]), ([6], [6]), ([7, 8, 6], [6, 7, 8]), ([9, 6], [6, 9]), ([6], [6]), ([6], [6]), ([12, 6], [6, 12]), ([11, 13, 6], [6, 11, 13]), ([6], [6]), ([6], [6]), ([16, 6], [6, 16]), ([15, 17, 6], [6, 15, 17]), ([6], [6]), ([10, 14, 18, 19, 6, 6], [6, 10, 14, 18, 19]), ([6, 20], [6, 20])])
def horariumref12_in.B4 : List Nat := [0, 0, 0, 6, 14, 31, 63, 127, 127, 511, 1023, 127, 127, 4223, 14463, 127, 127, 65663, 229503, 127, 1048575, 2097151]
theorem horariumref12_in.tab4 : rtab .any (opsOf Try.f54 4) = horariumref12_in.T4 := by kernel_rfl
theorem horariumref12_in.bits4 : waitsOk horariumref12_in.T4.2 horariumref12_in.B4 = true := by kernel_rfl
set_option maxHeartbeats 8000000 in
set_option maxRecDepth 100000 in
theorem horariumref12_in.calls (k : Nat) (a0_0 : Int) (a0_1 : Int) (a0_2 : Int) (A1 : Option Addr) (c1 : Nat) (l1 : List (S49)) (a2 : Int) (a3 : Int) (r : Bool) (w : World) (hr1 : Kd.C k49 w A1 l1.length l1) (hc1 : l1.length ≤ c1) (h : horariumref12_in.f k a0_0 a0_1 a0_2 l1 a2 a3 = some r) :
  Calls Try.prog 54 #[.agg #[.int .i64 a0_0, .int .i64 a0_1, .int .i64 a0_2], .slice A1 l1.length c1, .int .i64 a2, .int .i64 a3] w fun e w' => e = .returned (.bool r) ∧ Below w.heap.size w w' := by
 have hu23 := Try.underlying23
 have hu49 := Try.underlying49
 have HR1 := zm hr1
 have HC1 := zm hc1
 clear hr1 hc1
 have HB := zm (Below.refl w.heap.size w)
 have H : (horariumref12_in.l0 k l1 a2 a3 0 a0_0 a0_1 a0_2) = some r := h
 clear h
 have H' := zm H
 clear H
 go_enter Try.func54, Try.ntmps54
 go_wp2_with (first | ((with_reducible refine gate_dst (N := 4) rfl ?_); refine box_event ?hg (N := 4) ?hd (cs := #[.int .i64 a0_0, .int .i64 a0_1, .int .i64 a0_2]) (t := 23) ?hr ?_; (case hd => rfl); (case hg => rfl); (case hr => go_simp; try rfl); intro gb344 hg w5 hbox hb; have BK344 := zm (hbox); have GW344 := zm ((by rw [hg]; exact (below_size (by apply_rules [HB.out, zb1, zb2, zb3])) : w.heap.size ≤ gb344)); have GE344 := GW344; replace HB := zm (below_step (by apply_rules [HB.out, zb1, zb2, zb3]) hb); clear hb hbox hg))
 go_loopg [9] k (fun kq v9 w' => ∃ (x9_1 : Int), v9 = .int .i64 x9_1 ∧ Aside0 (horariumref12_in.l0 kq l1 a2 a3 x9_1 a0_0 a0_1 a0_2 = some r) ∧ Aside0 (kq ≤ k) ∧ Aside0 (w'.heap[gb344]? = some (.cells #[.int .i64 a0_0, .int .i64 a0_1, .int .i64 a0_2] 23 (0, 0))) ∧ Aside0 (Below w.heap.size w w'))
 case atStart => exact ⟨(0), (by first | rfl | (simp; done) | (simp [*]; done)), H', ⟨Nat.le_refl _⟩, ⟨by (with_reducible repeat (first | refine blk_alloc ?_ _ | refine blk_drewN ?_ _ | refine blk_drew ?_)); exact BK344.out⟩, ⟨by apply_rules [HB.out, zb1, zb2, zb3, zb4, GE344.out]⟩⟩
 case round =>
  clear H'
  (try clear c1); (try clear p2); (try clear c5)
  obtain ⟨x9_1, rfl, HA, HK1, BK344, HB⟩ := hrel
  cases gk with
  | zero => exact absurd HA.out (by simp [horariumref12_in.l0])
  | succ k1 =>
   have H := HA.out
   clear HA
   simp only [horariumref12_in.l0] at H
   by_cases c6 : x9_1 < (l1.length : Int)
   ·rw [if_pos c6] at H
    have c6b0 : decide (x9_1 < (l1.length : Int)) = true := decide_eq_true c6
    clear c6
    by_cases c7 : 0 ≤ x9_1
    ·rw [if_pos c7] at H
     have c7b0 : decide (0 ≤ x9_1) = true := decide_eq_true c7
     clear c7
     replace H := zo H
     obtain ⟨t346, A80, H⟩ := H
     have A8 := zm A80
     clear A80
     by_cases c9 : t346 = true
     ·subst c9
      have H1 : (if a0_1 = 0 then (none) else ((horariumref09_On.f k1 ((rd_T49 l1 x9_1).f0) ((rd_T49 l1 x9_1).f1) ((rd_T49 l1 x9_1).f2) ((rd_T49 l1 x9_1).f3) (wrap64 (Int.tdiv a2 a0_1)) (Int.tmod a2 a0_1) a3).bind fun t348 => (if t348 = true then (some true) else (horariumref12_in.l0 k1 l1 a2 a3 (wrap64 (x9_1 + 1)) a0_0 a0_1 a0_2)))) = some r := by rw [if_pos rfl] at H; exact H
      clear H
      have H := H1
      clear H1
      by_cases c10 : a0_1 = 0
      ·rw [if_pos c10] at H
       exact absurd H (by simp)
      rw [if_neg c10] at H
      have c10b0 : (a0_1 == 0) = false := beq_eq_false_iff_ne.mpr c10
      have c10b1 : (a0_1 != 0) = true := bne_iff_ne.mpr c10
      replace H := zo H
      obtain ⟨t348, A110, H⟩ := H
      have A11 := zm A110
      clear A110
      by_cases c12 : t348 = true
      ·subst c12
       have H1 : (some true) = some r := by rw [if_pos rfl] at H; exact H
       clear H
       have H := H1
       clear H1
       obtain rfl := Option.some.inj H
       try go_wp2
       have n0_ := zm (blk_drew BK344.out)
       have n1_ := zm (below_drew1 HB.out)
       clear BK344
       clear HB
       have BK344 := n0_
       have HB := n1_
       clear n0_ n1_
       have p345 : 0 ≤ (x9_1 : Int) := of_decide_eq_true (by first | (with_reducible assumption) | assumption)
       have q345 : x9_1 < (l1.length : Int) := of_decide_eq_true (by first | (with_reducible assumption) | assumption)
       obtain ⟨ad345, e345, hx345_0, hx345_1, hx345_2, hx345_3⟩ := at_T49 HR1.out x9_1 p345 q345
       have hw345_3 := hx345_3
       have hw345_2 := hx345_2
       have hw345_1 := hx345_1
       have hw345_0 := hx345_0
       cases e345
       (try (replace hx345_0 := (HB.out.cell (World.block_lt_of_cell? w _ hx345_0)).trans hx345_0))
       (try (replace hx345_1 := (HB.out.cell (World.block_lt_of_cell? w _ hx345_1)).trans hx345_1))
       (try (replace hx345_2 := (HB.out.cell (World.block_lt_of_cell? w _ hx345_2)).trans hx345_2))
       (try (replace hx345_3 := (HB.out.cell (World.block_lt_of_cell? w _ hx345_3)).trans hx345_3))
       replace p345 := eq_true p345
       replace q345 := eq_true q345
       have p347 : 0 ≤ (x9_1 : Int) := of_decide_eq_true (by first | (with_reducible assumption) | assumption)
       have q347 : x9_1 < (l1.length : Int) := of_decide_eq_true (by first | (with_reducible assumption) | assumption)
       obtain ⟨ad347, e347, hx347_0, hx347_1, hx347_2, hx347_3⟩ := at_T49 HR1.out x9_1 p347 q347
       have hw347_3 := hx347_3
       have hw347_2 := hx347_2
       have hw347_1 := hx347_1
       have hw347_0 := hx347_0
       obtain rfl : ad345 = ad347 := (by injection e347)
       (try (replace hx347_0 := (HB.out.cell (World.block_lt_of_cell? w _ hx347_0)).trans hx347_0))
       (try (replace hx347_1 := (HB.out.cell (World.block_lt_of_cell? w _ hx347_1)).trans hx347_1))
       (try (replace hx347_2 := (HB.out.cell (World.block_lt_of_cell? w _ hx347_2)).trans hx347_2))
       (try (replace hx347_3 := (HB.out.cell (World.block_lt_of_cell? w _ hx347_3)).trans hx347_3))
       replace p347 := eq_true p347
       replace q347 := eq_true q347
       refine start_ (n := 22) (S := fun w' => w'.cell? ⟨gb344, 0, none⟩ = some (.int .i64 a0_0) ∧ w'.cell? ⟨gb344, 1, none⟩ = some (.int .i64 a0_1) ∧ w'.cell? ⟨gb344, 2, none⟩ = some (.int .i64 a0_2) ∧ w'.cell? (ad345.add ((x9_1).toNat * 4)) = some (.int .u32 ((rd_T49 l1 x9_1).f0)) ∧ w'.cell? ⟨(ad345.add ((x9_1).toNat * 4)).block, (ad345.add ((x9_1).toNat * 4)).off + 1, none⟩ = some (.int .u8 ((rd_T49 l1 x9_1).f1)) ∧ w'.cell? ⟨(ad345.add ((x9_1).toNat * 4)).block, (ad345.add ((x9_1).toNat * 4)).off + 2, none⟩ = some (.int .i64 ((rd_T49 l1 x9_1).f2)) ∧ w'.cell? ⟨(ad345.add ((x9_1).toNat * 4)).block, (ad345.add ((x9_1).toNat * 4)).off + 3, none⟩ = some (.int .i64 ((rd_T49 l1 x9_1).f3)) ∧ w'.cell? (ad345.add ((x9_1).toNat * 4)) = some (.int .u32 ((rd_T49 l1 x9_1).f0)) ∧ w'.cell? ⟨(ad345.add ((x9_1).toNat * 4)).block, (ad345.add ((x9_1).toNat * 4)).off + 1, none⟩ = some (.int .u8 ((rd_T49 l1 x9_1).f1)) ∧ w'.cell? ⟨(ad345.add ((x9_1).toNat * 4)).block, (ad345.add ((x9_1).toNat * 4)).off + 2, none⟩ = some (.int .i64 ((rd_T49 l1 x9_1).f2)) ∧ w'.cell? ⟨(ad345.add ((x9_1).toNat * 4)).block, (ad345.add ((x9_1).toNat * 4)).off + 3, none⟩ = some (.int .i64 ((rd_T49 l1 x9_1).f3))) (ds := []) #[false, false, false, false, false, false, false, false, false, false, false, false, false, false, false, false, false, false, false, false, false, false] (by kernel_rfl) rfl rfl ⟨(blk_cell BK344.out 0).trans rfl, (blk_cell BK344.out 1).trans rfl, (blk_cell BK344.out 2).trans rfl, ((HB.out.cell (World.block_lt_of_cell? w _ hw345_0)).trans hw345_0), ((HB.out.cell (World.block_lt_of_cell? w _ hw345_1)).trans hw345_1), ((HB.out.cell (World.block_lt_of_cell? w _ hw345_2)).trans hw345_2), ((HB.out.cell (World.block_lt_of_cell? w _ hw345_3)).trans hw345_3), ((HB.out.cell (World.block_lt_of_cell? w _ hw347_0)).trans hw347_0), ((HB.out.cell (World.block_lt_of_cell? w _ hw347_1)).trans hw347_1), ((HB.out.cell (World.block_lt_of_cell? w _ hw347_2)).trans hw347_2), ((HB.out.cell (World.block_lt_of_cell? w _ hw347_3)).trans hw347_3)⟩ (fun hHeld => ?_); refine with_tabW horariumref12_in.tab4 horariumref12_in.bits4 (fun HT_ HW_ => ?_)
       generalize wr.drew = w13 at BK344 HB hx345_0 hx345_1 hx345_2 hx345_3 hx347_0 hx347_1 hx347_2 hx347_3 hHeld ⊢
       refine zp 1 17 (v := ?_) (a' := ?_) (bm 22 2) HT_.out (by kernel_rfl) ?_ ?_ ?_; rotate_left; (focus intro w'; go_simp; with_reducible rfl); rotate_left; (focus simp only [Act.put, zs1, zs2, zs3, i64_w, i32_w]; rfl)
       refine zp 2 18 (v := ?_) (a' := ?_) (bm 22 6) HT_.out (by kernel_rfl) ?_ ?_ ?_; rotate_left; (focus intro w'; go_simp; with_reducible rfl); rotate_left; (focus simp only [Act.put, zs1, zs2, zs3, i64_w, i32_w]; rfl)
       refine zp 3 19 (v := ?_) (a' := ?_) (bm 22 14) HT_.out (by kernel_rfl) ?_ ?_ ?_; rotate_left; (focus intro w'; go_simp; with_reducible rfl); rotate_left; (focus simp only [Act.put, zs1, zs2, zs3, i64_w, i32_w]; rfl)
       refine take_ (i := 0) (N := some 16) (v := ?_) (a' := ?_) (bm 22 15) rfl rfl (take_ofW HT_.out HW_.out (by kernel_rfl)) (fun _ _ _ h => h) (Or.inl ⟨by rfl, ?_⟩) hHeld ?_ ?_; rotate_left; (focus rintro w' ⟨s0, s1, s2, s3, s4, s5, s6, s7, s8, s9, s10⟩; go_simp; with_reducible rfl); rotate_left; (focus simp only [Act.put, zs1, zs2, zs3, i64_w, i32_w]; rfl)
       refine take_ (i := 4) (N := some 20) (v := ?_) (a' := ?_) (bm 22 31) rfl rfl (take_ofW HT_.out HW_.out (by kernel_rfl)) (fun _ _ _ h => h) (Or.inl ⟨by rfl, ?_⟩) hHeld ?_ ?_; rotate_left; (focus rintro w' ⟨s0, s1, s2, s3, s4, s5, s6, s7, s8, s9, s10⟩; go_simp; with_reducible rfl); rotate_left; (focus simp only [Act.put, zs1, zs2, zs3, i64_w, i32_w]; rfl)
       refine one_ (i := 5) (N := some 21) (bm 22 63) rfl rfl (one_of HT_.out (by kernel_rfl)) (by decide) (fun K hK => ?_)
       refine goes_ Try.func33 (by kernel_rfl) rfl #[.agg #[.int .i64 a0_0, .int .i64 a0_1, .int .i64 a0_2], .agg #[.int .u32 ((rd_T49 l1 x9_1).f0), .int .u8 ((rd_T49 l1 x9_1).f1), .int .i64 ((rd_T49 l1 x9_1).f2), .int .i64 ((rd_T49 l1 x9_1).f3)]] (by rfl) rfl rfl (by (try simp only [zt1, zt2, zt3]) <;> rfl) ?_
       with_reducible refine (horariumref09_Right.calls k1 a0_0 a0_1 a0_2 ((rd_T49 l1 x9_1).f0) ((rd_T49 l1 x9_1).f1) ((rd_T49 l1 x9_1).f2) ((rd_T49 l1 x9_1).f3) true _ A8.out).mono ?_
       rintro e w14 ⟨rfl, hb⟩
       refine ⟨_, rfl, ?_⟩
       have n0_ := zm (blk_below (by apply_rules [BK344.out, zk1, zk2, zk3]) hb)
       have n1_ := zm (below_step (by apply_rules [HB.out, zb1, zb2, zb3, zb4, GE344.out]) hb)
       clear BK344
       clear HB
       have BK344 := n0_
       have HB := n1_
       clear n0_ n1_
       (try clear hb)
       (try clear hb2)
       (try clear hk)
       (try clear hi)
       refine hK.out _ _ ⟨(blk_cell BK344.out 0).trans rfl, (blk_cell BK344.out 1).trans rfl, (blk_cell BK344.out 2).trans rfl, ((HB.out.cell (World.block_lt_of_cell? w _ hw345_0)).trans hw345_0), ((HB.out.cell (World.block_lt_of_cell? w _ hw345_1)).trans hw345_1), ((HB.out.cell (World.block_lt_of_cell? w _ hw345_2)).trans hw345_2), ((HB.out.cell (World.block_lt_of_cell? w _ hw345_3)).trans hw345_3), ((HB.out.cell (World.block_lt_of_cell? w _ hw347_0)).trans hw347_0), ((HB.out.cell (World.block_lt_of_cell? w _ hw347_1)).trans hw347_1), ((HB.out.cell (World.block_lt_of_cell? w _ hw347_2)).trans hw347_2), ((HB.out.cell (World.block_lt_of_cell? w _ hw347_3)).trans hw347_3)⟩ (fun hHeld => ?_)
       clear hK K
       refine norm_ (a' := ?_) ?_ ?_
       rotate_left
       ·show Act.put _ (some 21) _ = _
        simp only [Act.put, zs1, zs2, zs3, i64_w, i32_w]
        rfl
       refine zp 6 22 (v := ?_) (a' := ?_) (bm 22 127) HT_.out (by kernel_rfl) ?_ ?_ ?_; rotate_left; (focus intro w'; go_simp; with_reducible rfl); rotate_left; (focus simp only [Act.put, zs1, zs2, zs3, i64_w, i32_w]; rfl)
       refine zp 7 23 (v := ?_) (a' := ?_) (bm 22 255) HT_.out (by kernel_rfl) ?_ ?_ ?_; rotate_left; (focus intro w'; go_simp; with_reducible rfl); rotate_left; (focus simp only [Act.put, zs1, zs2, zs3, i64_w, i32_w]; rfl)
       refine zp 8 24 (v := ?_) (a' := ?_) (bm 22 511) HT_.out (by kernel_rfl) ?_ ?_ ?_; rotate_left; (focus intro w'; go_simp; with_reducible rfl); rotate_left; (focus simp only [Act.put, zs1, zs2, zs3, i64_w, i32_w]; rfl)
       refine zp 9 25 (v := ?_) (a' := ?_) (bm 22 1023) HT_.out (by kernel_rfl) ?_ ?_ ?_; rotate_left; (focus intro w'; go_simp; with_reducible rfl); rotate_left; (focus simp only [Act.put, zs1, zs2, zs3, i64_w, i32_w]; rfl)
       refine zp 11 27 (v := ?_) (a' := ?_) (bm 22 3071) HT_.out (by kernel_rfl) ?_ ?_ ?_; rotate_left; (focus intro w'; go_simp; with_reducible rfl); rotate_left; (focus simp only [Act.put, zs1, zs2, zs3, i64_w, i32_w]; rfl)
       refine zp 12 28 (v := ?_) (a' := ?_) (bm 22 7167) HT_.out (by kernel_rfl) ?_ ?_ ?_; rotate_left; (focus intro w'; go_simp; with_reducible rfl); rotate_left; (focus simp only [Act.put, zs1, zs2, zs3, i64_w, i32_w]; rfl)
       refine zp 15 31 (v := ?_) (a' := ?_) (bm 22 39935) HT_.out (by kernel_rfl) ?_ ?_ ?_; rotate_left; (focus intro w'; go_simp; with_reducible rfl); rotate_left; (focus simp only [Act.put, zs1, zs2, zs3, i64_w, i32_w]; rfl)
       refine zp 16 32 (v := ?_) (a' := ?_) (bm 22 105471) HT_.out (by kernel_rfl) ?_ ?_ ?_; rotate_left; (focus intro w'; go_simp; with_reducible rfl); rotate_left; (focus simp only [Act.put, zs1, zs2, zs3, i64_w, i32_w]; rfl)
       refine zp 19 35 (v := ?_) (a' := ?_) (bm 22 629759) HT_.out (by kernel_rfl) ?_ ?_ ?_; rotate_left; (focus intro w'; go_simp; with_reducible rfl); rotate_left; (focus simp only [Act.put, zs1, zs2, zs3, i64_w, i32_w]; rfl)
       refine take_ (i := 10) (N := some 26) (v := ?_) (a' := ?_) (bm 22 630783) rfl rfl (take_ofW HT_.out HW_.out (by kernel_rfl)) (fun _ _ _ h => h) (Or.inl ⟨by rfl, ?_⟩) hHeld ?_ ?_; rotate_left; (focus rintro w' ⟨s0, s1, s2, s3, s4, s5, s6, s7, s8, s9, s10⟩; go_simp; with_reducible rfl); rotate_left; (focus simp only [Act.put, zs1, zs2, zs3, i64_w, i32_w]; rfl)
       refine take_ (i := 13) (N := some 29) (v := ?_) (a' := ?_) (bm 22 638975) rfl rfl (take_ofW HT_.out HW_.out (by kernel_rfl)) (fun _ _ _ h => h) (Or.inl ⟨by rfl, ?_⟩) hHeld ?_ ?_; rotate_left; (focus rintro w' ⟨s0, s1, s2, s3, s4, s5, s6, s7, s8, s9, s10⟩; go_simp; with_reducible rfl); rotate_left; (focus simp only [Act.put, zs1, zs2, zs3, i64_w, i32_w]; rfl)
       refine zp 14 30 (v := ?_) (a' := ?_) (bm 22 655359) HT_.out (by kernel_rfl) ?_ ?_ ?_; rotate_left; (focus intro w'; go_simp; with_reducible rfl); rotate_left; (focus simp only [Act.put, zs1, zs2, zs3, i64_w, i32_w]; rfl)
       refine take_ (i := 17) (N := some 33) (v := ?_) (a' := ?_) (bm 22 786431) rfl rfl (take_ofW HT_.out HW_.out (by kernel_rfl)) (fun _ _ _ h => h) (Or.inl ⟨by rfl, ?_⟩) hHeld ?_ ?_; rotate_left; (focus rintro w' ⟨s0, s1, s2, s3, s4, s5, s6, s7, s8, s9, s10⟩; go_simp; with_reducible rfl); rotate_left; (focus simp only [Act.put, zs1, zs2, zs3, i64_w, i32_w]; rfl)
       refine zp 18 34 (v := ?_) (a' := ?_) (bm 22 1048575) HT_.out (by kernel_rfl) ?_ ?_ ?_; rotate_left; (focus intro w'; go_simp; with_reducible rfl); rotate_left; (focus simp only [Act.put, zs1, zs2, zs3, i64_w, i32_w]; rfl)
       refine one_ (i := 20) (N := some 36) (bm 22 2097151) rfl rfl (one_of HT_.out (by kernel_rfl)) (by decide) (fun K hK => ?_)
       refine goes_ Try.func50 (by kernel_rfl) rfl #[.agg #[.int .u32 ((rd_T49 l1 x9_1).f0), .int .u8 ((rd_T49 l1 x9_1).f1), .int .i64 ((rd_T49 l1 x9_1).f2), .int .i64 ((rd_T49 l1 x9_1).f3)], .int .i64 (wrap64 (Int.tdiv a2 a0_1)), .int .i64 (Int.tmod a2 a0_1), .int .i64 a3] (by rfl) rfl rfl (by (try simp only [zt1, zt2, zt3]) <;> rfl) ?_
       with_reducible refine (horariumref09_On.calls k1 ((rd_T49 l1 x9_1).f0) ((rd_T49 l1 x9_1).f1) ((rd_T49 l1 x9_1).f2) ((rd_T49 l1 x9_1).f3) (wrap64 (Int.tdiv a2 a0_1)) (Int.tmod a2 a0_1) a3 true _ A11.out).mono ?_
       rintro e w15 ⟨rfl, hb⟩
       refine ⟨_, rfl, ?_⟩
       have n0_ := zm (blk_below (by apply_rules [BK344.out, zk1, zk2, zk3]) hb)
       have n1_ := zm (below_step (by apply_rules [HB.out, zb1, zb2, zb3, zb4, GE344.out]) hb)
       clear BK344
       clear HB
       have BK344 := n0_
       have HB := n1_
       clear n0_ n1_
       (try clear hb)
       (try clear hb2)
       (try clear hk)
       (try clear hi)
       refine hK.out _ _ ⟨(blk_cell BK344.out 0).trans rfl, (blk_cell BK344.out 1).trans rfl, (blk_cell BK344.out 2).trans rfl, ((HB.out.cell (World.block_lt_of_cell? w _ hw345_0)).trans hw345_0), ((HB.out.cell (World.block_lt_of_cell? w _ hw345_1)).trans hw345_1), ((HB.out.cell (World.block_lt_of_cell? w _ hw345_2)).trans hw345_2), ((HB.out.cell (World.block_lt_of_cell? w _ hw345_3)).trans hw345_3), ((HB.out.cell (World.block_lt_of_cell? w _ hw347_0)).trans hw347_0), ((HB.out.cell (World.block_lt_of_cell? w _ hw347_1)).trans hw347_1), ((HB.out.cell (World.block_lt_of_cell? w _ hw347_2)).trans hw347_2), ((HB.out.cell (World.block_lt_of_cell? w _ hw347_3)).trans hw347_3)⟩ (fun hHeld => ?_)
       clear hK K
       refine norm_ (a' := ?_) ?_ ?_
       rotate_left
       ·show Act.put _ (some 36) _ = _
        simp only [Act.put, zs1, zs2, zs3, i64_w, i32_w]
        rfl
       refine zp 21 37 (v := ?_) (a' := ?_) (bm 22 4194303) HT_.out (by kernel_rfl) ?_ ?_ ?_; rotate_left; (focus intro w'; go_simp; with_reducible rfl); rotate_left; (focus simp only [Act.put, zs1, zs2, zs3, i64_w, i32_w]; rfl)
       refine done_ (done_of HT_.out (by kernel_rfl)) ?_
       try go_wp2
       go_ret
       exact ⟨by first | rfl | (simp [errW_none, errW_some] <;> rfl) | (simp [*, errW_none, errW_some] <;> rfl), by apply_rules [HB.out, zb1, zb2, zb3, zb4, GE344.out]⟩
      replace c12 := Bool.eq_false_iff.mpr c12
      subst c12
      have H1 : (horariumref12_in.l0 k1 l1 a2 a3 (wrap64 (x9_1 + 1)) a0_0 a0_1 a0_2) = some r := by rw [if_neg (show ¬ (false = true) by decide)] at H; exact H
      clear H
      have H := H1
      clear H1
      have H' := zm H
      clear H
      try go_wp2
      have n0_ := zm (blk_drew BK344.out)
      have n1_ := zm (below_drew1 HB.out)
      clear BK344
      clear HB
      have BK344 := n0_
      have HB := n1_
      clear n0_ n1_
      have p345 : 0 ≤ (x9_1 : Int) := of_decide_eq_true (by first | (with_reducible assumption) | assumption)
      have q345 : x9_1 < (l1.length : Int) := of_decide_eq_true (by first | (with_reducible assumption) | assumption)
      obtain ⟨ad345, e345, hx345_0, hx345_1, hx345_2, hx345_3⟩ := at_T49 HR1.out x9_1 p345 q345
      have hw345_3 := hx345_3
      have hw345_2 := hx345_2
      have hw345_1 := hx345_1
      have hw345_0 := hx345_0
      cases e345
      (try (replace hx345_0 := (HB.out.cell (World.block_lt_of_cell? w _ hx345_0)).trans hx345_0))
      (try (replace hx345_1 := (HB.out.cell (World.block_lt_of_cell? w _ hx345_1)).trans hx345_1))
      (try (replace hx345_2 := (HB.out.cell (World.block_lt_of_cell? w _ hx345_2)).trans hx345_2))
      (try (replace hx345_3 := (HB.out.cell (World.block_lt_of_cell? w _ hx345_3)).trans hx345_3))
      replace p345 := eq_true p345
      replace q345 := eq_true q345
      have p347 : 0 ≤ (x9_1 : Int) := of_decide_eq_true (by first | (with_reducible assumption) | assumption)
      have q347 : x9_1 < (l1.length : Int) := of_decide_eq_true (by first | (with_reducible assumption) | assumption)
      obtain ⟨ad347, e347, hx347_0, hx347_1, hx347_2, hx347_3⟩ := at_T49 HR1.out x9_1 p347 q347
      have hw347_3 := hx347_3
      have hw347_2 := hx347_2
      have hw347_1 := hx347_1
      have hw347_0 := hx347_0
      obtain rfl : ad345 = ad347 := (by injection e347)
      (try (replace hx347_0 := (HB.out.cell (World.block_lt_of_cell? w _ hx347_0)).trans hx347_0))
      (try (replace hx347_1 := (HB.out.cell (World.block_lt_of_cell? w _ hx347_1)).trans hx347_1))
      (try (replace hx347_2 := (HB.out.cell (World.block_lt_of_cell? w _ hx347_2)).trans hx347_2))
      (try (replace hx347_3 := (HB.out.cell (World.block_lt_of_cell? w _ hx347_3)).trans hx347_3))
      replace p347 := eq_true p347
      replace q347 := eq_true q347
      refine start_ (n := 22) (S := fun w' => w'.cell? ⟨gb344, 0, none⟩ = some (.int .i64 a0_0) ∧ w'.cell? ⟨gb344, 1, none⟩ = some (.int .i64 a0_1) ∧ w'.cell? ⟨gb344, 2, none⟩ = some (.int .i64 a0_2) ∧ w'.cell? (ad345.add ((x9_1).toNat * 4)) = some (.int .u32 ((rd_T49 l1 x9_1).f0)) ∧ w'.cell? ⟨(ad345.add ((x9_1).toNat * 4)).block, (ad345.add ((x9_1).toNat * 4)).off + 1, none⟩ = some (.int .u8 ((rd_T49 l1 x9_1).f1)) ∧ w'.cell? ⟨(ad345.add ((x9_1).toNat * 4)).block, (ad345.add ((x9_1).toNat * 4)).off + 2, none⟩ = some (.int .i64 ((rd_T49 l1 x9_1).f2)) ∧ w'.cell? ⟨(ad345.add ((x9_1).toNat * 4)).block, (ad345.add ((x9_1).toNat * 4)).off + 3, none⟩ = some (.int .i64 ((rd_T49 l1 x9_1).f3)) ∧ w'.cell? (ad345.add ((x9_1).toNat * 4)) = some (.int .u32 ((rd_T49 l1 x9_1).f0)) ∧ w'.cell? ⟨(ad345.add ((x9_1).toNat * 4)).block, (ad345.add ((x9_1).toNat * 4)).off + 1, none⟩ = some (.int .u8 ((rd_T49 l1 x9_1).f1)) ∧ w'.cell? ⟨(ad345.add ((x9_1).toNat * 4)).block, (ad345.add ((x9_1).toNat * 4)).off + 2, none⟩ = some (.int .i64 ((rd_T49 l1 x9_1).f2)) ∧ w'.cell? ⟨(ad345.add ((x9_1).toNat * 4)).block, (ad345.add ((x9_1).toNat * 4)).off + 3, none⟩ = some (.int .i64 ((rd_T49 l1 x9_1).f3))) (ds := []) #[false, false, false, false, false, false, false, false, false, false, false, false, false, false, false, false, false, false, false, false, false, false] (by kernel_rfl) rfl rfl ⟨(blk_cell BK344.out 0).trans rfl, (blk_cell BK344.out 1).trans rfl, (blk_cell BK344.out 2).trans rfl, ((HB.out.cell (World.block_lt_of_cell? w _ hw345_0)).trans hw345_0), ((HB.out.cell (World.block_lt_of_cell? w _ hw345_1)).trans hw345_1), ((HB.out.cell (World.block_lt_of_cell? w _ hw345_2)).trans hw345_2), ((HB.out.cell (World.block_lt_of_cell? w _ hw345_3)).trans hw345_3), ((HB.out.cell (World.block_lt_of_cell? w _ hw347_0)).trans hw347_0), ((HB.out.cell (World.block_lt_of_cell? w _ hw347_1)).trans hw347_1), ((HB.out.cell (World.block_lt_of_cell? w _ hw347_2)).trans hw347_2), ((HB.out.cell (World.block_lt_of_cell? w _ hw347_3)).trans hw347_3)⟩ (fun hHeld => ?_); refine with_tabW horariumref12_in.tab4 horariumref12_in.bits4 (fun HT_ HW_ => ?_)
      generalize wr.drew = w16 at BK344 HB hx345_0 hx345_1 hx345_2 hx345_3 hx347_0 hx347_1 hx347_2 hx347_3 hHeld ⊢
      refine zp 1 17 (v := ?_) (a' := ?_) (bm 22 2) HT_.out (by kernel_rfl) ?_ ?_ ?_; rotate_left; (focus intro w'; go_simp; with_reducible rfl); rotate_left; (focus simp only [Act.put, zs1, zs2, zs3, i64_w, i32_w]; rfl)
      refine zp 2 18 (v := ?_) (a' := ?_) (bm 22 6) HT_.out (by kernel_rfl) ?_ ?_ ?_; rotate_left; (focus intro w'; go_simp; with_reducible rfl); rotate_left; (focus simp only [Act.put, zs1, zs2, zs3, i64_w, i32_w]; rfl)
      refine zp 3 19 (v := ?_) (a' := ?_) (bm 22 14) HT_.out (by kernel_rfl) ?_ ?_ ?_; rotate_left; (focus intro w'; go_simp; with_reducible rfl); rotate_left; (focus simp only [Act.put, zs1, zs2, zs3, i64_w, i32_w]; rfl)
      refine take_ (i := 0) (N := some 16) (v := ?_) (a' := ?_) (bm 22 15) rfl rfl (take_ofW HT_.out HW_.out (by kernel_rfl)) (fun _ _ _ h => h) (Or.inl ⟨by rfl, ?_⟩) hHeld ?_ ?_; rotate_left; (focus rintro w' ⟨s0, s1, s2, s3, s4, s5, s6, s7, s8, s9, s10⟩; go_simp; with_reducible rfl); rotate_left; (focus simp only [Act.put, zs1, zs2, zs3, i64_w, i32_w]; rfl)
      refine take_ (i := 4) (N := some 20) (v := ?_) (a' := ?_) (bm 22 31) rfl rfl (take_ofW HT_.out HW_.out (by kernel_rfl)) (fun _ _ _ h => h) (Or.inl ⟨by rfl, ?_⟩) hHeld ?_ ?_; rotate_left; (focus rintro w' ⟨s0, s1, s2, s3, s4, s5, s6, s7, s8, s9, s10⟩; go_simp; with_reducible rfl); rotate_left; (focus simp only [Act.put, zs1, zs2, zs3, i64_w, i32_w]; rfl)
      refine one_ (i := 5) (N := some 21) (bm 22 63) rfl rfl (one_of HT_.out (by kernel_rfl)) (by decide) (fun K hK => ?_)
      refine goes_ Try.func33 (by kernel_rfl) rfl #[.agg #[.int .i64 a0_0, .int .i64 a0_1, .int .i64 a0_2], .agg #[.int .u32 ((rd_T49 l1 x9_1).f0), .int .u8 ((rd_T49 l1 x9_1).f1), .int .i64 ((rd_T49 l1 x9_1).f2), .int .i64 ((rd_T49 l1 x9_1).f3)]] (by rfl) rfl rfl (by (try simp only [zt1, zt2, zt3]) <;> rfl) ?_
      with_reducible refine (horariumref09_Right.calls k1 a0_0 a0_1 a0_2 ((rd_T49 l1 x9_1).f0) ((rd_T49 l1 x9_1).f1) ((rd_T49 l1 x9_1).f2) ((rd_T49 l1 x9_1).f3) true _ A8.out).mono ?_
      rintro e w17 ⟨rfl, hb⟩
      refine ⟨_, rfl, ?_⟩
      have n0_ := zm (blk_below (by apply_rules [BK344.out, zk1, zk2, zk3]) hb)
      have n1_ := zm (below_step (by apply_rules [HB.out, zb1, zb2, zb3, zb4, GE344.out]) hb)
      clear BK344
      clear HB
      have BK344 := n0_
      have HB := n1_
      clear n0_ n1_
      (try clear hb)
      (try clear hb2)
      (try clear hk)
      (try clear hi)
      refine hK.out _ _ ⟨(blk_cell BK344.out 0).trans rfl, (blk_cell BK344.out 1).trans rfl, (blk_cell BK344.out 2).trans rfl, ((HB.out.cell (World.block_lt_of_cell? w _ hw345_0)).trans hw345_0), ((HB.out.cell (World.block_lt_of_cell? w _ hw345_1)).trans hw345_1), ((HB.out.cell (World.block_lt_of_cell? w _ hw345_2)).trans hw345_2), ((HB.out.cell (World.block_lt_of_cell? w _ hw345_3)).trans hw345_3), ((HB.out.cell (World.block_lt_of_cell? w _ hw347_0)).trans hw347_0), ((HB.out.cell (World.block_lt_of_cell? w _ hw347_1)).trans hw347_1), ((HB.out.cell (World.block_lt_of_cell? w _ hw347_2)).trans hw347_2), ((HB.out.cell (World.block_lt_of_cell? w _ hw347_3)).trans hw347_3)⟩ (fun hHeld => ?_)
      clear hK K
      refine norm_ (a' := ?_) ?_ ?_
      rotate_left
      ·show Act.put _ (some 21) _ = _
       simp only [Act.put, zs1, zs2, zs3, i64_w, i32_w]
       rfl
      refine zp 6 22 (v := ?_) (a' := ?_) (bm 22 127) HT_.out (by kernel_rfl) ?_ ?_ ?_; rotate_left; (focus intro w'; go_simp; with_reducible rfl); rotate_left; (focus simp only [Act.put, zs1, zs2, zs3, i64_w, i32_w]; rfl)
      refine zp 7 23 (v := ?_) (a' := ?_) (bm 22 255) HT_.out (by kernel_rfl) ?_ ?_ ?_; rotate_left; (focus intro w'; go_simp; with_reducible rfl); rotate_left; (focus simp only [Act.put, zs1, zs2, zs3, i64_w, i32_w]; rfl)
      refine zp 8 24 (v := ?_) (a' := ?_) (bm 22 511) HT_.out (by kernel_rfl) ?_ ?_ ?_; rotate_left; (focus intro w'; go_simp; with_reducible rfl); rotate_left; (focus simp only [Act.put, zs1, zs2, zs3, i64_w, i32_w]; rfl)
      refine zp 9 25 (v := ?_) (a' := ?_) (bm 22 1023) HT_.out (by kernel_rfl) ?_ ?_ ?_; rotate_left; (focus intro w'; go_simp; with_reducible rfl); rotate_left; (focus simp only [Act.put, zs1, zs2, zs3, i64_w, i32_w]; rfl)
      refine zp 11 27 (v := ?_) (a' := ?_) (bm 22 3071) HT_.out (by kernel_rfl) ?_ ?_ ?_; rotate_left; (focus intro w'; go_simp; with_reducible rfl); rotate_left; (focus simp only [Act.put, zs1, zs2, zs3, i64_w, i32_w]; rfl)
      refine zp 12 28 (v := ?_) (a' := ?_) (bm 22 7167) HT_.out (by kernel_rfl) ?_ ?_ ?_; rotate_left; (focus intro w'; go_simp; with_reducible rfl); rotate_left; (focus simp only [Act.put, zs1, zs2, zs3, i64_w, i32_w]; rfl)
      refine zp 15 31 (v := ?_) (a' := ?_) (bm 22 39935) HT_.out (by kernel_rfl) ?_ ?_ ?_; rotate_left; (focus intro w'; go_simp; with_reducible rfl); rotate_left; (focus simp only [Act.put, zs1, zs2, zs3, i64_w, i32_w]; rfl)
      refine zp 16 32 (v := ?_) (a' := ?_) (bm 22 105471) HT_.out (by kernel_rfl) ?_ ?_ ?_; rotate_left; (focus intro w'; go_simp; with_reducible rfl); rotate_left; (focus simp only [Act.put, zs1, zs2, zs3, i64_w, i32_w]; rfl)
      refine zp 19 35 (v := ?_) (a' := ?_) (bm 22 629759) HT_.out (by kernel_rfl) ?_ ?_ ?_; rotate_left; (focus intro w'; go_simp; with_reducible rfl); rotate_left; (focus simp only [Act.put, zs1, zs2, zs3, i64_w, i32_w]; rfl)
      refine take_ (i := 10) (N := some 26) (v := ?_) (a' := ?_) (bm 22 630783) rfl rfl (take_ofW HT_.out HW_.out (by kernel_rfl)) (fun _ _ _ h => h) (Or.inl ⟨by rfl, ?_⟩) hHeld ?_ ?_; rotate_left; (focus rintro w' ⟨s0, s1, s2, s3, s4, s5, s6, s7, s8, s9, s10⟩; go_simp; with_reducible rfl); rotate_left; (focus simp only [Act.put, zs1, zs2, zs3, i64_w, i32_w]; rfl)
      refine take_ (i := 13) (N := some 29) (v := ?_) (a' := ?_) (bm 22 638975) rfl rfl (take_ofW HT_.out HW_.out (by kernel_rfl)) (fun _ _ _ h => h) (Or.inl ⟨by rfl, ?_⟩) hHeld ?_ ?_; rotate_left; (focus rintro w' ⟨s0, s1, s2, s3, s4, s5, s6, s7, s8, s9, s10⟩; go_simp; with_reducible rfl); rotate_left; (focus simp only [Act.put, zs1, zs2, zs3, i64_w, i32_w]; rfl)
      refine zp 14 30 (v := ?_) (a' := ?_) (bm 22 655359) HT_.out (by kernel_rfl) ?_ ?_ ?_; rotate_left; (focus intro w'; go_simp; with_reducible rfl); rotate_left; (focus simp only [Act.put, zs1, zs2, zs3, i64_w, i32_w]; rfl)
      refine take_ (i := 17) (N := some 33) (v := ?_) (a' := ?_) (bm 22 786431) rfl rfl (take_ofW HT_.out HW_.out (by kernel_rfl)) (fun _ _ _ h => h) (Or.inl ⟨by rfl, ?_⟩) hHeld ?_ ?_; rotate_left; (focus rintro w' ⟨s0, s1, s2, s3, s4, s5, s6, s7, s8, s9, s10⟩; go_simp; with_reducible rfl); rotate_left; (focus simp only [Act.put, zs1, zs2, zs3, i64_w, i32_w]; rfl)
      refine zp 18 34 (v := ?_) (a' := ?_) (bm 22 1048575) HT_.out (by kernel_rfl) ?_ ?_ ?_; rotate_left; (focus intro w'; go_simp; with_reducible rfl); rotate_left; (focus simp only [Act.put, zs1, zs2, zs3, i64_w, i32_w]; rfl)
      refine one_ (i := 20) (N := some 36) (bm 22 2097151) rfl rfl (one_of HT_.out (by kernel_rfl)) (by decide) (fun K hK => ?_)
      refine goes_ Try.func50 (by kernel_rfl) rfl #[.agg #[.int .u32 ((rd_T49 l1 x9_1).f0), .int .u8 ((rd_T49 l1 x9_1).f1), .int .i64 ((rd_T49 l1 x9_1).f2), .int .i64 ((rd_T49 l1 x9_1).f3)], .int .i64 (wrap64 (Int.tdiv a2 a0_1)), .int .i64 (Int.tmod a2 a0_1), .int .i64 a3] (by rfl) rfl rfl (by (try simp only [zt1, zt2, zt3]) <;> rfl) ?_
      with_reducible refine (horariumref09_On.calls k1 ((rd_T49 l1 x9_1).f0) ((rd_T49 l1 x9_1).f1) ((rd_T49 l1 x9_1).f2) ((rd_T49 l1 x9_1).f3) (wrap64 (Int.tdiv a2 a0_1)) (Int.tmod a2 a0_1) a3 false _ A11.out).mono ?_
      rintro e w18 ⟨rfl, hb⟩
      refine ⟨_, rfl, ?_⟩
      have n0_ := zm (blk_below (by apply_rules [BK344.out, zk1, zk2, zk3]) hb)
      have n1_ := zm (below_step (by apply_rules [HB.out, zb1, zb2, zb3, zb4, GE344.out]) hb)
      clear BK344
      clear HB
      have BK344 := n0_
      have HB := n1_
      clear n0_ n1_
      (try clear hb)
      (try clear hb2)
      (try clear hk)
      (try clear hi)
      refine hK.out _ _ ⟨(blk_cell BK344.out 0).trans rfl, (blk_cell BK344.out 1).trans rfl, (blk_cell BK344.out 2).trans rfl, ((HB.out.cell (World.block_lt_of_cell? w _ hw345_0)).trans hw345_0), ((HB.out.cell (World.block_lt_of_cell? w _ hw345_1)).trans hw345_1), ((HB.out.cell (World.block_lt_of_cell? w _ hw345_2)).trans hw345_2), ((HB.out.cell (World.block_lt_of_cell? w _ hw345_3)).trans hw345_3), ((HB.out.cell (World.block_lt_of_cell? w _ hw347_0)).trans hw347_0), ((HB.out.cell (World.block_lt_of_cell? w _ hw347_1)).trans hw347_1), ((HB.out.cell (World.block_lt_of_cell? w _ hw347_2)).trans hw347_2), ((HB.out.cell (World.block_lt_of_cell? w _ hw347_3)).trans hw347_3)⟩ (fun hHeld => ?_)
      clear hK K
      refine norm_ (a' := ?_) ?_ ?_
      rotate_left
      ·show Act.put _ (some 36) _ = _
       simp only [Act.put, zs1, zs2, zs3, i64_w, i32_w]
       rfl
      refine zp 21 37 (v := ?_) (a' := ?_) (bm 22 4194303) HT_.out (by kernel_rfl) ?_ ?_ ?_; rotate_left; (focus intro w'; go_simp; with_reducible rfl); rotate_left; (focus simp only [Act.put, zs1, zs2, zs3, i64_w, i32_w]; rfl)
      refine done_ (done_of HT_.out (by kernel_rfl)) ?_
      try go_wp2
      go_roundg k1
      case measure => have := HK1.out; omega
      case rel => exact ⟨(wrap64 (x9_1 + 1)), (by first | rfl | (simp; done) | (simp [*]; done)), H', ⟨by have := HK1.out; omega⟩, ⟨by (with_reducible repeat (first | refine blk_alloc ?_ _ | refine blk_drewN ?_ _ | refine blk_drew ?_)); exact BK344.out⟩, ⟨by apply_rules [HB.out, zb1, zb2, zb3, zb4, GE344.out]⟩⟩
     replace c9 := Bool.eq_false_iff.mpr c9
     subst c9
     have H1 : (horariumref12_in.l0 k1 l1 a2 a3 (wrap64 (x9_1 + 1)) a0_0 a0_1 a0_2) = some r := by rw [if_neg (show ¬ (false = true) by decide)] at H; exact H
     clear H
     have H := H1
     clear H1
     have H' := zm H
     clear H
     try go_wp2
     have n0_ := zm (blk_drew BK344.out)
     have n1_ := zm (below_drew1 HB.out)
     clear BK344
     clear HB
     have BK344 := n0_
     have HB := n1_
     clear n0_ n1_
     have p345 : 0 ≤ (x9_1 : Int) := of_decide_eq_true (by first | (with_reducible assumption) | assumption)
     have q345 : x9_1 < (l1.length : Int) := of_decide_eq_true (by first | (with_reducible assumption) | assumption)
     obtain ⟨ad345, e345, hx345_0, hx345_1, hx345_2, hx345_3⟩ := at_T49 HR1.out x9_1 p345 q345
     have hw345_3 := hx345_3
     have hw345_2 := hx345_2
     have hw345_1 := hx345_1
     have hw345_0 := hx345_0
     cases e345
     (try (replace hx345_0 := (HB.out.cell (World.block_lt_of_cell? w _ hx345_0)).trans hx345_0))
     (try (replace hx345_1 := (HB.out.cell (World.block_lt_of_cell? w _ hx345_1)).trans hx345_1))
     (try (replace hx345_2 := (HB.out.cell (World.block_lt_of_cell? w _ hx345_2)).trans hx345_2))
     (try (replace hx345_3 := (HB.out.cell (World.block_lt_of_cell? w _ hx345_3)).trans hx345_3))
     replace p345 := eq_true p345
     replace q345 := eq_true q345
     refine start_ (n := 22) (S := fun w' => w'.cell? ⟨gb344, 0, none⟩ = some (.int .i64 a0_0) ∧ w'.cell? ⟨gb344, 1, none⟩ = some (.int .i64 a0_1) ∧ w'.cell? ⟨gb344, 2, none⟩ = some (.int .i64 a0_2) ∧ w'.cell? (ad345.add ((x9_1).toNat * 4)) = some (.int .u32 ((rd_T49 l1 x9_1).f0)) ∧ w'.cell? ⟨(ad345.add ((x9_1).toNat * 4)).block, (ad345.add ((x9_1).toNat * 4)).off + 1, none⟩ = some (.int .u8 ((rd_T49 l1 x9_1).f1)) ∧ w'.cell? ⟨(ad345.add ((x9_1).toNat * 4)).block, (ad345.add ((x9_1).toNat * 4)).off + 2, none⟩ = some (.int .i64 ((rd_T49 l1 x9_1).f2)) ∧ w'.cell? ⟨(ad345.add ((x9_1).toNat * 4)).block, (ad345.add ((x9_1).toNat * 4)).off + 3, none⟩ = some (.int .i64 ((rd_T49 l1 x9_1).f3))) (ds := []) #[false, false, false, false, false, false, false, false, false, false, false, false, false, false, false, false, false, false, false, false, false, false] (by kernel_rfl) rfl rfl ⟨(blk_cell BK344.out 0).trans rfl, (blk_cell BK344.out 1).trans rfl, (blk_cell BK344.out 2).trans rfl, ((HB.out.cell (World.block_lt_of_cell? w _ hw345_0)).trans hw345_0), ((HB.out.cell (World.block_lt_of_cell? w _ hw345_1)).trans hw345_1), ((HB.out.cell (World.block_lt_of_cell? w _ hw345_2)).trans hw345_2), ((HB.out.cell (World.block_lt_of_cell? w _ hw345_3)).trans hw345_3)⟩ (fun hHeld => ?_); refine with_tabW horariumref12_in.tab4 horariumref12_in.bits4 (fun HT_ HW_ => ?_)
     generalize wr.drew = w19 at BK344 HB hx345_0 hx345_1 hx345_2 hx345_3 hHeld ⊢
     refine zp 1 17 (v := ?_) (a' := ?_) (bm 22 2) HT_.out (by kernel_rfl) ?_ ?_ ?_; rotate_left; (focus intro w'; go_simp; with_reducible rfl); rotate_left; (focus simp only [Act.put, zs1, zs2, zs3, i64_w, i32_w]; rfl)
     refine zp 2 18 (v := ?_) (a' := ?_) (bm 22 6) HT_.out (by kernel_rfl) ?_ ?_ ?_; rotate_left; (focus intro w'; go_simp; with_reducible rfl); rotate_left; (focus simp only [Act.put, zs1, zs2, zs3, i64_w, i32_w]; rfl)
     refine zp 3 19 (v := ?_) (a' := ?_) (bm 22 14) HT_.out (by kernel_rfl) ?_ ?_ ?_; rotate_left; (focus intro w'; go_simp; with_reducible rfl); rotate_left; (focus simp only [Act.put, zs1, zs2, zs3, i64_w, i32_w]; rfl)
     refine take_ (i := 0) (N := some 16) (v := ?_) (a' := ?_) (bm 22 15) rfl rfl (take_ofW HT_.out HW_.out (by kernel_rfl)) (fun _ _ _ h => h) (Or.inl ⟨by rfl, ?_⟩) hHeld ?_ ?_; rotate_left; (focus rintro w' ⟨s0, s1, s2, s3, s4, s5, s6⟩; go_simp; with_reducible rfl); rotate_left; (focus simp only [Act.put, zs1, zs2, zs3, i64_w, i32_w]; rfl)
     refine take_ (i := 4) (N := some 20) (v := ?_) (a' := ?_) (bm 22 31) rfl rfl (take_ofW HT_.out HW_.out (by kernel_rfl)) (fun _ _ _ h => h) (Or.inl ⟨by rfl, ?_⟩) hHeld ?_ ?_; rotate_left; (focus rintro w' ⟨s0, s1, s2, s3, s4, s5, s6⟩; go_simp; with_reducible rfl); rotate_left; (focus simp only [Act.put, zs1, zs2, zs3, i64_w, i32_w]; rfl)
     refine one_ (i := 5) (N := some 21) (bm 22 63) rfl rfl (one_of HT_.out (by kernel_rfl)) (by decide) (fun K hK => ?_)
     refine goes_ Try.func33 (by kernel_rfl) rfl #[.agg #[.int .i64 a0_0, .int .i64 a0_1, .int .i64 a0_2], .agg #[.int .u32 ((rd_T49 l1 x9_1).f0), .int .u8 ((rd_T49 l1 x9_1).f1), .int .i64 ((rd_T49 l1 x9_1).f2), .int .i64 ((rd_T49 l1 x9_1).f3)]] (by rfl) rfl rfl (by (try simp only [zt1, zt2, zt3]) <;> rfl) ?_
     with_reducible refine (horariumref09_Right.calls k1 a0_0 a0_1 a0_2 ((rd_T49 l1 x9_1).f0) ((rd_T49 l1 x9_1).f1) ((rd_T49 l1 x9_1).f2) ((rd_T49 l1 x9_1).f3) false _ A8.out).mono ?_
     rintro e w20 ⟨rfl, hb⟩
     refine ⟨_, rfl, ?_⟩
     have n0_ := zm (blk_below (by apply_rules [BK344.out, zk1, zk2, zk3]) hb)
     have n1_ := zm (below_step (by apply_rules [HB.out, zb1, zb2, zb3, zb4, GE344.out]) hb)
     clear BK344
     clear HB
     have BK344 := n0_
     have HB := n1_
     clear n0_ n1_
     (try clear hb)
     (try clear hb2)
     (try clear hk)
     (try clear hi)
     refine hK.out _ _ ⟨(blk_cell BK344.out 0).trans rfl, (blk_cell BK344.out 1).trans rfl, (blk_cell BK344.out 2).trans rfl, ((HB.out.cell (World.block_lt_of_cell? w _ hw345_0)).trans hw345_0), ((HB.out.cell (World.block_lt_of_cell? w _ hw345_1)).trans hw345_1), ((HB.out.cell (World.block_lt_of_cell? w _ hw345_2)).trans hw345_2), ((HB.out.cell (World.block_lt_of_cell? w _ hw345_3)).trans hw345_3)⟩ (fun hHeld => ?_)
     clear hK K
     refine norm_ (a' := ?_) ?_ ?_
     rotate_left
     ·show Act.put _ (some 21) _ = _
      simp only [Act.put, zs1, zs2, zs3, i64_w, i32_w]
      rfl
     refine zp 6 22 (v := ?_) (a' := ?_) (bm 22 127) HT_.out (by kernel_rfl) ?_ ?_ ?_; rotate_left; (focus intro w'; go_simp; with_reducible rfl); rotate_left; (focus simp only [Act.put, zs1, zs2, zs3, i64_w, i32_w]; rfl)
     refine pure_ (i := 7) (N := some 23) (v := undef) (a' := ?_) (bm 22 255) rfl rfl (any_of HT_.out (by kernel_rfl)) (fun _ _ _ h => h) (Or.inr ⟨by rfl, rfl⟩) ?_ ?_
     rotate_left
     ·simp only [Act.put, zs1, zs2, zs3, i64_w, i32_w]
      rfl
     refine pure_ (i := 8) (N := some 24) (v := undef) (a' := ?_) (bm 22 511) rfl rfl (any_of HT_.out (by kernel_rfl)) (fun _ _ _ h => h) (Or.inr ⟨by rfl, rfl⟩) ?_ ?_
     rotate_left
     ·simp only [Act.put, zs1, zs2, zs3, i64_w, i32_w]
      rfl
     refine pure_ (i := 9) (N := some 25) (v := undef) (a' := ?_) (bm 22 1023) rfl rfl (any_of HT_.out (by kernel_rfl)) (fun _ _ _ h => h) (Or.inr ⟨by rfl, rfl⟩) ?_ ?_
     rotate_left
     ·simp only [Act.put, zs1, zs2, zs3, i64_w, i32_w]
      rfl
     refine pure_ (i := 10) (N := some 26) (v := undef) (a' := ?_) (bm 22 2047) rfl rfl (any_of HT_.out (by kernel_rfl)) (fun _ _ _ h => h) (Or.inr ⟨by rfl, rfl⟩) ?_ ?_
     rotate_left
     ·simp only [Act.put, zs1, zs2, zs3, i64_w, i32_w]
      rfl
     refine pure_ (i := 11) (N := some 27) (v := undef) (a' := ?_) (bm 22 4095) rfl rfl (any_of HT_.out (by kernel_rfl)) (fun _ _ _ h => h) (Or.inr ⟨by rfl, rfl⟩) ?_ ?_
     rotate_left
     ·simp only [Act.put, zs1, zs2, zs3, i64_w, i32_w]
      rfl
     refine pure_ (i := 12) (N := some 28) (v := undef) (a' := ?_) (bm 22 8191) rfl rfl (any_of HT_.out (by kernel_rfl)) (fun _ _ _ h => h) (Or.inr ⟨by rfl, rfl⟩) ?_ ?_
     rotate_left
     ·simp only [Act.put, zs1, zs2, zs3, i64_w, i32_w]
      rfl
     refine pure_ (i := 13) (N := some 29) (v := undef) (a' := ?_) (bm 22 16383) rfl rfl (any_of HT_.out (by kernel_rfl)) (fun _ _ _ h => h) (Or.inr ⟨by rfl, rfl⟩) ?_ ?_
     rotate_left
     ·simp only [Act.put, zs1, zs2, zs3, i64_w, i32_w]
      rfl
     refine pure_ (i := 14) (N := some 30) (v := undef) (a' := ?_) (bm 22 32767) rfl rfl (any_of HT_.out (by kernel_rfl)) (fun _ _ _ h => h) (Or.inr ⟨by rfl, rfl⟩) ?_ ?_
     rotate_left
     ·simp only [Act.put, zs1, zs2, zs3, i64_w, i32_w]
      rfl
     refine pure_ (i := 15) (N := some 31) (v := undef) (a' := ?_) (bm 22 65535) rfl rfl (any_of HT_.out (by kernel_rfl)) (fun _ _ _ h => h) (Or.inr ⟨by rfl, rfl⟩) ?_ ?_
     rotate_left
     ·simp only [Act.put, zs1, zs2, zs3, i64_w, i32_w]
      rfl
     refine pure_ (i := 16) (N := some 32) (v := undef) (a' := ?_) (bm 22 131071) rfl rfl (any_of HT_.out (by kernel_rfl)) (fun _ _ _ h => h) (Or.inr ⟨by rfl, rfl⟩) ?_ ?_
     rotate_left
     ·simp only [Act.put, zs1, zs2, zs3, i64_w, i32_w]
      rfl
     refine pure_ (i := 17) (N := some 33) (v := undef) (a' := ?_) (bm 22 262143) rfl rfl (any_of HT_.out (by kernel_rfl)) (fun _ _ _ h => h) (Or.inr ⟨by rfl, rfl⟩) ?_ ?_
     rotate_left
     ·simp only [Act.put, zs1, zs2, zs3, i64_w, i32_w]
      rfl
     refine pure_ (i := 18) (N := some 34) (v := undef) (a' := ?_) (bm 22 524287) rfl rfl (any_of HT_.out (by kernel_rfl)) (fun _ _ _ h => h) (Or.inr ⟨by rfl, rfl⟩) ?_ ?_
     rotate_left
     ·simp only [Act.put, zs1, zs2, zs3, i64_w, i32_w]
      rfl
     refine pure_ (i := 19) (N := some 35) (v := undef) (a' := ?_) (bm 22 1048575) rfl rfl (any_of HT_.out (by kernel_rfl)) (fun _ _ _ h => h) (Or.inr ⟨by rfl, rfl⟩) ?_ ?_
     rotate_left
     ·simp only [Act.put, zs1, zs2, zs3, i64_w, i32_w]
      rfl
     refine pure_ (i := 20) (N := some 36) (v := undef) (a' := ?_) (bm 22 2097151) rfl rfl (any_of HT_.out (by kernel_rfl)) (fun _ _ _ h => h) (Or.inr ⟨by rfl, rfl⟩) ?_ ?_
     rotate_left
     ·simp only [Act.put, zs1, zs2, zs3, i64_w, i32_w]
      rfl
     refine zp 21 37 (v := ?_) (a' := ?_) (bm 22 4194303) HT_.out (by kernel_rfl) ?_ ?_ ?_; rotate_left; (focus intro w'; go_simp; with_reducible rfl); rotate_left; (focus simp only [Act.put, zs1, zs2, zs3, i64_w, i32_w]; rfl)
     refine done_ (done_of HT_.out (by kernel_rfl)) ?_
     try go_wp2
     go_roundg k1
     case measure => have := HK1.out; omega
     case rel => exact ⟨(wrap64 (x9_1 + 1)), (by first | rfl | (simp; done) | (simp [*]; done)), H', ⟨by have := HK1.out; omega⟩, ⟨by (with_reducible repeat (first | refine blk_alloc ?_ _ | refine blk_drewN ?_ _ | refine blk_drew ?_)); exact BK344.out⟩, ⟨by apply_rules [HB.out, zb1, zb2, zb3, zb4, GE344.out]⟩⟩
    rw [if_neg c7] at H
    exact absurd H (by simp)
   rw [if_neg c6] at H
   have c6b0 : decide (x9_1 < (l1.length : Int)) = false := decide_eq_false c6
   clear c6
   obtain rfl := Option.some.inj H
   go_wp2
   go_ret
   exact ⟨by first | rfl | (simp [errW_none, errW_some] <;> rfl) | (simp [*, errW_none, errW_some] <;> rfl), by apply_rules [HB.out, zb1, zb2, zb3, zb4, GE344.out]⟩
end Go.Proofs.Ytlfnpakpkniipaa.Q
