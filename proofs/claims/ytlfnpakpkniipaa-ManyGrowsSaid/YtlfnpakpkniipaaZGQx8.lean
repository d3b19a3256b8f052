/- Words for the claim. -/
import Derived.Test.YtlfnpakpkniipaaZGWords
import Derived.Test.YtlfnpakpkniipaaZGQx0
import Derived.Test.YtlfnpakpkniipaaZGQx2
import Derived.Test.YtlfnpakpkniipaaZGQx7
namespace Go.Proofs.Ytlfnpakpkniipaa.Q
open Go.RowKit Go.Proofs.YtlfnpakpkniipaaW.PrintWords Go.Proofs.YtlfnpakpkniipaaW.PrintLast Go.Proofs.YtlfnpakpkniipaaW.PrintMore
attribute [local go_sem] max2_int min2_int max_two min_two max_three min_three max_four min_four
set_option linter.unusedVariables false
set_option linter.unusedSimpArgs false
mutual
def person_slots.l0 : Nat → List (S49) → List (List Bool) → Int → Int → Int → Int → Int → Option ((List (List Bool)))
 | 0, _, _, _, _, _, _, _ => none
 | k + 1, x1, x5, x21, x22, x135000, x135001, x135002 => if x22 < x21 then (if 0 ≤ x135002 then (if (x135002 : Int).toNat ≤ 281474976710656 then (if 0 ≤ x22 then (if x22 < (x5.length : Int) then (person_slots.l0 k x1 (x5.set (x22 : Int).toNat (List.replicate (x135002 : Int).toNat false)) x21 (wrap64 (x22 + 1)) x135000 x135001 x135002) else (none)) else (none)) else (none)) else (none)) else (person_slots.l1 k x5 x1 (x1.length : Int) 0 x135000 x135001 x135002)
def person_slots.l1 : Nat → List (List Bool) → List (S49) → Int → Int → Int → Int → Int → Option ((List (List Bool)))
 | 0, _, _, _, _, _, _, _ => none
 | k + 1, x5, x32, x33, x34, x135000, x135001, x135002 => if x34 < x33 then (if 0 ≤ x34 then (if x34 < (x32.length : Int) then ((when_Moments.f k x135000 x135001 x135002 ((rd_T49 x32 x34).f0) ((rd_T49 x32 x34).f1) ((rd_T49 x32 x34).f2) ((rd_T49 x32 x34).f3)).bind fun t145 => (person_slots.l2 k x5 x32 x33 x34 t145 (t145.length : Int) 0 x135000 x135001 x135002)) else (none)) else (none)) else (some x5)
def person_slots.l2 : Nat → List (List Bool) → List (S49) → Int → Int → List Int → Int → Int → Int → Int → Int → Option ((List (List Bool)))
 | 0, _, _, _, _, _, _, _, _, _, _ => none
 | k + 1, x5, x32, x33, x34, x40, x41, x42, x135000, x135001, x135002 => if x42 < x41 then (if 0 ≤ x42 then (if x42 < (x40.length : Int) then (if x135002 = 0 then (none) else (if 0 ≤ (wrap64 (Int.tdiv (rd x40 x42) x135002)) then (if (wrap64 (Int.tdiv (rd x40 x42) x135002)) < (x5.length : Int) then (if 0 ≤ (Int.tmod (rd x40 x42) x135002) then (if (Int.tmod (rd x40 x42) x135002) < ((rd_L9 x5 (wrap64 (Int.tdiv (rd x40 x42) x135002))).length : Int) then (person_slots.l2 k (x5.set ((wrap64 (Int.tdiv (rd x40 x42) x135002)) : Int).toNat ((rd_L9 x5 (wrap64 (Int.tdiv (rd x40 x42) x135002))).set ((Int.tmod (rd x40 x42) x135002) : Int).toNat true)) x32 x33 x34 x40 x41 (wrap64 (x42 + 1)) x135000 x135001 x135002) else (none)) else (none)) else (none)) else (none))) else (none)) else (none)) else (person_slots.l1 k x5 x32 x33 (wrap64 (x34 + 1)) x135000 x135001 x135002)
end
def person_slots.f (k : Nat) (a0_0 : Int) (a0_1 : Int) (a0_2 : Int) (l1 : List (S49)) : Option ((List (List Bool))) := (when_RightGrid.f a0_0 a0_1 a0_2).bind fun t135 => (if t135 = true then (if 0 ≤ (wrap64 (a0_0 * a0_1)) then (if (wrap64 (a0_0 * a0_1) : Int).toNat ≤ 11728124029610 then ((some (List.replicate (wrap64 (a0_0 * a0_1) : Int).toNat [] : List (List Bool))).bind fun y136 => (person_slots.l0 k l1 y136 (y136.length : Int) 0 a0_0 a0_1 a0_2)) else (none)) else (none)) else (some ([] : List (List Bool))))
theorem person_slots.mono_l : ∀ k, (∀ y0 y1 y2 y3 y4 y5 y6, LeO (person_slots.l0 k y0 y1 y2 y3 y4 y5 y6) (person_slots.l0 (k + 1) y0 y1 y2 y3 y4 y5 y6)) ∧ (∀ y0 y1 y2 y3 y4 y5 y6, LeO (person_slots.l1 k y0 y1 y2 y3 y4 y5 y6) (person_slots.l1 (k + 1) y0 y1 y2 y3 y4 y5 y6)) ∧ (∀ y0 y1 y2 y3 y4 y5 y6 y7 y8 y9, LeO (person_slots.l2 k y0 y1 y2 y3 y4 y5 y6 y7 y8 y9) (person_slots.l2 (k + 1) y0 y1 y2 y3 y4 y5 y6 y7 y8 y9))
 | 0 => ⟨fun _ _ _ _ _ _ _ r h => by simp [person_slots.l0] at h, fun _ _ _ _ _ _ _ r h => by simp [person_slots.l1] at h, fun _ _ _ _ _ _ _ _ _ _ r h => by simp [person_slots.l2] at h⟩
 | k + 1 => by
  obtain ⟨ih0, ih1, ih2⟩ := person_slots.mono_l k
  refine ⟨?_, ?_, ?_⟩
  ·intro y0 y1 y2 y3 y4 y5 y6
   unfold person_slots.l0
   repeat' first
   | (with_reducible exact ih0 _ _ _ _ _ _ _)
   | (with_reducible exact ih1 _ _ _ _ _ _ _)
   | (with_reducible exact ih2 _ _ _ _ _ _ _ _ _ _)
   | (with_reducible exact when_Moments.mono _ _ _ _ _ _ _ _)
   | (with_reducible exact LeO.refl _)
   | (with_reducible exact LeO.none _)
   | (with_reducible refine LeO.ite ?_ ?_)
   | (with_reducible refine LeO.bind ?_ (fun _ => ?_))
   | refine LeO.ite ?_ ?_
   | refine LeO.bind ?_ (fun _ => ?_)
  ·intro y0 y1 y2 y3 y4 y5 y6
   unfold person_slots.l1
   repeat' first
   | (with_reducible exact ih0 _ _ _ _ _ _ _)
   | (with_reducible exact ih1 _ _ _ _ _ _ _)
   | (with_reducible exact ih2 _ _ _ _ _ _ _ _ _ _)
   | (with_reducible exact when_Moments.mono _ _ _ _ _ _ _ _)
   | (with_reducible exact LeO.refl _)
   | (with_reducible exact LeO.none _)
   | (with_reducible refine LeO.ite ?_ ?_)
   | (with_reducible refine LeO.bind ?_ (fun _ => ?_))
   | refine LeO.ite ?_ ?_
   | refine LeO.bind ?_ (fun _ => ?_)
  intro y0 y1 y2 y3 y4 y5 y6 y7 y8 y9
  unfold person_slots.l2
  repeat' first
  | (with_reducible exact ih0 _ _ _ _ _ _ _)
  | (with_reducible exact ih1 _ _ _ _ _ _ _)
  | (with_reducible exact ih2 _ _ _ _ _ _ _ _ _ _)
  | (with_reducible exact when_Moments.mono _ _ _ _ _ _ _ _)
  | (with_reducible exact LeO.refl _)
  | (with_reducible exact LeO.none _)
  | (with_reducible refine LeO.ite ?_ ?_)
  | (with_reducible refine LeO.bind ?_ (fun _ => ?_))
  | refine LeO.ite ?_ ?_
  | refine LeO.bind ?_ (fun _ => ?_)
theorem person_slots.mono : ∀ a0 a1 a2 a3 k, LeO (person_slots.f k a0 a1 a2 a3) (person_slots.f (k + 1) a0 a1 a2 a3) := by
 intro a0 a1 a2 a3 k
 obtain ⟨ih0, ih1, ih2⟩ := person_slots.mono_l k
 unfold person_slots.f
 repeat' first
   | (with_reducible exact ih0 _ _ _ _ _ _ _)
   | (with_reducible exact ih1 _ _ _ _ _ _ _)
   | (with_reducible exact ih2 _ _ _ _ _ _ _ _ _ _)
   | (with_reducible exact when_Moments.mono _ _ _ _ _ _ _ _)
   | (with_reducible exact LeO.refl _)
   | (with_reducible exact LeO.none _)
   | (with_reducible refine LeO.ite ?_ ?_)
   | (with_reducible refine LeO.bind ?_ (fun _ => ?_))
   | refine LeO.ite ?_ ?_
   | refine LeO.bind ?_ (fun _ => ?_)
def person_slots.T15 : Bool × List (List Nat × List Nat) := (true, [([], []), ([], []), ([], []), ([2], [2]), ([1, 3], [1, 3]), ([0, 4], [0, 4]), ([5], [5]), ([], []), ([], []), ([8], [8]), ([7, 9], [7, 9]), ([6, 10, 0, 1, 2, 3, 4, 5, 6, 7, 8, 9, 10], [6, 10]), ([11, 0, 1, 2, 3, 4, 5, 6, 7, 8, 9, 10], [11])])
def person_slots.B15 : List Nat := [0, 0, 0, 4, 14, 31, 63, 0, 0, 256, 896, 2047, 4095]
theorem person_slots.tab15 : rtab .any (opsOf Try.f38 15) = person_slots.T15 := by kernel_rfl
theorem person_slots.bits15 : waitsOk person_slots.T15.2 person_slots.B15 = true := by kernel_rfl
set_option maxHeartbeats 8000000 in
set_option maxRecDepth 100000 in
theorem person_slots.calls (k : Nat) (a0_0 : Int) (a0_1 : Int) (a0_2 : Int) (A1 : Option Addr) (c1 : Nat) (l1 : List (S49)) (r : List (List Bool)) (w : World) (hr1 : Kd.C k49 w A1 l1.length l1) (hc1 : l1.length ≤ c1) (h : person_slots.f k a0_0 a0_1 a0_2 l1 = some r) :
  Calls Try.prog 38 #[.agg #[.int .i64 a0_0, .int .i64 a0_1, .int .i64 a0_2], .slice A1 l1.length c1] w fun e w' => ∃ v0_ : Value, e = .returned (v0_) ∧ Kd.S (Kd.slice 4 Kd.bool) 60 w' w.heap.size (fun _ => True) v0_ r ∧ Below w.heap.size w w' := by
 have hu23 := Try.underlying23
 have hu49 := Try.underlying49
 have HR1 := zm hr1
 have HC1 := zm hc1
 clear hr1 hc1
 have HB := zm (Below.refl w.heap.size w)
 have H : ((when_RightGrid.f a0_0 a0_1 a0_2).bind fun t135 => (if t135 = true then (if 0 ≤ (wrap64 (a0_0 * a0_1)) then (if (wrap64 (a0_0 * a0_1) : Int).toNat ≤ 11728124029610 then ((some (List.replicate (wrap64 (a0_0 * a0_1) : Int).toNat [] : List (List Bool))).bind fun y136 => (person_slots.l0 k l1 y136 (y136.length : Int) 0 a0_0 a0_1 a0_2)) else (none)) else (none)) else (some ([] : List (List Bool))))) = some r := h
 clear h
 replace H := zo H
 obtain ⟨t135, A30, H⟩ := H
 have A3 := zm A30
 clear A30
 by_cases c4 : t135 = true
 ·subst c4
  have H1 : (if 0 ≤ (wrap64 (a0_0 * a0_1)) then (if (wrap64 (a0_0 * a0_1) : Int).toNat ≤ 11728124029610 then ((some (List.replicate (wrap64 (a0_0 * a0_1) : Int).toNat [] : List (List Bool))).bind fun y136 => (person_slots.l0 k l1 y136 (y136.length : Int) 0 a0_0 a0_1 a0_2)) else (none)) else (none)) = some r := by rw [if_pos rfl] at H; exact H
  clear H
  have H := H1
  clear H1
  obtain ⟨ji5, hji5⟩ : ∃ j_ : Int, (wrap64 (a0_0 * a0_1)) = j_ := ⟨_, rfl⟩
  replace H : (if 0 ≤ (ji5) then (if (ji5 : Int).toNat ≤ 11728124029610 then ((some (List.replicate (ji5 : Int).toNat [] : List (List Bool))).bind fun y136 => (person_slots.l0 k l1 y136 (y136.length : Int) 0 a0_0 a0_1 a0_2)) else (none)) else (none)) = some r := by first | (rw [hji5] at H; exact H) | (simp only [hji5] at H ⊢; exact H)
  (try rw [hji5] at A3)
  have hji5w : (IntKind.i64.wrap (a0_0 * a0_1)) = ji5 := (i64_w _).trans hji5
  by_cases c6 : 0 ≤ (ji5)
  ·rw [if_pos c6] at H
   have c6b0 := eq_true c6
   have c6b1 : decide (0 ≤ (ji5)) = true := decide_eq_true c6
   clear c6
   by_cases c7 : (ji5 : Int).toNat ≤ 11728124029610
   ·rw [if_pos c7] at H
    have c7b0 := eq_true c7
    have c7b1 : decide ((ji5 : Int).toNat ≤ 11728124029610) = true := decide_eq_true c7
    clear c7
    obtain ⟨y136, hy136⟩ : ∃ y_ : List (List Bool), y_ = (List.replicate (ji5 : Int).toNat []) := ⟨_, rfl⟩
    replace H : (person_slots.l0 k l1 y136 (y136.length : Int) 0 a0_0 a0_1 a0_2) = some r := by first | (rw [hy136]; with_reducible exact H) | (have H2_ := (Option.bind_some _ _).symm.trans H; rw [hy136]; with_reducible exact H2_) | (have H2_ := (Option.bind_some _ _).symm.trans H; with_reducible exact H2_) | with_reducible exact H | (rw [hy136]; exact H) | exact H
    have Ny136 := zm hy136
    clear hy136
    have H' := zm H
    clear H
    go_enter Try.func38, Try.ntmps38
    go_wp2_with (first | ((with_reducible refine gate_dst (N := 2) rfl ?_); refine box_event ?hg (N := 2) ?hd (cs := #[.int .i64 a0_0, .int .i64 a0_1, .int .i64 a0_2]) (t := 23) ?hr ?_; (case hd => rfl); (case hg => rfl); (case hr => go_simp; try rfl); intro gb134 hg w8 hbox hb; have BK134 := zm (hbox); have GW134 := zm ((by rw [hg]; exact (below_size (by repeat (first | (with_reducible first | exact HB.out | apply below_alloc | apply pw_below_drewN | apply below_drew1) | exact HB.out))) : w.heap.size ≤ gb134)); have GE134 := GW134; replace HB := zm (below_step (by repeat (first | (with_reducible first | exact HB.out | apply below_alloc | apply pw_below_drewN | apply below_drew1) | exact HB.out)) hb); clear hb hbox hg; obtain ⟨hcz9_0, hcz9_1, hcz9_2, hfz9_0, hfz9_1, hfz9_2⟩ := zf3 BK134.out) | ((with_reducible refine gate_callee (f := 39) rfl ?_); refine goesL_ (some 12) rfl rfl Try.func39 (by kernel_rfl) rfl #[.agg #[.int .i64 a0_0, .int .i64 a0_1, .int .i64 a0_2]] rfl (by (try simp only [zt1, zt2, zt3]) <;> rfl) ?_; (with_reducible refine (when_RightGrid.calls a0_0 a0_1 a0_2 true _ A3.out).mono ?_); rintro e w10 ⟨rfl, hb⟩; refine ⟨_, rfl, ?_⟩; replace BK134 := zm (blk_below (by apply_rules [BK134.out, zk1, zk2, zk3]) hb); replace HB := zm (below_step (by repeat (first | (with_reducible first | exact HB.out | apply below_alloc | apply pw_below_drewN | apply below_drew1 | refine below_set ?_ GE134.out) | exact HB.out)) hb); (try clear hb); (try clear hk); obtain ⟨hcz11_0, hcz11_1, hcz11_2, hfz11_0, hfz11_1, hfz11_2⟩ := zf3 BK134.out) | ((with_reducible refine gate_dst (N := 19) rfl ?_); refine Kd.S_make (Kd.slice 4 Kd.bool) _ 60 rfl (N := 19) rfl 58 _ _ rfl ji5 rfl rfl Try.underlying58 (.slice none 0 0) 24 info60 rfl (by decide) (by omega) [] (ok := fun _ => True) (okp := fun _ => True) ⟨_, rfl, Kd.R_nil _ _ _ _ _⟩ (fun _ hk => hk) trivial (of_decide_eq_true (by first | (with_reducible assumption) | assumption)) (Nat.le_trans (Nat.mul_le_mul_right _ (of_decide_eq_true (by first | (with_reducible assumption) | assumption) : ji5.toNat ≤ 11728124029610)) (by omega)) (Below.refl _ _) (Nat.le_refl _) ?_; intro v137 w12 ho13 hb hg_ hnew_; clear hg_ hnew_; (first | rw [← Ny136.out] at ho13 | (simp only [Int.reduceToNat] at ho13; rw [← Ny136.out] at ho13)); have HO138 := zm (Kd.S_lower ho13 (below_size (by repeat (first | (with_reducible first | exact HB.out | apply below_alloc | apply pw_below_drewN | apply below_drew1 | refine below_set ?_ GE134.out) | exact HB.out)))); replace BK134 := zm (blk_below (by apply_rules [BK134.out, zk1, zk2, zk3]) hb); replace HB := zm (below_step (by repeat (first | (with_reducible first | exact HB.out | apply below_alloc | apply pw_below_drewN | apply below_drew1 | refine below_set ?_ GE134.out) | exact HB.out)) hb); clear hb ho13; obtain ⟨Ao14, co14, eo14⟩ := Kd.S_slice HO138.out; subst eo14))
    go_loopg [22] k (fun kq v22 w' => ∃ (x5_1 : List (List Bool)) (x22_1 : Int), v22 = .int .i64 x22_1 ∧ Aside0 (person_slots.l0 kq l1 x5_1 (y136.length : Int) x22_1 a0_0 a0_1 a0_2 = some r) ∧ Aside0 (kq ≤ k) ∧ Aside0 (Kd.S (Kd.slice 4 Kd.bool) 60 w' w.heap.size (fun _ => True) (.slice Ao14 y136.length co14) x5_1) ∧ Aside0 (w'.heap[gb134]? = some (.cells #[.int .i64 a0_0, .int .i64 a0_1, .int .i64 a0_2] 23 (0, 0))) ∧ Aside0 (Below w.heap.size w w'))
    case atStart => exact ⟨(y136), (0), (by first | rfl | (simp; done) | (simp [*]; done)), H', ⟨Nat.le_refl _⟩, ⟨by (with_reducible repeat (first | apply Kd.S_alloc | apply Kd.S_drewN | apply Kd.S_drew)); exact HO138.out⟩, ⟨by (with_reducible repeat (first | refine blk_alloc ?_ _ | refine blk_drewN ?_ _ | refine blk_drew ?_)); exact BK134.out⟩, ⟨by repeat (first | (with_reducible first | exact HB.out | apply below_alloc | apply pw_below_drewN | apply below_drew1 | refine below_set ?_ GE134.out) | exact HB.out)⟩⟩
    case round =>
     clear H'
     (try clear c1); (try clear p2); (try clear c3); (try clear c4); (try clear c6); (try clear c6b0); (try clear c6b1); (try clear p6); (try clear c7); (try clear c7b0); (try clear c7b1); (try clear hcz11_0); (try clear hcz11_1); (try clear hcz11_2); (try clear hcz9_0); (try clear hcz9_1); (try clear hcz9_2); (try clear hfz11_0); (try clear hfz11_1); (try clear hfz11_2); (try clear hfz9_0); (try clear hfz9_1)
     try clear hfz9_2
     obtain ⟨x5_1, x22_1, rfl, HA, HK1, HO_5, BK134, HB⟩ := hrel
     have hl5_1 := (Kd.S_reads' HO_5.out).1
     rw [hl5_1] at HO_5
     (try simp only [hl5_1])
     (try simp only [hl5_1] at BK134)
     cases gk with
     | zero => exact absurd HA.out (by simp [person_slots.l0])
     | succ k1 =>
      have H := HA.out
      clear HA
      simp only [person_slots.l0] at H
      by_cases c15 : x22_1 < (y136.length : Int)
      ·rw [if_pos c15] at H
       have c15b0 : decide (x22_1 < (y136.length : Int)) = true := decide_eq_true c15
       clear c15
       by_cases c16 : 0 ≤ a0_2
       ·rw [if_pos c16] at H
        have c16b0 := eq_true c16
        have c16b1 : decide (0 ≤ a0_2) = true := decide_eq_true c16
        clear c16
        by_cases c17 : (a0_2 : Int).toNat ≤ 281474976710656
        ·rw [if_pos c17] at H
         have c17b0 := eq_true c17
         have c17b1 : decide ((a0_2 : Int).toNat ≤ 281474976710656) = true := decide_eq_true c17
         clear c17
         obtain ⟨y139, hy139⟩ : ∃ y_ : List Bool, y_ = (List.replicate (a0_2 : Int).toNat false) := ⟨_, rfl⟩
         replace H : (if 0 ≤ x22_1 then (if x22_1 < (x5_1.length : Int) then (person_slots.l0 k1 l1 (x5_1.set (x22_1 : Int).toNat y139) (y136.length : Int) (wrap64 (x22_1 + 1)) a0_0 a0_1 a0_2) else (none)) else (none)) = some r := by first | (rw [hy139]; with_reducible exact H) | (have H2_ := (Option.bind_some _ _).symm.trans H; rw [hy139]; with_reducible exact H2_) | (have H2_ := (Option.bind_some _ _).symm.trans H; with_reducible exact H2_) | with_reducible exact H | (rw [hy139]; exact H) | exact H
         have Ny139 := zm hy139
         clear hy139
         by_cases c18 : 0 ≤ x22_1
         ·rw [if_pos c18] at H
          have c18b0 : decide (0 ≤ x22_1) = true := decide_eq_true c18
          clear c18
          by_cases c19 : x22_1 < (x5_1.length : Int)
          ·rw [if_pos c19] at H
           have c19b0 : decide (x22_1 < (x5_1.length : Int)) = true := decide_eq_true c19
           clear c19
           obtain ⟨y142, hy142⟩ : ∃ y_ : List (List Bool), y_ = (x5_1.set (x22_1 : Int).toNat y139) := ⟨_, rfl⟩
           replace H : (person_slots.l0 k1 l1 y142 (y136.length : Int) (wrap64 (x22_1 + 1)) a0_0 a0_1 a0_2) = some r := by first | (rw [hy142]; with_reducible exact H) | (have H2_ := (Option.bind_some _ _).symm.trans H; rw [hy142]; with_reducible exact H2_) | (have H2_ := (Option.bind_some _ _).symm.trans H; with_reducible exact H2_) | with_reducible exact H | (rw [hy142]; exact H) | exact H
           have Ny142 := zm hy142
           clear hy142
           have H' := zm H
           clear H
           obtain ⟨hcz21_0, hcz21_1, hcz21_2, hfz21_0, hfz21_1, hfz21_2⟩ := zf3 BK134.out
           go_wp2_with (first | ((with_reducible refine gate_dst (N := 29) rfl ?_); refine Kd.R_make Kd.bool _ 4 rfl (N := 29) rfl 60 _ _ rfl a0_2 rfl rfl Try.underlying60 (.bool false) 1 info4 rfl (by decide) (by omega) false (ok := fun _ => True) (okp := fun _ => True) rfl (fun _ hk => hk) trivial (of_decide_eq_true (by first | (with_reducible assumption) | assumption)) (Nat.le_trans (Nat.mul_le_mul_right _ (of_decide_eq_true (by first | (with_reducible assumption) | assumption) : a0_2.toNat ≤ 281474976710656)) (by omega)) (Below.refl _ _) (Nat.le_refl _) ?_; intro v140 w22 ho23 hb hg_ hnew_; clear hg_ hnew_; (first | rw [← Ny139.out] at ho23 | (simp only [Int.reduceToNat] at ho23; rw [← Ny139.out] at ho23)); replace HO_5 := zm (Kd.S_elder' (by apply_rules [HO_5.out, Kd.S_alloc, Kd.S_drewN, Kd.S_drew]) (Kd.R_base ho23) hb); have HO141 := zm (Kd.R_lower ho23 (below_size (by repeat (first | (with_reducible first | exact HB.out | apply below_alloc | apply pw_below_drewN | apply below_drew1 | refine below_set ?_ GE134.out) | exact HB.out)))); replace BK134 := zm (blk_below (by apply_rules [BK134.out, zk1, zk2, zk3]) hb); replace HB := zm (below_step (by repeat (first | (with_reducible first | exact HB.out | apply below_alloc | apply pw_below_drewN | apply below_drew1 | refine below_set ?_ GE134.out) | exact HB.out)) hb); clear hb ho23; have p20 : 0 ≤ (x22_1 : Int) := of_decide_eq_true (by first | (with_reducible assumption) | assumption); have q20 : (x22_1 : Int) < ((x5_1.length : Int) : Int) := of_decide_eq_true (by first | (with_reducible assumption) | assumption); obtain ⟨go20, co20, eo20, gb20, gl20, cl20, HG20⟩ := Kd.S_form HO_5.out (by omega); (first | cases eo20 | (injection eo20 with ea_ en_ ec_; (first | subst ea_ | (injection ea_ with ea_; subst ea_)); subst ec_; clear en_)); have GB20 := zm gb20; have GG20 := zm HG20; clear gb20 gl20 HG20; obtain ⟨_, ce20, hcl20, hM20, hcc20, hfr20, _, _⟩ := Kd.S_elem HO_5.out [] (x22_1 : Int) p20 q20; obtain ⟨ve20_0, rfl, ge20_0⟩ := hM20; have hx20_0 := hcc20 0 _ rfl; have hf20_0 := hfr20 0; (try simp only [show ((Kd.slice 4 Kd.bool)).sz = 1 from rfl, Nat.mul_one, Nat.add_zero] at hx20_0); (try simp only [show ((Kd.slice 4 Kd.bool)).sz = 1 from rfl, Nat.mul_one, Nat.add_zero] at hf20_0); clear hcl20 hcc20 hfr20; replace p20 := eq_true p20; replace q20 := eq_true q20; have n_ := zm (Kd.S_mono (ok' := (fun k_ => some k_ ≠ (v140 : Value).ownBlock)) HO_5.out (fun k_ hk => hk.2)); clear HO_5; have HO_5 := n_; clear n_; have HX24 := zm (show Kd.S (Kd.slice 4 Kd.bool) 60 w22 w.heap.size (fun k_ => ((fun _ => True)) k_ ∧ ¬ ((fun k_ => some k_ = (v140 : Value).ownBlock)) k_) (.slice (some ⟨go20, 0, none⟩) x5_1.length co14) x5_1 from (by (with_reducible repeat (first | apply Kd.S_alloc | apply Kd.S_drewN | apply Kd.S_drew)); exact Kd.S_mono HO_5.out (fun k_ hk => ⟨trivial, fun e_ => hk e_⟩))); obtain ⟨oki24, ce24, hcl24, hM24, hcc24, hfr24, hoki24, hH24⟩ := Kd.S_elem HX24.out [] (x22_1 : Int) (of_decide_eq_true (by first | (with_reducible assumption) | assumption)) (by have h_ : (x22_1 : Int) < ((x5_1.length : Int) : Int) := of_decide_eq_true (by first | (with_reducible assumption) | assumption); first | exact h_ | (have e_ := (Kd.S_reads' HO_5.out).1; omega) | simpa using h_); obtain ⟨ve24_0, rfl, ge24_0⟩ := hM24; have HP24 := Kd.S_seg hH24 (of_decide_eq_true (by first | (with_reducible assumption) | assumption)) (by have h_ : (x22_1 : Int) < ((x5_1.length : Int) : Int) := of_decide_eq_true (by first | (with_reducible assumption) | assumption); first | exact h_ | (have e_ := (Kd.S_reads' HO_5.out).1; omega) | simpa using h_) (seg := [v140]) (j := 0) (show 1 ≤ 1 from by decide) (x' := y139) (Kd.M_row (Kd.R_mono (Kd.R_tight rfl (Kd.R_mono (ok' := fun k_ => ((fun _ => True)) k_ ∧ k_ ≠ go20) (Kd.R_apart' (HO141.out) (Kd.S_typed HO_5.out) (by decide)) (fun k_ hk => ⟨trivial, fun e_ => (hk.2) (by rw [e_]; rfl)⟩))) (fun _ h_ => Or.inr (h_)))) (fun _ hk => hk) (fun k_ hk_ => ((Kd.R_mono (ok' := fun k_ => ((fun _ => True)) k_ ∧ k_ ≠ go20) (Kd.R_apart' (HO141.out) (Kd.S_typed HO_5.out) (by decide)) (fun k_ hk => ⟨trivial, fun e_ => (hk.2) (by rw [e_]; rfl)⟩))).1 k_ hk_.symm); have hx24_0 := hcc24 0 _ rfl; (try simp only [show ((Kd.slice 4 Kd.bool)).sz = 1 from rfl, Nat.mul_one, Nat.add_zero] at hx24_0); have hf24_0 := hfr24 0; (try simp only [show ((Kd.slice 4 Kd.bool)).sz = 1 from rfl, Nat.mul_one, Nat.add_zero] at hf24_0); clear hcl24 hcc24 hfr24 hoki24 hH24; (try simp only [show ((Kd.slice 4 Kd.bool)).sz = 1 from rfl, Nat.mul_one, Nat.add_zero] at HP24)) | ((with_reducible refine gate_store (t := 60) (p := 30) rfl ?_); refine store_event (t := 60) (p := 30) (v := ?vo_w25) (w1 := (w22.setCell ⟨go20, (x22_1 : Int).toNat, none⟩ (v140))) ?hg ?ho ?hn ?hr ?_; (case ho => rfl); (case hg => rfl); (case hn => rfl); (case hr => first | (go_simp; done) | (go_simp; rfl) | (obtain ⟨_, _, rfl⟩ := Kd.R_slice HO141.out; go_simp; done) | (obtain ⟨_, _, rfl⟩ := Kd.R_slice HO141.out; go_simp; rfl)); intro w25 hw; have hg : w22.grownBy w25 (some go20) := (by rw [hw]; exact HP24.2); have hp_ : Kd.S (Kd.slice 4 Kd.bool) 60 w25 w.heap.size (fun _ => True) (.slice (some ⟨go20, 0, none⟩) x5_1.length co14) y142 := (by rw [hw, Ny142.out]; exact HP24.1); clear HP24; have n0_ := zm (hp_); have n1_ := zm (blk_grown (by apply_rules [BK134.out, zk1, zk2, zk3]) hg (Kd.S_ne HO_5.out BK134.out (by decide))); have n2_ := zm ((by rw [hw]; exact below_set (HB.out) GB20.out : Below w.heap.size w w25)); clear HO_5; clear BK134; clear HB; clear HO141; have HO_5 := n0_; have BK134 := n1_; have HB := n2_; clear n0_ n1_ n2_; clear hg hw hp_))
           (try simp only [← hl5_1])
           go_roundg k1
           case measure => have := HK1.out; omega
           case rel => exact ⟨(y142), (wrap64 (x22_1 + 1)), (by first | rfl | (simp; done) | (simp [*]; done)), H', ⟨by have := HK1.out; omega⟩, ⟨by (try simp only [hl5_1]); (with_reducible repeat (first | apply Kd.S_alloc | apply Kd.S_drewN | apply Kd.S_drew)); exact HO_5.out⟩, ⟨by (try simp only [hl5_1]); (with_reducible repeat (first | refine blk_alloc ?_ _ | refine blk_drewN ?_ _ | refine blk_drew ?_)); exact BK134.out⟩, ⟨by repeat (first | (with_reducible first | exact HB.out | apply below_alloc | apply pw_below_drewN | apply below_drew1 | refine below_set ?_ GE134.out) | exact HB.out)⟩⟩
          rw [if_neg c19] at H
          exact absurd H (by simp)
         rw [if_neg c18] at H
         exact absurd H (by simp)
        rw [if_neg c17] at H
        exact absurd H (by simp)
       rw [if_neg c16] at H
       exact absurd H (by simp)
      rw [if_neg c15] at H
      have c15b0 : decide (x22_1 < (y136.length : Int)) = false := decide_eq_false c15
      (try (have c15b0z0 := c15b0; rw [hl5_1] at c15b0z0))
      clear c15
      have H' := zm H
      clear H
      go_wp2
      go_loopg [34] k1 (fun kq v34 w' => ∃ (x5_2 : List (List Bool)) (x34_2 : Int), v34 = .int .i64 x34_2 ∧ Aside0 (person_slots.l1 kq x5_2 l1 (l1.length : Int) x34_2 a0_0 a0_1 a0_2 = some r) ∧ Aside0 (kq ≤ k1) ∧ Aside0 (Kd.S (Kd.slice 4 Kd.bool) 60 w' w.heap.size (fun _ => True) (.slice Ao14 x5_1.length co14) x5_2) ∧ Aside0 (w'.heap[gb134]? = some (.cells #[.int .i64 a0_0, .int .i64 a0_1, .int .i64 a0_2] 23 (0, 0))) ∧ Aside0 (Below w.heap.size w w'))
      case atStart => exact ⟨(x5_1), (0), (by first | rfl | (simp; done) | (simp [*]; done)), H', ⟨Nat.le_refl _⟩, ⟨by (try simp only [hl5_1]); (with_reducible repeat (first | apply Kd.S_alloc | apply Kd.S_drewN | apply Kd.S_drew)); exact HO_5.out⟩, ⟨by (try simp only [hl5_1]); (with_reducible repeat (first | refine blk_alloc ?_ _ | refine blk_drewN ?_ _ | refine blk_drew ?_)); exact BK134.out⟩, ⟨by repeat (first | (with_reducible first | exact HB.out | apply below_alloc | apply pw_below_drewN | apply below_drew1 | refine below_set ?_ GE134.out) | exact HB.out)⟩⟩
      case round =>
       clear H'
       (try clear c1); (try clear c2); (try clear p2); (try clear q2); (try clear hx2); (try clear hf2); (try clear c3); (try clear c4); (try clear c6); (try clear c6b0); (try clear c6b1); (try clear p6); (try clear c7); (try clear c7b0); (try clear c7b1); (try clear c15); (try clear c15b0); (try clear c16); (try clear c16b0); (try clear c16b1); (try clear c17); (try clear c17b0); (try clear c17b1)
       (try clear c18); (try clear c18b0); (try clear c19); (try clear c19b0); (try clear c20); (try clear p20); (try clear q20); (try clear hx20); (try clear hf20); (try clear c24); (try clear hx24); (try clear hf24); (try clear hcz11_0); (try clear hcz11_1); (try clear hcz11_2); (try clear hcz21_0); (try clear hcz21_1); (try clear hcz21_2); (try clear hcz9_0); (try clear hcz9_1); (try clear hcz9_2)
       (try clear hfz11_0); (try clear hfz11_1); (try clear hfz11_2); (try clear hfz21_0); (try clear hfz21_1); (try clear hfz21_2); (try clear hfz9_0); (try clear hfz9_1); (try clear hfz9_2); (try clear hx20_0); (try clear hx24_0); (try clear p2); (try clear p20); (try clear p6); (try clear q20)
       obtain ⟨x5_2, x34_2, rfl, HA, HK2, HO_5, BK134, HB⟩ := hrel
       have hl5_2 := (Kd.S_reads' HO_5.out).1
       rw [hl5_2] at HO_5
       (try simp only [hl5_2])
       (try simp only [hl5_2] at BK134)
       cases gk with
       | zero => exact absurd HA.out (by simp [person_slots.l1])
       | succ k2 =>
        have H := HA.out
        clear HA
        simp only [person_slots.l1] at H
        by_cases c26 : x34_2 < (l1.length : Int)
        ·rw [if_pos c26] at H
         have c26b0 : decide (x34_2 < (l1.length : Int)) = true := decide_eq_true c26
         clear c26
         by_cases c27 : 0 ≤ x34_2
         ·rw [if_pos c27] at H
          have c27b0 : decide (0 ≤ x34_2) = true := decide_eq_true c27
          clear c27
          by_cases c28 : x34_2 < (l1.length : Int)
          ·rw [if_pos c28] at H
           have c28b0 : decide (x34_2 < (l1.length : Int)) = true := decide_eq_true c28
           clear c28
           replace H := zo H
           obtain ⟨t145, A290, H⟩ := H
           have A29 := zm A290
           clear A290
           have H' := zm H
           clear H
           have p143 : 0 ≤ (x34_2 : Int) := of_decide_eq_true (by first | (with_reducible assumption) | assumption)
           have q143 : x34_2 < (l1.length : Int) := of_decide_eq_true (by first | (with_reducible assumption) | assumption)
           obtain ⟨ad143, e143, hx143_0, hx143_1, hx143_2, hx143_3⟩ := at_T49 HR1.out x34_2 p143 q143
           cases e143
           (try (replace hx143_0 := (HB.out.cell (World.block_lt_of_cell? w _ hx143_0)).trans hx143_0))
           (try (replace hx143_1 := (HB.out.cell (World.block_lt_of_cell? w _ hx143_1)).trans hx143_1))
           (try (replace hx143_2 := (HB.out.cell (World.block_lt_of_cell? w _ hx143_2)).trans hx143_2))
           (try (replace hx143_3 := (HB.out.cell (World.block_lt_of_cell? w _ hx143_3)).trans hx143_3))
           replace p143 := eq_true p143
           replace q143 := eq_true q143
           go_wp2_with (first | ((with_reducible refine gate_dst (N := 8) rfl ?_); refine box_event ?hg (N := 8) ?hd (cs := #[.int .u32 0, .int .u8 0, .int .i64 0, .int .i64 0]) (t := 49) ?hr ?_; (case hd => rfl); (case hg => rfl); (case hr => go_simp; try rfl); intro gb144 hg w30 hbox hb; have n0_ := zm (Kd.S_below (by apply_rules [HO_5.out, Kd.S_alloc, Kd.S_drewN, Kd.S_drew]) hb); have n1_ := zm (blk_below (by apply_rules [BK134.out, zk1, zk2, zk3]) hb); have n2_ := zm (below_step (by repeat (first | (with_reducible first | exact HB.out | apply below_alloc | apply pw_below_drewN | apply below_drew1 | refine below_set ?_ GE134.out) | exact HB.out)) hb); have n3_ := zm (hbox); have n4_ := zm ((by rw [hg]; exact (below_size (by repeat (first | (with_reducible first | exact HB.out | apply below_alloc | apply pw_below_drewN | apply below_drew1 | refine below_set ?_ GE134.out) | exact HB.out))) : w.heap.size ≤ gb144)); have n5_ := n4_; have n6_ := zm ((by rw [hg]; exact Nat.ne_of_lt (blk_lt (by apply_rules [BK134.out, zk1, zk2, zk3])) : gb134 ≠ gb144)); have n7_ := zm ((by rw [hg]; exact Nat.ne_of_gt (blk_lt (by apply_rules [BK134.out, zk1, zk2, zk3])) : gb144 ≠ gb134)); clear HO_5; clear BK134; clear HB; have HO_5 := n0_; have BK134 := n1_; have HB := n2_; have BK144 := n3_; have GW144 := n4_; have GE144 := n5_; have NB134_144 := n6_; have NB144_134 := n7_; clear n0_ n1_ n2_ n3_ n4_ n5_ n6_ n7_; clear hb hbox hg; have hnb31 := NB144_134.out; have hnc31 := NB134_144.out; obtain ⟨hcz32_0, hcz32_1, hcz32_2, hcz32_3, hfz32_0, hfz32_1, hfz32_2, hfz32_3⟩ := zf4 BK144.out; obtain ⟨hcz33_0, hcz33_1, hcz33_2, hfz33_0, hfz33_1, hfz33_2⟩ := zf3 BK134.out) | ((with_reducible refine gate_callee (f := 51) rfl ?_); refine goesL_ (some 40) rfl rfl Try.func51 (by kernel_rfl) rfl #[.agg #[.int .i64 a0_0, .int .i64 a0_1, .int .i64 a0_2], .agg #[.int .u32 ((rd_T49 l1 x34_2).f0), .int .u8 ((rd_T49 l1 x34_2).f1), .int .i64 ((rd_T49 l1 x34_2).f2), .int .i64 ((rd_T49 l1 x34_2).f3)]] rfl (by (try simp only [zt1, zt2, zt3]) <;> rfl) ?_; (with_reducible refine (when_Moments.calls k2 a0_0 a0_1 a0_2 ((rd_T49 l1 x34_2).f0) ((rd_T49 l1 x34_2).f1) ((rd_T49 l1 x34_2).f2) ((rd_T49 l1 x34_2).f3) t145 _ A29.out).mono ?_); rintro e w34 ⟨v146, rfl, ho0, hb⟩; refine ⟨_, rfl, ?_⟩; replace HO_5 := zm (Kd.S_below (by (with_reducible repeat (first | apply Kd.S_alloc | apply Kd.S_drewN | apply Kd.S_drew)); exact (Kd.S_mono (Kd.S_far (p := ⟨gb144, 3, none⟩) (Kd.S_far (p := ⟨gb144, 2, none⟩) (Kd.S_far (p := ⟨gb144, 1, none⟩) (Kd.S_far (p := ⟨gb144, 0, none⟩) (Kd.S_types HO_5.out BK144.out (by decide)) (fun _ hk => hk.2) (.int .u32 ((rd_T49 l1 x34_2).f0))) (fun _ hk => hk.2) (.int .u8 ((rd_T49 l1 x34_2).f1))) (fun _ hk => hk.2) (.int .i64 ((rd_T49 l1 x34_2).f2))) (fun _ hk => hk.2) (.int .i64 ((rd_T49 l1 x34_2).f3))) (fun _ h_ => h_.1))) hb); have HO147 := zm (Kd.R_lower ho0 (below_size (by repeat (first | (with_reducible first | exact HB.out | apply below_alloc | apply pw_below_drewN | apply below_drew1 | refine below_set ?_ GE134.out | refine below_set ?_ GE144.out) | exact HB.out)))); replace BK134 := zm (blk_below (g := gb134) (o := .cells #[.int .i64 a0_0, .int .i64 a0_1, .int .i64 a0_2] 23 (0, 0)) (by (with_reducible repeat (first | refine blk_alloc ?_ _ | refine blk_drewN ?_ _ | refine blk_drew ?_)); refine blk_far ?_ NB134_144.out _; (with_reducible repeat (first | refine blk_alloc ?_ _ | refine blk_drewN ?_ _ | refine blk_drew ?_)); refine blk_far ?_ NB134_144.out _; (with_reducible repeat (first | refine blk_alloc ?_ _ | refine blk_drewN ?_ _ | refine blk_drew ?_)); refine blk_far ?_ NB134_144.out _; (with_reducible repeat (first | refine blk_alloc ?_ _ | refine blk_drewN ?_ _ | refine blk_drew ?_)); refine blk_far ?_ NB134_144.out _; (with_reducible repeat (first | refine blk_alloc ?_ _ | refine blk_drewN ?_ _ | refine blk_drew ?_)); exact BK134.out) hb); replace BK144 := zm (blk_below (g := gb144) (o := .cells #[.int .u32 ((rd_T49 l1 x34_2).f0), .int .u8 ((rd_T49 l1 x34_2).f1), .int .i64 ((rd_T49 l1 x34_2).f2), .int .i64 ((rd_T49 l1 x34_2).f3)] 49 (0, 0)) (by (with_reducible repeat (first | refine blk_alloc ?_ _ | refine blk_drewN ?_ _ | refine blk_drew ?_)); refine blk_put (cs := #[.int .u32 ((rd_T49 l1 x34_2).f0), .int .u8 ((rd_T49 l1 x34_2).f1), .int .i64 ((rd_T49 l1 x34_2).f2), .int .i64 0]) ?_ 3 _ rfl; (with_reducible repeat (first | refine blk_alloc ?_ _ | refine blk_drewN ?_ _ | refine blk_drew ?_)); refine blk_put (cs := #[.int .u32 ((rd_T49 l1 x34_2).f0), .int .u8 ((rd_T49 l1 x34_2).f1), .int .i64 0, .int .i64 0]) ?_ 2 _ rfl; (with_reducible repeat (first | refine blk_alloc ?_ _ | refine blk_drewN ?_ _ | refine blk_drew ?_)); refine blk_put (cs := #[.int .u32 ((rd_T49 l1 x34_2).f0), .int .u8 0, .int .i64 0, .int .i64 0]) ?_ 1 _ rfl; (with_reducible repeat (first | refine blk_alloc ?_ _ | refine blk_drewN ?_ _ | refine blk_drew ?_)); refine blk_put (cs := #[.int .u32 0, .int .u8 0, .int .i64 0, .int .i64 0]) ?_ 0 _ rfl; (with_reducible repeat (first | refine blk_alloc ?_ _ | refine blk_drewN ?_ _ | refine blk_drew ?_)); exact BK144.out) hb); replace HB := zm (below_step (by repeat (first | (with_reducible first | exact HB.out | apply below_alloc | apply pw_below_drewN | apply below_drew1 | refine below_set ?_ GE134.out | refine below_set ?_ GE144.out) | exact HB.out)) hb); (try clear hb); (try clear hk); (try clear ho0); obtain ⟨Ao35, co35, eo35⟩ := Kd.R_slice HO147.out; subst eo35))
           go_loopg [42] k2 (fun kq v42 w' => ∃ (x5_3 : List (List Bool)) (x42_3 : Int), v42 = .int .i64 x42_3 ∧ Aside0 (person_slots.l2 kq x5_3 l1 (l1.length : Int) x34_2 t145 (t145.length : Int) x42_3 a0_0 a0_1 a0_2 = some r) ∧ Aside0 (kq ≤ k2) ∧ Aside0 (Kd.S (Kd.slice 4 Kd.bool) 60 w' w.heap.size (fun _ => True) (.slice Ao14 x5_2.length co14) x5_3) ∧ Aside0 (Kd.R (Kd.int .i64) 3 w' w.heap.size (fun _ => True) (.slice Ao35 t145.length co35) t145) ∧ Aside0 (w'.heap[gb134]? = some (.cells #[.int .i64 a0_0, .int .i64 a0_1, .int .i64 a0_2] 23 (0, 0))) ∧ Aside0 (w'.heap[gb144]? = some (.cells #[.int .u32 ((rd_T49 l1 x34_2).f0), .int .u8 ((rd_T49 l1 x34_2).f1), .int .i64 ((rd_T49 l1 x34_2).f2), .int .i64 ((rd_T49 l1 x34_2).f3)] 49 (0, 0))) ∧ Aside0 (Below w.heap.size w w'))
           case atStart => exact ⟨(x5_2), (0), (by first | rfl | (simp; done) | (simp [*]; done)), H', ⟨Nat.le_refl _⟩, ⟨by (try simp only [hl5_1]); (try simp only [hl5_2]); (with_reducible repeat (first | apply Kd.S_alloc | apply Kd.S_drewN | apply Kd.S_drew)); exact HO_5.out⟩, ⟨by (try simp only [hl5_1]); (try simp only [hl5_2]); (with_reducible repeat (first | apply Kd.R_alloc | apply Kd.R_drewN | apply Kd.R_drew)); exact HO147.out⟩, ⟨by (try simp only [hl5_1]); (try simp only [hl5_2]); (with_reducible repeat (first | refine blk_alloc ?_ _ | refine blk_drewN ?_ _ | refine blk_drew ?_)); exact BK134.out⟩, ⟨by (try simp only [hl5_1]); (try simp only [hl5_2]); (with_reducible repeat (first | refine blk_alloc ?_ _ | refine blk_drewN ?_ _ | refine blk_drew ?_)); exact BK144.out⟩, ⟨by repeat (first | (with_reducible first | exact HB.out | apply below_alloc | apply pw_below_drewN | apply below_drew1 | refine below_set ?_ GE134.out | refine below_set ?_ GE144.out) | exact HB.out)⟩⟩
           case round =>
            clear H'
            (try clear c1); (try clear p1); (try clear q1); (try clear hx1); (try clear c2); (try clear p2); (try clear q2); (try clear hx2); (try clear hf2); (try clear c3); (try clear c4); (try clear c5); (try clear c6); (try clear c6b0); (try clear c6b1); (try clear p6); (try clear c7); (try clear c7b0); (try clear c7b1); (try clear p14); (try clear q14); (try clear hx14); (try clear c15); (try clear c15b0)
            (try clear c16); (try clear c16b0); (try clear c16b1); (try clear c17); (try clear c17b0); (try clear c17b1); (try clear c18); (try clear c18b0); (try clear c19); (try clear c19b0); (try clear c20); (try clear p20); (try clear q20); (try clear hx20); (try clear hf20); (try clear c24); (try clear hx24); (try clear hf24); (try clear c26); (try clear c26b0); (try clear c27); (try clear c27b0)
            (try clear c28); (try clear c28b0); (try clear c31); (try clear hcz11_0); (try clear hcz11_1); (try clear hcz11_2); (try clear hcz21_0); (try clear hcz21_1); (try clear hcz21_2); (try clear hcz32_0); (try clear hcz32_1); (try clear hcz32_2); (try clear hcz32_3); (try clear hcz33_0); (try clear hcz33_1); (try clear hcz33_2); (try clear hcz9_0); (try clear hcz9_1); (try clear hcz9_2); (try clear hfz11_0)
            (try clear hfz11_1); (try clear hfz11_2); (try clear hfz21_0); (try clear hfz21_1); (try clear hfz21_2); (try clear hfz32_0); (try clear hfz32_1); (try clear hfz32_2); (try clear hfz32_3); (try clear hfz33_0); (try clear hfz33_1); (try clear hfz33_2); (try clear hfz9_0); (try clear hfz9_1); (try clear hfz9_2); (try clear hx143_0); (try clear hx143_1); (try clear hx143_2); (try clear hx143_3)
            (try clear hx20_0); (try clear hx24_0); (try clear p143); (try clear p2); (try clear p20); (try clear p6); (try clear q143); (try clear q2); (try clear q20)
            obtain ⟨x5_3, x42_3, rfl, HA, HK3, HO_5, HO_40, BK134, BK144, HB⟩ := hrel
            have hl5_3 := (Kd.S_reads' HO_5.out).1
            rw [hl5_3] at HO_5
            (try simp only [hl5_3])
            (try simp only [hl5_3] at BK134)
            (try simp only [hl5_3] at BK144)
            (try simp only [hl5_3] at HO_40)
            cases gk with
            | zero => exact absurd HA.out (by simp [person_slots.l2])
            | succ k3 =>
             have H := HA.out
             clear HA
             simp only [person_slots.l2] at H
             by_cases c36 : x42_3 < (t145.length : Int)
             ·rw [if_pos c36] at H
              have c36b0 : decide (x42_3 < (t145.length : Int)) = true := decide_eq_true c36
              clear c36
              by_cases c37 : 0 ≤ x42_3
              ·rw [if_pos c37] at H
               have c37b0 : decide (0 ≤ x42_3) = true := decide_eq_true c37
               clear c37
               by_cases c38 : x42_3 < (t145.length : Int)
               ·rw [if_pos c38] at H
                have c38b0 : decide (x42_3 < (t145.length : Int)) = true := decide_eq_true c38
                clear c38
                by_cases c39 : a0_2 = 0
                ·rw [if_pos c39] at H
                 exact absurd H (by simp)
                rw [if_neg c39] at H
                have c39b0 : (a0_2 == 0) = false := beq_eq_false_iff_ne.mpr c39
                have c39b1 : (a0_2 != 0) = true := bne_iff_ne.mpr c39
                obtain ⟨ji40, hji40⟩ : ∃ j_ : Int, (wrap64 (Int.tdiv (rd t145 x42_3) a0_2)) = j_ := ⟨_, rfl⟩
                replace H : (if 0 ≤ (ji40) then (if (ji40) < (x5_3.length : Int) then (if 0 ≤ (Int.tmod (rd t145 x42_3) a0_2) then (if (Int.tmod (rd t145 x42_3) a0_2) < ((rd_L9 x5_3 (ji40)).length : Int) then (person_slots.l2 k3 (x5_3.set ((ji40) : Int).toNat ((rd_L9 x5_3 (ji40)).set ((Int.tmod (rd t145 x42_3) a0_2) : Int).toNat true)) l1 (l1.length : Int) x34_2 t145 (t145.length : Int) (wrap64 (x42_3 + 1)) a0_0 a0_1 a0_2) else (none)) else (none)) else (none)) else (none)) = some r := by first | (rw [hji40] at H; exact H) | (simp only [hji40] at H ⊢; exact H)
                have hji40w : (IntKind.i64.wrap (Int.tdiv (rd t145 x42_3) a0_2)) = ji40 := (i64_w _).trans hji40
                by_cases c41 : 0 ≤ (ji40)
                ·rw [if_pos c41] at H
                 have c41b0 : decide (0 ≤ (ji40)) = true := decide_eq_true c41
                 clear c41
                 by_cases c42 : (ji40) < (x5_3.length : Int)
                 ·rw [if_pos c42] at H
                  have c42b0 : decide ((ji40) < (x5_3.length : Int)) = true := decide_eq_true c42
                  clear c42
                  obtain ⟨ji43, hji43⟩ : ∃ j_ : Int, (Int.tmod (rd t145 x42_3) a0_2) = j_ := ⟨_, rfl⟩
                  replace H : (if 0 ≤ (ji43) then (if (ji43) < ((rd_L9 x5_3 (ji40)).length : Int) then (person_slots.l2 k3 (x5_3.set ((ji40) : Int).toNat ((rd_L9 x5_3 (ji40)).set ((ji43) : Int).toNat true)) l1 (l1.length : Int) x34_2 t145 (t145.length : Int) (wrap64 (x42_3 + 1)) a0_0 a0_1 a0_2) else (none)) else (none)) = some r := by first | (rw [hji43] at H; exact H) | (simp only [hji43] at H ⊢; exact H)
                  by_cases c44 : 0 ≤ (ji43)
                  ·rw [if_pos c44] at H
                   have c44b0 : decide (0 ≤ (ji43)) = true := decide_eq_true c44
                   clear c44
                   by_cases c45 : (ji43) < ((rd_L9 x5_3 (ji40)).length : Int)
                   ·rw [if_pos c45] at H
                    have c45b0 : decide ((ji43) < ((rd_L9 x5_3 (ji40)).length : Int)) = true := decide_eq_true c45
                    clear c45
                    obtain ⟨y150, hy150⟩ : ∃ y_ : List Bool, y_ = ((rd_L9 x5_3 (ji40)).set ((ji43) : Int).toNat true) := ⟨_, rfl⟩
                    replace H : (person_slots.l2 k3 (x5_3.set ((ji40) : Int).toNat y150) l1 (l1.length : Int) x34_2 t145 (t145.length : Int) (wrap64 (x42_3 + 1)) a0_0 a0_1 a0_2) = some r := by first | (rw [hy150]; with_reducible exact H) | (have H2_ := (Option.bind_some _ _).symm.trans H; rw [hy150]; with_reducible exact H2_) | (have H2_ := (Option.bind_some _ _).symm.trans H; with_reducible exact H2_) | with_reducible exact H | (rw [hy150]; exact H) | exact H
                    have Ny150 := zm hy150
                    clear hy150
                    obtain ⟨y152, hy152⟩ : ∃ y_ : List (List Bool), y_ = (x5_3.set ((ji40) : Int).toNat y150) := ⟨_, rfl⟩
                    replace H : (person_slots.l2 k3 y152 l1 (l1.length : Int) x34_2 t145 (t145.length : Int) (wrap64 (x42_3 + 1)) a0_0 a0_1 a0_2) = some r := by first | (rw [hy152]; with_reducible exact H) | (have H2_ := (Option.bind_some _ _).symm.trans H; rw [hy152]; with_reducible exact H2_) | (have H2_ := (Option.bind_some _ _).symm.trans H; with_reducible exact H2_) | with_reducible exact H | (rw [hy152]; exact H) | exact H
                    have Ny152 := zm hy152
                    clear hy152
                    have H' := zm H
                    clear H
                    have p148 : 0 ≤ (x42_3 : Int) := of_decide_eq_true (by first | (with_reducible assumption) | assumption)
                    have q148 : x42_3 < (t145.length : Int) := of_decide_eq_true (by first | (with_reducible assumption) | assumption)
                    obtain ⟨ad148, e148, hx148_0⟩ := Kd.at_int (Kd.R_reads' HO_40.out).2.2 x42_3 p148 q148
                    cases e148
                    replace p148 := eq_true p148
                    replace q148 := eq_true q148
                    try go_wp2
                    have n0_ := zm (Kd.S_drew HO_5.out)
                    have n1_ := zm (Kd.R_drew HO_40.out)
                    have n2_ := zm (blk_drew BK134.out)
                    have n3_ := zm (blk_drew BK144.out)
                    have n4_ := zm (below_drew1 HB.out)
                    clear HO_5
                    clear HO_40
                    clear BK134
                    clear BK144
                    clear HB
                    have HO_5 := n0_
                    have HO_40 := n1_
                    have BK134 := n2_
                    have BK144 := n3_
                    have HB := n4_
                    clear n0_ n1_ n2_ n3_ n4_
                    have p149 : 0 ≤ ((ji40) : Int) := of_decide_eq_true (by first | (with_reducible assumption) | assumption)
                    have q149 : (ji40) < (x5_3.length : Int) := of_decide_eq_true (by first | (with_reducible assumption) | assumption)
                    obtain ⟨ad149, A149_0, c149_0, e149, hx149_0, hl149_0, hi149_0⟩ := at_L9 (Kd.S_reads' HO_5.out).2.2 (ji40) p149 q149
                    cases e149
                    obtain ⟨ce149, hce149, hMe149, hcc149⟩ := Kd.S_get HO_5.out [] (ji40) p149 (by first | exact q149 | exact of_decide_eq_true (by first | (with_reducible assumption) | assumption) | (have e_ := (Kd.S_reads' HO_5.out).1; omega))
                    obtain ⟨ve149_0, rfl, ge149_0⟩ := hMe149
                    have hv149_0 := hcc149 0 _ rfl
                    rw [Nat.add_zero, show ((Kd.slice 4 Kd.bool)).sz = 1 from rfl, Nat.mul_one] at hv149_0
                    replace hv149_0 := Option.some.inj (hv149_0.symm.trans hx149_0)
                    rw [hv149_0] at ge149_0
                    have HL149_0 := zm (show Kd.R Kd.bool 4 _ _ _ _ (rd_L9 x5_3 (ji40)) from ge149_0)
                    clear hv149_0 ge149_0
                    have HX149_0 := zm hx149_0
                    clear hcc149 hce149
                    have HR149_0 := zm hi149_0
                    have HC149_0 := zm hl149_0
                    clear hi149_0 hl149_0
                    replace p149 := eq_true p149
                    replace q149 := eq_true q149
                    have p46 : 0 ≤ ((ji43) : Int) := of_decide_eq_true (by first | (with_reducible assumption) | assumption)
                    have q46 : ((ji43) : Int) < (((rd_L9 x5_3 (ji40)).length : Int) : Int) := of_decide_eq_true (by first | (with_reducible assumption) | assumption)
                    obtain ⟨go46, co46, eo46, gb46, gl46, cl46, HG46⟩ := Kd.R_form HL149_0.out (by omega)
                    (first | cases eo46 | (injection eo46 with ea_ en_ ec_; (first | subst ea_ | (injection ea_ with ea_; subst ea_)); subst ec_; clear en_))
                    have GB46 := zm gb46
                    have GG46 := zm HG46
                    clear gb46 gl46 HG46
                    obtain ⟨hx46_0, hf46_0⟩ := Kd.R_celln false HL149_0.out ((ji43) : Int) p46 q46
                    replace p46 := eq_true p46
                    replace q46 := eq_true q46
                    have hq48 : ((ji40) : Int) < (x5_3.length : Int) := (by have h_ : ((ji40) : Int) < ((x5_3.length : Int) : Int) := of_decide_eq_true (by first | (with_reducible assumption) | assumption); first | exact h_ | (have e_ := (Kd.S_reads' HO_5.out).1; omega) | simpa only [List.length_set, List.length_set] using h_)
                    obtain ⟨oki48, ce48, hcl48, hM48, hcc48, hok48, hbk48⟩ := Kd.S_borrow HO_5.out [] ((ji40) : Int) (of_decide_eq_true (by first | (with_reducible assumption) | assumption)) hq48
                    obtain ⟨ve48_0, rfl, ge48_0⟩ := hM48
                    have hv48 := hcc48 0 _ rfl
                    rw [Nat.add_zero, show ((Kd.slice 4 Kd.bool)).sz = 1 from rfl, Nat.mul_one] at hv48
                    replace hv48 := Option.some.inj (hv48.symm.trans HX149_0.out)
                    subst hv48
                    clear hcc48 hcl48
                    replace ge48_0 := (show Kd.R Kd.bool 4 _ _ _ _ (rd_L9 x5_3 (ji40)) from ge48_0)
                    have HP48 := Kd.R_putg ge48_0 ((ji43) : Int) true
                    rw [← Ny150.out] at HP48
                    have HS48 := hbk48 HP48.2 (fun k_ e_ => by injection e_ with e_; subst e_; exact ge48_0.1 _ rfl) (x' := y150) (Kd.M_row HP48.1)
                    rw [← Ny152.out] at HS48
                    have HQ48 := zm HS48
                    clear HP48 HS48 hbk48 hok48
                    refine start_ (n := 13) (S := fun w' => w'.cell? ⟨gb134, 0, none⟩ = some (.int .i64 a0_0) ∧ w'.cell? ⟨gb134, 1, none⟩ = some (.int .i64 a0_1) ∧ w'.cell? ⟨gb134, 2, none⟩ = some (.int .i64 a0_2) ∧ w'.cell? (ad149.add ((ji40)).toNat) = some (.slice (some ⟨go46, 0, none⟩) (rd_L9 x5_3 (ji40)).length c149_0)) (ds := [12]) #[false, false, false, false, false, false, false, false, false, false, false, false, false] (by kernel_rfl) rfl rfl ⟨(blk_cell BK134.out 0).trans rfl, (blk_cell BK134.out 1).trans rfl, (blk_cell BK134.out 2).trans rfl, hx149_0⟩ (fun hHeld => ?_); refine with_tabW person_slots.tab15 person_slots.bits15 (fun HT_ HW_ => ?_)
                    generalize wr.drew = w47 at HO_5 HO_40 BK134 BK144 HB GG46 HL149_0 HQ48 HR149_0 HX149_0 hf46_0 hx149_0 hx46_0 hHeld ⊢
                    refine zp 0 46 (v := ?_) (a' := ?_) (bm 13 1) HT_.out (by kernel_rfl) ?_ ?_ ?_; rotate_left; (focus intro w'; go_simp; with_reducible rfl); rotate_left; (focus simp only [Act.put, zs1, zs2, zs3, i64_w, i32_w]; rfl)
                    refine zp 1 47 (v := ?_) (a' := ?_) (bm 13 3) HT_.out (by kernel_rfl) ?_ ?_ ?_; rotate_left; (focus intro w'; go_simp; with_reducible rfl); rotate_left; (focus simp only [Act.put, zs1, zs2, zs3, i64_w, i32_w]; rfl)
                    refine zp 2 48 (v := ?_) (a' := ?_) (bm 13 7) HT_.out (by kernel_rfl) ?_ ?_ ?_; rotate_left; (focus intro w'; go_simp; with_reducible rfl); rotate_left; (focus simp only [Act.put, zs1, zs2, zs3, i64_w, i32_w]; rfl)
                    refine zp 7 53 (v := ?_) (a' := ?_) (bm 13 135) HT_.out (by kernel_rfl) ?_ ?_ ?_; rotate_left; (focus intro w'; go_simp; with_reducible rfl); rotate_left; (focus simp only [Act.put, zs1, zs2, zs3, i64_w, i32_w]; rfl)
                    refine zp 8 54 (v := ?_) (a' := ?_) (bm 13 391) HT_.out (by kernel_rfl) ?_ ?_ ?_; rotate_left; (focus intro w'; go_simp; with_reducible rfl); rotate_left; (focus simp only [Act.put, zs1, zs2, zs3, i64_w, i32_w]; rfl)
                    refine take_ (i := 3) (N := some 49) (v := ?_) (a' := ?_) (bm 13 399) rfl rfl (take_ofW HT_.out HW_.out (by kernel_rfl)) (fun _ _ _ h => h) (Or.inl ⟨by rfl, ?_⟩) hHeld ?_ ?_; rotate_left; (focus rintro w' ⟨s0, s1, s2, s3⟩; go_simp; with_reducible rfl); rotate_left; (focus simp only [Act.put, zs1, zs2, zs3, i64_w, i32_w]; rfl)
                    refine zp 4 50 (v := ?_) (a' := ?_) (bm 13 415) HT_.out (by kernel_rfl) ?_ ?_ ?_; rotate_left; (focus intro w'; go_simp; with_reducible rfl); rotate_left; (focus simp only [Act.put, zs1, zs2, zs3, i64_w, i32_w]; rfl)
                    refine zp 5 51 (v := ?_) (a' := ?_) (bm 13 447) HT_.out (by kernel_rfl) ?_ ?_ ?_; rotate_left; (focus intro w'; go_simp; with_reducible rfl); rotate_left; (focus simp only [Act.put, zs1, zs2, zs3, i64_w, i32_w]; rfl)
                    refine take_ (i := 6) (N := some 52) (v := ?_) (a' := ?_) (bm 13 511) rfl rfl (take_ofW HT_.out HW_.out (by kernel_rfl)) (fun _ _ _ h => h) (Or.inl ⟨by rfl, ?_⟩) hHeld ?_ ?_; rotate_left; (focus rintro w' ⟨s0, s1, s2, s3⟩; go_simp; with_reducible rfl); rotate_left; (focus simp only [Act.put, zs1, zs2, zs3, i64_w, i32_w]; rfl)
                    refine take_ (i := 9) (N := some 55) (v := ?_) (a' := ?_) (bm 13 1023) rfl rfl (take_ofW HT_.out HW_.out (by kernel_rfl)) (fun _ _ _ h => h) (Or.inl ⟨by rfl, ?_⟩) hHeld ?_ ?_; rotate_left; (focus rintro w' ⟨s0, s1, s2, s3⟩; go_simp; with_reducible rfl); rotate_left; (focus simp only [Act.put, zs1, zs2, zs3, i64_w, i32_w]; rfl)
                    refine zp 10 56 (v := ?_) (a' := ?_) (bm 13 2047) HT_.out (by kernel_rfl) ?_ ?_ ?_; rotate_left; (focus intro w'; go_simp; with_reducible rfl); rotate_left; (focus simp only [Act.put, zs1, zs2, zs3, i64_w, i32_w]; rfl)
                    refine zp 11 57 (v := ?_) (a' := ?_) (bm 13 4095) HT_.out (by kernel_rfl) ?_ ?_ ?_; rotate_left; (focus intro w'; go_simp; with_reducible rfl); rotate_left; (focus simp only [Act.put, zs1, zs2, zs3, i64_w, i32_w]; rfl)
                    refine last_ (i := 12) (N := none) (bm 13 8191) rfl rfl (one_of HT_.out (by kernel_rfl)) (by decide) (fun K hK => ?_)
                    refine skip_ (w1 := ?_) (by rfl) rfl ?_ ?_
                    rotate_left
                    ·go_simp
                     rfl
                    refine hK.out _ _ ?_
                    clear hK K
                    refine done_ (done_of HT_.out (by kernel_rfl)) ?_
                    try go_wp2
                    (try simp only [← hl5_3])
                    go_roundg k3
                    case measure => have := HK1.out; have := HK2.out; have := HK3.out; omega
                    case rel => exact ⟨(y152), (wrap64 (x42_3 + 1)), (by first | rfl | (simp; done) | (simp [*]; done)), H', ⟨by have := HK1.out; have := HK2.out; have := HK3.out; omega⟩, ⟨by (try simp only [hl5_1]); (try simp only [hl5_2]); (try simp only [hl5_3]); (with_reducible repeat (first | apply Kd.S_alloc | apply Kd.S_drewN | apply Kd.S_drew)); exact HQ48.out⟩, ⟨by (try simp only [hl5_1]); (try simp only [hl5_2]); (try simp only [hl5_3]); (with_reducible repeat (first | apply Kd.R_alloc | apply Kd.R_drewN | apply Kd.R_drew)); exact Kd.R_mono (Kd.R_far (p := ⟨go46, ((ji43) : Int).toNat, none⟩) (Kd.R_types HO_40.out GG46.out (by decide)) (fun _ hk => hk.2) (.bool true)) (fun _ hk => trivial)⟩, ⟨by (try simp only [hl5_1]); (try simp only [hl5_2]); (try simp only [hl5_3]); (with_reducible repeat (first | refine blk_alloc ?_ _ | refine blk_drewN ?_ _ | refine blk_drew ?_)); refine blk_far ?_ (by have h_ := Kd.R_ne HL149_0.out BK134.out (by decide); intro e_; exact h_ (by rw [e_]; rfl)) _; (with_reducible repeat (first | refine blk_alloc ?_ _ | refine blk_drewN ?_ _ | refine blk_drew ?_)); exact BK134.out⟩, ⟨by (try simp only [hl5_1]); (try simp only [hl5_2]); (try simp only [hl5_3]); (with_reducible repeat (first | refine blk_alloc ?_ _ | refine blk_drewN ?_ _ | refine blk_drew ?_)); refine blk_far ?_ (by have h_ := Kd.R_ne HL149_0.out BK144.out (by decide); intro e_; exact h_ (by rw [e_]; rfl)) _; (with_reducible repeat (first | refine blk_alloc ?_ _ | refine blk_drewN ?_ _ | refine blk_drew ?_)); exact BK144.out⟩, ⟨by repeat (first | (with_reducible first | exact HB.out | apply below_alloc | apply pw_below_drewN | apply below_drew1 | refine below_set ?_ GB46.out | refine below_set ?_ GE134.out | refine below_set ?_ GE144.out) | exact HB.out)⟩⟩
                   rw [if_neg c45] at H
                   exact absurd H (by simp)
                  rw [if_neg c44] at H
                  exact absurd H (by simp)
                 rw [if_neg c42] at H
                 exact absurd H (by simp)
                rw [if_neg c41] at H
                exact absurd H (by simp)
               rw [if_neg c38] at H
               exact absurd H (by simp)
              rw [if_neg c37] at H
              exact absurd H (by simp)
             rw [if_neg c36] at H
             have c36b0 : decide (x42_3 < (t145.length : Int)) = false := decide_eq_false c36
             (try (have c36b0z0 := c36b0; rw [hl5_1] at c36b0z0))
             (try (have c36b0z1 := c36b0; rw [hl5_2] at c36b0z1))
             (try (have c36b0z2 := c36b0; rw [hl5_3] at c36b0z2))
             clear c36
             have H' := zm H
             clear H
             go_wp2
             (try simp only [← hl5_2, ← hl5_3])
             go_roundg k3
             case measure => have := HK1.out; have := HK2.out; have := HK3.out; omega
             case rel => exact ⟨(x5_3), (wrap64 (x34_2 + 1)), (by first | rfl | (simp; done) | (simp [*]; done)), H', ⟨by have := HK1.out; have := HK2.out; have := HK3.out; omega⟩, ⟨by (try simp only [hl5_1]); (try simp only [hl5_2]); (try simp only [hl5_3]); (with_reducible repeat (first | apply Kd.S_alloc | apply Kd.S_drewN | apply Kd.S_drew)); exact HO_5.out⟩, ⟨by (try simp only [hl5_1]); (try simp only [hl5_2]); (try simp only [hl5_3]); (with_reducible repeat (first | refine blk_alloc ?_ _ | refine blk_drewN ?_ _ | refine blk_drew ?_)); exact BK134.out⟩, ⟨by repeat (first | (with_reducible first | exact HB.out | apply below_alloc | apply pw_below_drewN | apply below_drew1 | refine below_set ?_ GE134.out | refine below_set ?_ GE144.out) | exact HB.out)⟩⟩
          rw [if_neg c28] at H
          exact absurd H (by simp)
         rw [if_neg c27] at H
         exact absurd H (by simp)
        rw [if_neg c26] at H
        have c26b0 : decide (x34_2 < (l1.length : Int)) = false := decide_eq_false c26
        (try (have c26b0z0 := c26b0; rw [hl5_1] at c26b0z0))
        (try (have c26b0z1 := c26b0; rw [hl5_2] at c26b0z1))
        (try (have c26b0z2 := c26b0; rw [hl5_3] at c26b0z2))
        clear c26
        obtain rfl := Option.some.inj H
        go_wp2
        go_ret
        exact ⟨_, by first | rfl | (simp [errW_none, errW_some] <;> rfl) | (simp only [← hji5]; first | rfl | (simp [errW_none, errW_some] <;> rfl)) | (simp [*, errW_none, errW_some] <;> rfl), by (with_reducible repeat (first | apply Kd.S_alloc | apply Kd.S_drewN | apply Kd.S_drew)); exact HO_5.out, by repeat (first | (with_reducible first | exact HB.out | apply below_alloc | apply pw_below_drewN | apply below_drew1 | refine below_set ?_ GE134.out) | exact HB.out)⟩
   rw [if_neg c7] at H
   exact absurd H (by simp)
  rw [if_neg c6] at H
  exact absurd H (by simp)
 replace c4 := Bool.eq_false_iff.mpr c4
 subst c4
 have H1 : (some ([] : List (List Bool))) = some r := by rw [if_neg (show ¬ (false = true) by decide)] at H; exact H
 clear H
 have H := H1
 clear H1
 obtain rfl := Option.some.inj H
 go_enter Try.func38, Try.ntmps38
 go_wp2_with (first | ((with_reducible refine gate_dst (N := 2) rfl ?_); refine box_event ?hg (N := 2) ?hd (cs := #[.int .i64 a0_0, .int .i64 a0_1, .int .i64 a0_2]) (t := 23) ?hr ?_; (case hd => rfl); (case hg => rfl); (case hr => go_simp; try rfl); intro gb134 hg w50 hbox hb; have BK134 := zm (hbox); have GW134 := zm ((by rw [hg]; exact (below_size (by repeat (first | (with_reducible first | exact HB.out | apply below_alloc | apply pw_below_drewN | apply below_drew1) | exact HB.out))) : w.heap.size ≤ gb134)); have GE134 := GW134; replace HB := zm (below_step (by repeat (first | (with_reducible first | exact HB.out | apply below_alloc | apply pw_below_drewN | apply below_drew1) | exact HB.out)) hb); clear hb hbox hg; obtain ⟨hcz51_0, hcz51_1, hcz51_2, hfz51_0, hfz51_1, hfz51_2⟩ := zf3 BK134.out) | ((with_reducible refine gate_callee (f := 39) rfl ?_); refine goesL_ (some 12) rfl rfl Try.func39 (by kernel_rfl) rfl #[.agg #[.int .i64 a0_0, .int .i64 a0_1, .int .i64 a0_2]] rfl (by (try simp only [zt1, zt2, zt3]) <;> rfl) ?_; (with_reducible refine (when_RightGrid.calls a0_0 a0_1 a0_2 false _ A3.out).mono ?_); rintro e w52 ⟨rfl, hb⟩; refine ⟨_, rfl, ?_⟩; replace BK134 := zm (blk_below (by apply_rules [BK134.out, zk1, zk2, zk3]) hb); replace HB := zm (below_step (by repeat (first | (with_reducible first | exact HB.out | apply below_alloc | apply pw_below_drewN | apply below_drew1 | refine below_set ?_ GE134.out) | exact HB.out)) hb); (try clear hb)))
 go_ret
 exact ⟨_, by first | rfl | (simp [errW_none, errW_some] <;> rfl) | (simp [*, errW_none, errW_some] <;> rfl), by first | exact Kd.S_nil _ _ _ _ _ | exact Kd.N_nil _ _ _ _ _ | exact Kd.V_nil _ _ _ _ _ | exact Kd.Q_nil _ _ _ _ _ | exact Kd.R_nil _ _ _ _ _, by repeat (first | (with_reducible first | exact HB.out | apply below_alloc | apply pw_below_drewN | apply below_drew1 | refine below_set ?_ GE134.out) | exact HB.out)⟩
end Go.Proofs.Ytlfnpakpkniipaa.Q
