/- Words for the claim. -/
import Derived.Test.YtlfnpakpkniipaaZGQSymPlain
set_option linter.unusedVariables false
set_option linter.unusedSimpArgs false
namespace Go.Proofs.Ytlfnpakpkniipaa.Q
open Go.RowKit Go.Proofs.YtlfnpakpkniipaaW.PrintWords Go.Proofs.YtlfnpakpkniipaaW.PrintLast Go.Proofs.YtlfnpakpkniipaaW.PrintMore
attribute [local go_sem] max2_int min2_int max_two min_two max_three min_three max_four min_four
theorem add_nat {i j : Nat} (h : i + j ≤ 9000000) : wrap64 ((i : Int) + (j : Int)) = ((i + j : Nat) : Int) := wn rfl h
theorem uwrap_nat {x : Int} {y : Nat} (h : x = (y : Int)) (hy : y ≤ 9000000) : IntKind.u64.wrap x = (y : Int) := by
  rw [h]
  simp [IntKind.wrap, IntKind.bits, IntKind.signed]
  omega
theorem half_nat (i j : Nat) : ((i + j : Nat) : Int) / 2 = (((i + j) / 2 : Nat) : Int) := by omega
def mvL (P : List S49) (x : S49) (V S : List S49) (s : Nat) : List S49 := P ++ V.take s ++ x :: V.drop s ++ S
theorem cut_at {V : List S49} {s : Nat} (h : s < V.length) : ∃ V2, V.drop s = wat V s :: V2 ∧ V.take (s + 1) = V.take s ++ [wat V s] ∧ V.drop (s + 1) = V2 ∧ (V.take s).length = s := by
  obtain ⟨b, B2, hB2⟩ : ∃ b B2, V.drop s = b :: B2 := by
    cases h' : V.drop s with
    | nil => have := congrArg List.length h'; simp at this; omega
    | cons a A2 => exact ⟨a, A2, rfl⟩
  have eb : V = V.take s ++ b :: B2 := by rw [← hB2, List.take_append_drop]
  have lb : (V.take s).length = s := List.length_take_of_le (Nat.le_of_lt h)
  have wb : wat V s = b := by
    have := wat_at (V.take s) b B2
    rw [← eb, lb] at this; exact this
  refine ⟨B2, by rw [wb]; exact hB2, ?_, by rw [← List.drop_drop, hB2]; rfl, lb⟩
  have h' := congrArg (List.take (s + 1)) eb
  rw [wb, h', List.take_append, lb, List.take_take, Nat.min_eq_right (by omega)]
  simp
theorem mv_step {P V S : List S49} {x : S49} {s : Nat} (h : s < V.length) :
    wat (mvL P x V S s) (P.length + s) = x ∧ wat (mvL P x V S s) (P.length + s + 1) = wat V s ∧ ((mvL P x V S s).set (P.length + s) (wat V s)).set (P.length + s + 1) x = mvL P x V S (s + 1) ∧
    ((mvL P x V S (s + 1)).set (P.length + s + 1) (wat V s)).set (P.length + s) x = mvL P x V S s ∧ wat (mvL P x V S (s + 1)) (P.length + s + 1) = x ∧ wat (mvL P x V S (s + 1)) (P.length + s) = wat V s := by
  obtain ⟨V2, h1, h2, h3, h4⟩ := cut_at h
  have l1 : (P ++ V.take s).length = P.length + s := by rw [List.length_append, h4]
  have l2 : ∀ z, (P ++ V.take s ++ [z]).length = P.length + s + 1 := fun z => by rw [List.length_append, l1]; rfl
  have f1 : mvL P x V S s = (P ++ V.take s) ++ x :: (wat V s :: V2 ++ S) := by unfold mvL; rw [h1]; simp
  have f2 : mvL P x V S (s + 1) = (P ++ V.take s) ++ wat V s :: (x :: V2 ++ S) := by unfold mvL; rw [h2, h3]; simp
  have f3 : ∀ z y, (P ++ V.take s) ++ z :: (y :: V2 ++ S) = (P ++ V.take s ++ [z]) ++ y :: (V2 ++ S) := fun z y => by simp
  refine ⟨?_, ?_, ?_, ?_, ?_, ?_⟩
  · rw [f1, ← l1, wat_at]
  · rw [f1, f3, ← l2 x, wat_at]
  · rw [f1, ← l1, set_at, f3, l1, ← l2 (wat V s), set_at, f2]; simp
  · rw [f2, f3, ← l2 (wat V s), set_at, ← f3, ← l1, set_at, f1]
  · rw [f2, f3, ← l2 (wat V s), wat_at]
  · rw [f2, ← l1, wat_at]
set_option maxHeartbeats 8000000 in
set_option maxRecDepth 100000 in
theorem symOne_calls {base g cap : Nat} {ok : Nat → Prop} (P : List S49) (x : S49) (V S : List S49) (hV : V ≠ []) (hA : Asc V) (w : World) (n : Nat) (hn : n = (P ++ x :: V ++ S).length) (hn6 : n ≤ 1000000) (hR : Kd.R k49 49 w base ok (.slice (some ⟨g, 0, none⟩) n cap) (P ++ x :: V ++ S)) :
    Calls Try.prog 60 #[.slice (some ⟨g, 0, none⟩) n cap, .int .i64 (P.length : Nat), .int .i64 ((P.length + 1 : Nat) : Int), .int .i64 ((P.length + 1 + V.length : Nat) : Int), .func (.func 47) #[] #[]] w fun ex w' => ex = .returned (.tuple #[]) ∧ Kd.R k49 49 w' base ok (.slice (some ⟨g, 0, none⟩) n cap) (P ++ smerge [x] V ++ S) ∧ w.grownBy w' (some g) := by
  have hu49 := Try.underlying49
  have hlv : 0 < V.length := by cases V with | nil => exact absurd rfl hV | cons => simp
  have hl : P.length + 1 + V.length ≤ n := by rw [hn]; simp; omega
  have HR0 := Aside0.mk hR
  have HG0 := Aside0.mk (grown_of_below (Below.refl w.heap.size w) (some g))
  have hx : wat (P ++ x :: V ++ S) P.length = x := by rw [List.append_assoc, List.cons_append]; exact wat_at _ _ _
  have hy : ∀ q, q < V.length → wat (P ++ x :: V ++ S) (P.length + 1 + q) = wat V q := fun q hq => by
    have e : P ++ x :: V ++ S = (P ++ [x]) ++ (V ++ S) := by simp
    have el : P.length + 1 = (P ++ [x]).length := by simp
    rw [e, el, wat_app_right, wat_app_left hq]
  clear hR hV
  obtain ⟨a, ha⟩ : ∃ a, P.length = a := ⟨_, rfl⟩
  obtain ⟨m, hm⟩ : ∃ m, P.length + 1 = m := ⟨_, rfl⟩
  obtain ⟨b, hb⟩ : ∃ b, P.length + 1 + V.length = b := ⟨_, rfl⟩
  obtain ⟨k, hk⟩ : ∃ k, V.length = k := ⟨_, rfl⟩
  rw [hb, hm, ha]
  rw [hm] at hy
  rw [ha] at hx
  have w1 : wrap64 ((m : Int) - (a : Int)) = 1 := by
    have : (m : Int) - (a : Int) = ((1 : Nat) : Int) := by omega
    exact wn (y := 1) this (by omega)
  have ham : a + 1 = m := by rw [← ha]; exact hm
  have hmb : m + k = b := by rw [← hm, ← hk]; exact hb
  have hbn : b ≤ n := by rw [← hb]; exact hl
  have HX := Aside0.mk hx
  have HY := Aside0.mk hy
  have HA := Aside0.mk ha
  have HK := Aside0.mk hk
  have HAM := Aside0.mk ham
  have HMB := Aside0.mk hmb
  have HBN := Aside0.mk hbn
  have HN := Aside0.mk hn6
  clear ha hm hb hk hlv hl hx hy hn ham hmb hbn
  go_enter Try.func60, Try.ntmps60
  go_wp2
  clear w1
  go_loopg [10, 11, 12] k (fun g1 vi vj vh wr => ∃ (i j : Nat), vi = .int .i64 (i : Int) ∧ vj = .int .i64 (j : Int) ∧ Aside0 (m ≤ i ∧ i ≤ j ∧ j ≤ b ∧ j - i ≤ g1) ∧ Aside0 ((∀ q, m + q < i → wlt (wat V q) x = true) ∧ (∀ q, j ≤ m + q → q < k → wlt (wat V q) x = false)) ∧ Aside0 (Kd.R k49 49 wr base ok (.slice (some ⟨g, 0, none⟩) n cap) (P ++ x :: V ++ S)) ∧ Aside0 (w.grownBy wr (some g)))
  case atStart => exact ⟨m, b, rfl, rfl, ⟨by have := HMB.out; omega⟩, ⟨fun q hq => by omega, fun q h1 h2 => by have := HMB.out; omega⟩, HR0, HG0⟩
  case round =>
    clear HR0 HG0
    obtain ⟨i, j, rfl, rfl, HI, HF, HR, HG⟩ := hrel
    by_cases hlt : i < j
    · obtain ⟨h, hh⟩ : ∃ h, (i + j) / 2 = h := ⟨_, rfl⟩
      have hij9 : i + j ≤ 9000000 := by have := HI.out; have := HBN.out; have := HN.out; omega
      have hih : i ≤ h := by omega
      have hhj : h < j := by omega
      have hmh : m ≤ h := by have := HI.out; omega
      have hhb : h < b := by have := HI.out; omega
      have hh9 : h + 1 ≤ 9000000 := by omega
      obtain ⟨t, ht⟩ : ∃ t, m + t = h := ⟨h - m, by omega⟩
      have htk : t < k := by have := HMB.out; omega
      obtain ⟨y, hy⟩ : ∃ y, wat V t = y := ⟨_, rfl⟩
      obtain ⟨c0, c1, c2, c3⟩ := row_cells HR.out (j := a) (by have := HAM.out; have := HMB.out; have := HBN.out; omega)
      obtain ⟨d0, d1, d2, d3⟩ := row_cells HR.out (j := h) (by have := HBN.out; omega)
      rw [HX.out] at c0 c1 c2 c3
      rw [← ht, HY.out t (by rw [HK.out]; exact htk), hy, ht] at d0 d1 d2 d3
      obtain ⟨r, hr⟩ : ∃ r, h = a + 1 + r := ⟨h - a - 1, by have := HAM.out; omega⟩
      obtain ⟨p, hp⟩ : ∃ p, a * 4 = p := ⟨_, rfl⟩
      obtain ⟨q, hq⟩ : ∃ q, r * 4 = q := ⟨_, rfl⟩
      have hp4 : h * 4 = p + 4 + q := by omega
      rw [hp] at c0 c1 c2 c3
      rw [hp4] at d0 d1 d2 d3
      have n1 : ((a : Nat) : Int) < (n : Int) := by have := HBN.out; omega
      have n2 : ((h : Nat) : Int) < (n : Int) := by have := HBN.out; omega
      have m1 : (a < n) = True := eq_true (by have := HBN.out; omega)
      have m2 : (h < n) = True := eq_true (by have := HBN.out; omega)
      have f1 : wrap64 ((i : Int) + (j : Int)) = ((i + j : Nat) : Int) := add_nat hij9
      have f2 : wrap64 (IntKind.u64.wrap ((i : Int) + (j : Int)) / 2) = (h : Int) := by
        have e : IntKind.u64.wrap ((i : Int) + (j : Int)) = ((i + j : Nat) : Int) := uwrap_nat rfl hij9
        rw [e, half_nat, hh]
        exact wn rfl (Nat.le_of_succ_le hh9)
      have f3 : (i < j) = True := eq_true hlt
      have f4 : wrap64 ((h : Int) + 1) = ((h + 1 : Nat) : Int) := wn rfl hh9
      have HLT := Aside0.mk hlt
      have HH := Aside0.mk (And.intro hih (And.intro hhj (And.intro ht (And.intro htk hy))))
      clear hh hh9 hlt hih hhj hmh hhb hij9 hr hq ht htk hy
      cases hw : wlt y x
      · go_wp2
        go_region_held3 (fun W' : World => W'.cell? ⟨g, p, none⟩ = some (.int .u32 x.f0) ∧ W'.cell? ⟨g, p + 1, none⟩ = some (.int .u8 x.f1) ∧ W'.cell? ⟨g, p + 2, none⟩ = some (.int .i64 x.f2) ∧ W'.cell? ⟨g, p + 3, none⟩ = some (.int .i64 x.f3) ∧ W'.cell? ⟨g, p + 4 + q, none⟩ = some (.int .u32 y.f0) ∧ W'.cell? ⟨g, p + 4 + q + 1, none⟩ = some (.int .u8 y.f1) ∧ W'.cell? ⟨g, p + 4 + q + 2, none⟩ = some (.int .i64 y.f2) ∧ W'.cell? ⟨g, p + 4 + q + 3, none⟩ = some (.int .i64 y.f3)) (first | exact ⟨c0, c1, c2, c3, d0, d1, d2, d3⟩ | exact ⟨pw_cell_below hb c0, pw_cell_below hb c1, pw_cell_below hb c2, pw_cell_below hb c3, pw_cell_below hb d0, pw_cell_below hb d1, pw_cell_below hb d2, pw_cell_below hb d3⟩) (first | (go_at_call 47; refine (on1_calls y x _).mono ?_; rintro ex w5 ⟨r, rfl, hr, hb⟩; rw [hw] at hr; have HR5 := Aside0.mk (Kd.R_below (Kd.R_drew HR.out) hb); have HG5 := Aside0.mk (grown_trans (grown_trans HG.out (grown_drew _)) (grown_of_below hb (some g)))))
        have hrl : (r < 0) = False := eq_false (of_decide_eq_false hr)
        clear hb
        go_wp2
        go_roundg (h - i)
        case measure => clear f1 f2 f4; have := HI.out; have := HH.out; have := HLT.out; omega
        case rel => exact ⟨i, h, rfl, rfl, ⟨by clear f1 f2 f4; have := HI.out; have := HH.out; omega⟩, ⟨HF.out.1, fun q' h1 h2 => by
          clear f1 f2 f4
          have hx' := HH.out
          rcases Nat.lt_or_ge (m + q') j with h3 | h3
          · have h4 := hA.le (i := t) (j := q') (by omega) (by rw [HK.out]; exact h2)
            rw [hx'.2.2.2.2] at h4
            exact wlt_le_le (by rw [hw]) h4
          · exact HF.out.2 q' h3 h2⟩, HR5, HG5⟩
      · go_wp2
        go_region_held3 (fun W' : World => W'.cell? ⟨g, p, none⟩ = some (.int .u32 x.f0) ∧ W'.cell? ⟨g, p + 1, none⟩ = some (.int .u8 x.f1) ∧ W'.cell? ⟨g, p + 2, none⟩ = some (.int .i64 x.f2) ∧ W'.cell? ⟨g, p + 3, none⟩ = some (.int .i64 x.f3) ∧ W'.cell? ⟨g, p + 4 + q, none⟩ = some (.int .u32 y.f0) ∧ W'.cell? ⟨g, p + 4 + q + 1, none⟩ = some (.int .u8 y.f1) ∧ W'.cell? ⟨g, p + 4 + q + 2, none⟩ = some (.int .i64 y.f2) ∧ W'.cell? ⟨g, p + 4 + q + 3, none⟩ = some (.int .i64 y.f3)) (first | exact ⟨c0, c1, c2, c3, d0, d1, d2, d3⟩ | exact ⟨pw_cell_below hb c0, pw_cell_below hb c1, pw_cell_below hb c2, pw_cell_below hb c3, pw_cell_below hb d0, pw_cell_below hb d1, pw_cell_below hb d2, pw_cell_below hb d3⟩) (first | (go_at_call 47; refine (on1_calls y x _).mono ?_; rintro ex w5 ⟨r, rfl, hr, hb⟩; rw [hw] at hr; have HR5 := Aside0.mk (Kd.R_below (Kd.R_drew HR.out) hb); have HG5 := Aside0.mk (grown_trans (grown_trans HG.out (grown_drew _)) (grown_of_below hb (some g)))))
        have hrl : (r < 0) = True := eq_true (of_decide_eq_true hr)
        clear hb
        go_wp2
        go_roundg (j - (h + 1))
        case measure => clear f1 f2 f4; have := HI.out; have := HH.out; have := HLT.out; omega
        case rel => exact ⟨h + 1, j, by first | rfl | rw [f4], rfl, ⟨by clear f1 f2 f4; have := HI.out; have := HH.out; omega⟩, ⟨fun q' h1 => by
          clear f1 f2 f4
          have hx' := HH.out
          rcases Nat.lt_or_ge (m + q') i with h3 | h3
          · exact HF.out.1 q' h3
          · have h4 := hA.le (i := q') (j := t) (by omega) (by rw [HK.out]; exact hx'.2.2.2.1)
            rw [hx'.2.2.2.2] at h4
            exact wlt_le_lt h4 (by rw [hw]), HF.out.2⟩, HR5, HG5⟩
    · obtain ⟨t, ht⟩ : ∃ t, m + t = i := ⟨i - m, by have := HI.out; omega⟩
      have htk : t ≤ k := by have := HI.out; have := HMB.out; omega
      have hit : i = a + t + 1 := by have := HAM.out; omega
      have ho : smerge [x] V = V.take t ++ x :: V.drop t := one_ok (by rw [HK.out]; exact htk) (fun q hq => HF.out.1 q (by omega)) (fun q h1 h2 => HF.out.2 q (by have := HI.out; omega) (by rw [HK.out] at h2; exact h2))
      have HO := Aside0.mk ho
      have f3 : (i < j) = False := eq_false hlt
      have HR1 : Aside0 (Kd.R k49 49 wr base ok (.slice (some ⟨g, 0, none⟩) n cap) (mvL P x V S 0)) := ⟨by rw [show mvL P x V S 0 = P ++ x :: V ++ S by simp [mvL]]; exact HR.out⟩
      have HIT := Aside0.mk hit
      have HTK := Aside0.mk htk
      clear ho ht htk hit hlt HI HF HR
      go_wp2
      go_loopg [13] t (fun g1 vc wr2 => ∃ (c s : Nat), vc = .int .i64 (c : Int) ∧ Aside0 (c = a + s ∧ s ≤ t ∧ s + g1 = t) ∧ Aside0 (Kd.R k49 49 wr2 base ok (.slice (some ⟨g, 0, none⟩) n cap) (mvL P x V S s)) ∧ Aside0 (w.grownBy wr2 (some g)))
      case atStart => exact ⟨a, 0, rfl, ⟨by omega⟩, HR1, HG⟩
      case round =>
        clear HR1 HG
        obtain ⟨c, s, rfl, HC, HR, HG⟩ := hrel
        by_cases hlt : s < t
        · obtain ⟨p, hp⟩ : ∃ p, c * 4 = p := ⟨_, rfl⟩
          have hp4 : (c + 1) * 4 = p + 4 := by omega
          have st := mv_step (P := P) (S := S) (x := x) (show s < V.length by rw [HK.out]; have := HTK.out; omega)
          rw [HA.out, ← HC.out.1] at st
          obtain ⟨y, hy⟩ : ∃ y, wat V s = y := ⟨_, rfl⟩
          rw [hy] at st
          have ST := Aside0.mk st
          have hcn : c + 1 < n := by have := HC.out; have := HTK.out; have := HAM.out; have := HMB.out; have := HBN.out; omega
          obtain ⟨c0, c1, c2, c3⟩ := row_cells HR.out (j := c) (by omega)
          obtain ⟨d0, d1, d2, d3⟩ := row_cells HR.out (j := c + 1) (by omega)
          rw [ST.out.1, hp] at c0 c1 c2 c3
          rw [ST.out.2.1, hp4] at d0 d1 d2 d3
          obtain ⟨cur, hcur⟩ := row_blk HR.out
          have e0 := blk_frozen hcur p
          have e1 := blk_frozen hcur (p + 1)
          have e2 := blk_frozen hcur (p + 2)
          have e3 := blk_frozen hcur (p + 3)
          have e4 := blk_frozen hcur (p + 4)
          have e5 := blk_frozen hcur (p + 5)
          have e6 := blk_frozen hcur (p + 6)
          have e7 := blk_frozen hcur (p + 7)
          have n1 : ((c : Nat) : Int) < (n : Int) := by omega
          have n2 : ((c + 1 : Nat) : Int) < (n : Int) := by omega
          have m1 : (c < n) = True := eq_true (by omega)
          have m2 : (c + 1 < n) = True := eq_true hcn
          have hc9 : c + 1 ≤ 9000000 := by have := HN.out; omega
          have hci : (c : Int) < ((a + t : Nat) : Int) := by have := HC.out; omega
          have hd : decide ((c : Int) < ((a + t : Nat) : Int)) = true := decide_eq_true hci
          obtain ⟨z, hz⟩ : ∃ z, a + t = z := ⟨_, rfl⟩
          have hzi : (i : Int) - 1 = (z : Int) := by have := HIT.out; omega
          have hz9 : z ≤ 9000000 := by have := HIT.out; have := HTK.out; have := HAM.out; have := HMB.out; have := HBN.out; have := HN.out; omega
          rw [hz] at hd hci
          have hcz : (c < z) = True := eq_true (Int.ofNat_lt.1 hci)
          have f1 : wrap64 ((i : Int) - 1) = (z : Int) := wn hzi hz9
          have f2 : wrap64 ((c : Int) + 1) = ((c + 1 : Nat) : Int) := wn rfl hc9
          have HLT := Aside0.mk hlt
          clear hcur hy st hcn hc9 hci hz hzi hz9 hlt f3
          go_wp2
          go_region
          go_wp2
          have r1 := row_set HR.out (j := c) (by clear f1 f2; omega) y
          have r2 := row_set r1.1 (j := c + 1) (by clear f1 f2; omega) x
          rw [ST.out.2.2.1, hp4, hp] at r2
          rw [hp] at r1
          have g2 := grown_trans HG.out (grown_trans r1.2 r2.2)
          have rr := r2.1
          clear r1 r2
          go_roundg (t - s - 1)
          case measure => clear f1 f2; have := HC.out; have := HLT.out; omega
          case rel => exact ⟨c + 1, s + 1, by first | rfl | (rw [f2]), ⟨by clear f1 f2; have := HC.out; have := HLT.out; omega⟩, ⟨Kd.R_drew rr⟩, ⟨grown_trans g2 (grown_drew _)⟩⟩
        · have hst : s = t := by have := HC.out; omega
          have hcz : c = a + t := by rw [← hst]; exact HC.out.1
          have hzi : (i : Int) - 1 = (c : Int) := by have := HIT.out; omega
          have hz9 : c ≤ 9000000 := by have := HIT.out; have := HTK.out; have := HAM.out; have := HMB.out; have := HBN.out; have := HN.out; omega
          have f1 : wrap64 ((i : Int) - 1) = (c : Int) := wn hzi hz9
          have HST := Aside0.mk hst
          clear hst hcz hzi hz9 hlt f3
          go_wp2
          (try simp only [Exit.inBlock, Exit.then])
          refine bodyPost_ret (results_none rfl _ _ _) rfl ?_
          refine ⟨rfl, ?_, HG.out⟩
          have e := HR.out
          unfold mvL at e
          rw [HST.out] at e
          rw [HO.out]
          simpa using e
end Go.Proofs.Ytlfnpakpkniipaa.Q
