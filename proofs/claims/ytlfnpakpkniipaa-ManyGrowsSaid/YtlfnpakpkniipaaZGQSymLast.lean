/- Words for the claim. -/
import Derived.Test.YtlfnpakpkniipaaZGQSymOne
set_option linter.unusedVariables false
set_option linter.unusedSimpArgs false
namespace Go.Proofs.Ytlfnpakpkniipaa.Q
open Go.RowKit Go.Proofs.YtlfnpakpkniipaaW.PrintWords Go.Proofs.YtlfnpakpkniipaaW.PrintLast Go.Proofs.YtlfnpakpkniipaaW.PrintMore
attribute [local go_sem] max2_int min2_int max_two min_two max_three min_three max_four min_four
set_option maxHeartbeats 8000000 in
set_option maxRecDepth 100000 in
theorem symLast_calls {base g cap : Nat} {ok : Nat → Prop} (P U : List S49) (y : S49) (S : List S49) (hU : 2 ≤ U.length) (hA : Asc U) (w : World) (n : Nat) (hn : n = (P ++ U ++ y :: S).length) (hn6 : n ≤ 1000000) (hR : Kd.R k49 49 w base ok (.slice (some ⟨g, 0, none⟩) n cap) (P ++ U ++ y :: S)) :
    Calls Try.prog 60 #[.slice (some ⟨g, 0, none⟩) n cap, .int .i64 (P.length : Nat), .int .i64 ((P.length + U.length : Nat) : Int), .int .i64 ((P.length + U.length + 1 : Nat) : Int), .func (.func 47) #[] #[]] w fun ex w' => ex = .returned (.tuple #[]) ∧ Kd.R k49 49 w' base ok (.slice (some ⟨g, 0, none⟩) n cap) (P ++ smerge U [y] ++ S) ∧ w.grownBy w' (some g) := by
  have hu49 := Try.underlying49
  have hl : P.length + U.length + 1 ≤ n := by rw [hn]; simp; omega
  have HR0 := Aside0.mk hR
  have HG0 := Aside0.mk (grown_of_below (Below.refl w.heap.size w) (some g))
  have hy : wat (P ++ U ++ y :: S) (P.length + U.length) = y := by rw [← List.length_append]; exact wat_at _ _ _
  have hx : ∀ q, q < U.length → wat (P ++ U ++ y :: S) (P.length + q) = wat U q := fun q hq => by
    rw [List.append_assoc, wat_app_right, wat_app_left hq]
  clear hR
  obtain ⟨a, ha⟩ : ∃ a, P.length = a := ⟨_, rfl⟩
  obtain ⟨m, hm⟩ : ∃ m, P.length + U.length = m := ⟨_, rfl⟩
  obtain ⟨b, hb⟩ : ∃ b, P.length + U.length + 1 = b := ⟨_, rfl⟩
  obtain ⟨k, hk⟩ : ∃ k, U.length = k := ⟨_, rfl⟩
  rw [hb, hm, ha]
  rw [hm] at hy
  rw [ha] at hx
  have w1 : wrap64 ((m : Int) - (a : Int)) = (k : Int) := by
    have : (m : Int) - (a : Int) = ((k : Nat) : Int) := by omega
    exact wn (y := k) this (by omega)
  have w2 : wrap64 ((b : Int) - (m : Int)) = 1 := by
    have : (b : Int) - (m : Int) = ((1 : Nat) : Int) := by omega
    exact wn (y := 1) this (by omega)
  have w3 : ((k : Int) == 1) = false := by rw [beq_eq_false_iff_ne]; omega
  have w4 : (k = 1) = False := eq_false (by omega)
  have w5 : ((k : Int) = 1) = False := eq_false (by omega)
  have ham : a + k = m := by rw [← ha, ← hk]; exact hm
  have hmb : m + 1 = b := by rw [← hm]; exact hb
  have hbn : b ≤ n := by rw [← hb]; exact hl
  have HX := Aside0.mk hx
  have HY := Aside0.mk hy
  have HA := Aside0.mk ha
  have HK := Aside0.mk hk
  have HAM := Aside0.mk ham
  have HMB := Aside0.mk hmb
  have HBN := Aside0.mk hbn
  have HN := Aside0.mk hn6
  clear ha hm hb hk hl hx hy hn ham hmb hbn hU
  go_enter Try.func60, Try.ntmps60
  go_wp2
  clear w1 w2 w3 w4 w5
  go_loopg [14, 15, 16] k (fun g1 vi vj vh wr => ∃ (i j : Nat), vi = .int .i64 (i : Int) ∧ vj = .int .i64 (j : Int) ∧ Aside0 (a ≤ i ∧ i ≤ j ∧ j ≤ m ∧ j - i ≤ g1) ∧ Aside0 ((∀ q, a + q < i → wlt y (wat U q) = false) ∧ (∀ q, j ≤ a + q → q < k → wlt y (wat U q) = true)) ∧ Aside0 (Kd.R k49 49 wr base ok (.slice (some ⟨g, 0, none⟩) n cap) (P ++ U ++ y :: S)) ∧ Aside0 (w.grownBy wr (some g)))
  case atStart => exact ⟨a, m, rfl, rfl, ⟨by have := HAM.out; omega⟩, ⟨fun q hq => by omega, fun q h1 h2 => by have := HAM.out; omega⟩, HR0, HG0⟩
  case round =>
    clear HR0 HG0
    obtain ⟨i, j, rfl, rfl, HI, HF, HR, HG⟩ := hrel
    by_cases hlt : i < j
    · obtain ⟨h, hh⟩ : ∃ h, (i + j) / 2 = h := ⟨_, rfl⟩
      have hij9 : i + j ≤ 9000000 := by have := HI.out; have := HMB.out; have := HBN.out; have := HN.out; omega
      have hih : i ≤ h := by omega
      have hhj : h < j := by omega
      have hah : a ≤ h := by have := HI.out; omega
      have hhm : h < m := by have := HI.out; omega
      have hh9 : h + 1 ≤ 9000000 := by omega
      obtain ⟨t, ht⟩ : ∃ t, a + t = h := ⟨h - a, by omega⟩
      have htk : t < k := by have := HAM.out; omega
      obtain ⟨x, hx⟩ : ∃ x, wat U t = x := ⟨_, rfl⟩
      obtain ⟨d0, d1, d2, d3⟩ := row_cells HR.out (j := m) (by have := HMB.out; have := HBN.out; omega)
      obtain ⟨c0, c1, c2, c3⟩ := row_cells HR.out (j := h) (by have := HMB.out; have := HBN.out; omega)
      rw [HY.out] at d0 d1 d2 d3
      rw [← ht, HX.out t (by rw [HK.out]; exact htk), hx, ht] at c0 c1 c2 c3
      obtain ⟨r, hr⟩ : ∃ r, m = h + 1 + r := ⟨m - h - 1, by omega⟩
      obtain ⟨p, hp⟩ : ∃ p, h * 4 = p := ⟨_, rfl⟩
      obtain ⟨q, hq⟩ : ∃ q, r * 4 = q := ⟨_, rfl⟩
      have hp4 : m * 4 = p + 4 + q := by omega
      rw [hp] at c0 c1 c2 c3
      rw [hp4] at d0 d1 d2 d3
      have n1 : ((m : Nat) : Int) < (n : Int) := by have := HMB.out; have := HBN.out; omega
      have n2 : ((h : Nat) : Int) < (n : Int) := by have := HMB.out; have := HBN.out; omega
      have m1 : (m < n) = True := eq_true (by have := HMB.out; have := HBN.out; omega)
      have m2 : (h < n) = True := eq_true (by have := HMB.out; have := HBN.out; omega)
      have f1 : wrap64 ((i : Int) + (j : Int)) = ((i + j : Nat) : Int) := add_nat hij9
      have f2 : wrap64 (IntKind.u64.wrap ((i : Int) + (j : Int)) / 2) = (h : Int) := by
        have e : IntKind.u64.wrap ((i : Int) + (j : Int)) = ((i + j : Nat) : Int) := uwrap_nat rfl hij9
        rw [e, half_nat, hh]
        exact wn rfl (Nat.le_of_succ_le hh9)
      have f3 : (i < j) = True := eq_true hlt
      have f4 : wrap64 ((h : Int) + 1) = ((h + 1 : Nat) : Int) := wn rfl hh9
      have HLT := Aside0.mk hlt
      have HH := Aside0.mk (And.intro hih (And.intro hhj (And.intro ht (And.intro htk hx))))
      clear hh hh9 hlt hih hhj hah hhm hij9 hr hq ht htk hx
      cases hw : wlt y x
      · go_wp2
        go_region_held3 (fun W' : World => W'.cell? ⟨g, p, none⟩ = some (.int .u32 x.f0) ∧ W'.cell? ⟨g, p + 1, none⟩ = some (.int .u8 x.f1) ∧ W'.cell? ⟨g, p + 2, none⟩ = some (.int .i64 x.f2) ∧ W'.cell? ⟨g, p + 3, none⟩ = some (.int .i64 x.f3) ∧ W'.cell? ⟨g, p + 4 + q, none⟩ = some (.int .u32 y.f0) ∧ W'.cell? ⟨g, p + 4 + q + 1, none⟩ = some (.int .u8 y.f1) ∧ W'.cell? ⟨g, p + 4 + q + 2, none⟩ = some (.int .i64 y.f2) ∧ W'.cell? ⟨g, p + 4 + q + 3, none⟩ = some (.int .i64 y.f3)) (first | exact ⟨c0, c1, c2, c3, d0, d1, d2, d3⟩ | exact ⟨pw_cell_below hb c0, pw_cell_below hb c1, pw_cell_below hb c2, pw_cell_below hb c3, pw_cell_below hb d0, pw_cell_below hb d1, pw_cell_below hb d2, pw_cell_below hb d3⟩) (first | (go_at_call 47; refine (on1_calls y x _).mono ?_; rintro ex w5 ⟨r, rfl, hr, hb⟩; rw [hw] at hr; have HR5 := Aside0.mk (Kd.R_below (Kd.R_drew HR.out) hb); have HG5 := Aside0.mk (grown_trans (grown_trans HG.out (grown_drew _)) (grown_of_below hb (some g)))))
        have hrl : (r < 0) = False := eq_false (of_decide_eq_false hr)
        clear hb
        go_wp2
        go_roundg (j - (h + 1))
        case measure => clear f1 f2 f4; have := HI.out; have := HH.out; have := HLT.out; omega
        case rel => exact ⟨h + 1, j, by first | rfl | rw [f4], rfl, ⟨by clear f1 f2 f4; have := HI.out; have := HH.out; omega⟩, ⟨fun q' h1 => by
          clear f1 f2 f4
          have hx' := HH.out
          rcases Nat.lt_or_ge (a + q') i with h3 | h3
          · exact HF.out.1 q' h3
          · have h4 := hA.le (i := q') (j := t) (by omega) (by rw [HK.out]; exact hx'.2.2.2.1)
            rw [hx'.2.2.2.2] at h4
            exact wlt_le_le h4 (by rw [hw]), HF.out.2⟩, HR5, HG5⟩
      · go_wp2
        go_region_held3 (fun W' : World => W'.cell? ⟨g, p, none⟩ = some (.int .u32 x.f0) ∧ W'.cell? ⟨g, p + 1, none⟩ = some (.int .u8 x.f1) ∧ W'.cell? ⟨g, p + 2, none⟩ = some (.int .i64 x.f2) ∧ W'.cell? ⟨g, p + 3, none⟩ = some (.int .i64 x.f3) ∧ W'.cell? ⟨g, p + 4 + q, none⟩ = some (.int .u32 y.f0) ∧ W'.cell? ⟨g, p + 4 + q + 1, none⟩ = some (.int .u8 y.f1) ∧ W'.cell? ⟨g, p + 4 + q + 2, none⟩ = some (.int .i64 y.f2) ∧ W'.cell? ⟨g, p + 4 + q + 3, none⟩ = some (.int .i64 y.f3)) (first | exact ⟨c0, c1, c2, c3, d0, d1, d2, d3⟩ | exact ⟨pw_cell_below hb c0, pw_cell_below hb c1, pw_cell_below hb c2, pw_cell_below hb c3, pw_cell_below hb d0, pw_cell_below hb d1, pw_cell_below hb d2, pw_cell_below hb d3⟩) (first | (go_at_call 47; refine (on1_calls y x _).mono ?_; rintro ex w5 ⟨r, rfl, hr, hb⟩; rw [hw] at hr; have HR5 := Aside0.mk (Kd.R_below (Kd.R_drew HR.out) hb); have HG5 := Aside0.mk (grown_trans (grown_trans HG.out (grown_drew _)) (grown_of_below hb (some g)))))
        have hrl : (r < 0) = True := eq_true (of_decide_eq_true hr)
        clear hb
        go_wp2
        go_roundg (h - i)
        case measure => clear f1 f2 f4; have := HI.out; have := HH.out; have := HLT.out; omega
        case rel => exact ⟨i, h, rfl, rfl, ⟨by clear f1 f2 f4; have := HI.out; have := HH.out; omega⟩, ⟨HF.out.1, fun q' h1 h2 => by
          clear f1 f2 f4
          have hx' := HH.out
          rcases Nat.lt_or_ge (a + q') j with h3 | h3
          · have h4 := hA.le (i := t) (j := q') (by omega) (by rw [HK.out]; exact h2)
            rw [hx'.2.2.2.2] at h4
            exact wlt_lt_le hw h4
          · exact HF.out.2 q' h3 h2⟩, HR5, HG5⟩
    · obtain ⟨t, ht⟩ : ∃ t, a + t = i := ⟨i - a, by have := HI.out; omega⟩
      have htk : t ≤ k := by have := HI.out; have := HAM.out; omega
      have ho : smerge U [y] = U.take t ++ y :: U.drop t := last_ok (by rw [HK.out]; exact htk) (fun q hq => HF.out.1 q (by omega)) (fun q h1 h2 => HF.out.2 q (by have := HI.out; omega) (by rw [HK.out] at h2; exact h2))
      have HO := Aside0.mk ho
      have f3 : (i < j) = False := eq_false hlt
      have HR1 : Aside0 (Kd.R k49 49 wr base ok (.slice (some ⟨g, 0, none⟩) n cap) (mvL P y U S k)) := ⟨by rw [show mvL P y U S k = P ++ U ++ y :: S by rw [← HK.out]; simp [mvL]]; exact HR.out⟩
      have HIT := Aside0.mk ht
      have HTK := Aside0.mk htk
      clear ho ht htk hlt HI HF HR
      go_wp2
      go_loopg [17] (k - t) (fun g1 vc wr2 => ∃ (c s : Nat), vc = .int .i64 (c : Int) ∧ Aside0 (c = a + s ∧ t ≤ s ∧ s ≤ k ∧ s = t + g1) ∧ Aside0 (Kd.R k49 49 wr2 base ok (.slice (some ⟨g, 0, none⟩) n cap) (mvL P y U S s)) ∧ Aside0 (w.grownBy wr2 (some g)))
      case atStart => exact ⟨m, k, rfl, ⟨by have := HAM.out; have := HTK.out; omega⟩, HR1, HG⟩
      case round =>
        clear HR1 HG
        obtain ⟨c, s, rfl, HC, HR, HG⟩ := hrel
        by_cases hlt : t < s
        · obtain ⟨s', hs'⟩ : ∃ s', s = s' + 1 := ⟨s - 1, by omega⟩
          subst hs'
          obtain ⟨e, he⟩ : ∃ e, a + s' = e := ⟨_, rfl⟩
          have hce : c = e + 1 := by have := HC.out; omega
          obtain ⟨p, hp⟩ : ∃ p, e * 4 = p := ⟨_, rfl⟩
          have hp4 : c * 4 = p + 4 := by omega
          have st := mv_step (P := P) (S := S) (x := y) (V := U) (s := s') (by rw [HK.out]; have := HC.out; omega)
          rw [HA.out, he, ← hce] at st
          obtain ⟨x, hx⟩ : ∃ x, wat U s' = x := ⟨_, rfl⟩
          rw [hx] at st
          have ST := Aside0.mk st
          have hcn : c < n := by have := HC.out; have := HAM.out; have := HMB.out; have := HBN.out; omega
          obtain ⟨c0, c1, c2, c3⟩ := row_cells HR.out (j := e) (by omega)
          obtain ⟨d0, d1, d2, d3⟩ := row_cells HR.out (j := c) (by omega)
          rw [ST.out.2.2.2.2.2, hp] at c0 c1 c2 c3
          rw [ST.out.2.2.2.2.1, hp4] at d0 d1 d2 d3
          obtain ⟨cur, hcur⟩ := row_blk HR.out
          have e0 := blk_frozen hcur p
          have e1 := blk_frozen hcur (p + 1)
          have e2 := blk_frozen hcur (p + 2)
          have e3 := blk_frozen hcur (p + 3)
          have e4 := blk_frozen hcur (p + 4)
          have e5 := blk_frozen hcur (p + 5)
          have e6 := blk_frozen hcur (p + 6)
          have e7 := blk_frozen hcur (p + 7)
          have n1 : ((c : Nat) : Int) < (n : Int) := by omega
          have n2 : ((e : Nat) : Int) < (n : Int) := by omega
          have m1 : (c < n) = True := eq_true hcn
          have hen : e < n := by omega
          have m2 : (e < n) = True := eq_true hen
          have hc9 : e ≤ 9000000 := by have := HN.out; omega
          have hic : i < c := by have := HIT.out; omega
          have hd : (i < c) = True := eq_true hic
          have hd2 : decide ((c : Int) > (i : Int)) = true := decide_eq_true (Int.ofNat_lt.2 hic)
          have hcc : (c : Int) - 1 = (e : Int) := by omega
          have f2 : wrap64 ((c : Int) - 1) = (e : Int) := wn hcc hc9
          have hp1 : (c - 1) * 4 = p := by rw [hce, Nat.add_sub_cancel]; exact hp
          have HLT := Aside0.mk hlt
          have HE := Aside0.mk (And.intro he hce)
          have HCN := Aside0.mk hcn
          have HEN := Aside0.mk hen
          clear hcur hx st hcn hc9 hic hcc hlt he hce hen f3
          go_wp2
          go_region
          go_wp2
          have r1 := row_set HR.out (j := c) HCN.out x
          have r2 := row_set r1.1 (j := e) HEN.out y
          rw [ST.out.2.2.2.1, hp4, hp] at r2
          rw [hp4] at r1
          have g2 := grown_trans HG.out (grown_trans r1.2 r2.2)
          have rr := r2.1
          clear r1 r2
          go_roundg (s' - t)
          case measure => clear f2 hp1; have := HC.out; have := HLT.out; omega
          case rel => exact ⟨e, s', by first | rfl | (rw [f2]) | (congr 1; clear f2; have := HE.out; omega), ⟨by clear f2; have := HC.out; have := HE.out; have := HLT.out; omega⟩, ⟨Kd.R_drew rr⟩, ⟨grown_trans g2 (grown_drew _)⟩⟩
        · have hst : s = t := by have := HC.out; omega
          have hic : ¬ i < c := by have := HIT.out; have := HC.out; omega
          have hd : (i < c) = False := eq_false hic
          have hd2 : decide ((c : Int) > (i : Int)) = false := decide_eq_false (fun h => hic (Int.ofNat_lt.1 h))
          have HST := Aside0.mk hst
          clear hst hic hlt f3
          go_wp2
          (try simp only [Exit.inBlock, Exit.then])
          refine bodyPost_ret (results_none rfl _ _ _) rfl ?_
          refine ⟨rfl, ?_, HG.out⟩
          have e := HR.out
          unfold mvL at e
          rw [HST.out] at e
          rw [HO.out]
          simpa using e
end Go.Proofs.Ytlfnpakpkniipaa.Q
