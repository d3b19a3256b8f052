/- Words for the claim. -/
import Derived.Deep.RegionHeld3
import Derived.Test.YtlfnpakpkniipaaZGQx28
import Derived.Test.YtlfnpakpkniipaaZGWords
set_option linter.unusedVariables false
set_option linter.unusedSimpArgs false
namespace Go.Proofs.Ytlfnpakpkniipaa.Q
open Go.RowKit Go.Proofs.YtlfnpakpkniipaaW.PrintWords Go.Proofs.YtlfnpakpkniipaaW.PrintLast Go.Proofs.YtlfnpakpkniipaaW.PrintMore
attribute [local go_sem] max2_int min2_int max_two min_two max_three min_three max_four min_four
def wlt (x y : S49) : Bool := decide (x.f2 < y.f2) || (decide (x.f2 = y.f2) && decide (x.f3 < y.f3))
theorem on1_calls (x y : S49) (w : World) :
    Calls Try.prog 47 #[.agg #[.int .u32 x.f0, .int .u8 x.f1, .int .i64 x.f2, .int .i64 x.f3], .agg #[.int .u32 y.f0, .int .u8 y.f1, .int .i64 y.f2, .int .i64 y.f3]] w fun e w' => ∃ r : Int, e = .returned (.int .i64 r) ∧ decide (r < 0) = wlt x y ∧ Below w.heap.size w w' := by
  have key : ∃ r : Int, many_on_1.f 5 x.f0 x.f1 x.f2 x.f3 y.f0 y.f1 y.f2 y.f3 = some r ∧ decide (r < 0) = wlt x y := by
    have hc : ∀ a b : Int, cmp_Compare_int.f a b = some (if a < b then -1 else if b < a then 1 else 0) := by
      intro a b
      simp only [cmp_Compare_int.f, cmp_isNaN_int.f, Option.bind_some, bne_self_eq_false, Bool.false_eq_true, if_false, gt_iff_lt]
      split
      · rfl
      · split <;> rfl
    unfold many_on_1.f
    rw [hc, hc]
    simp only [Option.bind_some]
    have ho : ∀ a b : Int, cmp_Or_int.f 5 [a, b] = some (if a = 0 then b else a) := by
      intro a b
      unfold cmp_Or_int.f
      by_cases h1 : a = 0 <;> by_cases h2 : b = 0 <;> simp [cmp_Or_int.l0, rd, wrap64, h1, h2]
    rw [ho]
    refine ⟨_, rfl, ?_⟩
    unfold wlt
    rw [Bool.eq_iff_iff]
    simp only [decide_eq_true_eq, Bool.or_eq_true, Bool.and_eq_true]
    by_cases h1 : x.f2 < y.f2
    · rw [if_pos h1]; simp [h1]
    · by_cases h2 : y.f2 < x.f2
      · rw [if_neg h1, if_pos h2]; simp; omega
      · rw [if_neg h1, if_neg h2, if_pos rfl]
        by_cases h3 : x.f3 < y.f3
        · rw [if_pos h3]; simp [h3]; omega
        · rw [if_neg h3]
          by_cases h4 : y.f3 < x.f3
          · rw [if_pos h4]; simp; omega
          · rw [if_neg h4]; simp; omega
  obtain ⟨r, h1, h2⟩ := key
  refine (many_on_1.calls 5 _ _ _ _ _ _ _ _ r w h1).mono ?_
  rintro e w' ⟨rfl, hb⟩
  exact ⟨r, rfl, h2, hb⟩
def wat (xs : List S49) (j : Nat) : S49 := xs.getD j z49
def wswap (xs : List S49) (j : Nat) : List S49 := (xs.set (j + 1) (wat xs j)).set j (wat xs (j + 1))
def insIn (a : Nat) : Nat → List S49 → List S49
  | 0, xs => xs
  | j + 1, xs => if a ≤ j ∧ wlt (wat xs (j + 1)) (wat xs j) = true then insIn a j (wswap xs j) else xs
def insOut (a : Nat) : Nat → Nat → List S49 → List S49
  | 0, _, xs => xs
  | m + 1, i, xs => insOut a m (i + 1) (insIn a i xs)
def isort (a e : Nat) (xs : List S49) : List S49 := insOut a (e - (a + 1)) (a + 1) xs
theorem wswap_length (xs : List S49) (j : Nat) : (wswap xs j).length = xs.length := by simp [wswap]
section
variable {W W1 w : World} {base g n cap : Nat} {ok : Nat → Prop} {xs : List S49}
theorem row_cells (h : Kd.R k49 49 W base ok (.slice (some ⟨g, 0, none⟩) n cap) xs) {j : Nat} (hj : j < n) :
    W.cell? ⟨g, j * 4, none⟩ = some (.int .u32 (wat xs j).f0) ∧ W.cell? ⟨g, j * 4 + 1, none⟩ = some (.int .u8 (wat xs j).f1) ∧ W.cell? ⟨g, j * 4 + 2, none⟩ = some (.int .i64 (wat xs j).f2) ∧ W.cell? ⟨g, j * 4 + 3, none⟩ = some (.int .i64 (wat xs j).f3) := by
  obtain ⟨h1, h2, h3⟩ := Kd.R_reads' h
  obtain ⟨ad, e, c0, c1, c2, c3⟩ := at_T49 h3 (j : Int) (by omega) (by omega)
  injection e with e
  subst e
  have ha : (⟨g, 0, none⟩ : Addr).add ((j : Int).toNat * 4) = ⟨g, j * 4, none⟩ := by simp [Addr.add]; intro h; omega
  rw [ha] at c0 c1 c2 c3
  exact ⟨c0, c1, c2, c3⟩
theorem row_blk (h : Kd.R k49 49 W base ok (.slice (some ⟨g, 0, none⟩) n cap) xs) : ∃ cur, W.heap[g]? = some (.cells cur 49 (0, 0)) := by
  obtain ⟨inner, ho⟩ := Kd.R_own h
  obtain ⟨_, ⟨hv, _⟩ | ⟨g', cap', cur, hv, hb, hh, r⟩⟩ := ho
  · cases hv
  · injection hv with ha _ _
    injection ha with ha
    injection ha with hg
    subst hg
    exact ⟨cur, hh⟩
theorem row_set (h : Kd.R k49 49 W base ok (.slice (some ⟨g, 0, none⟩) n cap) xs) {j : Nat} (hj : j < n) (x : S49) :
    Kd.R k49 49 (W.setCells g (j * 4) [.int .u32 x.f0, .int .u8 x.f1, .int .i64 x.f2, .int .i64 x.f3]) base ok (.slice (some ⟨g, 0, none⟩) n cap) (xs.set j x) ∧ W.grownBy (W.setCells g (j * 4) [.int .u32 x.f0, .int .u8 x.f1, .int .i64 x.f2, .int .i64 x.f3]) (some g) := by
  obtain ⟨c0, c1, c2, c3⟩ := row_cells h hj
  have := Kd.R_seg h (j : Int) (by omega) (by omega) (c := [.int .u32 (wat xs j).f0, .int .u8 (wat xs j).f1, .int .i64 (wat xs j).f2, .int .i64 (wat xs j).f3]) (seg := [.int .u32 x.f0, .int .u8 x.f1, .int .i64 x.f2, .int .i64 x.f3]) (j := 0) (x' := x) (okp := fun _ => False) rfl ?_ (Nat.le_refl _) (k49_mkM W base (fun _ => False) x) (fun _ hk => hk.elim)
  · rw [Int.toNat_natCast] at this
    exact this
  · intro i u hu
    rw [Int.toNat_natCast]
    match i, hu with
    | 0, hu => rw [← Option.some.inj hu]; exact c0
    | 1, hu => rw [← Option.some.inj hu]; exact c1
    | 2, hu => rw [← Option.some.inj hu]; exact c2
    | 3, hu => rw [← Option.some.inj hu]; exact c3
    | i + 4, hu => simp at hu
end
theorem grown_trans {A B C : World} {row : Option Nat} (h : A.grownBy B row) (k : B.grownBy C row) : A.grownBy C row :=
  ⟨k.os.trans h.os, k.tape.trans h.tape, k.output.trans h.output, Nat.le_trans h.size k.size, fun i hi hr => (k.block i (Nat.lt_of_lt_of_le hi h.size) hr).trans (h.block i hi hr)⟩
theorem grown_drew {A : World} (row : Option Nat) : A.grownBy A.drew row := ⟨rfl, rfl, rfl, Nat.le_refl _, fun _ _ _ => rfl⟩
set_option maxHeartbeats 8000000 in
set_option maxRecDepth 100000 in
theorem insertion_calls {base g cap : Nat} {ok : Nat → Prop} (hok : ∀ k, base ≤ k → True) (xs : List S49) (a e : Nat) (w : World) (hR : Kd.R k49 49 w base ok (.slice (some ⟨g, 0, none⟩) xs.length cap) xs) (ha : a ≤ e) (he : e ≤ xs.length) (hn : xs.length ≤ 1000000) :
    Calls Try.prog 59 #[.slice (some ⟨g, 0, none⟩) xs.length cap, .int .i64 a, .int .i64 e, .func (.func 47) #[] #[]] w fun ex w' => ex = .returned (.tuple #[]) ∧ Kd.R k49 49 w' base ok (.slice (some ⟨g, 0, none⟩) xs.length cap) (isort a e xs) ∧ w.grownBy w' (some g) := by
  have hu49 := Try.underlying49
  obtain ⟨n, hnn⟩ : ∃ n, n = xs.length := ⟨_, rfl⟩
  rw [← hnn] at hR he hn ⊢
  have HR0 := Aside0.mk hR
  have HG0 := Aside0.mk (grown_of_below (Below.refl w.heap.size w) (some g))
  have HX0 := Aside0.mk hnn.symm
  clear hR hnn
  have hw1 : wrap64 ((a : Int) + 1) = ((a + 1 : Nat) : Int) := by rw [Go.IntWalk.wrap64_in _ (by omega)]; rfl
  go_enter Try.func59, Try.ntmps59
  go_wp2
  go_loopg [8] (e - a) (fun g1 vi wr => ∃ (i : Nat) (ys : List S49), vi = .int .i64 (i : Int) ∧ Aside0 (a < i ∧ i + g1 = e + 1) ∧ Aside0 (ys.length = n) ∧ Aside0 (insOut a (e - i) i ys = isort a e xs) ∧ Aside0 (Kd.R k49 49 wr base ok (.slice (some ⟨g, 0, none⟩) n cap) ys) ∧ Aside0 (w.grownBy wr (some g)))
  case atStart => exact ⟨a + 1, xs, by first | rfl | (simp; done), ⟨by omega, by omega⟩, HX0, ⟨rfl⟩, HR0, HG0⟩
  case round =>
    clear HR0 HG0 HX0
    obtain ⟨i, ys, rfl, HI, HL, HO, HR, HG⟩ := hrel
    have hai := HI.out.1
    have hig := HI.out.2
    by_cases hlt : i < e
    · have hd : decide ((i : Int) < (e : Int)) = true := decide_eq_true (by omega)
      go_wp2
      go_loopg [9] i (fun g2 vj wr2 => ∃ (j : Nat) (zs : List S49), vj = .int .i64 (j : Int) ∧ Aside0 (a ≤ j ∧ j ≤ i ∧ j = g2) ∧ Aside0 (zs.length = n) ∧ Aside0 (insIn a j zs = insIn a i ys) ∧ Aside0 (Kd.R k49 49 wr2 base ok (.slice (some ⟨g, 0, none⟩) n cap) zs) ∧ Aside0 (w.grownBy wr2 (some g)))
      case atStart => exact ⟨i, ys, rfl, ⟨by omega, Nat.le_refl _, rfl⟩, HL, ⟨rfl⟩, HR, HG⟩
      case round =>
        clear HR HG HL
        obtain ⟨j, zs, rfl, HJ, HL, HI2, HR, HG⟩ := hrel
        have haj := HJ.out.1
        have hji := HJ.out.2.1
        have next : ∀ zs', insIn a i ys = zs' → insOut a (e - (i + 1)) (i + 1) zs' = isort a e xs := by
          intro zs' h
          rw [← HO.out, show e - i = (e - (i + 1)) + 1 by omega, insOut, h]
        have NEXT := Aside0.mk next
        clear next
        by_cases hja : a < j
        · obtain ⟨jp, hjp⟩ : ∃ jp, j = jp + 1 := ⟨j - 1, by omega⟩
          have hda : decide ((j : Int) > (a : Int)) = true := decide_eq_true (by omega)
          have hjt : (a < j) = True := eq_true hja
          have hwp : wrap64 ((j : Int) - 1) = (jp : Int) := by rw [Go.IntWalk.wrap64_in _ (by omega)]; omega
          obtain ⟨p, hp⟩ : ∃ p, p = jp * 4 := ⟨_, rfl⟩
          have hp4 : j * 4 = p + 4 := by omega
          obtain ⟨c0, c1, c2, c3⟩ := row_cells HR.out (j := jp) (by omega)
          obtain ⟨d0, d1, d2, d3⟩ := row_cells HR.out (j := j) (by omega)
          rw [hp4] at d0 d1 d2 d3
          rw [← hp] at c0 c1 c2 c3
          have hp' : jp * 4 = p := hp.symm
          have n0 : (0 : Int) ≤ (j : Int) := by omega
          have n1 : (j : Int) < (n : Int) := by omega
          have n2 : (0 : Int) ≤ (jp : Int) := by omega
          have n3 : (jp : Int) < (n : Int) := by omega
          have m1 : (j < n) = True := eq_true (by omega)
          have m3 : (jp < n) = True := eq_true (by omega)
          have hwq : IntKind.i64.wrap ((j : Int) - 1) = (jp : Int) := by rw [Go.IntWalk.i64_in _ (by omega)]; omega
          have HP := Aside0.mk hp
          have HJP := Aside0.mk hjp
          clear hp hjp
          generalize hx : wat zs jp = x at c0 c1 c2 c3
          generalize hy : wat zs j = y at d0 d1 d2 d3
          have HXX := Aside0.mk hx
          have HYY := Aside0.mk hy
          clear hx hy
          cases hq : wlt y x
          rotate_left
          · go_wp2
            go_region_held3 (fun W' : World => W'.cell? ⟨g, p, none⟩ = some (.int .u32 x.f0) ∧ W'.cell? ⟨g, p + 1, none⟩ = some (.int .u8 x.f1) ∧ W'.cell? ⟨g, p + 2, none⟩ = some (.int .i64 x.f2) ∧ W'.cell? ⟨g, p + 3, none⟩ = some (.int .i64 x.f3) ∧ W'.cell? ⟨g, p + 4, none⟩ = some (.int .u32 y.f0) ∧ W'.cell? ⟨g, p + 5, none⟩ = some (.int .u8 y.f1) ∧ W'.cell? ⟨g, p + 6, none⟩ = some (.int .i64 y.f2) ∧ W'.cell? ⟨g, p + 7, none⟩ = some (.int .i64 y.f3)) (first | exact ⟨c0, c1, c2, c3, d0, d1, d2, d3⟩ | exact ⟨pw_cell_below hb c0, pw_cell_below hb c1, pw_cell_below hb c2, pw_cell_below hb c3, pw_cell_below hb d0, pw_cell_below hb d1, pw_cell_below hb d2, pw_cell_below hb d3⟩) (first | (go_at_call 47; refine (on1_calls y x _).mono ?_; rintro ex w5 ⟨r, rfl, hr, hb⟩; rw [hq] at hr; have HR5 := Aside0.mk (Kd.R_below (Kd.R_drew HR.out) hb); have HG5 := Aside0.mk (grown_trans (grown_trans HG.out (grown_drew _)) (grown_of_below hb (some g)))))
            have hrl : (r < 0) = True := eq_true (of_decide_eq_true hr)
            obtain ⟨c0, c1, c2, c3⟩ := row_cells HR5.out (j := jp) (by omega)
            obtain ⟨d0, d1, d2, d3⟩ := row_cells HR5.out (j := j) (by omega)
            rw [hp4, HYY.out] at d0 d1 d2 d3
            rw [hp', HXX.out] at c0 c1 c2 c3
            obtain ⟨cur, hcur⟩ := row_blk HR5.out
            have f0 := blk_frozen hcur p
            have f1 := blk_frozen hcur (p + 1)
            have f2 := blk_frozen hcur (p + 2)
            have f3 := blk_frozen hcur (p + 3)
            have f4 := blk_frozen hcur (p + 4)
            have f5 := blk_frozen hcur (p + 5)
            have f6 := blk_frozen hcur (p + 6)
            have f7 := blk_frozen hcur (p + 7)
            clear hcur hb
            go_wp2
            go_region
            go_wp2
            have r1 := row_set HR5.out (j := j) (by omega) x
            have r2 := row_set r1.1 (j := jp) (by omega) y
            have hz : (zs.set j x).set jp y = wswap zs jp := by
              unfold wswap
              rw [← HJP.out, HXX.out, HYY.out]
            have hin : insIn a jp (wswap zs jp) = insIn a i ys := by
              rw [← HI2.out, HJP.out, insIn, if_pos]
              refine ⟨by have := HJP.out; omega, ?_⟩
              rw [← HJP.out, HYY.out, HXX.out, hq]
            rw [hp4, hp', hz] at r2
            rw [hp4] at r1
            have g2 := grown_trans HG5.out (grown_trans r1.2 r2.2)
            have rr := r2.1
            have HIN := Aside0.mk hin
            clear r1 r2 hin hz
            go_roundg jp
            case measure => have := HJ.out.2.2; have := HJP.out; omega
            case rel => exact ⟨jp, wswap zs jp, by first | rfl | (simp; done), ⟨by have := HJP.out; omega, by have := HJP.out; omega, rfl⟩, ⟨by rw [wswap_length]; exact HL.out⟩, HIN, ⟨Kd.R_drew rr⟩, ⟨grown_trans g2 (grown_drew _)⟩⟩
          · go_wp2
            go_region_held3 (fun W' : World => W'.cell? ⟨g, p, none⟩ = some (.int .u32 x.f0) ∧ W'.cell? ⟨g, p + 1, none⟩ = some (.int .u8 x.f1) ∧ W'.cell? ⟨g, p + 2, none⟩ = some (.int .i64 x.f2) ∧ W'.cell? ⟨g, p + 3, none⟩ = some (.int .i64 x.f3) ∧ W'.cell? ⟨g, p + 4, none⟩ = some (.int .u32 y.f0) ∧ W'.cell? ⟨g, p + 5, none⟩ = some (.int .u8 y.f1) ∧ W'.cell? ⟨g, p + 6, none⟩ = some (.int .i64 y.f2) ∧ W'.cell? ⟨g, p + 7, none⟩ = some (.int .i64 y.f3)) (first | exact ⟨c0, c1, c2, c3, d0, d1, d2, d3⟩ | exact ⟨pw_cell_below hb c0, pw_cell_below hb c1, pw_cell_below hb c2, pw_cell_below hb c3, pw_cell_below hb d0, pw_cell_below hb d1, pw_cell_below hb d2, pw_cell_below hb d3⟩) (first | (go_at_call 47; refine (on1_calls y x _).mono ?_; rintro ex w5 ⟨r, rfl, hr, hb⟩; rw [hq] at hr; have HR5 := Aside0.mk (Kd.R_below (Kd.R_drew HR.out) hb); have HG5 := Aside0.mk (grown_trans (grown_trans HG.out (grown_drew _)) (grown_of_below hb (some g)))))
            have hrl : (r < 0) = False := eq_false (of_decide_eq_false hr)
            have hst : insIn a i ys = zs := by
              rw [← HI2.out, HJP.out, insIn, if_neg]
              rintro ⟨_, h⟩
              rw [← HJP.out, HYY.out, HXX.out, hq] at h
              exact absurd h (by simp)
            have HST := Aside0.mk (NEXT.out _ hst)
            clear hst hb
            go_wp2
            go_roundg (e - i)
            case measure => omega
            case rel => exact ⟨i + 1, zs, by first | rfl | (simp; done) | (unfold wrap64; congr 1; omega), ⟨by omega, by omega⟩, HL, HST, HR5, HG5⟩
        · have hda : decide ((j : Int) > (a : Int)) = false := decide_eq_false (by omega)
          have hst : insIn a i ys = zs := by
            rw [← HI2.out]
            match j, hja with
            | 0, _ => rfl
            | q + 1, h => rw [insIn, if_neg (by omega)]
          have HST := Aside0.mk (NEXT.out _ hst)
          have hjf : (a < j) = False := eq_false hja
          clear hst
          go_wp2
          go_region
          go_wp2
          go_roundg (e - i)
          case measure => omega
          case rel => exact ⟨i + 1, zs, by first | rfl | (simp; done) | (unfold wrap64; congr 1; omega), ⟨by omega, by omega⟩, HL, HST, ⟨Kd.R_drew HR.out⟩, ⟨grown_trans HG.out (grown_drew _)⟩⟩
    · have hd : decide ((i : Int) < (e : Int)) = false := decide_eq_false (by omega)
      have HO2 : isort a e xs = ys := by
        rw [← HO.out, show e - i = 0 by omega]
        rfl
      have HZ := Aside0.mk HO2
      clear HO2
      go_wp2
      go_end0
      exact ⟨rfl, by rw [HZ.out]; exact HR.out, HG.out⟩
end Go.Proofs.Ytlfnpakpkniipaa.Q
