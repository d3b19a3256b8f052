/- Words for the claim. -/
import Derived.Test.YtlfnpakpkniipaaZGQSymGen
set_option linter.unusedVariables false
set_option linter.unusedSimpArgs false
namespace Go.Proofs.Ytlfnpakpkniipaa.Q
open Go.RowKit Go.Proofs.YtlfnpakpkniipaaW.PrintWords Go.Proofs.YtlfnpakpkniipaaW.PrintLast Go.Proofs.YtlfnpakpkniipaaW.PrintMore
attribute [local go_sem] max2_int min2_int max_two min_two max_three min_three max_four min_four
theorem sub_of {x y z : Nat} (h : z + y = x) : (x : Int) - (y : Int) = (z : Int) := by omega
structure Tail (base g cap : Nat) (ok : Nat → Prop) (n a s m mid e b : Nat) (D0 D3 : List S49) : Prop where
  ex : ∃ D1 D2 : List S49,
    (∀ wr, Kd.R k49 49 wr base ok (.slice (some ⟨g, 0, none⟩) n cap) D0 → s < m → m < e → Calls Try.prog 61 #[.slice (some ⟨g, 0, none⟩) n cap, .int .i64 (s : Int), .int .i64 (m : Int), .int .i64 (e : Int), .func (.func 47) #[] #[]] wr fun ex w' => ex = .returned (.tuple #[]) ∧ Kd.R k49 49 w' base ok (.slice (some ⟨g, 0, none⟩) n cap) D1 ∧ wr.grownBy w' (some g)) ∧
    (∀ wr, Kd.R k49 49 wr base ok (.slice (some ⟨g, 0, none⟩) n cap) D0 → ¬ (s < m ∧ m < e) → Kd.R k49 49 wr base ok (.slice (some ⟨g, 0, none⟩) n cap) D1) ∧
    (∀ wr, Kd.R k49 49 wr base ok (.slice (some ⟨g, 0, none⟩) n cap) D1 → a < s → m < e → Calls Try.prog 60 #[.slice (some ⟨g, 0, none⟩) n cap, .int .i64 (a : Int), .int .i64 (s : Int), .int .i64 (mid : Int), .func (.func 47) #[] #[]] wr fun ex w' => ex = .returned (.tuple #[]) ∧ Kd.R k49 49 w' base ok (.slice (some ⟨g, 0, none⟩) n cap) D2 ∧ wr.grownBy w' (some g)) ∧
    (∀ wr, Kd.R k49 49 wr base ok (.slice (some ⟨g, 0, none⟩) n cap) D1 → ¬ (a < s ∧ m < e) → Kd.R k49 49 wr base ok (.slice (some ⟨g, 0, none⟩) n cap) D2) ∧
    (∀ wr, Kd.R k49 49 wr base ok (.slice (some ⟨g, 0, none⟩) n cap) D2 → s < m → e < b → Calls Try.prog 60 #[.slice (some ⟨g, 0, none⟩) n cap, .int .i64 (mid : Int), .int .i64 (e : Int), .int .i64 (b : Int), .func (.func 47) #[] #[]] wr fun ex w' => ex = .returned (.tuple #[]) ∧ Kd.R k49 49 w' base ok (.slice (some ⟨g, 0, none⟩) n cap) D3 ∧ wr.grownBy w' (some g)) ∧
    (∀ wr, Kd.R k49 49 wr base ok (.slice (some ⟨g, 0, none⟩) n cap) D2 → ¬ (s < m ∧ e < b) → Kd.R k49 49 wr base ok (.slice (some ⟨g, 0, none⟩) n cap) D3)
theorem empty_of {l : List S49} {k : Nat} (h : l.length = k) (hk : ¬ 0 < k) : l = [] := List.length_eq_zero_iff.1 (by omega)
theorem full_of {l : List S49} {k : Nat} (h : l.length = k) (hk : 0 < k) : l ≠ [] := fun h0 => by rw [h0] at h; simp at h; omega
theorem tail_of {base g cap : Nat} {ok : Nat → Prop} (P U1 U2 V1 V2 S : List S49) (h1 : Asc U1) (h2 : Asc U2) (h3 : Asc V1) (h4 : Asc V2) {N n a s m mid e b : Nat} (ih : SymIH N) (hN : U1.length + U2.length + V1.length + V2.length ≤ N) (hn : n = (P ++ U1 ++ U2 ++ V1 ++ V2 ++ S).length) (hn6 : n ≤ 1000000)
    (ha : P.length = a) (l1 : a + U1.length = s) (l2 : s + U2.length = m) (l3 : m + V1.length = e) (l4 : e + V2.length = b) (l5 : s + V1.length = mid) (l6 : mid + U2.length = e) (hl1 : 0 < U2.length + V2.length) (hl2 : 0 < U1.length + V1.length) :
    Tail base g cap ok n a s m mid e b (P ++ U1 ++ U2 ++ V1 ++ V2 ++ S) (P ++ smerge U1 V1 ++ smerge U2 V2 ++ S) := by
  have sl := smerge_length _ U1 V1 (Nat.le_refl _)
  refine ⟨P ++ U1 ++ V1 ++ U2 ++ V2 ++ S, P ++ smerge U1 V1 ++ U2 ++ V2 ++ S, fun wr hR q1 q2 => ?_, fun wr hR q => ?_, fun wr hR q1 q2 => ?_, fun wr hR q => ?_, fun wr hR q1 q2 => ?_, fun wr hR q => ?_⟩
  · have := rotate_calls (P ++ U1) U2 V1 (V2 ++ S) (full_of rfl (by omega)) (full_of rfl (by omega)) wr n (by rw [hn]; simp) hn6 (by simpa using hR) (.func (.func 47) #[] #[])
    rw [List.length_append, ha, l1, l2, l3] at this
    simpa using this
  · have : U2 = [] ∨ V1 = [] := by
      by_cases h : 0 < U2.length
      · exact .inr (empty_of rfl (by omega))
      · exact .inl (empty_of rfl h)
    rcases this with rfl | rfl <;> simpa using hR
  · have := ih base g cap ok P U1 V1 (U2 ++ V2 ++ S) wr n (full_of rfl (by omega)) (full_of rfl (by omega)) h1 h3 (by omega) (by rw [hn]; simp; omega) hn6 (by simpa using hR)
    rw [ha, l1, l5] at this
    simpa using this
  · have : U1 = [] ∨ V1 = [] := by
      by_cases h : 0 < U1.length
      · exact .inr (empty_of rfl (by omega))
      · exact .inl (empty_of rfl h)
    rcases this with rfl | rfl
    · rw [nil_smerge]; simpa using hR
    · rw [smerge_nil]; simpa using hR
  · have := ih base g cap ok (P ++ smerge U1 V1) U2 V2 S wr n (full_of rfl (by omega)) (full_of rfl (by omega)) h2 h4 (by omega) (by rw [hn]; simp [sl]; omega) hn6 (by simpa using hR)
    rw [List.length_append, ha, sl, show a + (U1.length + V1.length) = mid by omega, l6, l4] at this
    simpa using this
  · have : U2 = [] ∨ V2 = [] := by
      by_cases h : 0 < U2.length
      · exact .inr (empty_of rfl (by omega))
      · exact .inl (empty_of rfl h)
    rcases this with rfl | rfl
    · rw [nil_smerge]; simpa using hR
    · rw [smerge_nil]; simpa using hR
set_option maxHeartbeats 8000000 in
set_option maxRecDepth 100000 in
theorem symGen_calls {base g cap : Nat} {ok : Nat → Prop} (P U V S : List S49) (hU : 2 ≤ U.length) (hV : 2 ≤ V.length) (hAU : Asc U) (hAV : Asc V) (ih : SymIH (U.length + V.length)) (w : World) (n : Nat) (hn : n = (P ++ U ++ V ++ S).length) (hn6 : n ≤ 1000000) (hR : Kd.R k49 49 w base ok (.slice (some ⟨g, 0, none⟩) n cap) (P ++ U ++ V ++ S)) :
    Calls Try.prog 60 #[.slice (some ⟨g, 0, none⟩) n cap, .int .i64 (P.length : Nat), .int .i64 ((P.length + U.length : Nat) : Int), .int .i64 ((P.length + U.length + V.length : Nat) : Int), .func (.func 47) #[] #[]] w fun ex w' => ex = .returned (.tuple #[]) ∧ Kd.R k49 49 w' base ok (.slice (some ⟨g, 0, none⟩) n cap) (P ++ smerge U V ++ S) ∧ w.grownBy w' (some g) := by
  have hu49 := Try.underlying49
  have hl : P.length + U.length + V.length ≤ n := by rw [hn]; simp; omega
  have RUNS := Aside0.mk (runs_of (P := P) (S := S) hAU hAV)
  have HR0 := Aside0.mk hR
  have HG0 := Aside0.mk (grown_of_below (Below.refl w.heap.size w) (some g))
  have END : ∀ mid nn s0 r0 s : Nat, Bounds P.length (P.length + U.length) (P.length + U.length + V.length) mid nn s0 r0 → Srch (P ++ U ++ V ++ S) nn s0 r0 s s → smerge U V = smerge (U.take (s - P.length)) (V.take (nn - s - (P.length + U.length))) ++ smerge (U.drop (s - P.length)) (V.drop (nn - s - (P.length + U.length))) := fun _ _ _ _ _ hb h => srch_end hAU hAV hb h
  clear hR
  obtain ⟨a, ha⟩ : ∃ a, P.length = a := ⟨_, rfl⟩
  obtain ⟨m, hm⟩ : ∃ m, P.length + U.length = m := ⟨_, rfl⟩
  obtain ⟨b, hb⟩ : ∃ b, P.length + U.length + V.length = b := ⟨_, rfl⟩
  obtain ⟨ku, hku⟩ : ∃ k, U.length = k := ⟨_, rfl⟩
  obtain ⟨kv, hkv⟩ : ∃ k, V.length = k := ⟨_, rfl⟩
  rw [hb, hm, ha] at RUNS END
  rw [hb, hm, ha]
  obtain ⟨mid, hmid⟩ : ∃ mid, (a + b) / 2 = mid := ⟨_, rfl⟩
  have ham : a + ku = m := by rw [← ha, ← hku]; exact hm
  have hmb : m + kv = b := by rw [← hm, ← hkv]; exact hb
  have hbn : b ≤ n := by rw [← hb]; exact hl
  have hku2 : 2 ≤ ku := by rw [← hku]; exact hU
  have hkv2 : 2 ≤ kv := by rw [← hkv]; exact hV
  have hab9 : a + b ≤ 9000000 := by omega
  have hmid9 : mid ≤ 9000000 := by omega
  obtain ⟨nn, hnn⟩ : ∃ nn, mid + m = nn := ⟨_, rfl⟩
  have hnn9 : nn ≤ 9000000 := by omega
  have hnn1 : nn - 1 + 1 = nn := by omega
  obtain ⟨pp, hpp⟩ : ∃ pp, nn - 1 = pp := ⟨_, rfl⟩
  have BND : (mid < m ∧ b ≤ nn ∧ Bounds a m b mid nn (nn - b) mid) ∨ (¬ mid < m ∧ Bounds a m b mid nn a m) := by
    rw [← hnn]
    by_cases h : mid < m
    · exact .inl ⟨h, (bounds_hi hmid (by omega) (by omega) h).2, (bounds_hi hmid (by omega) (by omega) h).1⟩
    · exact .inr ⟨h, bounds_lo hmid (by omega) (by omega) (by omega)⟩
  have HN9 := Aside0.mk hnn9
  have hk1 : ku ≤ 9000000 := by omega
  have hk2 : kv ≤ 9000000 := by omega
  have hpp9 : pp ≤ 9000000 := by omega
  have w1 : wrap64 ((m : Int) - (a : Int)) = (ku : Int) := wn (sub_of (by rw [Nat.add_comm]; exact ham)) hk1
  have w2 : wrap64 ((b : Int) - (m : Int)) = (kv : Int) := wn (sub_of (by rw [Nat.add_comm]; exact hmb)) hk2
  have w3 : ((ku : Int) == 1) = false := by rw [beq_eq_false_iff_ne]; clear w1 w2; omega
  have w4 : (ku = 1) = False := eq_false (by clear w1 w2; omega)
  have w5 : ((ku : Int) = 1) = False := eq_false (by clear w1 w2; omega)
  have w6 : ((kv : Int) == 1) = false := by rw [beq_eq_false_iff_ne]; clear w1 w2; omega
  have w7 : (kv = 1) = False := eq_false (by clear w1 w2; omega)
  have w8 : ((kv : Int) = 1) = False := eq_false (by clear w1 w2; omega)
  have f1 : wrap64 ((a : Int) + (b : Int)) = ((a + b : Nat) : Int) := add_nat hab9
  have f2 : wrap64 (IntKind.u64.wrap ((a : Int) + (b : Int)) / 2) = (mid : Int) := by
    have e : IntKind.u64.wrap ((a : Int) + (b : Int)) = ((a + b : Nat) : Int) := uwrap_nat rfl hab9
    rw [e, half_nat, hmid]
    exact wn rfl hmid9
  have f3 : wrap64 ((mid : Int) + (m : Int)) = (nn : Int) := by
    have e : (mid : Int) + (m : Int) = (nn : Int) := by rw [← hnn]; rfl
    exact wn e hnn9
  have f4 : wrap64 ((nn : Int) - 1) = (pp : Int) := by
    have e : (nn : Int) - 1 = (pp : Int) := sub_of (y := 1) (by rw [← hpp]; exact hnn1)
    exact wn e hpp9
  have HK2 := Aside0.mk (And.intro hku2 (And.intro hkv2 hmid))
  have HA := Aside0.mk ha
  have HKU := Aside0.mk hku
  have HKV := Aside0.mk hkv
  have HAM := Aside0.mk ham
  have HMB := Aside0.mk hmb
  have HBN := Aside0.mk hbn
  have HN := Aside0.mk hn6
  have HNN := Aside0.mk hnn
  have HPP := Aside0.mk hpp
  have HNX := Aside0.mk hn
  have EN := Aside0.mk END
  clear ha hm hb hku hkv hl hn ham hmb hbn hU hV hku2 hkv2 hab9 hmid hmid9 hnn hnn9 hnn1 hpp hk1 hk2 hpp9 END
  rcases BND with ⟨hc, hbn, HB0⟩ | ⟨hc, HB0⟩
  rotate_left
  · have g1 : (mid < m) = False := eq_false hc
    have HBB := Aside0.mk HB0
    clear hc HB0
    go_enter Try.func60, Try.ntmps60
    go_wp2
    simp only [f1, f2, f3, f4]
    clear w1 w2 w3 w4 w5 w6 w7 w8 f1 f2 f3 f4 g1
    have SR0 : Aside0 (Srch (P ++ U ++ V ++ S) nn a m a m) := ⟨⟨by have := HBB.out.h1; omega, fun c h1 h2 => by omega, fun c h1 h2 => by omega⟩⟩
    go_loopg [20, 21, 23] (m - a) (fun g1 vs vr vc wr => ∃ (s r : Nat), vs = .int .i64 (s : Int) ∧ vr = .int .i64 (r : Int) ∧ Aside0 (r - s ≤ g1) ∧ Aside0 (Srch (P ++ U ++ V ++ S) nn a m s r) ∧ Aside0 (Kd.R k49 49 wr base ok (.slice (some ⟨g, 0, none⟩) n cap) (P ++ U ++ V ++ S)) ∧ Aside0 (w.grownBy wr (some g)))
    case atStart => exact ⟨a, m, rfl, rfl, ⟨Nat.le_refl _⟩, SR0, HR0, HG0⟩
    case round =>
      clear HR0 HG0 SR0
      obtain ⟨s, r, rfl, rfl, HI, HS, HR, HG⟩ := hrel
      by_cases hlt : s < r
      · obtain ⟨c, hc⟩ : ∃ c, (s + r) / 2 = c := ⟨_, rfl⟩
        have bs := HBB.out.h1
        have bl := HS.out.le
        have hnm := HNN.out
        have hsr9 : s + r ≤ 9000000 := by have := HMB.out; have := HBN.out; have := HN.out; omega
        have hsc : s ≤ c := by omega
        have hcr : c < r := by omega
        have hcm : c < m := by omega
        have hc9 : c + 1 ≤ 9000000 := by have := HMB.out; have := HBN.out; have := HN.out; omega
        obtain ⟨d, hd⟩ : ∃ d, nn - 1 - c = d := ⟨_, rfl⟩
        have hpc : d + c = pp := by rw [← HPP.out]; omega
        have hmd : m ≤ d := by omega
        have hdb : d < b := by omega
        have hd9 : d ≤ 9000000 := by have := HN9.out; omega
        have hdn : d < n := by have := HBN.out; omega
        have hcn : c < n := by omega
        obtain ⟨x, hx⟩ : ∃ x, wat (P ++ U ++ V ++ S) c = x := ⟨_, rfl⟩
        obtain ⟨y, hy⟩ : ∃ y, wat (P ++ U ++ V ++ S) d = y := ⟨_, rfl⟩
        obtain ⟨c0, c1, c2, c3⟩ := row_cells HR.out (j := c) hcn
        obtain ⟨d0, d1, d2, d3⟩ := row_cells HR.out (j := d) hdn
        obtain ⟨e, he⟩ : ∃ e, d = c + 1 + e := ⟨d - c - 1, by omega⟩
        obtain ⟨p, hp⟩ : ∃ p, c * 4 = p := ⟨_, rfl⟩
        obtain ⟨q, hq⟩ : ∃ q, e * 4 = q := ⟨_, rfl⟩
        have hp4 : d * 4 = p + 4 + q := by omega
        rw [hx, hp] at c0 c1 c2 c3
        rw [hy, hp4] at d0 d1 d2 d3
        have n1 : ((c : Nat) : Int) < (n : Int) := Int.ofNat_lt.2 hcn
        have n2 : ((d : Nat) : Int) < (n : Int) := Int.ofNat_lt.2 hdn
        have m1 : (c < n) = True := eq_true hcn
        have m2 : (d < n) = True := eq_true hdn
        have f1 : wrap64 ((s : Int) + (r : Int)) = ((s + r : Nat) : Int) := add_nat hsr9
        have f2 : wrap64 (IntKind.u64.wrap ((s : Int) + (r : Int)) / 2) = (c : Int) := by
          have e : IntKind.u64.wrap ((s : Int) + (r : Int)) = ((s + r : Nat) : Int) := uwrap_nat rfl hsr9
          rw [e, half_nat, hc]
          exact wn rfl (Nat.le_of_succ_le hc9)
        have f3 : (s < r) = True := eq_true hlt
        have f4 : wrap64 ((c : Int) + 1) = ((c + 1 : Nat) : Int) := wn rfl hc9
        have f5 : wrap64 ((pp : Int) - (c : Int)) = (d : Int) := wn (sub_of hpc) hd9
        have f6 : IntKind.i64.wrap ((pp : Int) - (c : Int)) = (d : Int) := by rw [i64_w]; exact f5
        have HUP : Aside0 (wlt y x = false → Srch (P ++ U ++ V ++ S) nn a m (c + 1) r) := ⟨fun hw => HS.out.up RUNS.out HBB.out hsc hcr (by rw [hd, hx, hy]; exact hw)⟩
        have HDN : Aside0 (wlt y x = true → Srch (P ++ U ++ V ++ S) nn a m s c) := ⟨fun hw => HS.out.down RUNS.out HBB.out hsc hcr (by rw [hd, hx, hy]; exact hw)⟩
        have HM : Aside0 (r - (c + 1) < r - s ∧ c - s < r - s ∧ r - s ≤ gk) := ⟨by have := HI.out; clear f1 f2 f3 f4 f5 f6; omega⟩
        clear hlt bs bl hnm hsr9 hsc hcr hcm hc9 hc hd hpc hmd hdb hd9 hdn hcn hx hy he hq
        cases hw : wlt y x
        · go_wp2
          go_region_held3 (fun W' : World => W'.cell? ⟨g, p, none⟩ = some (.int .u32 x.f0) ∧ W'.cell? ⟨g, p + 1, none⟩ = some (.int .u8 x.f1) ∧ W'.cell? ⟨g, p + 2, none⟩ = some (.int .i64 x.f2) ∧ W'.cell? ⟨g, p + 3, none⟩ = some (.int .i64 x.f3) ∧ W'.cell? ⟨g, p + 4 + q, none⟩ = some (.int .u32 y.f0) ∧ W'.cell? ⟨g, p + 4 + q + 1, none⟩ = some (.int .u8 y.f1) ∧ W'.cell? ⟨g, p + 4 + q + 2, none⟩ = some (.int .i64 y.f2) ∧ W'.cell? ⟨g, p + 4 + q + 3, none⟩ = some (.int .i64 y.f3)) (first | exact ⟨c0, c1, c2, c3, d0, d1, d2, d3⟩ | exact ⟨pw_cell_below hb c0, pw_cell_below hb c1, pw_cell_below hb c2, pw_cell_below hb c3, pw_cell_below hb d0, pw_cell_below hb d1, pw_cell_below hb d2, pw_cell_below hb d3⟩) (first | (go_at_call 47; refine (on1_calls y x _).mono ?_; rintro ex w5 ⟨r', rfl, hr, hb⟩; rw [hw] at hr; have HR5 := Aside0.mk (Kd.R_below (Kd.R_drew HR.out) hb); have HG5 := Aside0.mk (grown_trans (grown_trans HG.out (grown_drew _)) (grown_of_below hb (some g)))))
          have hrl : (r' < 0) = False := eq_false (of_decide_eq_false hr)
          clear hb
          go_wp2
          go_roundg (r - (c + 1))
          case measure => clear f1 f2 f4 f5 f6; have := HM.out; omega
          case rel => exact ⟨c + 1, r, by first | rfl | rw [f4], rfl, ⟨Nat.le_refl _⟩, ⟨HUP.out hw⟩, HR5, HG5⟩
        · go_wp2
          go_region_held3 (fun W' : World => W'.cell? ⟨g, p, none⟩ = some (.int .u32 x.f0) ∧ W'.cell? ⟨g, p + 1, none⟩ = some (.int .u8 x.f1) ∧ W'.cell? ⟨g, p + 2, none⟩ = some (.int .i64 x.f2) ∧ W'.cell? ⟨g, p + 3, none⟩ = some (.int .i64 x.f3) ∧ W'.cell? ⟨g, p + 4 + q, none⟩ = some (.int .u32 y.f0) ∧ W'.cell? ⟨g, p + 4 + q + 1, none⟩ = some (.int .u8 y.f1) ∧ W'.cell? ⟨g, p + 4 + q + 2, none⟩ = some (.int .i64 y.f2) ∧ W'.cell? ⟨g, p + 4 + q + 3, none⟩ = some (.int .i64 y.f3)) (first | exact ⟨c0, c1, c2, c3, d0, d1, d2, d3⟩ | exact ⟨pw_cell_below hb c0, pw_cell_below hb c1, pw_cell_below hb c2, pw_cell_below hb c3, pw_cell_below hb d0, pw_cell_below hb d1, pw_cell_below hb d2, pw_cell_below hb d3⟩) (first | (go_at_call 47; refine (on1_calls y x _).mono ?_; rintro ex w5 ⟨r', rfl, hr, hb⟩; rw [hw] at hr; have HR5 := Aside0.mk (Kd.R_below (Kd.R_drew HR.out) hb); have HG5 := Aside0.mk (grown_trans (grown_trans HG.out (grown_drew _)) (grown_of_below hb (some g)))))
          have hrl : (r' < 0) = True := eq_true (of_decide_eq_true hr)
          clear hb
          go_wp2
          go_roundg (c - s)
          case measure => clear f1 f2 f4 f5 f6; have := HM.out; omega
          case rel => exact ⟨s, c, rfl, rfl, ⟨Nat.le_refl _⟩, ⟨HDN.out hw⟩, HR5, HG5⟩
      · have bs := HBB.out.h1
        have bl := HS.out.le
        have hsr : r = s := by omega
        have hsm : s ≤ m := by omega
        have hsmid : s ≤ mid := by omega
        have hnm := HNN.out
        obtain ⟨e, he⟩ : ∃ e, nn - s = e := ⟨_, rfl⟩
        have hes : e + s = nn := by omega
        have he9 : e ≤ 9000000 := by have := HN9.out; omega
        have hme : m ≤ e := by omega
        have heb : e ≤ b := by omega
        have HSS : Srch (P ++ U ++ V ++ S) nn a m s s := by have := HS.out; rw [hsr] at this; exact this
        have en := EN.out mid nn a m s HBB.out HSS
        rw [he] at en
        have q1 := HAM.out
        have q2 := HMB.out
        have q3 := HKU.out
        have q4 := HKV.out
        have TL : Tail base g cap ok n a s m mid e b (P ++ U ++ V ++ S) (P ++ smerge U V ++ S) := by
          have tl := tail_of (base := base) (g := g) (cap := cap) (ok := ok) P (U.take (s - a)) (U.drop (s - a)) (V.take (e - m)) (V.drop (e - m)) S (hAU.take _) (hAU.drop _) (hAV.take _) (hAV.drop _) (n := n) (a := a) (s := s) (m := m) (mid := mid) (e := e) (b := b) ih (by first | (simp; done) | (simp; omega)) (by rw [HNX.out]; first | (simp; done) | (simp; omega)) hn6 HA.out (by simp; omega) (by simp; omega) (by simp; omega) (by simp; omega) (by simp; omega) (by simp; omega) (by have := HK2.out; simp; omega) (by have := HK2.out; simp; omega)
          rw [show P ++ U.take (s - a) ++ U.drop (s - a) ++ V.take (e - m) ++ V.drop (e - m) ++ S = P ++ U ++ V ++ S by simp] at tl
          rw [en]
          rw [show P ++ (smerge (U.take (s - a)) (V.take (e - m)) ++ smerge (U.drop (s - a)) (V.drop (e - m))) ++ S = P ++ smerge (U.take (s - a)) (V.take (e - m)) ++ smerge (U.drop (s - a)) (V.drop (e - m)) ++ S by simp]
          exact tl
        obtain ⟨D1, D2, ROT, N01, REC1, N12, REC2, N23⟩ := TL.ex
        have q5 : (s < mid) = (m < e) := propext ⟨fun h => by omega, fun h => by omega⟩
        have q6 : (mid < e) = (s < m) := propext ⟨fun h => by omega, fun h => by omega⟩
        have f1 : wrap64 ((nn : Int) - (s : Int)) = (e : Int) := wn (sub_of hes) he9
        have f3 : (s < r) = False := eq_false hlt
        have AROT := Aside0.mk ROT
        have AN01 := Aside0.mk N01
        have AREC1 := Aside0.mk REC1
        have AN12 := Aside0.mk N12
        have AREC2 := Aside0.mk REC2
        have AN23 := Aside0.mk N23
        clear ROT N01 REC1 N12 REC2 N23 TL en HSS bs bl hsr hsm hsmid hnm he hes he9 hme heb q1 q2 q3 q4 hlt HI HS
        rcases Classical.propComplete (s < m) with g2 | g2 <;> rcases Classical.propComplete (m < e) with g3 | g3 <;> rcases Classical.propComplete (a < s) with g4 | g4 <;> rcases Classical.propComplete (e < b) with g5 | g5
        all_goals (
          have t5 := q5
          have t6 := q6
          rw [g3] at t5
          rw [g2] at t6
          first | have K1 := Aside0.mk (AN01.out _ HR.out (fun h => of_eq_false g2 h.1)) | have K1 := Aside0.mk (AN01.out _ HR.out (fun h => of_eq_false g3 h.2)) | skip
          first | have K2 := Aside0.mk (AN12.out _ K1.out (fun h => of_eq_false g4 h.1)) | have K2 := Aside0.mk (AN12.out _ K1.out (fun h => of_eq_false g3 h.2)) | skip
          first | have K3 := Aside0.mk (AN23.out _ K2.out (fun h => of_eq_false g2 h.1)) | have K3 := Aside0.mk (AN23.out _ K2.out (fun h => of_eq_false g5 h.2)) | skip
          first | have X12 : Aside0 (¬ (a < s ∧ m < e)) := ⟨fun h => of_eq_false g4 h.1⟩ | have X12 : Aside0 (¬ (a < s ∧ m < e)) := ⟨fun h => of_eq_false g3 h.2⟩ | skip
          first | have X23 : Aside0 (¬ (s < m ∧ e < b)) := ⟨fun h => of_eq_false g2 h.1⟩ | have X23 : Aside0 (¬ (s < m ∧ e < b)) := ⟨fun h => of_eq_false g5 h.2⟩ | skip
          have HB1 := Aside0.mk t5
          clear q5 q6
          go_wp2_with (first | (go_at_call 61; with_reducible refine (AROT.out _ HR.out (of_eq_true g2) (of_eq_true g3)).mono ?_; rintro ex w5 ⟨rfl, hr⟩; have K1 := Aside0.mk hr.1; replace HG := Aside0.mk (grown_trans HG.out hr.2); (first | have K2 := Aside0.mk (AN12.out _ K1.out X12.out) | skip); (first | have K3 := Aside0.mk (AN23.out _ K2.out X23.out) | skip); clear hr) | (go_at_call 60; with_reducible refine (AREC1.out _ K1.out (of_eq_true g4) (of_eq_true g3)).mono ?_; rintro ex w6 ⟨rfl, hr⟩; have K2 := Aside0.mk hr.1; replace HG := Aside0.mk (grown_trans HG.out hr.2); (first | have K3 := Aside0.mk (AN23.out _ K2.out X23.out) | skip); clear hr) | (go_at_call 60; with_reducible refine (AREC2.out _ K2.out (of_eq_true g2) (of_eq_true g5)).mono ?_; rintro ex w7 ⟨rfl, hr⟩; have K3 := Aside0.mk hr.1; replace HG := Aside0.mk (grown_trans HG.out hr.2); clear hr) | (go_at_call 60; with_reducible refine (AREC2.out _ (AN12.out _ K1.out X12.out) (of_eq_true g2) (of_eq_true g5)).mono ?_; rintro ex w7 ⟨rfl, hr⟩; have K3 := Aside0.mk hr.1; replace HG := Aside0.mk (grown_trans HG.out hr.2); clear hr))
          go_end0
          first | exact ⟨rfl, K3.out, HG.out⟩ | exact ⟨rfl, AN23.out _ K2.out (fun h => of_eq_false g5 h.2), HG.out⟩ | exact ⟨rfl, AN23.out _ K2.out (fun h => of_eq_false g2 h.1), HG.out⟩ | exact ⟨rfl, AN23.out _ (AN12.out _ K1.out (fun h => of_eq_false g4 h.1)) (fun h => of_eq_false g5 h.2), HG.out⟩ | exact ⟨rfl, AN23.out _ (AN12.out _ K1.out (fun h => of_eq_false g4 h.1)) (fun h => of_eq_false g2 h.1), HG.out⟩)
  · have g1 : (mid < m) = True := eq_true hc
    obtain ⟨s0, hs0⟩ : ∃ s0, nn - b = s0 := ⟨_, rfl⟩
    rw [hs0] at HB0
    have hsb : s0 + b = nn := by rw [← hs0]; exact Nat.sub_add_cancel hbn
    have g7 : wrap64 ((nn : Int) - (b : Int)) = (s0 : Int) := wn (sub_of hsb) (Nat.le_trans (Nat.le_of_eq hs0.symm) (Nat.le_trans (Nat.sub_le _ _) HN9.out))
    clear hs0 hsb hbn
    have HBB := Aside0.mk HB0
    clear hc HB0
    go_enter Try.func60, Try.ntmps60
    go_wp2
    simp only [f1, f2, f3, f4, g7]
    clear w1 w2 w3 w4 w5 w6 w7 w8 f1 f2 f3 f4 g1 g7
    have SR0 : Aside0 (Srch (P ++ U ++ V ++ S) nn s0 mid s0 mid) := ⟨⟨by have := HBB.out.h1; omega, fun c h1 h2 => by omega, fun c h1 h2 => by omega⟩⟩
    go_loopg [20, 21, 23] (mid - s0) (fun g1 vs vr vc wr => ∃ (s r : Nat), vs = .int .i64 (s : Int) ∧ vr = .int .i64 (r : Int) ∧ Aside0 (r - s ≤ g1) ∧ Aside0 (Srch (P ++ U ++ V ++ S) nn s0 mid s r) ∧ Aside0 (Kd.R k49 49 wr base ok (.slice (some ⟨g, 0, none⟩) n cap) (P ++ U ++ V ++ S)) ∧ Aside0 (w.grownBy wr (some g)))
    case atStart => exact ⟨s0, mid, rfl, rfl, ⟨Nat.le_refl _⟩, SR0, HR0, HG0⟩
    case round =>
      clear HR0 HG0 SR0
      obtain ⟨s, r, rfl, rfl, HI, HS, HR, HG⟩ := hrel
      by_cases hlt : s < r
      · obtain ⟨c, hc⟩ : ∃ c, (s + r) / 2 = c := ⟨_, rfl⟩
        have bs := HBB.out.h1
        have bl := HS.out.le
        have hnm := HNN.out
        have hsr9 : s + r ≤ 9000000 := by have := HMB.out; have := HBN.out; have := HN.out; omega
        have hsc : s ≤ c := by omega
        have hcr : c < r := by omega
        have hcm : c < m := by omega
        have hc9 : c + 1 ≤ 9000000 := by have := HMB.out; have := HBN.out; have := HN.out; omega
        obtain ⟨d, hd⟩ : ∃ d, nn - 1 - c = d := ⟨_, rfl⟩
        have hpc : d + c = pp := by rw [← HPP.out]; omega
        have hmd : m ≤ d := by omega
        have hdb : d < b := by omega
        have hd9 : d ≤ 9000000 := by have := HN9.out; omega
        have hdn : d < n := by have := HBN.out; omega
        have hcn : c < n := by omega
        obtain ⟨x, hx⟩ : ∃ x, wat (P ++ U ++ V ++ S) c = x := ⟨_, rfl⟩
        obtain ⟨y, hy⟩ : ∃ y, wat (P ++ U ++ V ++ S) d = y := ⟨_, rfl⟩
        obtain ⟨c0, c1, c2, c3⟩ := row_cells HR.out (j := c) hcn
        obtain ⟨d0, d1, d2, d3⟩ := row_cells HR.out (j := d) hdn
        obtain ⟨e, he⟩ : ∃ e, d = c + 1 + e := ⟨d - c - 1, by omega⟩
        obtain ⟨p, hp⟩ : ∃ p, c * 4 = p := ⟨_, rfl⟩
        obtain ⟨q, hq⟩ : ∃ q, e * 4 = q := ⟨_, rfl⟩
        have hp4 : d * 4 = p + 4 + q := by omega
        rw [hx, hp] at c0 c1 c2 c3
        rw [hy, hp4] at d0 d1 d2 d3
        have n1 : ((c : Nat) : Int) < (n : Int) := Int.ofNat_lt.2 hcn
        have n2 : ((d : Nat) : Int) < (n : Int) := Int.ofNat_lt.2 hdn
        have m1 : (c < n) = True := eq_true hcn
        have m2 : (d < n) = True := eq_true hdn
        have f1 : wrap64 ((s : Int) + (r : Int)) = ((s + r : Nat) : Int) := add_nat hsr9
        have f2 : wrap64 (IntKind.u64.wrap ((s : Int) + (r : Int)) / 2) = (c : Int) := by
          have e : IntKind.u64.wrap ((s : Int) + (r : Int)) = ((s + r : Nat) : Int) := uwrap_nat rfl hsr9
          rw [e, half_nat, hc]
          exact wn rfl (Nat.le_of_succ_le hc9)
        have f3 : (s < r) = True := eq_true hlt
        have f4 : wrap64 ((c : Int) + 1) = ((c + 1 : Nat) : Int) := wn rfl hc9
        have f5 : wrap64 ((pp : Int) - (c : Int)) = (d : Int) := wn (sub_of hpc) hd9
        have f6 : IntKind.i64.wrap ((pp : Int) - (c : Int)) = (d : Int) := by rw [i64_w]; exact f5
        have HUP : Aside0 (wlt y x = false → Srch (P ++ U ++ V ++ S) nn s0 mid (c + 1) r) := ⟨fun hw => HS.out.up RUNS.out HBB.out hsc hcr (by rw [hd, hx, hy]; exact hw)⟩
        have HDN : Aside0 (wlt y x = true → Srch (P ++ U ++ V ++ S) nn s0 mid s c) := ⟨fun hw => HS.out.down RUNS.out HBB.out hsc hcr (by rw [hd, hx, hy]; exact hw)⟩
        have HM : Aside0 (r - (c + 1) < r - s ∧ c - s < r - s ∧ r - s ≤ gk) := ⟨by have := HI.out; clear f1 f2 f3 f4 f5 f6; omega⟩
        clear hlt bs bl hnm hsr9 hsc hcr hcm hc9 hc hd hpc hmd hdb hd9 hdn hcn hx hy he hq
        cases hw : wlt y x
        · go_wp2
          go_region_held3 (fun W' : World => W'.cell? ⟨g, p, none⟩ = some (.int .u32 x.f0) ∧ W'.cell? ⟨g, p + 1, none⟩ = some (.int .u8 x.f1) ∧ W'.cell? ⟨g, p + 2, none⟩ = some (.int .i64 x.f2) ∧ W'.cell? ⟨g, p + 3, none⟩ = some (.int .i64 x.f3) ∧ W'.cell? ⟨g, p + 4 + q, none⟩ = some (.int .u32 y.f0) ∧ W'.cell? ⟨g, p + 4 + q + 1, none⟩ = some (.int .u8 y.f1) ∧ W'.cell? ⟨g, p + 4 + q + 2, none⟩ = some (.int .i64 y.f2) ∧ W'.cell? ⟨g, p + 4 + q + 3, none⟩ = some (.int .i64 y.f3)) (first | exact ⟨c0, c1, c2, c3, d0, d1, d2, d3⟩ | exact ⟨pw_cell_below hb c0, pw_cell_below hb c1, pw_cell_below hb c2, pw_cell_below hb c3, pw_cell_below hb d0, pw_cell_below hb d1, pw_cell_below hb d2, pw_cell_below hb d3⟩) (first | (go_at_call 47; refine (on1_calls y x _).mono ?_; rintro ex w5 ⟨r', rfl, hr, hb⟩; rw [hw] at hr; have HR5 := Aside0.mk (Kd.R_below (Kd.R_drew HR.out) hb); have HG5 := Aside0.mk (grown_trans (grown_trans HG.out (grown_drew _)) (grown_of_below hb (some g)))))
          have hrl : (r' < 0) = False := eq_false (of_decide_eq_false hr)
          clear hb
          go_wp2
          go_roundg (r - (c + 1))
          case measure => clear f1 f2 f4 f5 f6; have := HM.out; omega
          case rel => exact ⟨c + 1, r, by first | rfl | rw [f4], rfl, ⟨Nat.le_refl _⟩, ⟨HUP.out hw⟩, HR5, HG5⟩
        · go_wp2
          go_region_held3 (fun W' : World => W'.cell? ⟨g, p, none⟩ = some (.int .u32 x.f0) ∧ W'.cell? ⟨g, p + 1, none⟩ = some (.int .u8 x.f1) ∧ W'.cell? ⟨g, p + 2, none⟩ = some (.int .i64 x.f2) ∧ W'.cell? ⟨g, p + 3, none⟩ = some (.int .i64 x.f3) ∧ W'.cell? ⟨g, p + 4 + q, none⟩ = some (.int .u32 y.f0) ∧ W'.cell? ⟨g, p + 4 + q + 1, none⟩ = some (.int .u8 y.f1) ∧ W'.cell? ⟨g, p + 4 + q + 2, none⟩ = some (.int .i64 y.f2) ∧ W'.cell? ⟨g, p + 4 + q + 3, none⟩ = some (.int .i64 y.f3)) (first | exact ⟨c0, c1, c2, c3, d0, d1, d2, d3⟩ | exact ⟨pw_cell_below hb c0, pw_cell_below hb c1, pw_cell_below hb c2, pw_cell_below hb c3, pw_cell_below hb d0, pw_cell_below hb d1, pw_cell_below hb d2, pw_cell_below hb d3⟩) (first | (go_at_call 47; refine (on1_calls y x _).mono ?_; rintro ex w5 ⟨r', rfl, hr, hb⟩; rw [hw] at hr; have HR5 := Aside0.mk (Kd.R_below (Kd.R_drew HR.out) hb); have HG5 := Aside0.mk (grown_trans (grown_trans HG.out (grown_drew _)) (grown_of_below hb (some g)))))
          have hrl : (r' < 0) = True := eq_true (of_decide_eq_true hr)
          clear hb
          go_wp2
          go_roundg (c - s)
          case measure => clear f1 f2 f4 f5 f6; have := HM.out; omega
          case rel => exact ⟨s, c, rfl, rfl, ⟨Nat.le_refl _⟩, ⟨HDN.out hw⟩, HR5, HG5⟩
      · have bs := HBB.out.h1
        have bl := HS.out.le
        have hsr : r = s := by omega
        have hsm : s ≤ m := by omega
        have hsmid : s ≤ mid := by omega
        have hnm := HNN.out
        obtain ⟨e, he⟩ : ∃ e, nn - s = e := ⟨_, rfl⟩
        have hes : e + s = nn := by omega
        have he9 : e ≤ 9000000 := by have := HN9.out; omega
        have hme : m ≤ e := by omega
        have heb : e ≤ b := by omega
        have HSS : Srch (P ++ U ++ V ++ S) nn s0 mid s s := by have := HS.out; rw [hsr] at this; exact this
        have en := EN.out mid nn s0 mid s HBB.out HSS
        rw [he] at en
        have q1 := HAM.out
        have q2 := HMB.out
        have q3 := HKU.out
        have q4 := HKV.out
        have TL : Tail base g cap ok n a s m mid e b (P ++ U ++ V ++ S) (P ++ smerge U V ++ S) := by
          have tl := tail_of (base := base) (g := g) (cap := cap) (ok := ok) P (U.take (s - a)) (U.drop (s - a)) (V.take (e - m)) (V.drop (e - m)) S (hAU.take _) (hAU.drop _) (hAV.take _) (hAV.drop _) (n := n) (a := a) (s := s) (m := m) (mid := mid) (e := e) (b := b) ih (by first | (simp; done) | (simp; omega)) (by rw [HNX.out]; first | (simp; done) | (simp; omega)) hn6 HA.out (by simp; omega) (by simp; omega) (by simp; omega) (by simp; omega) (by simp; omega) (by simp; omega) (by have := HK2.out; simp; omega) (by have := HK2.out; simp; omega)
          rw [show P ++ U.take (s - a) ++ U.drop (s - a) ++ V.take (e - m) ++ V.drop (e - m) ++ S = P ++ U ++ V ++ S by simp] at tl
          rw [en]
          rw [show P ++ (smerge (U.take (s - a)) (V.take (e - m)) ++ smerge (U.drop (s - a)) (V.drop (e - m))) ++ S = P ++ smerge (U.take (s - a)) (V.take (e - m)) ++ smerge (U.drop (s - a)) (V.drop (e - m)) ++ S by simp]
          exact tl
        obtain ⟨D1, D2, ROT, N01, REC1, N12, REC2, N23⟩ := TL.ex
        have q5 : (s < mid) = (m < e) := propext ⟨fun h => by omega, fun h => by omega⟩
        have q6 : (mid < e) = (s < m) := propext ⟨fun h => by omega, fun h => by omega⟩
        have f1 : wrap64 ((nn : Int) - (s : Int)) = (e : Int) := wn (sub_of hes) he9
        have f3 : (s < r) = False := eq_false hlt
        have AROT := Aside0.mk ROT
        have AN01 := Aside0.mk N01
        have AREC1 := Aside0.mk REC1
        have AN12 := Aside0.mk N12
        have AREC2 := Aside0.mk REC2
        have AN23 := Aside0.mk N23
        clear ROT N01 REC1 N12 REC2 N23 TL en HSS bs bl hsr hsm hsmid hnm he hes he9 hme heb q1 q2 q3 q4 hlt HI HS
        rcases Classical.propComplete (s < m) with g2 | g2 <;> rcases Classical.propComplete (m < e) with g3 | g3 <;> rcases Classical.propComplete (a < s) with g4 | g4 <;> rcases Classical.propComplete (e < b) with g5 | g5
        all_goals (
          have t5 := q5
          have t6 := q6
          rw [g3] at t5
          rw [g2] at t6
          first | have K1 := Aside0.mk (AN01.out _ HR.out (fun h => of_eq_false g2 h.1)) | have K1 := Aside0.mk (AN01.out _ HR.out (fun h => of_eq_false g3 h.2)) | skip
          first | have K2 := Aside0.mk (AN12.out _ K1.out (fun h => of_eq_false g4 h.1)) | have K2 := Aside0.mk (AN12.out _ K1.out (fun h => of_eq_false g3 h.2)) | skip
          first | have K3 := Aside0.mk (AN23.out _ K2.out (fun h => of_eq_false g2 h.1)) | have K3 := Aside0.mk (AN23.out _ K2.out (fun h => of_eq_false g5 h.2)) | skip
          first | have X12 : Aside0 (¬ (a < s ∧ m < e)) := ⟨fun h => of_eq_false g4 h.1⟩ | have X12 : Aside0 (¬ (a < s ∧ m < e)) := ⟨fun h => of_eq_false g3 h.2⟩ | skip
          first | have X23 : Aside0 (¬ (s < m ∧ e < b)) := ⟨fun h => of_eq_false g2 h.1⟩ | have X23 : Aside0 (¬ (s < m ∧ e < b)) := ⟨fun h => of_eq_false g5 h.2⟩ | skip
          have HB1 := Aside0.mk t5
          clear q5 q6
          go_wp2_with (first | (go_at_call 61; with_reducible refine (AROT.out _ HR.out (of_eq_true g2) (of_eq_true g3)).mono ?_; rintro ex w5 ⟨rfl, hr⟩; have K1 := Aside0.mk hr.1; replace HG := Aside0.mk (grown_trans HG.out hr.2); (first | have K2 := Aside0.mk (AN12.out _ K1.out X12.out) | skip); (first | have K3 := Aside0.mk (AN23.out _ K2.out X23.out) | skip); clear hr) | (go_at_call 60; with_reducible refine (AREC1.out _ K1.out (of_eq_true g4) (of_eq_true g3)).mono ?_; rintro ex w6 ⟨rfl, hr⟩; have K2 := Aside0.mk hr.1; replace HG := Aside0.mk (grown_trans HG.out hr.2); (first | have K3 := Aside0.mk (AN23.out _ K2.out X23.out) | skip); clear hr) | (go_at_call 60; with_reducible refine (AREC2.out _ K2.out (of_eq_true g2) (of_eq_true g5)).mono ?_; rintro ex w7 ⟨rfl, hr⟩; have K3 := Aside0.mk hr.1; replace HG := Aside0.mk (grown_trans HG.out hr.2); clear hr) | (go_at_call 60; with_reducible refine (AREC2.out _ (AN12.out _ K1.out X12.out) (of_eq_true g2) (of_eq_true g5)).mono ?_; rintro ex w7 ⟨rfl, hr⟩; have K3 := Aside0.mk hr.1; replace HG := Aside0.mk (grown_trans HG.out hr.2); clear hr))
          go_end0
          first | exact ⟨rfl, K3.out, HG.out⟩ | exact ⟨rfl, AN23.out _ K2.out (fun h => of_eq_false g5 h.2), HG.out⟩ | exact ⟨rfl, AN23.out _ K2.out (fun h => of_eq_false g2 h.1), HG.out⟩ | exact ⟨rfl, AN23.out _ (AN12.out _ K1.out (fun h => of_eq_false g4 h.1)) (fun h => of_eq_false g5 h.2), HG.out⟩ | exact ⟨rfl, AN23.out _ (AN12.out _ K1.out (fun h => of_eq_false g4 h.1)) (fun h => of_eq_false g2 h.1), HG.out⟩)
end Go.Proofs.Ytlfnpakpkniipaa.Q
