/- Words for the claim. -/
import Derived.Test.YtlfnpakpkniipaaZGQSymAll
import Derived.Test.YtlfnpakpkniipaaZGQSrtPlain
import Derived.Test.YtlfnpakpkniipaaZGWords
set_option linter.unusedVariables false
set_option linter.unusedSimpArgs false
namespace Go.Proofs.Ytlfnpakpkniipaa.Q
open Go.RowKit Go.Proofs.YtlfnpakpkniipaaW.PrintWords Go.Proofs.YtlfnpakpkniipaaW.PrintLast Go.Proofs.YtlfnpakpkniipaaW.PrintMore
attribute [local go_sem] max2_int min2_int max_two min_two max_three min_three max_four min_four
theorem isort_none (a : Nat) (xs : List S49) : isort a a xs = xs := by
  unfold isort
  rw [show a - (a + 1) = 0 by omega]
  rfl
set_option maxHeartbeats 8000000 in
set_option maxRecDepth 100000 in
theorem insertion_nil (w : World) :
    Calls Try.prog 59 #[.slice none 0 0, .int .i64 0, .int .i64 0, .func (.func 47) #[] #[]] w fun ex w' => ex = .returned (.tuple #[]) ∧ w' = w := by
  go_enter Try.func59, Try.ntmps59
  go_wp2
  go_loopg [8] 0 (fun g1 vi wr => vi = .int .i64 1 ∧ wr = w)
  case atStart => exact ⟨by first | rfl | (simp; done), rfl⟩
  case round =>
    obtain ⟨rfl, rfl⟩ := hrel
    go_wp2
    go_end0
    exact ⟨rfl, rfl⟩
set_option maxHeartbeats 8000000 in
set_option maxRecDepth 100000 in
theorem stable_nil (w : World) :
    Calls Try.prog 46 #[.slice none 0 0, .func (.func 47) #[] #[]] w fun ex w' => ex = .returned (.tuple #[]) ∧ w' = w := by
  have st : Calls Try.prog 56 #[.slice none 0 0, .int .i64 0, .func (.func 47) #[] #[]] w fun ex w' => ex = .returned (.tuple #[]) ∧ w' = w := by
    go_enter Try.func56, Try.ntmps56
    go_wp2
    go_loopg [7, 8] 0 (fun g1 va vb wr => va = .int .i64 0 ∧ vb = .int .i64 20 ∧ wr = w)
    case atStart => exact ⟨rfl, rfl, rfl⟩
    case round =>
      obtain ⟨rfl, rfl, rfl⟩ := hrel
      go_wp2_with (go_at_call 59; refine (insertion_nil _).mono ?_; rintro ex w2 ⟨rfl, rfl⟩)
      go_loopg [6] 0 (fun g1 va wr => va = .int .i64 20 ∧ wr = w2)
      case atStart => exact ⟨rfl, rfl⟩
      case round =>
        obtain ⟨rfl, rfl⟩ := hrel
        go_wp2
        go_end0
        exact ⟨rfl, rfl⟩
  go_enter Try.func46, Try.ntmps46
  go_wp2_with (go_at_call 56; refine st.mono ?_; rintro ex w2 ⟨rfl, rfl⟩)
  go_end0
  exact ⟨rfl, rfl⟩
set_option maxHeartbeats 8000000 in
set_option maxRecDepth 100000 in
theorem stable_short {base g cap : Nat} {ok : Nat → Prop} (xs : List S49) (w : World) (hR : Kd.R k49 49 w base ok (.slice (some ⟨g, 0, none⟩) xs.length cap) xs) (hn : xs.length ≤ 20) :
    Calls Try.prog 56 #[.slice (some ⟨g, 0, none⟩) xs.length cap, .int .i64 xs.length, .func (.func 47) #[] #[]] w fun ex w' => ex = .returned (.tuple #[]) ∧ Kd.R k49 49 w' base ok (.slice (some ⟨g, 0, none⟩) xs.length cap) (isort 0 xs.length xs) ∧ w.grownBy w' (some g) := by
  have HR := Aside0.mk hR
  clear hR
  have st : Calls Try.prog 56 #[.slice (some ⟨g, 0, none⟩) xs.length cap, .int .i64 xs.length, .func (.func 47) #[] #[]] w fun ex w' => ex = .returned (.tuple #[]) ∧ Kd.R k49 49 w' base ok (.slice (some ⟨g, 0, none⟩) xs.length cap) (isort 0 xs.length xs) ∧ w.grownBy w' (some g) := by
    have hi := insertion_calls (fun _ _ => trivial) xs 0 xs.length w HR.out (Nat.zero_le _) (Nat.le_refl _) (by omega)
    have HI := Aside0.mk hi
    clear hi
    have w40 : wrap64 ((20 : Int) + 20) = 40 := by rw [Go.IntWalk.wrap64_in _ (by omega)]; rfl
    go_enter Try.func56, Try.ntmps56
    go_wp2
    go_loopg [7, 8] 1 (fun g1 va vb wr => (va = .int .i64 0 ∧ vb = .int .i64 20 ∧ wr = w ∧ g1 = 1) ∨ (va = .int .i64 20 ∧ vb = .int .i64 40 ∧ Aside0 (xs.length = 20) ∧ Aside0 (Kd.R k49 49 wr base ok (.slice (some ⟨g, 0, none⟩) xs.length cap) (isort 0 20 xs) ∧ w.grownBy wr (some g))))
    case atStart => exact .inl ⟨rfl, rfl, rfl, rfl⟩
    case round =>
      rcases hrel with ⟨rfl, rfl, rfl, rfl⟩ | ⟨rfl, rfl, h20, h2⟩
      · by_cases hb : 20 ≤ xs.length
        · have hd : decide ((20 : Int) ≤ (xs.length : Int)) = true := decide_eq_true (by omega)
          have hd2 : (20 ≤ xs.length) = True := eq_true (by omega)
          have hi20 := insertion_calls (fun _ _ => trivial) xs 0 20 _ HR.out (by omega) hb (by omega)
          go_wp2_with (go_at_call 59; refine hi20.mono ?_; rintro ex w2 ⟨rfl, hr⟩)
          go_roundg 0
          case measure => omega
          case rel => exact .inr ⟨by first | rfl | (simp; done), by first | rfl | (simp; done), ⟨by omega⟩, ⟨hr⟩⟩
        · have hd : decide ((20 : Int) ≤ (xs.length : Int)) = false := decide_eq_false (by omega)
          have hd2 : (20 ≤ xs.length) = False := eq_false (by omega)
          have hd3 : (20 < xs.length) = False := eq_false (by omega)
          go_wp2_with (go_at_call 59; refine HI.out.mono ?_; rintro ex w2 ⟨rfl, hr⟩; have HR2 := Aside0.mk hr; clear hr)
          go_loopg [6] 0 (fun g1 va wr => va = .int .i64 20 ∧ wr = w2)
          case atStart => exact ⟨rfl, rfl⟩
          case round =>
            obtain ⟨rfl, rfl⟩ := hrel
            go_wp2
            go_end0
            exact ⟨rfl, HR2.out⟩
      · have hl := h20.out
        have hd : decide ((40 : Int) ≤ (xs.length : Int)) = false := decide_eq_false (by omega)
        have hd2 : (40 ≤ xs.length) = False := eq_false (by omega)
        have hlen : (isort 0 20 xs).length = xs.length := ((Kd.R_reads' h2.out.1).1).symm
        have h3 := insertion_calls (fun _ _ => trivial) (isort 0 20 xs) 20 xs.length wr (by rw [hlen]; exact h2.out.1) (by omega) (by omega) (by omega)
        rw [hlen, show isort 20 xs.length (isort 0 20 xs) = isort 0 20 xs by rw [hl]; exact isort_none _ _] at h3
        have HL := Aside0.mk hl
        have HG := Aside0.mk h2.out.2
        have hd4 : (20 < xs.length) = False := eq_false (by omega)
        clear hlen hl
        go_wp2_with (go_at_call 59; refine h3.mono ?_; rintro ex w2 ⟨rfl, hr⟩; have HR2 := Aside0.mk hr; clear hr)
        go_loopg [6] 0 (fun g1 va wr => va = .int .i64 20 ∧ wr = w2)
        case atStart => exact ⟨rfl, rfl⟩
        case round =>
          obtain ⟨rfl, rfl⟩ := hrel
          go_wp2
          go_end0
          have e : isort 0 xs.length xs = isort 0 20 xs := by rw [HL.out]
          exact ⟨rfl, by rw [e]; exact HR2.out.1, grown_trans HG.out HR2.out.2⟩
  exact st
set_option maxHeartbeats 8000000 in
set_option maxRecDepth 100000 in
theorem stable_long {base g cap : Nat} {ok : Nat → Prop} (A B : List S49) (hA : A.length = 20) (hB : 0 < B.length) (hB2 : B.length < 20) (w : World) (n : Nat) (hn : n = (A ++ B).length) (hR : Kd.R k49 49 w base ok (.slice (some ⟨g, 0, none⟩) n cap) (A ++ B)) :
    Calls Try.prog 56 #[.slice (some ⟨g, 0, none⟩) n cap, .int .i64 n, .func (.func 47) #[] #[]] w fun ex w' => ex = .returned (.tuple #[]) ∧ Kd.R k49 49 w' base ok (.slice (some ⟨g, 0, none⟩) n cap) (srt (A ++ B)) ∧ w.grownBy w' (some g) := by
  have hn' : n = 20 + B.length := by rw [hn, List.length_append, hA]
  have hu49 := Try.underlying49
  have i1 : ∀ w1 : World, Kd.R k49 49 w1 base ok (.slice (some ⟨g, 0, none⟩) n cap) (A ++ B) → Calls Try.prog 59 #[.slice (some ⟨g, 0, none⟩) n cap, .int .i64 0, .int .i64 20, .func (.func 47) #[] #[]] w1 fun ex w' => ex = .returned (.tuple #[]) ∧ Kd.R k49 49 w' base ok (.slice (some ⟨g, 0, none⟩) n cap) (srt A ++ B) ∧ w1.grownBy w' (some g) := fun w1 h => by
    have := insertion_calls (fun _ _ => trivial) (A ++ B) 0 20 w1 (by rw [← hn]; exact h) (by omega) (by omega) (by omega)
    have e := isort_pre [] A B
    simp only [List.nil_append, List.length_nil, Nat.zero_add, hA] at e
    rw [e, ← hn] at this
    exact this
  have i2 : ∀ w1 : World, Kd.R k49 49 w1 base ok (.slice (some ⟨g, 0, none⟩) n cap) (srt A ++ B) → Calls Try.prog 59 #[.slice (some ⟨g, 0, none⟩) n cap, .int .i64 20, .int .i64 n, .func (.func 47) #[] #[]] w1 fun ex w' => ex = .returned (.tuple #[]) ∧ Kd.R k49 49 w' base ok (.slice (some ⟨g, 0, none⟩) n cap) (srt A ++ srt B) ∧ w1.grownBy w' (some g) := fun w1 h => by
    have hl : (srt A ++ B).length = n := by rw [List.length_append, srt_length, hA, hn']
    have := insertion_calls (fun _ _ => trivial) (srt A ++ B) 20 n w1 (by rw [hl]; exact h) (by omega) (by omega) (by omega)
    have e := isort_pre (srt A) B []
    simp only [List.append_nil, srt_length, hA] at e
    rw [hl, show isort 20 n (srt A ++ B) = srt A ++ srt B by rw [hn']; exact e] at this
    exact this
  have i3 : ∀ w1 : World, Kd.R k49 49 w1 base ok (.slice (some ⟨g, 0, none⟩) n cap) (srt A ++ srt B) → Calls Try.prog 60 #[.slice (some ⟨g, 0, none⟩) n cap, .int .i64 0, .int .i64 20, .int .i64 n, .func (.func 47) #[] #[]] w1 fun ex w' => ex = .returned (.tuple #[]) ∧ Kd.R k49 49 w' base ok (.slice (some ⟨g, 0, none⟩) n cap) (srt (A ++ B)) ∧ w1.grownBy w' (some g) := fun w1 h => by
    have la : (srt A).length = 20 := by rw [srt_length, hA]
    have lb : (srt B).length = B.length := srt_length B
    have := sym_all ((srt A).length + (srt B).length + 1) base g cap ok [] (srt A) (srt B) [] w1 n (fun hh => by rw [hh] at la; simp at la) (fun hh => by rw [hh] at lb; simp at lb; omega) (srt_Asc A) (srt_Asc B) (by omega) (by simp [la, lb, hn']) (by omega) (by simpa using h)
    simp only [List.nil_append, List.append_nil, List.length_nil, Nat.zero_add, la, lb, smerge_srt] at this
    rw [← hn'] at this
    exact this
  have I1 := Aside0.mk i1
  have I2 := Aside0.mk i2
  have I3 := Aside0.mk i3
  have HR := Aside0.mk hR
  have n1 : 20 < n := by omega
  have n2 : n < 40 := by omega
  clear i1 i2 i3 hR hn hA hB hB2 hn'
  have w40 : wrap64 ((20 : Int) + 20) = 40 := by rw [Go.IntWalk.wrap64_in _ (by omega)]; rfl
  have w41 : wrap64 ((2 : Int) * 20) = 40 := by rw [Go.IntWalk.wrap64_in _ (by omega)]; rfl
  have w42 : wrap64 ((20 : Int) * 2) = 40 := by rw [Go.IntWalk.wrap64_in _ (by omega)]; rfl
  have w43 : wrap64 ((0 : Int) + 20) = 20 := by rw [Go.IntWalk.wrap64_in _ (by omega)]; rfl
  have w44 : wrap64 (40 : Int) = 40 := by rw [Go.IntWalk.wrap64_in _ (by omega)]
  have w45 : wrap64 (20 : Int) = 20 := by rw [Go.IntWalk.wrap64_in _ (by omega)]
  have d1 : decide ((20 : Int) ≤ (n : Int)) = true := decide_eq_true (by omega)
  have d2 : (20 ≤ n) = True := eq_true (by omega)
  have d3 : decide ((40 : Int) ≤ (n : Int)) = false := decide_eq_false (by omega)
  have d4 : (40 ≤ n) = False := eq_false (by omega)
  have d5 : (20 < n) = True := eq_true n1
  have d6 : (40 < n) = False := eq_false (by omega)
  have d7 : decide ((20 : Int) < (n : Int)) = true := decide_eq_true (by omega)
  have d8 : decide ((40 : Int) < (n : Int)) = false := decide_eq_false (by omega)
  have N1 := Aside0.mk n1
  have N2 := Aside0.mk n2
  clear n1 n2
  go_enter Try.func56, Try.ntmps56
  go_wp2
  go_loopg [7, 8] 1 (fun g1 va vb wr => (va = .int .i64 0 ∧ vb = .int .i64 20 ∧ wr = w ∧ g1 = 1) ∨ (va = .int .i64 20 ∧ vb = .int .i64 40 ∧ Aside0 (Kd.R k49 49 wr base ok (.slice (some ⟨g, 0, none⟩) n cap) (srt A ++ B) ∧ w.grownBy wr (some g))))
  case atStart => exact .inl ⟨rfl, rfl, rfl, rfl⟩
  case round =>
    rcases hrel with ⟨rfl, rfl, rfl, rfl⟩ | ⟨rfl, rfl, h2⟩
    · go_wp2_with (go_at_call 59; refine (I1.out _ HR.out).mono ?_; rintro ex w2 ⟨rfl, hr⟩; have HR2 := Aside0.mk hr; clear hr)
      go_roundg 0
      case measure => omega
      case rel => exact .inr ⟨by first | rfl | (simp; done), by first | rfl | (simp; done), HR2⟩
    · clear HR
      go_wp2_with (go_at_call 59; refine (I2.out _ h2.out.1).mono ?_; rintro ex w2 ⟨rfl, hr⟩; have HR2 := Aside0.mk (And.intro hr.1 (grown_trans h2.out.2 hr.2)); clear hr)
      clear h2
      go_loopg [6, 7, 8] 1 (fun g1 vs va vb wr2 => (vs = .int .i64 20 ∧ va = .int .i64 20 ∧ vb = .int .i64 40 ∧ wr2 = w2 ∧ g1 = 1) ∨ (vs = .int .i64 40 ∧ va = .int .i64 0 ∧ vb = .int .i64 40 ∧ Aside0 (Kd.R k49 49 wr2 base ok (.slice (some ⟨g, 0, none⟩) n cap) (srt (A ++ B)) ∧ w.grownBy wr2 (some g))))
      case atStart => exact .inl ⟨rfl, rfl, rfl, rfl, rfl⟩
      case round =>
        rcases hrel with ⟨rfl, rfl, rfl, rfl, rfl⟩ | ⟨rfl, rfl, rfl, h3⟩
        · go_wp2
          go_loopg [7, 8] 0 (fun g2 va vb wr3 => va = .int .i64 0 ∧ vb = .int .i64 40 ∧ wr3 = wr)
          case atStart => exact ⟨by first | rfl | (simp; done), by first | rfl | (simp; done), rfl⟩
          case round =>
            obtain ⟨rfl, rfl, rfl⟩ := hrel
            go_wp2_with (go_at_call 60; refine (I3.out _ HR2.out.1).mono ?_; rintro ex w5 ⟨rfl, hr⟩; have HR5 := Aside0.mk (And.intro hr.1 (grown_trans HR2.out.2 hr.2)); clear hr)
            go_roundg 0
            case measure => omega
            case rel => exact .inr ⟨by first | rfl | (simp; done), by first | rfl | (simp; done), by first | rfl | (simp; done), HR5⟩
        · go_wp2
          go_end0
          exact ⟨rfl, h3.out⟩
set_option maxHeartbeats 8000000 in
set_option maxRecDepth 100000 in
theorem stable_calls {base g cap : Nat} {ok : Nat → Prop} (xs : List S49) (w : World) (hR : Kd.R k49 49 w base ok (.slice (some ⟨g, 0, none⟩) xs.length cap) xs) (hn : xs.length < 40) :
    Calls Try.prog 46 #[.slice (some ⟨g, 0, none⟩) xs.length cap, .func (.func 47) #[] #[]] w fun ex w' => ex = .returned (.tuple #[]) ∧ Kd.R k49 49 w' base ok (.slice (some ⟨g, 0, none⟩) xs.length cap) (srt xs) ∧ w.grownBy w' (some g) := by
  have st : Calls Try.prog 56 #[.slice (some ⟨g, 0, none⟩) xs.length cap, .int .i64 xs.length, .func (.func 47) #[] #[]] w fun ex w' => ex = .returned (.tuple #[]) ∧ Kd.R k49 49 w' base ok (.slice (some ⟨g, 0, none⟩) xs.length cap) (srt xs) ∧ w.grownBy w' (some g) := by
    by_cases h20 : xs.length ≤ 20
    · rw [← isort_srt]
      exact stable_short xs w hR h20
    · have e : xs = xs.take 20 ++ xs.drop 20 := (List.take_append_drop 20 xs).symm
      have := stable_long (base := base) (g := g) (cap := cap) (ok := ok) (xs.take 20) (xs.drop 20) (by rw [List.length_take]; omega) (by rw [List.length_drop]; omega) (by rw [List.length_drop]; omega) w xs.length (by rw [← e]) (by rw [← e]; exact hR)
      rw [← e] at this
      exact this
  go_enter Try.func46, Try.ntmps46
  go_wp2_with (go_at_call 56; refine st.mono ?_; rintro ex w2 ⟨rfl, hr⟩)
  go_end0
  exact ⟨rfl, hr⟩
end Go.Proofs.Ytlfnpakpkniipaa.Q
