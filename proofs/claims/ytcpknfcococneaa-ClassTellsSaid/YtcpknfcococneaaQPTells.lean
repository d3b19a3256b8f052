/-
Plain laws of this session: which classes may be, told by the program and by the document: the same.
-/
import Derived.IntWalk
import Derived.Test.YtcpknfcococneaaQPWhen
import Derived.Test.YtcpknfcococneaaQx7
import Derived.Test.YtcpknfcococneaaQx8
import Derived.Test.YtcpknfcococneaaQx9
import Derived.Test.YtcpknfcococneaaQx17
import Derived.Test.YtcpknfcococneaaQx18
set_option linter.unusedVariables false
set_option linter.unusedSimpArgs false
namespace Go.Proofs.Ytcpknfcococneaa.Q
open Go.RowKit Go.IntWalk Go.Proofs.YtcpknfcococneaaW.PrintWords Go.Proofs.YtcpknfcococneaaW.PrintLast Go.Proofs.YtcpknfcococneaaW.PrintMore Go.Proofs.YtcpknfcococneaaH

theorem getD_mid {α : Type} (pre : List α) (x : α) (xs : List α) (z : α) : (pre ++ x :: xs).getD pre.length z = x := by
  simp [List.getD]
theorem cheap_eq (a : Int) : class_cheap.f a = some (decide (0 ≤ a ∧ a ≤ 1000)) := by
  unfold class_cheap.f
  split
  · exact some_dec (by omega)
  · exact some_no (fun h => by omega)
theorem cost_eq (a : Int) : horariumref13_cost.f a = some (decide (0 ≤ a ∧ a ≤ 1000)) := by
  unfold horariumref13_cost.f
  split
  · exact some_dec (by omega)
  · exact some_no (fun h => by omega)
theorem Name_eq (s : ByteArray) : room_Name.f s = some (decide (1 ≤ (s.size : Int) ∧ (s.size : Int) ≤ 24)) := by
  unfold room_Name.f
  have hs : s.toList.length = s.size := by rw [ByteArray.toList_eq]; simp
  split
  · rename_i h
    refine some_no (fun h' => ?_)
    rw [h] at hs
    simp at hs
    omega
  · rename_i h
    have : s.toList.length ≠ 0 := fun h' => h (List.length_eq_zero_iff.1 h')
    exact some_dec (by omega)
theorem refName_eq (s : ByteArray) : horariumref11_Name.f s = some (decide (1 ≤ (s.size : Int) ∧ (s.size : Int) ≤ 24)) := by
  unfold horariumref11_Name.f
  split
  · exact some_dec (by omega)
  · exact some_no (fun h => by omega)

/-- Numbers that rise, each above the last one and below an end. -/
def rises (n : Int) : Int → List Int → Bool
  | _, [] => true
  | last, x :: xs => decide (last < x) && (decide (x < n) && rises n x xs)
theorem folk_l0 {l : List Int} {n : Int} (hl : l.length < 9223372036854775807) : ∀ (xs pre : List Int) (last : Int), l = pre ++ xs → Ev (fun k => class_folk.l0 k l n last l (l.length : Int) (pre.length : Int)) (rises n last xs && decide ((l.length : Int) ≤ 4))
  | [], pre, last, h => by
    refine Ev.step (f := fun _ => some (decide ((l.length : Int) ≤ 4))) (fun k => ?_) (Ev.congr (fun _ => by simp [rises]) (Ev.now _))
    rw [class_folk.l0, if_neg (by simp [h])]
  | x :: xs, pre, last, h => by
    have hlen : l.length = pre.length + (xs.length + 1) := by simp [h]
    have hx : rd l (pre.length : Int) = x := by unfold rd; rw [h, Int.toNat_natCast, getD_mid]
    refine Ev.step (f := fun k => if x ≤ last then some false else if x ≥ n then some false else class_folk.l0 k l n x l (l.length : Int) ((pre ++ [x]).length : Int)) (fun k => ?_) ?_
    · rw [class_folk.l0, if_pos (by omega), if_pos (by omega), if_pos (by omega), hx, wrap64_in _ (by omega)]
      simp
    · unfold rises
      by_cases h1 : x ≤ last
      · rw [decide_eq_false (by omega : ¬ last < x)]
        exact Ev.congr (fun _ => by rw [if_pos h1]; simp) (Ev.now _)
      by_cases h2 : x ≥ n
      · rw [decide_eq_false (by omega : ¬ x < n)]
        exact Ev.congr (fun _ => by rw [if_neg h1, if_pos h2]; simp) (Ev.now _)
      refine Ev.congr (fun _ => by rw [if_neg h1, if_neg h2]) ?_
      rw [decide_eq_true (by omega : last < x), decide_eq_true (by omega : x < n), Bool.true_and, Bool.true_and]
      exact folk_l0 hl xs (pre ++ [x]) x (by simp [h])
theorem Rising_l0 {l : List Int} {n : Int} (hl : l.length < 9223372036854775807) : ∀ (xs pre : List Int) (last : Int), l = pre ++ xs → -1 ≤ last → (pre = [] ∧ last = -1 ∨ ∃ p, pre = p ++ [last]) → Ev (fun k => horariumref13_Rising.l0 k l n (pre.length : Int)) (rises n last xs)
  | [], pre, last, h, h0, hp => by
    refine Ev.step (f := fun _ => some true) (fun k => ?_) (Ev.congr (fun _ => by simp [rises]) (Ev.now _))
    rw [horariumref13_Rising.l0, if_neg (by simp [h])]
  | x :: xs, pre, last, h, h0, hp => by
    have hlen : l.length = pre.length + (xs.length + 1) := by simp [h]
    have hx : rd l (pre.length : Int) = x := by unfold rd; rw [h, Int.toNat_natCast, getD_mid]
    refine Ev.step (f := fun k => if x ≤ last then some false else if x ≥ n then some false else horariumref13_Rising.l0 k l n ((pre ++ [x]).length : Int)) (fun k => ?_) ?_
    · rw [horariumref13_Rising.l0, if_pos (by omega), if_pos (by omega), hx, wrap64_in ((pre.length : Int) + 1) (by omega), wrap64_in _ (by omega)]
      have hsucc : ((pre ++ [x]).length : Int) = (pre.length : Int) + 1 := by simp
      rw [hsucc]
      by_cases h1 : x < 0
      · rw [if_pos h1, if_pos (by omega)]
      rw [if_neg h1]
      by_cases h2 : x ≥ n
      · rw [if_pos h2, if_pos h2, ite_self]
      rw [if_neg h2, if_neg h2]
      rcases hp with ⟨rfl, rfl⟩ | ⟨p, rfl⟩
      · rw [if_neg (by simp), if_neg (by omega)]
      · have hq : rd l (((p ++ [last]).length : Int) - 1) = last := by
          unfold rd
          have : ((((p ++ [last]).length : Nat) : Int) - 1).toNat = p.length := by simp
          rw [h, this, List.append_assoc, List.singleton_append, getD_mid]
        rw [if_pos (by simp), if_pos (by simp), if_pos (by omega), hq]
    · unfold rises
      by_cases h1 : x ≤ last
      · rw [decide_eq_false (by omega : ¬ last < x)]
        exact Ev.congr (fun _ => by rw [if_pos h1]; simp) (Ev.now _)
      by_cases h2 : x ≥ n
      · rw [decide_eq_false (by omega : ¬ x < n)]
        exact Ev.congr (fun _ => by rw [if_neg h1, if_pos h2]; simp) (Ev.now _)
      refine Ev.congr (fun _ => by rw [if_neg h1, if_neg h2]) ?_
      rw [decide_eq_true (by omega : last < x), decide_eq_true (by omega : x < n), Bool.true_and, Bool.true_and]
      exact Rising_l0 hl xs (pre ++ [x]) x (by simp [h]) (by omega) (.inr ⟨pre, rfl⟩)
theorem folk_ev {l : List Int} {n : Int} (hl : l.length < 9223372036854775807) : Ev (fun k => class_folk.f k l n) (rises n (-1) l && decide ((l.length : Int) ≤ 4)) := folk_l0 hl l [] (-1) rfl
theorem Rising_ev {l : List Int} {n : Int} (hl : l.length < 9223372036854775807) : Ev (fun k => horariumref13_Rising.f k l n) (rises n (-1) l) := Rising_l0 hl l [] (-1) rfl (by omega) (.inl ⟨rfl, rfl⟩)

/-- Are these a class's times: each right, cheap, and not met before? -/
def timesOk (g0 g1 g2 : Int) : List S46 → List S58 → Bool
  | _, [] => true
  | met, x :: xs => decide (WhenOk g0 g1 g2 x.f0.f0 x.f0.f1 x.f0.f2 x.f0.f3) && (decide (0 ≤ x.f1 ∧ x.f1 ≤ 1000) && (!hasW x.f0 met && timesOk g0 g1 g2 (x.f0 :: met) xs))
theorem wokW_of {x : S46} (h : ok46 x) : wokW x = true := by
  obtain ⟨h1, h2, h3, h4⟩ := h
  unfold wokW
  rw [h1, h2, h3, h4]
  rfl
theorem times_go {g0 g1 g2 : Int} {fin : Bool} : ∀ (l : List S58) (met : List S46), (∀ x ∈ l, ok58 x) → class_times.go g0 g1 g2 fin met l = some (timesOk g0 g1 g2 met l && fin)
  | [], met, h => by simp [class_times.go, timesOk]
  | x :: xs, met, h => by
    have hx := h x (by simp)
    rw [class_times.go, if_pos (wokW_of hx.1), when_Right_eq hx.1.1 hx.1.2.1, Option.bind_some, timesOk, cheap_eq, times_go xs _ (fun y hy => h y (by simp [hy]))]
    by_cases h1 : WhenOk g0 g1 g2 x.f0.f0 x.f0.f1 x.f0.f2 x.f0.f3 <;> by_cases h2 : 0 ≤ x.f1 ∧ x.f1 ≤ 1000 <;> cases h3 : hasW x.f0 met <;> simp [h1, h2]
theorem times_eq {g0 g1 g2 : Int} {l : List S58} (h : ∀ x ∈ l, ok58 x) : class_times.f g0 g1 g2 l = some (timesOk g0 g1 g2 [] l && (decide (0 < l.length) && decide (l.length ≤ 16))) := times_go l [] h
theorem hasW_any (x : S46) : ∀ l, hasW x l = l.any (fun y => (y.f0 == x.f0 && y.f1 == x.f1 && y.f2 == x.f2 && y.f3 == x.f3))
  | [] => rfl
  | y :: ys => by rw [hasW, hasW_any x ys, List.any_cons]
theorem refTimes_l1 {l : List S58} {g0 g1 g2 : Int} (hl : l.length < 9223372036854775807) {pre : List S58} {x : S58} {xs : List S58} (h : l = pre ++ x :: xs) {r : Bool} (hr : Ev (fun k => horariumref13_times.l0 k l ((pre ++ [x]).length : Int) g0 g1 g2) r) :
    ∀ (rest before : List S58), pre = before ++ rest → Ev (fun k => horariumref13_times.l1 k l (pre.length : Int) (before.length : Int) g0 g1 g2) (!(rest.any fun y => (y.f0.f0 == x.f0.f0 && y.f0.f1 == x.f0.f1 && y.f0.f2 == x.f0.f2 && y.f0.f3 == x.f0.f3)) && r)
  | [], before, hb => by
    have hlen : l.length = pre.length + (xs.length + 1) := by simp [h]
    refine Ev.step (f := fun k => horariumref13_times.l0 k l ((pre ++ [x]).length : Int) g0 g1 g2) (fun k => ?_) (by simpa using hr)
    rw [horariumref13_times.l1, if_neg (by simp [hb]), wrap64_in _ (by omega)]
    simp
  | y :: rest, before, hb => by
    have hlen : l.length = pre.length + (xs.length + 1) := by simp [h]
    have hlb : pre.length = before.length + (rest.length + 1) := by simp [hb]
    have hx : rd_T58 l (pre.length : Int) = x := by unfold rd_T58; rw [h, Int.toNat_natCast, getD_mid]
    have hy : rd_T58 l (before.length : Int) = y := by unfold rd_T58; rw [h, hb, Int.toNat_natCast, List.append_assoc, List.cons_append, getD_mid]
    refine Ev.step (f := fun k => if (y.f0.f0 == x.f0.f0 && y.f0.f1 == x.f0.f1 && y.f0.f2 == x.f0.f2 && y.f0.f3 == x.f0.f3) = true then some false else horariumref13_times.l1 k l (pre.length : Int) ((before ++ [y]).length : Int) g0 g1 g2) (fun k => ?_) ?_
    · rw [horariumref13_times.l1, if_pos (by omega), if_pos (by omega), if_pos (by omega), if_pos (by omega), if_pos (by omega), hx, hy, wrap64_in _ (by omega)]
      simp [Bool.and_assoc]
    · rw [List.any_cons]
      cases hq : (y.f0.f0 == x.f0.f0 && y.f0.f1 == x.f0.f1 && y.f0.f2 == x.f0.f2 && y.f0.f3 == x.f0.f3) with
      | true => exact Ev.congr (fun _ => by simp) (Ev.now _)
      | false =>
        refine Ev.congr (fun _ => by rw [if_neg (by simp)]) ?_
        rw [Bool.false_or]
        exact refTimes_l1 hl h hr rest (before ++ [y]) (by simp [hb])
theorem refTimes_l0 {l : List S58} {g0 g1 g2 : Int} (hl : l.length < 9223372036854775807) : ∀ (xs pre : List S58), l = pre ++ xs → (∀ x ∈ xs, ok58 x) → Ev (fun k => horariumref13_times.l0 k l (pre.length : Int) g0 g1 g2) (timesOk g0 g1 g2 (pre.reverse.map (·.f0)) xs && (decide (0 < l.length) && decide (l.length ≤ 16)))
  | [], pre, h, ho => by
    refine Ev.step (f := fun _ => some (decide (0 < l.length) && decide (l.length ≤ 16))) (fun k => ?_) (Ev.congr (fun _ => by simp [timesOk]) (Ev.now _))
    rw [horariumref13_times.l0, if_neg (by simp [h])]
    split
    · rw [decide_eq_true (by omega : 0 < l.length), Bool.true_and]; exact some_dec (by omega)
    · rw [decide_eq_false (by omega : ¬ 0 < l.length), Bool.false_and]
  | x :: xs, pre, h, ho => by
    have hlen : l.length = pre.length + (xs.length + 1) := by simp [h]
    have hx : rd_T58 l (pre.length : Int) = x := by unfold rd_T58; rw [h, Int.toNat_natCast, getD_mid]
    have hox := ho x (by simp)
    have no : Ev (fun k => horariumref13_times.j1 k l (pre.length : Int) true g0 g1 g2) false := Ev.step (f := fun _ => some false) (fun k => by rw [horariumref13_times.j1, if_pos rfl]) (Ev.now _)
    refine Ev.step (f := fun k => (horariumref09_Right.f k g0 g1 g2 x.f0.f0 x.f0.f1 x.f0.f2 x.f0.f3).bind fun t => if t = true then horariumref13_times.j1 k l (pre.length : Int) (!decide (0 ≤ x.f1 ∧ x.f1 ≤ 1000)) g0 g1 g2 else horariumref13_times.j1 k l (pre.length : Int) true g0 g1 g2) (fun k => ?_) ?_
    · rw [horariumref13_times.l0, if_pos (by omega), if_pos (by omega), hx]
      simp only [cost_eq, Option.bind_some]
    refine Ev.bind (ref_Right_ev hox.1.1 hox.1.2.1 hox.1.2.2.2) ?_
    rw [timesOk]
    by_cases h1 : WhenOk g0 g1 g2 x.f0.f0 x.f0.f1 x.f0.f2 x.f0.f3
    rotate_left
    · rw [decide_eq_false h1]; exact Ev.congr (f := fun k => horariumref13_times.j1 k l (pre.length : Int) true g0 g1 g2) (fun k => by rw [if_neg (by simp)]) (by simpa using no)
    rw [decide_eq_true h1, Bool.true_and]
    refine Ev.congr (fun k => by rw [if_pos rfl]) ?_
    by_cases h2 : 0 ≤ x.f1 ∧ x.f1 ≤ 1000
    rotate_left
    · rw [decide_eq_false h2]; simpa using no
    rw [decide_eq_true h2, Bool.true_and]
    refine Ev.step (f := fun k => horariumref13_times.l1 k l (pre.length : Int) (([] : List S58).length : Int) g0 g1 g2) (fun k => by rw [horariumref13_times.j1, if_neg (by simp)]; rfl) ?_
    have hr := refTimes_l0 (g0 := g0) (g1 := g1) (g2 := g2) hl xs (pre ++ [x]) (by simp [h]) (fun y hy => ho y (by simp [hy]))
    have hq := refTimes_l1 hl h hr pre [] rfl
    have e : hasW x.f0 (pre.reverse.map (·.f0)) = pre.any fun y => (y.f0.f0 == x.f0.f0 && y.f0.f1 == x.f0.f1 && y.f0.f2 == x.f0.f2 && y.f0.f3 == x.f0.f3) := by
      rw [hasW_any, List.any_map, List.any_reverse]; rfl
    rw [e, Bool.and_assoc]
    simpa using hq
theorem refTimes_ev {l : List S58} {g0 g1 g2 : Int} (hl : l.length < 9223372036854775807) (ho : ∀ x ∈ l, ok58 x) : Ev (fun k => horariumref13_times.f k g0 g1 g2 l) (timesOk g0 g1 g2 [] l && (decide (0 < l.length) && decide (l.length ≤ 16))) := refTimes_l0 hl l [] rfl ho

/-- Are these a class's places? -/
def placesOk (n : Int) : List Int → List S60 → Bool
  | _, [] => true
  | met, x :: xs => decide (0 ≤ x.f0 ∧ x.f0 < n) && (decide (0 ≤ x.f1 ∧ x.f1 ≤ 1000) && (!met.contains x.f0 && placesOk n (x.f0 :: met) xs))
theorem places_go {n : Int} {fin : Bool} : ∀ (l : List S60) (met : List Int), (∀ x ∈ l, ok60 x) → class_places.go n fin met l = some (placesOk n met l && fin)
  | [], met, h => by simp [class_places.go, placesOk]
  | x :: xs, met, h => by
    have hx := h x (by simp)
    rw [class_places.go, if_pos hx.1, placesOk, cheap_eq, places_go xs _ (fun y hy => h y (by simp [hy]))]
    by_cases h1 : x.f0 < 0
    · rw [if_pos h1, decide_eq_false (by omega), Bool.false_and, Bool.false_and]
    by_cases h4 : x.f0 ≥ n
    · rw [if_neg h1, if_pos h4, decide_eq_false (by omega), Bool.false_and, Bool.false_and]
    rw [if_neg h1, if_neg h4, decide_eq_true (by omega : 0 ≤ x.f0 ∧ x.f0 < n), Bool.true_and]
    by_cases h2 : 0 ≤ x.f1 ∧ x.f1 ≤ 1000 <;> cases h3 : met.contains x.f0 <;> simp [h2]
theorem places_eq {n : Int} {l : List S60} (h : ∀ x ∈ l, ok60 x) : class_places.f n l = some (placesOk n [] l && decide (l.length ≤ 12)) := places_go l [] h
theorem contains_any (x : Int) : ∀ l : List Int, l.contains x = l.any (fun y => decide (y = x))
  | [] => rfl
  | y :: ys => by
    rw [List.contains_cons, List.any_cons, contains_any x ys]
    congr 1
    rw [Bool.eq_iff_iff, beq_iff_eq, decide_eq_true_eq]
    exact eq_comm
theorem refPlaces_l1 {l : List S60} {n : Int} (hl : l.length < 9223372036854775807) {pre : List S60} {x : S60} {xs : List S60} (h : l = pre ++ x :: xs) {r : Bool} (hr : Ev (fun k => horariumref13_places.l0 k n l ((pre ++ [x]).length : Int)) r) :
    ∀ (rest before : List S60), pre = before ++ rest → Ev (fun k => horariumref13_places.l1 k n l (pre.length : Int) (before.length : Int)) (!(rest.any fun y => decide (y.f0 = x.f0)) && r)
  | [], before, hb => by
    have hlen : l.length = pre.length + (xs.length + 1) := by simp [h]
    refine Ev.step (f := fun k => horariumref13_places.l0 k n l ((pre ++ [x]).length : Int)) (fun k => ?_) (by simpa using hr)
    rw [horariumref13_places.l1, if_neg (by simp [hb]), wrap64_in _ (by omega)]
    simp
  | y :: rest, before, hb => by
    have hlen : l.length = pre.length + (xs.length + 1) := by simp [h]
    have hlb : pre.length = before.length + (rest.length + 1) := by simp [hb]
    have hx : rd_T60 l (pre.length : Int) = x := by unfold rd_T60; rw [h, Int.toNat_natCast, getD_mid]
    have hy : rd_T60 l (before.length : Int) = y := by unfold rd_T60; rw [h, hb, Int.toNat_natCast, List.append_assoc, List.cons_append, getD_mid]
    refine Ev.step (f := fun k => if y.f0 = x.f0 then some false else horariumref13_places.l1 k n l (pre.length : Int) ((before ++ [y]).length : Int)) (fun k => ?_) ?_
    · rw [horariumref13_places.l1, if_pos (by omega), if_pos (by omega), if_pos (by omega), if_pos (by omega), if_pos (by omega), hx, hy, wrap64_in _ (by omega)]
      simp
    · rw [List.any_cons]
      by_cases hq : y.f0 = x.f0
      · exact Ev.congr (fun _ => by simp [hq]) (Ev.now _)
      · refine Ev.congr (fun _ => by rw [if_neg hq]) ?_
        rw [decide_eq_false hq, Bool.false_or]
        exact refPlaces_l1 hl h hr rest (before ++ [y]) (by simp [hb])
theorem refPlaces_l0 {l : List S60} {n : Int} (hl : l.length < 9223372036854775807) : ∀ (xs pre : List S60), l = pre ++ xs → Ev (fun k => horariumref13_places.l0 k n l (pre.length : Int)) (placesOk n (pre.reverse.map (·.f0)) xs && decide (l.length ≤ 12))
  | [], pre, h => by
    refine Ev.step (f := fun _ => some (decide (l.length ≤ 12))) (fun k => ?_) (Ev.congr (fun _ => by simp [placesOk]) (Ev.now _))
    rw [horariumref13_places.l0, if_neg (by simp [h])]
    exact some_dec (by omega)
  | x :: xs, pre, h => by
    have hlen : l.length = pre.length + (xs.length + 1) := by simp [h]
    have hx : rd_T60 l (pre.length : Int) = x := by unfold rd_T60; rw [h, Int.toNat_natCast, getD_mid]
    have no : Ev (fun k => horariumref13_places.j1 k n l (pre.length : Int) true) false := Ev.step (f := fun _ => some false) (fun k => by rw [horariumref13_places.j1, if_pos rfl]) (Ev.now _)
    refine Ev.step (f := fun k => if x.f0 < 0 then horariumref13_places.j1 k n l (pre.length : Int) true else if x.f0 ≥ n then horariumref13_places.j1 k n l (pre.length : Int) true else horariumref13_places.j1 k n l (pre.length : Int) (!decide (0 ≤ x.f1 ∧ x.f1 ≤ 1000))) (fun k => ?_) ?_
    · rw [horariumref13_places.l0, if_pos (by omega), if_pos (by omega), hx]
      simp only [cost_eq, Option.bind_some]
    rw [placesOk]
    by_cases h1 : x.f0 < 0
    · rw [decide_eq_false (by omega : ¬ (0 ≤ x.f0 ∧ x.f0 < n))]; exact Ev.congr (fun k => by rw [if_pos h1]) (by simpa using no)
    by_cases h4 : x.f0 ≥ n
    · rw [decide_eq_false (by omega : ¬ (0 ≤ x.f0 ∧ x.f0 < n))]; exact Ev.congr (fun k => by rw [if_neg h1, if_pos h4]) (by simpa using no)
    rw [decide_eq_true (by omega : 0 ≤ x.f0 ∧ x.f0 < n), Bool.true_and]
    refine Ev.congr (fun k => by rw [if_neg h1, if_neg h4]) ?_
    by_cases h2 : 0 ≤ x.f1 ∧ x.f1 ≤ 1000
    rotate_left
    · rw [decide_eq_false h2]; simpa using no
    rw [decide_eq_true h2, Bool.true_and]
    refine Ev.step (f := fun k => horariumref13_places.l1 k n l (pre.length : Int) (([] : List S60).length : Int)) (fun k => by rw [horariumref13_places.j1, if_neg (by simp)]; rfl) ?_
    have hr := refPlaces_l0 (n := n) hl xs (pre ++ [x]) (by simp [h])
    have hq := refPlaces_l1 hl h hr pre [] rfl
    have e : (pre.reverse.map (·.f0)).contains x.f0 = pre.any fun y => decide (y.f0 = x.f0) := by
      rw [contains_any, List.any_map, List.any_reverse]; rfl
    rw [e, Bool.and_assoc]
    simpa using hq
theorem refPlaces_ev {l : List S60} {n : Int} (hl : l.length < 9223372036854775807) : Ev (fun k => horariumref13_places.f k n l) (placesOk n [] l && decide (l.length ≤ 12)) := refPlaces_l0 hl l [] rfl

/-- May it be a class? -/
def classOk (g0 g1 g2 r p c : Int) (x : S30) : Bool :=
  decide (GridOk g0 g1 g2) && (decide (1 ≤ (x.f0.size : Int) ∧ (x.f0.size : Int) ≤ 24) && (decide (0 ≤ x.f1 ∧ x.f1 ≤ 10000) && (decide (-1 ≤ x.f6 ∧ x.f6 < c) && ((rises p (-1) x.f3 && decide ((x.f3.length : Int) ≤ 4)) &&
    ((timesOk g0 g1 g2 [] x.f4 && (decide (0 < x.f4.length) && decide (x.f4.length ≤ 16))) && (placesOk r [] x.f5 && decide (x.f5.length ≤ 12)))))))
theorem small {n m : Nat} (h : n * m ≤ 140737488351232) (hm : 0 < m) : n < 9223372036854775807 := by
  have := Nat.le_mul_of_pos_right n hm
  omega
theorem Right_ev {g0 g1 g2 r p c : Int} {x : S30} (ho : ok30 x) : Ev (fun k => class_Right.f k g0 g1 g2 r p c x.f0 x.f1 x.f2 x.f3 x.f4 x.f5 x.f6) (classOk g0 g1 g2 r p c x) := by
  obtain ⟨o0, o1, o2, ⟨o3, _⟩, ⟨o4, o4'⟩, ⟨o5, o5'⟩, o6⟩ := ho
  have no : Ev (fun k => class_Right.j0 k r p true g0 g1 g2 x.f0 x.f1 x.f2 x.f3 x.f4 x.f5 x.f6) false := Ev.step (f := fun _ => some false) (fun k => by rw [class_Right.j0, if_pos rfl]) (Ev.now _)
  unfold class_Right.f classOk
  simp only [when_RightGrid_eq, Name_eq, Option.bind_some, decide_eq_true_eq]
  by_cases h1 : GridOk g0 g1 g2
  rotate_left
  · rw [decide_eq_false h1]; simp only [if_neg h1]; simpa using no
  simp only [if_pos h1, decide_eq_true h1, Bool.true_and]
  by_cases h2 : 1 ≤ (x.f0.size : Int) ∧ (x.f0.size : Int) ≤ 24
  rotate_left
  · rw [decide_eq_false h2]; simp only [if_neg h2]; simpa using no
  rw [decide_eq_true h2]
  simp only [if_pos h2, Bool.true_and]
  by_cases h3 : x.f1 < 0
  · rw [decide_eq_false (by omega : ¬ (0 ≤ x.f1 ∧ x.f1 ≤ 10000))]; simp only [if_pos h3]; simpa using no
  simp only [if_neg h3]
  by_cases h4 : x.f1 > 10000
  · rw [decide_eq_false (by omega : ¬ (0 ≤ x.f1 ∧ x.f1 ≤ 10000))]; simp only [if_pos h4]; simpa using no
  rw [decide_eq_true (by omega : 0 ≤ x.f1 ∧ x.f1 ≤ 10000)]
  simp only [if_neg h4, Bool.true_and]
  by_cases h5 : x.f6 < -1
  · rw [decide_eq_false (by omega : ¬ (-1 ≤ x.f6 ∧ x.f6 < c))]; simp only [if_pos h5]; simpa using no
  simp only [if_neg h5]
  by_cases h6 : x.f6 ≥ c
  · rw [decide_eq_false (by omega : ¬ (-1 ≤ x.f6 ∧ x.f6 < c)), decide_eq_true h6]; simpa using no
  rw [decide_eq_true (by omega : -1 ≤ x.f6 ∧ x.f6 < c), decide_eq_false h6, Bool.true_and]
  refine Ev.step (f := fun k => (class_folk.f k x.f3 p).bind fun t117 => (if t117 = true then ((class_times.f g0 g1 g2 x.f4).bind fun t118 => (if t118 = true then ((class_places.f r x.f5).bind fun t119 => (some t119)) else (some false))) else (some false))) (fun k => by rw [class_Right.j0, if_neg (by simp)]) ?_
  refine Ev.bind (folk_ev (small o3 (by omega))) ?_
  rw [times_eq o4', places_eq o5']
  refine Ev.congr (f := fun _ => _) (fun k => ?_) (Ev.now _)
  cases (rises p (-1) x.f3 && decide ((x.f3.length : Int) ≤ 4)) <;> cases (timesOk g0 g1 g2 [] x.f4 && (decide (0 < x.f4.length) && decide (x.f4.length ≤ 16))) <;> simp
theorem refRight_ev {g0 g1 g2 r p c : Int} {x : S30} (ho : ok30 x) : Ev (fun k => horariumref13_Right.f k g0 g1 g2 r p c x.f0 x.f1 x.f2 x.f3 x.f4 x.f5 x.f6) (classOk g0 g1 g2 r p c x) := by
  obtain ⟨o0, o1, o2, ⟨o3, _⟩, ⟨o4, o4'⟩, ⟨o5, o5'⟩, o6⟩ := ho
  unfold horariumref13_Right.f classOk
  simp only [ref_RightGrid_eq, refName_eq, Option.bind_some, decide_eq_true_eq]
  by_cases h1 : GridOk g0 g1 g2
  rotate_left
  · rw [decide_eq_false h1]; simp only [if_neg h1]; exact Ev.now _
  simp only [if_pos h1, decide_eq_true h1, Bool.true_and]
  by_cases h2 : 1 ≤ (x.f0.size : Int) ∧ (x.f0.size : Int) ≤ 24
  rotate_left
  · rw [decide_eq_false h2]; simp only [if_neg h2]; exact Ev.now _
  rw [decide_eq_true h2]
  simp only [if_pos h2, Bool.true_and]
  by_cases h3 : x.f1 ≥ 0
  rotate_left
  · rw [decide_eq_false (by omega : ¬ (0 ≤ x.f1 ∧ x.f1 ≤ 10000))]; simp only [if_neg h3]; exact Ev.now _
  simp only [if_pos h3]
  by_cases h4 : x.f1 ≤ 10000
  rotate_left
  · rw [decide_eq_false (by omega : ¬ (0 ≤ x.f1 ∧ x.f1 ≤ 10000))]; simp only [if_neg h4]; exact Ev.now _
  rw [decide_eq_true (by omega : 0 ≤ x.f1 ∧ x.f1 ≤ 10000)]
  simp only [if_pos h4, Bool.true_and]
  by_cases h5 : (x.f3.length : Int) ≤ 4
  rotate_left
  · rw [decide_eq_false h5]; simp only [if_neg h5, Bool.and_false, Bool.false_and]; exact Ev.now _
  rw [decide_eq_true h5]
  simp only [if_pos h5, Bool.and_true]
  have tail : Ev (fun k => (horariumref13_Rising.f k x.f3 p).bind fun t166 => (if t166 = true then ((horariumref13_times.f k g0 g1 g2 x.f4).bind fun t167 => (if t167 = true then ((horariumref13_places.f k r x.f5).bind fun t168 => (if t168 = true then (if x.f6 ≥ (-1) then (some (decide (x.f6 < c))) else (some false)) else (some false))) else (some false))) else (some false)))
      (rises p (-1) x.f3 && ((timesOk g0 g1 g2 [] x.f4 && (decide (0 < x.f4.length) && decide (x.f4.length ≤ 16))) && ((placesOk r [] x.f5 && decide (x.f5.length ≤ 12)) && decide (-1 ≤ x.f6 ∧ x.f6 < c)))) := by
    refine Ev.bind (Rising_ev (small o3 (by omega))) ?_
    cases rises p (-1) x.f3
    · exact Ev.congr (fun _ => by simp) (Ev.now _)
    refine Ev.congr (fun _ => by rw [if_pos rfl]) ?_
    rw [Bool.true_and]
    refine Ev.bind (refTimes_ev (small o4 (by omega)) o4') ?_
    cases (timesOk g0 g1 g2 [] x.f4 && (decide (0 < x.f4.length) && decide (x.f4.length ≤ 16)))
    · exact Ev.congr (fun _ => by simp) (Ev.now _)
    refine Ev.congr (fun _ => by rw [if_pos rfl]) ?_
    rw [Bool.true_and]
    refine Ev.bind (refPlaces_ev (small o5 (by omega))) ?_
    cases (placesOk r [] x.f5 && decide (x.f5.length ≤ 12))
    · exact Ev.congr (fun _ => by simp) (Ev.now _)
    refine Ev.congr (f := fun _ => _) (fun _ => by rw [if_pos rfl]) ?_
    rw [Bool.true_and]
    refine Ev.congr (fun _ => ?_) (Ev.now _)
    split
    · exact some_dec (by omega)
    · exact some_no (fun h => by omega)
  have e : (decide (-1 ≤ x.f6 ∧ x.f6 < c) && (rises p (-1) x.f3 && ((timesOk g0 g1 g2 [] x.f4 && (decide (0 < x.f4.length) && decide (x.f4.length ≤ 16))) && (placesOk r [] x.f5 && decide (x.f5.length ≤ 12))))) =
      (rises p (-1) x.f3 && ((timesOk g0 g1 g2 [] x.f4 && (decide (0 < x.f4.length) && decide (x.f4.length ≤ 16))) && ((placesOk r [] x.f5 && decide (x.f5.length ≤ 12)) && decide (-1 ≤ x.f6 ∧ x.f6 < c)))) := by
    cases decide (-1 ≤ x.f6 ∧ x.f6 < c) <;> simp
  rw [e]
  exact tail
end Go.Proofs.Ytcpknfcococneaa.Q
