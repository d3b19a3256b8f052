/- Words for the claim. -/
import Derived.Test.YtlfnpakpkniipaaZGQMGrow
import Derived.Test.YtlfnpakpkniipaaZGQx0
import Derived.Test.YtlfnpakpkniipaaZGQx10
import Derived.Test.YtlfnpakpkniipaaZGQx21
import Derived.Test.YtlfnpakpkniipaaZGQx24
set_option linter.unusedVariables false
set_option linter.unusedSimpArgs false
namespace Go.Proofs.Ytlfnpakpkniipaa.Q
open Go.RowKit Go.IntWalk Go.Proofs.YtlfnpakpkniipaaW.PrintWords Go.Proofs.YtlfnpakpkniipaaW.PrintLast Go.Proofs.YtlfnpakpkniipaaW.PrintMore Go.Proofs.YtlfnpakpkniipaaH
theorem sum_le {f g : Nat → Int} : ∀ l : List Nat, (∀ d ∈ l, f d ≤ g d) → (l.map f).sum ≤ (l.map g).sum
  | [], h => by simp
  | d :: l, h => by
    have := sum_le l (fun x hx => h x (by simp [hx]))
    have := h d (by simp)
    rw [List.map_cons, List.map_cons, List.sum_cons, List.sum_cons]
    omega
theorem sum_nonneg {f : Nat → Int} : ∀ l : List Nat, (∀ d ∈ l, 0 ≤ f d) → 0 ≤ (l.map f).sum
  | [], h => by simp
  | d :: l, h => by
    have := sum_nonneg l (fun x hx => h x (by simp [hx]))
    have := h d (by simp)
    rw [List.map_cons, List.sum_cons]
    omega
theorem sum_pos {f g : Nat → Int} : ∀ l : List Nat, (∀ d ∈ l, 0 ≤ f d) → (∀ d ∈ l, 0 ≤ g d) → (∀ d ∈ l, 0 < f d → 0 < g d) → 0 < (l.map f).sum → 0 < (l.map g).sum
  | [], _, _, _, h => by simp at h
  | d :: l, h1, h2, h3, h => by
    have g1 := sum_nonneg l (fun x hx => h2 x (by simp [hx]))
    have g2 := h2 d (by simp)
    have f2 := h1 d (by simp)
    have g3 := h3 d (by simp)
    rw [List.map_cons, List.sum_cons] at h ⊢
    by_cases hd : 0 < f d
    · have := g3 hd
      omega
    · have := sum_pos l (fun x hx => h1 x (by simp [hx])) (fun x hx => h2 x (by simp [hx])) (fun x hx => h3 x (by simp [hx])) (by omega)
      omega
theorem mx0_mono {x y : Int} (h : x ≤ y) : mx 0 x ≤ mx 0 y := by unfold mx; split <;> split <;> omega
theorem count_mono {p q : Nat → Bool} (h : ∀ s, p s = true → q s = true) : ∀ l : List Nat, (l.filter p).length ≤ (l.filter q).length
  | [] => by simp
  | s :: l => by
    have ih := count_mono h l
    rw [List.filter_cons, List.filter_cons]
    by_cases hp : p s = true
    · rw [if_pos hp, if_pos (h s hp), List.length_cons, List.length_cons]; omega
    · rw [if_neg hp]
      split
      · rw [List.length_cons]; omega
      · exact ih
theorem toNat_or (a b : Bool) : a.toNat ≤ (a || b).toNat := by cases a <;> cases b <;> simp
theorem daysN_grow {g0 g1 g2 : Int} (l m : List S49) : daysN g0 g1 g2 l ≤ daysN g0 g1 g2 (l ++ m) := by
  have e : ∀ d, onDow g0 g1 g2 (l ++ m) d = (onDow g0 g1 g2 l d || onDow g0 g1 g2 m d) := fun d => by unfold onDow; rw [List.any_append]
  have t : ∀ d, (onDow g0 g1 g2 l d).toNat ≤ (onDow g0 g1 g2 (l ++ m) d).toNat := fun d => by rw [e]; exact toNat_or _ _
  unfold daysN
  have := t 0; have := t 1; have := t 2; have := t 3; have := t 4; have := t 5; have := t 6
  omega
theorem busyN_grow {g0 g1 g2 : Int} (l m : List S49) (d : Nat) : busyN g0 g1 g2 l d ≤ busyN g0 g1 g2 (l ++ m) d := by
  unfold busyN
  refine count_mono (fun s h => ?_) _
  unfold inAt at h ⊢
  rw [List.any_append, h]
  rfl
theorem mx0_nonneg (x : Int) : 0 ≤ mx 0 x := by unfold mx; split <;> omega
theorem stepS_nonneg {g0 g1 g2 k a b : Int} {l : List S49} {d : Nat} : 0 ≤ stepS g0 g1 g2 l k a b d := by
  unfold stepS
  split
  · exact mx0_nonneg _
  split
  · exact mx0_nonneg _
  split
  · omega
  · omega
theorem overS_grow {g0 g1 g2 k a b : Int} (l m : List S49) (h3 : k ≠ 23) (h4 : k ≠ 24) : overS g0 g1 g2 l k a b ≤ overS g0 g1 g2 (l ++ m) k a b := by
  unfold overS
  split
  · have := daysN_grow (g0 := g0) (g1 := g1) (g2 := g2) l m
    exact mx0_mono (by omega)
  · refine sum_le _ (fun d _ => ?_)
    unfold stepS
    rw [if_neg h3, if_neg h4, if_neg h3, if_neg h4]
    split
    · have := busyN_grow (g0 := g0) (g1 := g1) (g2 := g2) l m d
      exact mx0_mono (by omega)
    · omega
theorem overS_pos {g0 g1 g2 k a b : Int} (l m : List S49) (h3 : k ≠ 23) (h : 0 < overS g0 g1 g2 l k a b) : 0 < overS g0 g1 g2 (l ++ m) k a b := by
  by_cases h4 : k = 24
  · subst h4
    unfold overS at h ⊢
    rw [if_neg (by decide)] at h ⊢
    refine sum_pos _ (fun d _ => stepS_nonneg) (fun d _ => stepS_nonneg) (fun d _ hd => ?_) h
    unfold stepS at hd ⊢
    rw [if_neg (by decide), if_neg (by decide), if_pos rfl] at hd ⊢
    have := blocks_grow (m := m) (show 0 < longN (blocksS g0 g1 g2 l (d : Int) b) (mx 0 a) by omega)
    omega
  · have := overS_grow (g0 := g0) (g1 := g1) (g2 := g2) (a := a) (b := b) l m h3 h4
    omega
def brk (g0 g1 g2 : Int) (l : List S49) (k a b : Int) : Bool := if k = 23 then false else decide (overS g0 g1 g2 l k a b > 0)
def leastS (g0 g1 g2 : Int) (l : List S49) (k a b : Int) : Int := if k = 23 then 0 else if k = 24 then 0 else overS g0 g1 g2 l k a b
theorem broken_ev {l : List S49} {g0 g1 g2 k a b : Int} (h : Ev (fun n => many_Over.f n g0 g1 g2 k a b l) (overS g0 g1 g2 l k a b)) : Ev (fun n => many_Broken.f n g0 g1 g2 k a b l false) (brk g0 g1 g2 l k a b) := by
  unfold many_Broken.f brk
  simp only [Bool.false_eq_true, if_false]
  by_cases q2 : k = 23
  · simp only [if_pos q2]
    exact Ev.now _
  simp only [if_neg q2]
  exact Ev.bind h (Ev.now _)
theorem least_ev {l : List S49} {g0 g1 g2 k a b : Int} (h : Ev (fun n => many_Over.f n g0 g1 g2 k a b l) (overS g0 g1 g2 l k a b)) : Ev (fun n => many_Least.f n g0 g1 g2 k a b l false) (leastS g0 g1 g2 l k a b) := by
  unfold many_Least.f leastS
  simp only [Bool.false_eq_true, if_false]
  by_cases q2 : k = 23
  · simp only [if_pos q2]
    exact Ev.now _
  simp only [if_neg q2]
  by_cases q3 : k = 24
  · simp only [if_pos q3]
    exact Ev.now _
  simp only [if_neg q3]
  exact Ev.bind h (Ev.now _)
theorem ManyGrows_ev (a0 : S23) (a1 : Int) (a2 : S25) (y2 : ok25 a2) (a3 a4 : List S49) (y3 : a3.length * 24 ≤ 140737488351232 ∧ ∀ z ∈ a3, ok49 z) (y4 : a4.length * 24 ≤ 140737488351232 ∧ ∀ z ∈ a4, ok49 z) : Ev (fun k => horariumlaw16_ManyGrows.f k a0.f0 a0.f1 a0.f2 a1 a2.f0 a2.f1 a3 a4) true := by
  have h2 := wf_i64 y2.1
  unfold horariumlaw16_ManyGrows.f
  simp only [few_eq, Option.bind_some, decide_eq_true_eq]
  have hh : Ev (fun k => horariumlaw16_ManyGrows.j0 k a1 a3 a4 true a0.f0 a0.f1 a0.f2 a2.f0 a2.f1) true := Ev.step (f := fun k => (horariumlaw16_heads.f k).bind fun t => some t) (fun k => by rw [horariumlaw16_ManyGrows.j0, if_pos rfl]) (Ev.bind heads_ev (Ev.now _))
  split
  rotate_left
  · exact hh
  rename_i hf
  by_cases hf4 : (a4.length : Int) ≤ 12
  rotate_left
  · rw [decide_eq_false hf4]
    exact hh
  rw [decide_eq_true hf4]
  have ya : (a3 ++ a4).length * 24 ≤ 140737488351232 ∧ ∀ z ∈ a3 ++ a4, ok49 z := ⟨by rw [List.length_append]; omega, fun z hz => by
    rcases List.mem_append.1 hz with h | h
    · exact y3.2 z h
    · exact y4.2 z h⟩
  have ho3 : Ev (fun n => many_Over.f n a0.f0 a0.f1 a0.f2 a1 a2.f0 a2.f1 a3) (overS a0.f0 a0.f1 a0.f2 a3 a1 a2.f0 a2.f1) := Over_ev y3 h2.2 (fun d _ => few_flt hf _)
  have hoa : Ev (fun n => many_Over.f n a0.f0 a0.f1 a0.f2 a1 a2.f0 a2.f1 (a3 ++ a4)) (overS a0.f0 a0.f1 a0.f2 (a3 ++ a4) a1 a2.f0 a2.f1) := Over_ev ya h2.2 (fun d _ => by
    have := List.length_filter_le (onD a0.f0 a0.f1 a0.f2 d) (a3 ++ a4)
    rw [List.length_append] at this
    omega)
  have j1ok : Ev (fun k => horariumlaw16_ManyGrows.j1 k a1 a3 (a3 ++ a4) false a0.f0 a0.f1 a0.f2 a2.f0 a2.f1) true := by
    refine Ev.step (fun k => by rw [horariumlaw16_ManyGrows.j1, if_neg (by simp)]) (Ev.bind (least_ev ho3) (Ev.bind (least_ev hoa) ?_))
    have hle : leastS a0.f0 a0.f1 a0.f2 a3 a1 a2.f0 a2.f1 ≤ leastS a0.f0 a0.f1 a0.f2 (a3 ++ a4) a1 a2.f0 a2.f1 := by
      unfold leastS
      split
      · omega
      split
      · omega
      · exact overS_grow _ _ ‹_› ‹_›
    simp only [if_pos hle]
    exact Ev.bind heads_ev (Ev.now _)
  refine Ev.step (f := fun k => (many_Broken.f k a0.f0 a0.f1 a0.f2 a1 a2.f0 a2.f1 a3 false).bind fun t400 => (if t400 = true then ((many_Broken.f k a0.f0 a0.f1 a0.f2 a1 a2.f0 a2.f1 (a3 ++ a4) false).bind fun t401 => (horariumlaw16_ManyGrows.j1 k a1 a3 (a3 ++ a4) (!t401) a0.f0 a0.f1 a0.f2 a2.f0 a2.f1)) else (horariumlaw16_ManyGrows.j1 k a1 a3 (a3 ++ a4) false a0.f0 a0.f1 a0.f2 a2.f0 a2.f1))) (fun k => ?_) (Ev.bind (broken_ev ho3) ?_)
  · rw [horariumlaw16_ManyGrows.j0, if_neg (by simp)]
    simp only [Option.bind_some, List.nil_append, List.length_nil, Nat.zero_add]
    rw [if_pos (by omega), if_pos (by omega)]
  by_cases hbr : brk a0.f0 a0.f1 a0.f2 a3 a1 a2.f0 a2.f1 = true
  · rw [hbr]
    simp only [if_true]
    refine Ev.bind (broken_ev hoa) ?_
    have : brk a0.f0 a0.f1 a0.f2 (a3 ++ a4) a1 a2.f0 a2.f1 = true := by
      unfold brk at hbr ⊢
      split at hbr
      · exact absurd hbr (by simp)
      · rename_i h3
        rw [if_neg h3]
        rw [decide_eq_true_eq] at hbr ⊢
        exact overS_pos _ _ h3 hbr
    rw [this]
    exact j1ok
  · rw [Bool.not_eq_true] at hbr
    rw [hbr]
    simp only [Bool.false_eq_true, if_false]
    exact j1ok
theorem horariumlaw16_ManyGrows.walk (w : World) (a0 : S23) (cs0 : Array Value) (w0 : k23.K w a0 cs0.toList) (y0 : ok23 a0) (a1 : Int) (w1 : (Lit.int .i64 a1).wf = true) (a2 : S25) (cs2 : Array Value) (w2 : k25.K w a2 cs2.toList) (y2 : ok25 a2) (a3 : (List S49)) (A3 : Option Addr) (len3 cap3 : Nat) (w3 : (Kd.slice 49 k49).K w a3 [.slice A3 len3 cap3]) (y3 : (a3.length * 24 ≤ 140737488351232 ∧ ∀ z ∈ a3, ok49 z)) (a4 : (List S49)) (A4 : Option Addr) (len4 cap4 : Nat) (w4 : (Kd.slice 49 k49).K w a4 [.slice A4 len4 cap4]) (y4 : (a4.length * 24 ≤ 140737488351232 ∧ ∀ z ∈ a4, ok49 z)) :
    Calls Try.prog 7 #[.agg cs0, .int .i64 a1, .agg cs2, .slice A3 len3 cap3, .slice A4 len4 cap4] w fun e w' => e = .returned (.bool true) ∧ Below w.heap.size w w' := by
  obtain rfl := arr_of (k23_open w0)
  obtain rfl := arr_of (k25_open w2)
  obtain ⟨_, _, e3, l3, g3⟩ := w3
  cases e3
  obtain ⟨_, _, e4, l4, g4⟩ := w4
  cases e4
  obtain ⟨k, hk⟩ := (ManyGrows_ev a0 a1 a2 y2 a3 a4 y3 y4).rounds
  exact horariumlaw16_ManyGrows.calls k _ _ _ _ _ _ _ _ _ _ _ _ true w g3 l3 g4 l4 hk
end Go.Proofs.Ytlfnpakpkniipaa.Q
