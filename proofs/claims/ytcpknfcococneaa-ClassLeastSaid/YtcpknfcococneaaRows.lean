/-
  No cell of these rows narrows 'for every input' (looked for: loops, veiled, ifaces, maps, wideKeys, modest, calm, conditions, laid).
  DERIVED. THE GIVEN ROWS OF THIS SEAT. 6 by the template 'for every input the law returns true; each argument reads behind the call as it read before'; 0 by the template 'total and deterministic' (their statements: YtcpknfcococneaaTotals.lean).
  GIVEN WITH THE SEED: the statements are not yours to turn. If you find one false, say at which input.
  Laid BY PROGRAM, IN A SANDBOX (cutbox-rows.mjs): the forced cells as the released guide's own fill.sh prints them over the translation f8a9d4c7b8852763… (all of the seat's roots in one cut). By AI agents, Wed Nov 11 2026. No macro, syntax, notation, axiom, sorry.
-/
import Derived.Test.YtcpknfcococneaaChecked
import GoSem.Claim
import GoSem.ClaimJoined
import GoSem.ClaimMapViews
import Derived.JoinedTies
import Derived.KernelRfl
namespace Go.Proofs.Ytcpknfcococneaa
/- THE CELL 'sum', in the pinned program and in every row, IS THE sha256 OF THE DUMP (.gsa) THAT YtcpknfcococneaaProg.lean LOADS. Nothing in Lean hashes anything: it is a label: what it is worth is what the hold of that sum in a sandbox is worth. -/
noncomputable def Try.pinned : Pinned := { name := "ytcpknfcococneaa", sum := "f8a9d4c7b885276393c4a8eec4a739ebe59f4150afad018587a9a8b7b8083b94", checked := Try.checked }
namespace Rows
def none {H : Type} : Left H := { results := [], args := [] }

/-- 'horariumlaw13.ClassTells': WHATEVER THE INPUT: true; the input reads as it did. -/
def classTellsSpec : ChangeSpec := { name := "classTells", fn := fun _ => fun
  | [d1, d2, d3] => { results := [.lit (.bool true)], args := [d1, d2, d3] }
  | _ => none }
def classTellsRow : OpenClaim := { program := "ytcpknfcococneaa", sum := "f8a9d4c7b885276393c4a8eec4a739ebe59f4150afad018587a9a8b7b8083b94", func := "horarium/horariumlaw13.ClassTells", spec := "classTells", unfollowed := true, recurses := true, plainKeys := false, apart := false }
def ClassTellsSaid : Prop := classTellsRow.holds Try.pinned (OpenSpec.ofChange classTellsSpec)

/-- ITS FALSE NEIGHBOUR: 'it returns false'. Refute it at one input. -/
def classTellsWrong : ChangeSpec := { name := "classTells", fn := fun _ => fun
  | [d1, d2, d3] => { results := [.lit (.bool false)], args := [d1, d2, d3] }
  | _ => none }
def ClassTellsWrongFalsely : Prop := classTellsRow.holds Try.pinned (OpenSpec.ofChange classTellsWrong)

/-- 'horariumlaw13.ClassSeats': WHATEVER THE INPUT: true; the input reads as it did. -/
def classSeatsSpec : ChangeSpec := { name := "classSeats", fn := fun _ => fun
  | [d1, d2] => { results := [.lit (.bool true)], args := [d1, d2] }
  | _ => none }
def classSeatsRow : OpenClaim := { program := "ytcpknfcococneaa", sum := "f8a9d4c7b885276393c4a8eec4a739ebe59f4150afad018587a9a8b7b8083b94", func := "horarium/horariumlaw13.ClassSeats", spec := "classSeats", unfollowed := true, recurses := true, plainKeys := false, apart := false }
def ClassSeatsSaid : Prop := classSeatsRow.holds Try.pinned (OpenSpec.ofChange classSeatsSpec)

/-- ITS FALSE NEIGHBOUR: 'it returns false'. Refute it at one input. -/
def classSeatsWrong : ChangeSpec := { name := "classSeats", fn := fun _ => fun
  | [d1, d2] => { results := [.lit (.bool false)], args := [d1, d2] }
  | _ => none }
def ClassSeatsWrongFalsely : Prop := classSeatsRow.holds Try.pinned (OpenSpec.ofChange classSeatsWrong)

/-- 'horariumlaw13.ClassSpots': WHATEVER THE INPUT: true; the input reads as it did. -/
def classSpotsSpec : ChangeSpec := { name := "classSpots", fn := fun _ => fun
  | [d1, d2] => { results := [.lit (.bool true)], args := [d1, d2] }
  | _ => none }
def classSpotsRow : OpenClaim := { program := "ytcpknfcococneaa", sum := "f8a9d4c7b885276393c4a8eec4a739ebe59f4150afad018587a9a8b7b8083b94", func := "horarium/horariumlaw13.ClassSpots", spec := "classSpots", unfollowed := true, recurses := true, plainKeys := false, apart := false }
def ClassSpotsSaid : Prop := classSpotsRow.holds Try.pinned (OpenSpec.ofChange classSpotsSpec)

/-- ITS FALSE NEIGHBOUR: 'it returns false'. Refute it at one input. -/
def classSpotsWrong : ChangeSpec := { name := "classSpots", fn := fun _ => fun
  | [d1, d2] => { results := [.lit (.bool false)], args := [d1, d2] }
  | _ => none }
def ClassSpotsWrongFalsely : Prop := classSpotsRow.holds Try.pinned (OpenSpec.ofChange classSpotsWrong)

/-- 'horariumlaw13.ClassCheapest': WHATEVER THE INPUT: true; the input reads as it did. -/
def classCheapestSpec : ChangeSpec := { name := "classCheapest", fn := fun _ => fun
  | [d] => { results := [.lit (.bool true)], args := [d] }
  | _ => none }
def classCheapestRow : OpenClaim := { program := "ytcpknfcococneaa", sum := "f8a9d4c7b885276393c4a8eec4a739ebe59f4150afad018587a9a8b7b8083b94", func := "horarium/horariumlaw13.ClassCheapest", spec := "classCheapest", unfollowed := true, recurses := true, plainKeys := false, apart := false }
def ClassCheapestSaid : Prop := classCheapestRow.holds Try.pinned (OpenSpec.ofChange classCheapestSpec)

/-- ITS FALSE NEIGHBOUR: 'it returns false'. Refute it at one input. -/
def classCheapestWrong : ChangeSpec := { name := "classCheapest", fn := fun _ => fun
  | [d] => { results := [.lit (.bool false)], args := [d] }
  | _ => none }
def ClassCheapestWrongFalsely : Prop := classCheapestRow.holds Try.pinned (OpenSpec.ofChange classCheapestWrong)

/-- 'horariumlaw13.ClassLeast': WHATEVER THE INPUT: true; the input reads as it did. -/
def classLeastSpec : ChangeSpec := { name := "classLeast", fn := fun _ => fun
  | [d] => { results := [.lit (.bool true)], args := [d] }
  | _ => none }
def classLeastRow : OpenClaim := { program := "ytcpknfcococneaa", sum := "f8a9d4c7b885276393c4a8eec4a739ebe59f4150afad018587a9a8b7b8083b94", func := "horarium/horariumlaw13.ClassLeast", spec := "classLeast", unfollowed := true, recurses := true, plainKeys := false, apart := false }
def ClassLeastSaid : Prop := classLeastRow.holds Try.pinned (OpenSpec.ofChange classLeastSpec)

/-- ITS FALSE NEIGHBOUR: 'it returns false'. Refute it at one input. -/
def classLeastWrong : ChangeSpec := { name := "classLeast", fn := fun _ => fun
  | [d] => { results := [.lit (.bool false)], args := [d] }
  | _ => none }
def ClassLeastWrongFalsely : Prop := classLeastRow.holds Try.pinned (OpenSpec.ofChange classLeastWrong)

/-- 'horariumlaw13.ClassSames': WHATEVER THE INPUT: true; the input reads as it did. -/
def classSamesSpec : ChangeSpec := { name := "classSames", fn := fun _ => fun
  | [d1, d2] => { results := [.lit (.bool true)], args := [d1, d2] }
  | _ => none }
def classSamesRow : OpenClaim := { program := "ytcpknfcococneaa", sum := "f8a9d4c7b885276393c4a8eec4a739ebe59f4150afad018587a9a8b7b8083b94", func := "horarium/horariumlaw13.ClassSames", spec := "classSames", unfollowed := true, recurses := true, plainKeys := false, apart := false }
def ClassSamesSaid : Prop := classSamesRow.holds Try.pinned (OpenSpec.ofChange classSamesSpec)

/-- ITS FALSE NEIGHBOUR: 'it returns false'. Refute it at one input. -/
def classSamesWrong : ChangeSpec := { name := "classSames", fn := fun _ => fun
  | [d1, d2] => { results := [.lit (.bool false)], args := [d1, d2] }
  | _ => none }
def ClassSamesWrongFalsely : Prop := classSamesRow.holds Try.pinned (OpenSpec.ofChange classSamesWrong)

/- THE SECOND FORM. 'bulk': how many values and letters a reading holds, each counted each time it is reached (what is shared counts as often as it is met; a slice's spare places count too). A statement '..UptoSaid' is the law's where the arguments, and the package variables that the reading takes, are together of bulk at most 1048576: NARROWER than '..Said'. Prove '..Said' where nothing that the law and all that it calls make is longer than what came in: it says more and counts as full. Else prove '..UptoSaid'. A law counts once. -/
mutual
def uptoBulk {H : Type} : DataW H → Nat
  | .lit (.string bytes) => bytes.length + 1
  | .lit _ => 1
  | .nil => 1
  | .ptr d => uptoBulk d + 1
  | .slice elems spare => uptoBulkAll elems + uptoBulkAll spare + 1
  | .agg parts => uptoBulkAll parts + 1
  | .iface _ d => uptoBulk d + 1
  | .map entries => uptoBulkEntries entries + 1
  | .held _ => 1
def uptoBulkAll {H : Type} : List (DataW H) → Nat
  | [] => 0
  | d :: r => uptoBulk d + uptoBulkAll r
def uptoBulkEntries {H : Type} : List (Lit × DataW H) → Nat
  | [] => 0
  | x :: r => uptoBulkEntry x + uptoBulkEntries r
def uptoBulkEntry {H : Type} : Lit × DataW H → Nat
  | (.string bytes, d) => bytes.length + uptoBulk d + 1
  | (_, d) => uptoBulk d + 1
 end
def uptoSmall : (H : Type) → List (DataW H) → Bool := fun _ ds => decide (uptoBulkAll ds ≤ 1048576)
def OpenSpec.upto (s : _root_.Go.ChangeSpec) : _root_.Go.OpenSpec := { _root_.Go.OpenSpec.ofChange s with cond := some uptoSmall }

/-- 'horariumlaw13.ClassTells', WHERE WHAT IT READS IS OF BULK AT MOST 1048576: true; the input reads as it did. -/
def classTellsUptoRow : OpenClaim := { program := "ytcpknfcococneaa", sum := "f8a9d4c7b885276393c4a8eec4a739ebe59f4150afad018587a9a8b7b8083b94", func := "horarium/horariumlaw13.ClassTells", spec := "classTells", unfollowed := true, recurses := true, plainKeys := false, apart := false, narrowed := true }
def ClassTellsUptoSaid : Prop := classTellsUptoRow.holds Try.pinned (OpenSpec.upto classTellsSpec)

/-- 'horariumlaw13.ClassSeats', WHERE WHAT IT READS IS OF BULK AT MOST 1048576: true; the input reads as it did. -/
def classSeatsUptoRow : OpenClaim := { program := "ytcpknfcococneaa", sum := "f8a9d4c7b885276393c4a8eec4a739ebe59f4150afad018587a9a8b7b8083b94", func := "horarium/horariumlaw13.ClassSeats", spec := "classSeats", unfollowed := true, recurses := true, plainKeys := false, apart := false, narrowed := true }
def ClassSeatsUptoSaid : Prop := classSeatsUptoRow.holds Try.pinned (OpenSpec.upto classSeatsSpec)

/-- 'horariumlaw13.ClassSpots', WHERE WHAT IT READS IS OF BULK AT MOST 1048576: true; the input reads as it did. -/
def classSpotsUptoRow : OpenClaim := { program := "ytcpknfcococneaa", sum := "f8a9d4c7b885276393c4a8eec4a739ebe59f4150afad018587a9a8b7b8083b94", func := "horarium/horariumlaw13.ClassSpots", spec := "classSpots", unfollowed := true, recurses := true, plainKeys := false, apart := false, narrowed := true }
def ClassSpotsUptoSaid : Prop := classSpotsUptoRow.holds Try.pinned (OpenSpec.upto classSpotsSpec)

/-- 'horariumlaw13.ClassCheapest', WHERE WHAT IT READS IS OF BULK AT MOST 1048576: true; the input reads as it did. -/
def classCheapestUptoRow : OpenClaim := { program := "ytcpknfcococneaa", sum := "f8a9d4c7b885276393c4a8eec4a739ebe59f4150afad018587a9a8b7b8083b94", func := "horarium/horariumlaw13.ClassCheapest", spec := "classCheapest", unfollowed := true, recurses := true, plainKeys := false, apart := false, narrowed := true }
def ClassCheapestUptoSaid : Prop := classCheapestUptoRow.holds Try.pinned (OpenSpec.upto classCheapestSpec)

/-- 'horariumlaw13.ClassLeast', WHERE WHAT IT READS IS OF BULK AT MOST 1048576: true; the input reads as it did. -/
def classLeastUptoRow : OpenClaim := { program := "ytcpknfcococneaa", sum := "f8a9d4c7b885276393c4a8eec4a739ebe59f4150afad018587a9a8b7b8083b94", func := "horarium/horariumlaw13.ClassLeast", spec := "classLeast", unfollowed := true, recurses := true, plainKeys := false, apart := false, narrowed := true }
def ClassLeastUptoSaid : Prop := classLeastUptoRow.holds Try.pinned (OpenSpec.upto classLeastSpec)

/-- 'horariumlaw13.ClassSames', WHERE WHAT IT READS IS OF BULK AT MOST 1048576: true; the input reads as it did. -/
def classSamesUptoRow : OpenClaim := { program := "ytcpknfcococneaa", sum := "f8a9d4c7b885276393c4a8eec4a739ebe59f4150afad018587a9a8b7b8083b94", func := "horarium/horariumlaw13.ClassSames", spec := "classSames", unfollowed := true, recurses := true, plainKeys := false, apart := false, narrowed := true }
def ClassSamesUptoSaid : Prop := classSamesUptoRow.holds Try.pinned (OpenSpec.upto classSamesSpec)

end Rows
end Go.Proofs.Ytcpknfcococneaa
