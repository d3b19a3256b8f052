/-
  No cell of these rows narrows 'for every input' (looked for: loops, veiled, ifaces, maps, wideKeys, modest, calm, conditions, laid).
  DERIVED. THE GIVEN ROWS OF THIS SEAT. 6 by the template 'for every input the law returns true; each argument reads behind the call as it read before'; 0 by the template 'total and deterministic' (their statements: YtlfnpakpkniipaaTotals.lean).
  GIVEN WITH THE SEED: the statements are not yours to turn. If you find one false, say at which input.
  Laid BY PROGRAM, IN A SANDBOX (cutbox-rows.mjs): the forced cells as the released guide's own fill.sh prints them over the translation d38b34d8217a4ea6… (all of the seat's roots in one cut). By AI agents, Wed Nov 11 2026. No macro, syntax, notation, axiom, sorry.
-/
import Derived.Test.YtlfnpakpkniipaaChecked
import GoSem.Claim
import GoSem.ClaimJoined
import GoSem.ClaimMapViews
import Derived.JoinedTies
import Derived.KernelRfl
namespace Go.Proofs.Ytlfnpakpkniipaa
/- THE CELL 'sum', in the pinned program and in every row, IS THE sha256 OF THE DUMP (.gsa) THAT YtlfnpakpkniipaaProg.lean LOADS. Nothing in Lean hashes anything: it is a label: what it is worth is what the hold of that sum in a sandbox is worth. -/
noncomputable def Try.pinned : Pinned := { name := "ytlfnpakpkniipaa", sum := "d38b34d8217a4ea677446eadece3f01417dc3961fb583d9f05cc1cd36c1999fa", checked := Try.checked }
namespace Rows
def none {H : Type} : Left H := { results := [], args := [] }

/-- 'horariumlaw16.ManyTells': WHATEVER THE INPUT: true; the input reads as it did. -/
def manyTellsSpec : ChangeSpec := { name := "manyTells", fn := fun _ => fun
  | [d1, d2, d3, d4] => { results := [.lit (.bool true)], args := [d1, d2, d3, d4] }
  | _ => none }
def manyTellsRow : OpenClaim := { program := "ytlfnpakpkniipaa", sum := "d38b34d8217a4ea677446eadece3f01417dc3961fb583d9f05cc1cd36c1999fa", func := "horarium/horariumlaw16.ManyTells", spec := "manyTells", unfollowed := true, recurses := true, apart := false }
def ManyTellsSaid : Prop := manyTellsRow.holds Try.pinned (OpenSpec.ofChange manyTellsSpec)

/-- ITS FALSE NEIGHBOUR: 'it returns false'. Refute it at one input. -/
def manyTellsWrong : ChangeSpec := { name := "manyTells", fn := fun _ => fun
  | [d1, d2, d3, d4] => { results := [.lit (.bool false)], args := [d1, d2, d3, d4] }
  | _ => none }
def ManyTellsWrongFalsely : Prop := manyTellsRow.holds Try.pinned (OpenSpec.ofChange manyTellsWrong)

/-- 'horariumlaw16.ManyBlocks': WHATEVER THE INPUT: true; the input reads as it did. -/
def manyBlocksSpec : ChangeSpec := { name := "manyBlocks", fn := fun _ => fun
  | [d1, d2, d3] => { results := [.lit (.bool true)], args := [d1, d2, d3] }
  | _ => none }
def manyBlocksRow : OpenClaim := { program := "ytlfnpakpkniipaa", sum := "d38b34d8217a4ea677446eadece3f01417dc3961fb583d9f05cc1cd36c1999fa", func := "horarium/horariumlaw16.ManyBlocks", spec := "manyBlocks", unfollowed := true, recurses := true, apart := false }
def ManyBlocksSaid : Prop := manyBlocksRow.holds Try.pinned (OpenSpec.ofChange manyBlocksSpec)

/-- ITS FALSE NEIGHBOUR: 'it returns false'. Refute it at one input. -/
def manyBlocksWrong : ChangeSpec := { name := "manyBlocks", fn := fun _ => fun
  | [d1, d2, d3] => { results := [.lit (.bool false)], args := [d1, d2, d3] }
  | _ => none }
def ManyBlocksWrongFalsely : Prop := manyBlocksRow.holds Try.pinned (OpenSpec.ofChange manyBlocksWrong)

/-- 'horariumlaw16.ManyLoads': WHATEVER THE INPUT: true; the input reads as it did. -/
def manyLoadsSpec : ChangeSpec := { name := "manyLoads", fn := fun _ => fun
  | [d1, d2, d3, d4, d5] => { results := [.lit (.bool true)], args := [d1, d2, d3, d4, d5] }
  | _ => none }
def manyLoadsRow : OpenClaim := { program := "ytlfnpakpkniipaa", sum := "d38b34d8217a4ea677446eadece3f01417dc3961fb583d9f05cc1cd36c1999fa", func := "horarium/horariumlaw16.ManyLoads", spec := "manyLoads", unfollowed := true, recurses := true, apart := false }
def ManyLoadsSaid : Prop := manyLoadsRow.holds Try.pinned (OpenSpec.ofChange manyLoadsSpec)

/-- ITS FALSE NEIGHBOUR: 'it returns false'. Refute it at one input. -/
def manyLoadsWrong : ChangeSpec := { name := "manyLoads", fn := fun _ => fun
  | [d1, d2, d3, d4, d5] => { results := [.lit (.bool false)], args := [d1, d2, d3, d4, d5] }
  | _ => none }
def ManyLoadsWrongFalsely : Prop := manyLoadsRow.holds Try.pinned (OpenSpec.ofChange manyLoadsWrong)

/-- 'horariumlaw16.ManyOver': WHATEVER THE INPUT: true; the input reads as it did. -/
def manyOverSpec : ChangeSpec := { name := "manyOver", fn := fun _ => fun
  | [d1, d2, d3, d4, d5] => { results := [.lit (.bool true)], args := [d1, d2, d3, d4, d5] }
  | _ => none }
def manyOverRow : OpenClaim := { program := "ytlfnpakpkniipaa", sum := "d38b34d8217a4ea677446eadece3f01417dc3961fb583d9f05cc1cd36c1999fa", func := "horarium/horariumlaw16.ManyOver", spec := "manyOver", unfollowed := true, recurses := true, apart := false }
def ManyOverSaid : Prop := manyOverRow.holds Try.pinned (OpenSpec.ofChange manyOverSpec)

/-- ITS FALSE NEIGHBOUR: 'it returns false'. Refute it at one input. -/
def manyOverWrong : ChangeSpec := { name := "manyOver", fn := fun _ => fun
  | [d1, d2, d3, d4, d5] => { results := [.lit (.bool false)], args := [d1, d2, d3, d4, d5] }
  | _ => none }
def ManyOverWrongFalsely : Prop := manyOverRow.holds Try.pinned (OpenSpec.ofChange manyOverWrong)

/-- 'horariumlaw16.ManyGrows': WHATEVER THE INPUT: true; the input reads as it did. -/
def manyGrowsSpec : ChangeSpec := { name := "manyGrows", fn := fun _ => fun
  | [d1, d2, d3, d4, d5] => { results := [.lit (.bool true)], args := [d1, d2, d3, d4, d5] }
  | _ => none }
def manyGrowsRow : OpenClaim := { program := "ytlfnpakpkniipaa", sum := "d38b34d8217a4ea677446eadece3f01417dc3961fb583d9f05cc1cd36c1999fa", func := "horarium/horariumlaw16.ManyGrows", spec := "manyGrows", unfollowed := true, recurses := true, apart := false }
def ManyGrowsSaid : Prop := manyGrowsRow.holds Try.pinned (OpenSpec.ofChange manyGrowsSpec)

/-- ITS FALSE NEIGHBOUR: 'it returns false'. Refute it at one input. -/
def manyGrowsWrong : ChangeSpec := { name := "manyGrows", fn := fun _ => fun
  | [d1, d2, d3, d4, d5] => { results := [.lit (.bool false)], args := [d1, d2, d3, d4, d5] }
  | _ => none }
def ManyGrowsWrongFalsely : Prop := manyGrowsRow.holds Try.pinned (OpenSpec.ofChange manyGrowsWrong)

/-- 'horariumlaw16.ManyJoins': WHATEVER THE INPUT: true; the input reads as it did. -/
def manyJoinsSpec : ChangeSpec := { name := "manyJoins", fn := fun _ => fun
  | [d1, d2, d3, d4] => { results := [.lit (.bool true)], args := [d1, d2, d3, d4] }
  | _ => none }
def manyJoinsRow : OpenClaim := { program := "ytlfnpakpkniipaa", sum := "d38b34d8217a4ea677446eadece3f01417dc3961fb583d9f05cc1cd36c1999fa", func := "horarium/horariumlaw16.ManyJoins", spec := "manyJoins", unfollowed := true, recurses := true, apart := false }
def ManyJoinsSaid : Prop := manyJoinsRow.holds Try.pinned (OpenSpec.ofChange manyJoinsSpec)

/-- ITS FALSE NEIGHBOUR: 'it returns false'. Refute it at one input. -/
def manyJoinsWrong : ChangeSpec := { name := "manyJoins", fn := fun _ => fun
  | [d1, d2, d3, d4] => { results := [.lit (.bool false)], args := [d1, d2, d3, d4] }
  | _ => none }
def ManyJoinsWrongFalsely : Prop := manyJoinsRow.holds Try.pinned (OpenSpec.ofChange manyJoinsWrong)

/- THE SECOND FORM. 'bulk': how many values and letters a reading holds, each counted each time it is reached (what is shared counts as often as it is met; a slice's spare places count too). A statement '..UptoSaid' is the law's where the arguments, and the package variables that the reading takes, are together of bulk at most 1048576: NARROWER than '..Said'. Prove '..Said' where nothing that the law and all that it calls make is longer than what came in: it says more and counts as full. Else prove '..UptoSaid'. A law counts once. -/
mutual
def uptoBulk {H : Type} : DataW H → Nat
  | .lit (.string bytes) => bytes.length + 1
  | .lit _ => 1
  | .nil => 1
  | .ptr d => uptoBulk d + 1
  | .slice elems spare => uptoBulkAll elems + uptoBulkAll spare + 1
  | .agg parts => uptoBulkAll parts + 1
  | .iface _ d => uptoBulk d + 1
  | .map entries => uptoBulkEntries entries + 1
  | .held _ => 1
def uptoBulkAll {H : Type} : List (DataW H) → Nat
  | [] => 0
  | d :: r => uptoBulk d + uptoBulkAll r
def uptoBulkEntries {H : Type} : List (Lit × DataW H) → Nat
  | [] => 0
  | x :: r => uptoBulkEntry x + uptoBulkEntries r
def uptoBulkEntry {H : Type} : Lit × DataW H → Nat
  | (.string bytes, d) => bytes.length + uptoBulk d + 1
  | (_, d) => uptoBulk d + 1
 end
def uptoSmall : (H : Type) → List (DataW H) → Bool := fun _ ds => decide (uptoBulkAll ds ≤ 1048576)
def OpenSpec.upto (s : _root_.Go.ChangeSpec) : _root_.Go.OpenSpec := { _root_.Go.OpenSpec.ofChange s with cond := some uptoSmall }

/-- 'horariumlaw16.ManyTells', WHERE WHAT IT READS IS OF BULK AT MOST 1048576: true; the input reads as it did. -/
def manyTellsUptoRow : OpenClaim := { program := "ytlfnpakpkniipaa", sum := "d38b34d8217a4ea677446eadece3f01417dc3961fb583d9f05cc1cd36c1999fa", func := "horarium/horariumlaw16.ManyTells", spec := "manyTells", unfollowed := true, recurses := true, apart := false, narrowed := true }
def ManyTellsUptoSaid : Prop := manyTellsUptoRow.holds Try.pinned (OpenSpec.upto manyTellsSpec)

/-- 'horariumlaw16.ManyBlocks', WHERE WHAT IT READS IS OF BULK AT MOST 1048576: true; the input reads as it did. -/
def manyBlocksUptoRow : OpenClaim := { program := "ytlfnpakpkniipaa", sum := "d38b34d8217a4ea677446eadece3f01417dc3961fb583d9f05cc1cd36c1999fa", func := "horarium/horariumlaw16.ManyBlocks", spec := "manyBlocks", unfollowed := true, recurses := true, apart := false, narrowed := true }
def ManyBlocksUptoSaid : Prop := manyBlocksUptoRow.holds Try.pinned (OpenSpec.upto manyBlocksSpec)

/-- 'horariumlaw16.ManyLoads', WHERE WHAT IT READS IS OF BULK AT MOST 1048576: true; the input reads as it did. -/
def manyLoadsUptoRow : OpenClaim := { program := "ytlfnpakpkniipaa", sum := "d38b34d8217a4ea677446eadece3f01417dc3961fb583d9f05cc1cd36c1999fa", func := "horarium/horariumlaw16.ManyLoads", spec := "manyLoads", unfollowed := true, recurses := true, apart := false, narrowed := true }
def ManyLoadsUptoSaid : Prop := manyLoadsUptoRow.holds Try.pinned (OpenSpec.upto manyLoadsSpec)

/-- 'horariumlaw16.ManyOver', WHERE WHAT IT READS IS OF BULK AT MOST 1048576: true; the input reads as it did. -/
def manyOverUptoRow : OpenClaim := { program := "ytlfnpakpkniipaa", sum := "d38b34d8217a4ea677446eadece3f01417dc3961fb583d9f05cc1cd36c1999fa", func := "horarium/horariumlaw16.ManyOver", spec := "manyOver", unfollowed := true, recurses := true, apart := false, narrowed := true }
def ManyOverUptoSaid : Prop := manyOverUptoRow.holds Try.pinned (OpenSpec.upto manyOverSpec)

/-- 'horariumlaw16.ManyGrows', WHERE WHAT IT READS IS OF BULK AT MOST 1048576: true; the input reads as it did. -/
def manyGrowsUptoRow : OpenClaim := { program := "ytlfnpakpkniipaa", sum := "d38b34d8217a4ea677446eadece3f01417dc3961fb583d9f05cc1cd36c1999fa", func := "horarium/horariumlaw16.ManyGrows", spec := "manyGrows", unfollowed := true, recurses := true, apart := false, narrowed := true }
def ManyGrowsUptoSaid : Prop := manyGrowsUptoRow.holds Try.pinned (OpenSpec.upto manyGrowsSpec)

/-- 'horariumlaw16.ManyJoins', WHERE WHAT IT READS IS OF BULK AT MOST 1048576: true; the input reads as it did. -/
def manyJoinsUptoRow : OpenClaim := { program := "ytlfnpakpkniipaa", sum := "d38b34d8217a4ea677446eadece3f01417dc3961fb583d9f05cc1cd36c1999fa", func := "horarium/horariumlaw16.ManyJoins", spec := "manyJoins", unfollowed := true, recurses := true, apart := false, narrowed := true }
def ManyJoinsUptoSaid : Prop := manyJoinsUptoRow.holds Try.pinned (OpenSpec.upto manyJoinsSpec)

end Rows
end Go.Proofs.Ytlfnpakpkniipaa
