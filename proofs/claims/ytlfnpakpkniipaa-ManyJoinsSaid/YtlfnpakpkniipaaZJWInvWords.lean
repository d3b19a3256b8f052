/-
Words and contracts for the claim: what the walk of its row uses.
-/
import Derived.Test.YtlfnpakpkniipaaZJWInv
import Derived.Test.YtlfnpakpkniipaaZJWFootNe
namespace Go.Proofs.YtlfnpakpkniipaaW.PrintWords
open Go.RowKit
end Go.Proofs.YtlfnpakpkniipaaW.PrintWords
namespace Go.Proofs.YtlfnpakpkniipaaW.PrintLast
section
variable {ops : Array Oper} {a : Act} {o og : Oper} {g : Nat} {t : Tmp} {u : Bool}
end
end Go.Proofs.YtlfnpakpkniipaaW.PrintLast
