-- Cut by a program of this session (wip/slim.py) out of a text that the print wrote: declarations that nothing names are left out, the rest is as it was printed.
import Derived.Test.YtigjhfijkdlldaaSsaWInv
import Derived.Test.YtigjhfijkdlldaaSsaWFootNe
namespace Go.Proofs.YtigjhfijkdlldaaW.PrintWords
open Go.RowKit
end Go.Proofs.YtigjhfijkdlldaaW.PrintWords
namespace Go.Proofs.YtigjhfijkdlldaaW.PrintLast
section
variable {ops : Array Oper} {a : Act} {o og : Oper} {g : Nat} {t : Tmp} {u : Bool}
end
end Go.Proofs.YtigjhfijkdlldaaW.PrintLast
