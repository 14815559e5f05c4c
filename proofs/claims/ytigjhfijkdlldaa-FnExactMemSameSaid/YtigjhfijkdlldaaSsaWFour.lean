-- Cut by a program of this session (wip/slim.py) out of a text that the print wrote: declarations that nothing names are left out, the rest is as it was printed.
import Derived.Test.YtigjhfijkdlldaaSsaWTab
/-! ### 56. Four, five, six operations that may come up next, in any order -/
namespace Go.Proofs.YtigjhfijkdlldaaW.PrintLast
section
variable {P : Program} {ops : Array Oper} {Q : Exit → Act → World → Prop} {md : Region.Mode} {S : World → Prop} {ds : List Nat} {T : Bool × List (List Nat × List Nat)}
end
end Go.Proofs.YtigjhfijkdlldaaW.PrintLast
