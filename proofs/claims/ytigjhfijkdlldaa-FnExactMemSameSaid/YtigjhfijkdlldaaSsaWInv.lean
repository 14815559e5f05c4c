-- Cut by a program of this session (wip/slim.py) out of a text that the print wrote: declarations that nothing names are left out, the rest is as it was printed.
import Derived.Test.YtigjhfijkdlldaaSsaWTab
/-! ### 57. A region of open order by ONE relation over what is listed so far: each operation is shown once, whatever came up before it -/
namespace Go.Proofs.YtigjhfijkdlldaaW.PrintLast
section
variable {P : Program} {ops : Array Oper} {Q : Exit → Act → World → Prop} {md : Region.Mode} {T : Bool × List (List Nat × List Nat)} {B : List Nat} {O : List Nat} {b : Nat → Bool} {i j n : Nat}
/-! The frame: what is listed has its destination filled. -/
end
end Go.Proofs.YtigjhfijkdlldaaW.PrintLast
