-- Cut by a program of this session (wip/slim.py) out of a text that the print wrote: declarations that nothing names are left out, the rest is as it was printed.
import Derived.Test.YtigjhfijkdlldaaSsaWN
/-! ### 52. A row that stays read whatever happens to a block (a set of blocks) doesn't lie there -/
namespace Go.Proofs.YtigjhfijkdlldaaW.PrintWords
open Go.RowKit
namespace Kd
section
variable {α : Type} {d : Kd α} {W : World} {g n : Nat} {S ok : Nat → Prop} {A : Option Addr} {ad : Addr} {xs : List α}
end
end Kd
end Go.Proofs.YtigjhfijkdlldaaW.PrintWords
