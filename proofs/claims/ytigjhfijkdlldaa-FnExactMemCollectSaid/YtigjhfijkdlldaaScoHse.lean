/- impl.MemSame's closures, walked. -/
import Derived.Test.YtigjhfijkdlldaaScoHpl
import Derived.Deep.RegionHeld3
namespace Go.Proofs.Ytigjhfijkdlldaa.H
open Go.RowKit Go.Proofs.YtigjhfijkdlldaaW.PrintWords Go.Proofs.YtigjhfijkdlldaaW.PrintLast Go.Proofs.YtigjhfijkdlldaaW.PrintMore Go.Proofs.Ytigjhfijkdlldaa.Q
set_option linter.unusedVariables false
end Go.Proofs.Ytigjhfijkdlldaa.H
