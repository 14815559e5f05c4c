/- impl.MemSame's first and third closures, walked. -/
import Derived.Test.YtigjhfijkdlldaaScoHse
import Derived.Test.YtigjhfijkdlldaaScoIm
namespace Go.Proofs.Ytigjhfijkdlldaa.H
open Go.RowKit Go.Proofs.YtigjhfijkdlldaaW.PrintWords Go.Proofs.YtigjhfijkdlldaaW.PrintLast Go.Proofs.YtigjhfijkdlldaaW.PrintMore Go.Proofs.Ytigjhfijkdlldaa.Q
set_option linter.unusedVariables false
theorem memAt_c {w : World} {P : Option Addr} {d : Nat} {pl x : List Int} (hp : Kd.C (Kd.int .i64) w P pl.length pl) (hd : pl.length ≤ d) (hx : ∀ p : Int, 0 ≤ p → p < pl.length → rd pl p = idxL x p) (p : Int) (h1 : p < pl.length) :
    Calls Try.prog 70 #[.slice P pl.length d, .int .i64 p] w fun e w' => e = .returned (.int .i64 (wh x p)) ∧ Drawn0 w w' := by
  refine impl_memAt.calls P d pl p (wh x p) w hp hd ?_
  unfold impl_memAt.f wh
  by_cases c : p < 0
  · rw [if_pos c, if_pos c]
  · rw [if_neg c, if_neg c, if_pos (by omega), if_pos h1, hx p (by omega) h1]
end Go.Proofs.Ytigjhfijkdlldaa.H
