/- What MemSame answers, in plain words; the spec's parts come to it. -/
import Derived.Test.YtigjhfijkdlldaaScoPd
import Derived.Test.YtigjhfijkdlldaaScoL2s
namespace Go.Proofs.Ytigjhfijkdlldaa.H
open Go.RowKit Go.Proofs.YtigjhfijkdlldaaW.PrintWords Go.Proofs.YtigjhfijkdlldaaW.PrintLast Go.Proofs.YtigjhfijkdlldaaW.PrintMore Go.Proofs.Ytigjhfijkdlldaa.Q
set_option linter.unusedVariables false
def wh (l : List Int) (p : Int) : Int := if p < 0 then -1 else idxL l p
def weB (a b : S60) : Bool := (a.f0 == b.f0) && (a.f1 == b.f1)
theorem l2At_k (l : List Int) (n : Int) (hl : (l.length : Int) ≤ 9223372036854775807) (k : Nat) (hk : l.length < k) : spec_l2At.f k l n = some (idxL l n) := by
  unfold spec_l2At.f
  rw [l2At_l0 l n hl l.length k 0 (by omega) (by omega) (by omega)]
  have := (idxL_range l n).1
  show some (if idxL l n < 0 then -1 else idxL l n + 0) = _
  split
  · congr 1; omega
  · congr 1; omega
theorem l2Where_k (l : List Int) (n : Int) (hl : (l.length : Int) ≤ 9223372036854775807) (k : Nat) (hk : l.length < k) : spec_l2Where.f k l n = some (wh l n) := by
  unfold spec_l2Where.f wh
  split
  · rfl
  · rw [l2At_k l n hl k hk]; rfl
end Go.Proofs.Ytigjhfijkdlldaa.H
