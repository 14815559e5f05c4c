/- impl.MemReach and spec.MemReach, in short form. -/
import Derived.Test.YtigjhfijkdlldaaScoHre
import Derived.Test.YtigjhfijkdlldaaScoHok
import Derived.Test.YtigjhfijkdlldaaScoPd
namespace Go.Proofs.Ytigjhfijkdlldaa.H
open Go.RowKit Go.Proofs.YtigjhfijkdlldaaW.PrintWords Go.Proofs.YtigjhfijkdlldaaW.PrintLast Go.Proofs.YtigjhfijkdlldaaW.PrintMore Go.Proofs.Ytigjhfijkdlldaa.Q
set_option linter.unusedVariables false
theorem trace_good {l0 : List S38} {l1 : List Int} {l2 l3 : List S60} (h : OkH l0 l1 l2 l3) : ∀ (m : Nat) (i : Int) (l : List Int), GoodL l0.length l → 0 ≤ i → GoodL l0.length (traceL l0 l3 m i l) := by
  intro m
  induction m with
  | zero => intro i l hg _; exact hg
  | succ m ih =>
    intro i l hg h0
    simp only [traceL]
    split
    · rename_i c
      have hp := hg.2 (rd l i) (getD_mem l 0 i h0 c)
      exact ih _ _ (good_putAll _ hg (next_lt h hp.1 hp.2)) (by omega)
    · exact hg
theorem reach_good {l0 : List S38} {l1 : List Int} {l2 l3 : List S60} (h : OkH l0 l1 l2 l3) : GoodL l0.length (reachL l0 l1 l3) :=
  trace_good h _ _ _ (good_putAll _ (good_nil _) (fun p hp => (h.rs p hp).2)) (by omega)
end Go.Proofs.Ytigjhfijkdlldaa.H
