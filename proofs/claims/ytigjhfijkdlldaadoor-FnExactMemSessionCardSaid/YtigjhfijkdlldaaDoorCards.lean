/-
  DERIVED. GIVEN WITH THE SEED: THE CARDS: each row of YtigjhfijkdlldaaDoorRows.lean that lists a variable, with what it lists TIED to the program's text (the seventh form; the later family's looks); each row that meets fmt, with fmt's text TOLD by the authors' own Lean function (tested against real Go, not proved from fmt's source: count such statements apart). THE CARD IS WHAT COUNTS. Prove the row's statement (the work); the ties are given (YtigjhfijkdlldaaDoorTie.lean); close each card by the builder's one call (the guide's Derived/Test/ToyasCard.lean, 'card_holds'). Laid BY PROGRAM, IN A SANDBOX (cutbox-door.mjs). By AI agents, Wed Nov 11 2026. No macro, syntax, notation, axiom, sorry.
-/
import Derived.Test.YtigjhfijkdlldaaDoorRows
import GoSem.ClaimSeven
namespace Go.Proofs.YtigjhfijkdlldaaDoor
namespace Rows

/-- THE TIED CARD OF 'laws.FnExactMemSession'. -/
def fnExactMemSessionCard : Claim7 := { stood := { row := fnExactMemSessionRow, standIns := [], harness := (true, "5518dd13fc9231b61400d10cf00e2a2ddcb4501408324679dd6b59188f7ea219"), looks := false }, kinds := [], alts := [], laidByText := true, laidKinds := [.data, .data, .data, .data, .pinned], laidTests := true, laidLooks := .later }
def FnExactMemSessionCardSaid : Prop := Claim7.holds Tryd.pinned (.plain (OpenSpec.ofChange fnExactMemSessionSpec)) fnExactMemSessionCard

/-- THE TIED CARD OF 'laws.FnLines'. -/
def fnLinesCard : Claim7 := { stood := { row := fnLinesRow, standIns := [], harness := (true, "5518dd13fc9231b61400d10cf00e2a2ddcb4501408324679dd6b59188f7ea219"), looks := false }, kinds := [], alts := [], laidByText := true, laidKinds := [.data, .data, .data, .data, .pinned], laidTests := true, laidLooks := .later }
def FnLinesCardSaid : Prop := Claim7.holds Tryd.pinned (.plain (OpenSpec.ofChange fnLinesSpec)) fnLinesCard

/-- THE SECOND FORM's CARD OF 'laws.FnExactMemSession'. -/
def fnExactMemSessionUptoCard : Claim7 := { stood := { row := fnExactMemSessionUptoRow, standIns := [], harness := (true, "5518dd13fc9231b61400d10cf00e2a2ddcb4501408324679dd6b59188f7ea219"), looks := false }, kinds := [], alts := [], laidByText := true, laidKinds := [.data, .data, .data, .data, .pinned], laidTests := true, laidLooks := .later }
def FnExactMemSessionUptoCardSaid : Prop := Claim7.holds Tryd.pinned (.plain (OpenSpec.upto fnExactMemSessionSpec)) fnExactMemSessionUptoCard

/-- THE SECOND FORM's CARD OF 'laws.FnLines'. -/
def fnLinesUptoCard : Claim7 := { stood := { row := fnLinesUptoRow, standIns := [], harness := (true, "5518dd13fc9231b61400d10cf00e2a2ddcb4501408324679dd6b59188f7ea219"), looks := false }, kinds := [], alts := [], laidByText := true, laidKinds := [.data, .data, .data, .data, .pinned], laidTests := true, laidLooks := .later }
def FnLinesUptoCardSaid : Prop := Claim7.holds Tryd.pinned (.plain (OpenSpec.upto fnLinesSpec)) fnLinesUptoCard
end Rows
end Go.Proofs.YtigjhfijkdlldaaDoor
