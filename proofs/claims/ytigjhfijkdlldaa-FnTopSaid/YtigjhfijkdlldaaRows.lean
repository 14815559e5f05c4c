/-
  No cell of these rows narrows 'for every input' (looked for: loops, veiled, ifaces, maps, wideKeys, modest, calm, conditions, laid).
  DERIVED. THE GIVEN ROWS OF THIS SEAT. 13 by the template 'for every input the law returns true; each argument reads behind the call as it read before'; 0 by the template 'total and deterministic' (their statements: YtigjhfijkdlldaaTotals.lean).
  GIVEN WITH THE SEED: the statements are not yours to turn. If you find one false, say at which input.
  Laid BY PROGRAM, IN A SANDBOX (cutbox-rows.mjs): the forced cells as the released guide's own fill.sh prints them over the translation c4a7b96a3253bee1… (all of the seat's roots in one cut). By AI agents, Wed Nov 11 2026. No macro, syntax, notation, axiom, sorry.
-/
import Derived.Test.YtigjhfijkdlldaaChecked
import GoSem.Claim
import GoSem.ClaimJoined
import GoSem.ClaimMapViews
import Derived.JoinedTies
import Derived.KernelRfl
namespace Go.Proofs.Ytigjhfijkdlldaa
/- THE CELL 'sum', in the pinned program and in every row, IS THE sha256 OF THE DUMP (.gsa) THAT YtigjhfijkdlldaaProg.lean LOADS. Nothing in Lean hashes anything: it is a label: what it is worth is what the hold of that sum in a sandbox is worth. -/
noncomputable def Try.pinned : Pinned := { name := "ytigjhfijkdlldaa", sum := "c4a7b96a3253bee143c0bbb09d14fa89cb742cb3082b0c9f9d5ba082e0215ab7", checked := Try.checked }
namespace Rows
def none {H : Type} : Left H := { results := [], args := [] }

/-- 'laws.FnExactConstants': WHATEVER THE INPUT: true; the input reads as it did. -/
def fnExactConstantsSpec : ChangeSpec := { name := "fnExactConstants", fn := fun _ => fun
  | [] => { results := [.lit (.bool true)], args := [] }
  | _ => none }
def fnExactConstantsRow : OpenClaim := { program := "ytigjhfijkdlldaa", sum := "c4a7b96a3253bee143c0bbb09d14fa89cb742cb3082b0c9f9d5ba082e0215ab7", func := "loop.example/sismem/laws.FnExactConstants", spec := "fnExactConstants", apart := false }
def FnExactConstantsSaid : Prop := fnExactConstantsRow.holds Try.pinned (OpenSpec.ofChange fnExactConstantsSpec)

/-- ITS FALSE NEIGHBOUR: 'it returns false'. Refute it at one input. -/
def fnExactConstantsWrong : ChangeSpec := { name := "fnExactConstants", fn := fun _ => fun
  | [] => { results := [.lit (.bool false)], args := [] }
  | _ => none }
def FnExactConstantsWrongFalsely : Prop := fnExactConstantsRow.holds Try.pinned (OpenSpec.ofChange fnExactConstantsWrong)

/-- 'laws.FnTop': WHATEVER THE INPUT: true; the input reads as it did. -/
def fnTopSpec : ChangeSpec := { name := "fnTop", fn := fun _ => fun
  | [d] => { results := [.lit (.bool true)], args := [d] }
  | _ => none }
def fnTopRow : OpenClaim := { program := "ytigjhfijkdlldaa", sum := "c4a7b96a3253bee143c0bbb09d14fa89cb742cb3082b0c9f9d5ba082e0215ab7", func := "loop.example/sismem/laws.FnTop", spec := "fnTop", unfollowed := true, recurses := true, apart := false }
def FnTopSaid : Prop := fnTopRow.holds Try.pinned (OpenSpec.ofChange fnTopSpec)

/-- ITS FALSE NEIGHBOUR: 'it returns false'. Refute it at one input. -/
def fnTopWrong : ChangeSpec := { name := "fnTop", fn := fun _ => fun
  | [d] => { results := [.lit (.bool false)], args := [d] }
  | _ => none }
def FnTopWrongFalsely : Prop := fnTopRow.holds Try.pinned (OpenSpec.ofChange fnTopWrong)

/-- 'laws.FnExactMemOk': WHATEVER THE INPUT: true; the input reads as it did. -/
def fnExactMemOkSpec : ChangeSpec := { name := "fnExactMemOk", fn := fun _ => fun
  | [d] => { results := [.lit (.bool true)], args := [d] }
  | _ => none }
def fnExactMemOkRow : OpenClaim := { program := "ytigjhfijkdlldaa", sum := "c4a7b96a3253bee143c0bbb09d14fa89cb742cb3082b0c9f9d5ba082e0215ab7", func := "loop.example/sismem/laws.FnExactMemOk", spec := "fnExactMemOk", unfollowed := true, recurses := true, apart := false }
def FnExactMemOkSaid : Prop := fnExactMemOkRow.holds Try.pinned (OpenSpec.ofChange fnExactMemOkSpec)

/-- ITS FALSE NEIGHBOUR: 'it returns false'. Refute it at one input. -/
def fnExactMemOkWrong : ChangeSpec := { name := "fnExactMemOk", fn := fun _ => fun
  | [d] => { results := [.lit (.bool false)], args := [d] }
  | _ => none }
def FnExactMemOkWrongFalsely : Prop := fnExactMemOkRow.holds Try.pinned (OpenSpec.ofChange fnExactMemOkWrong)

/-- 'laws.FnExactMemReach': WHATEVER THE INPUT: true; the input reads as it did. -/
def fnExactMemReachSpec : ChangeSpec := { name := "fnExactMemReach", fn := fun _ => fun
  | [d] => { results := [.lit (.bool true)], args := [d] }
  | _ => none }
def fnExactMemReachRow : OpenClaim := { program := "ytigjhfijkdlldaa", sum := "c4a7b96a3253bee143c0bbb09d14fa89cb742cb3082b0c9f9d5ba082e0215ab7", func := "loop.example/sismem/laws.FnExactMemReach", spec := "fnExactMemReach", unfollowed := true, recurses := true, apart := false }
def FnExactMemReachSaid : Prop := fnExactMemReachRow.holds Try.pinned (OpenSpec.ofChange fnExactMemReachSpec)

/-- ITS FALSE NEIGHBOUR: 'it returns false'. Refute it at one input. -/
def fnExactMemReachWrong : ChangeSpec := { name := "fnExactMemReach", fn := fun _ => fun
  | [d] => { results := [.lit (.bool false)], args := [d] }
  | _ => none }
def FnExactMemReachWrongFalsely : Prop := fnExactMemReachRow.holds Try.pinned (OpenSpec.ofChange fnExactMemReachWrong)

/-- 'laws.FnExactMemSame': WHATEVER THE INPUT: true; the input reads as it did. -/
def fnExactMemSameSpec : ChangeSpec := { name := "fnExactMemSame", fn := fun _ => fun
  | [d1, d2] => { results := [.lit (.bool true)], args := [d1, d2] }
  | _ => none }
def fnExactMemSameRow : OpenClaim := { program := "ytigjhfijkdlldaa", sum := "c4a7b96a3253bee143c0bbb09d14fa89cb742cb3082b0c9f9d5ba082e0215ab7", func := "loop.example/sismem/laws.FnExactMemSame", spec := "fnExactMemSame", unfollowed := true, recurses := true, apart := false }
def FnExactMemSameSaid : Prop := fnExactMemSameRow.holds Try.pinned (OpenSpec.ofChange fnExactMemSameSpec)

/-- ITS FALSE NEIGHBOUR: 'it returns false'. Refute it at one input. -/
def fnExactMemSameWrong : ChangeSpec := { name := "fnExactMemSame", fn := fun _ => fun
  | [d1, d2] => { results := [.lit (.bool false)], args := [d1, d2] }
  | _ => none }
def FnExactMemSameWrongFalsely : Prop := fnExactMemSameRow.holds Try.pinned (OpenSpec.ofChange fnExactMemSameWrong)

/-- 'laws.FnReach': WHATEVER THE INPUT: true; the input reads as it did. -/
def fnReachSpec : ChangeSpec := { name := "fnReach", fn := fun _ => fun
  | [d] => { results := [.lit (.bool true)], args := [d] }
  | _ => none }
def fnReachRow : OpenClaim := { program := "ytigjhfijkdlldaa", sum := "c4a7b96a3253bee143c0bbb09d14fa89cb742cb3082b0c9f9d5ba082e0215ab7", func := "loop.example/sismem/laws.FnReach", spec := "fnReach", unfollowed := true, recurses := true, apart := false }
def FnReachSaid : Prop := fnReachRow.holds Try.pinned (OpenSpec.ofChange fnReachSpec)

/-- ITS FALSE NEIGHBOUR: 'it returns false'. Refute it at one input. -/
def fnReachWrong : ChangeSpec := { name := "fnReach", fn := fun _ => fun
  | [d] => { results := [.lit (.bool false)], args := [d] }
  | _ => none }
def FnReachWrongFalsely : Prop := fnReachRow.holds Try.pinned (OpenSpec.ofChange fnReachWrong)

/-- 'laws.FnExactMemCollect': WHATEVER THE INPUT: true; the input reads as it did. -/
def fnExactMemCollectSpec : ChangeSpec := { name := "fnExactMemCollect", fn := fun _ => fun
  | [d] => { results := [.lit (.bool true)], args := [d] }
  | _ => none }
def fnExactMemCollectRow : OpenClaim := { program := "ytigjhfijkdlldaa", sum := "c4a7b96a3253bee143c0bbb09d14fa89cb742cb3082b0c9f9d5ba082e0215ab7", func := "loop.example/sismem/laws.FnExactMemCollect", spec := "fnExactMemCollect", unfollowed := true, recurses := true, apart := false }
def FnExactMemCollectSaid : Prop := fnExactMemCollectRow.holds Try.pinned (OpenSpec.ofChange fnExactMemCollectSpec)

/-- ITS FALSE NEIGHBOUR: 'it returns false'. Refute it at one input. -/
def fnExactMemCollectWrong : ChangeSpec := { name := "fnExactMemCollect", fn := fun _ => fun
  | [d] => { results := [.lit (.bool false)], args := [d] }
  | _ => none }
def FnExactMemCollectWrongFalsely : Prop := fnExactMemCollectRow.holds Try.pinned (OpenSpec.ofChange fnExactMemCollectWrong)

/-- 'laws.FnCollect': WHATEVER THE INPUT: true; the input reads as it did. -/
def fnCollectSpec : ChangeSpec := { name := "fnCollect", fn := fun _ => fun
  | [d] => { results := [.lit (.bool true)], args := [d] }
  | _ => none }
def fnCollectRow : OpenClaim := { program := "ytigjhfijkdlldaa", sum := "c4a7b96a3253bee143c0bbb09d14fa89cb742cb3082b0c9f9d5ba082e0215ab7", func := "loop.example/sismem/laws.FnCollect", spec := "fnCollect", unfollowed := true, recurses := true, apart := false }
def FnCollectSaid : Prop := fnCollectRow.holds Try.pinned (OpenSpec.ofChange fnCollectSpec)

/-- ITS FALSE NEIGHBOUR: 'it returns false'. Refute it at one input. -/
def fnCollectWrong : ChangeSpec := { name := "fnCollect", fn := fun _ => fun
  | [d] => { results := [.lit (.bool false)], args := [d] }
  | _ => none }
def FnCollectWrongFalsely : Prop := fnCollectRow.holds Try.pinned (OpenSpec.ofChange fnCollectWrong)

/-- 'laws.FnGuard': WHATEVER THE INPUT: true; the input reads as it did. -/
def fnGuardSpec : ChangeSpec := { name := "fnGuard", fn := fun _ => fun
  | [d] => { results := [.lit (.bool true)], args := [d] }
  | _ => none }
def fnGuardRow : OpenClaim := { program := "ytigjhfijkdlldaa", sum := "c4a7b96a3253bee143c0bbb09d14fa89cb742cb3082b0c9f9d5ba082e0215ab7", func := "loop.example/sismem/laws.FnGuard", spec := "fnGuard", unfollowed := true, recurses := true, apart := false }
def FnGuardSaid : Prop := fnGuardRow.holds Try.pinned (OpenSpec.ofChange fnGuardSpec)

/-- ITS FALSE NEIGHBOUR: 'it returns false'. Refute it at one input. -/
def fnGuardWrong : ChangeSpec := { name := "fnGuard", fn := fun _ => fun
  | [d] => { results := [.lit (.bool false)], args := [d] }
  | _ => none }
def FnGuardWrongFalsely : Prop := fnGuardRow.holds Try.pinned (OpenSpec.ofChange fnGuardWrong)

/-- 'laws.FnSame': WHATEVER THE INPUT: true; the input reads as it did. -/
def fnSameSpec : ChangeSpec := { name := "fnSame", fn := fun _ => fun
  | [d] => { results := [.lit (.bool true)], args := [d] }
  | _ => none }
def fnSameRow : OpenClaim := { program := "ytigjhfijkdlldaa", sum := "c4a7b96a3253bee143c0bbb09d14fa89cb742cb3082b0c9f9d5ba082e0215ab7", func := "loop.example/sismem/laws.FnSame", spec := "fnSame", unfollowed := true, recurses := true, apart := false }
def FnSameSaid : Prop := fnSameRow.holds Try.pinned (OpenSpec.ofChange fnSameSpec)

/-- ITS FALSE NEIGHBOUR: 'it returns false'. Refute it at one input. -/
def fnSameWrong : ChangeSpec := { name := "fnSame", fn := fun _ => fun
  | [d] => { results := [.lit (.bool false)], args := [d] }
  | _ => none }
def FnSameWrongFalsely : Prop := fnSameRow.holds Try.pinned (OpenSpec.ofChange fnSameWrong)

/-- 'laws.FnStep': WHATEVER THE INPUT: true; the input reads as it did. -/
def fnStepSpec : ChangeSpec := { name := "fnStep", fn := fun _ => fun
  | [d1, d2] => { results := [.lit (.bool true)], args := [d1, d2] }
  | _ => none }
def fnStepRow : OpenClaim := { program := "ytigjhfijkdlldaa", sum := "c4a7b96a3253bee143c0bbb09d14fa89cb742cb3082b0c9f9d5ba082e0215ab7", func := "loop.example/sismem/laws.FnStep", spec := "fnStep", unfollowed := true, recurses := true, apart := false }
def FnStepSaid : Prop := fnStepRow.holds Try.pinned (OpenSpec.ofChange fnStepSpec)

/-- ITS FALSE NEIGHBOUR: 'it returns false'. Refute it at one input. -/
def fnStepWrong : ChangeSpec := { name := "fnStep", fn := fun _ => fun
  | [d1, d2] => { results := [.lit (.bool false)], args := [d1, d2] }
  | _ => none }
def FnStepWrongFalsely : Prop := fnStepRow.holds Try.pinned (OpenSpec.ofChange fnStepWrong)

/-- 'laws.FnExactMemStep': WHATEVER THE INPUT: true; the input reads as it did. -/
def fnExactMemStepSpec : ChangeSpec := { name := "fnExactMemStep", fn := fun _ => fun
  | [d1, d2] => { results := [.lit (.bool true)], args := [d1, d2] }
  | _ => none }
def fnExactMemStepRow : OpenClaim := { program := "ytigjhfijkdlldaa", sum := "c4a7b96a3253bee143c0bbb09d14fa89cb742cb3082b0c9f9d5ba082e0215ab7", func := "loop.example/sismem/laws.FnExactMemStep", spec := "fnExactMemStep", unfollowed := true, recurses := true, apart := false }
def FnExactMemStepSaid : Prop := fnExactMemStepRow.holds Try.pinned (OpenSpec.ofChange fnExactMemStepSpec)

/-- ITS FALSE NEIGHBOUR: 'it returns false'. Refute it at one input. -/
def fnExactMemStepWrong : ChangeSpec := { name := "fnExactMemStep", fn := fun _ => fun
  | [d1, d2] => { results := [.lit (.bool false)], args := [d1, d2] }
  | _ => none }
def FnExactMemStepWrongFalsely : Prop := fnExactMemStepRow.holds Try.pinned (OpenSpec.ofChange fnExactMemStepWrong)

/-- 'laws.FnExactMemPlay': WHATEVER THE INPUT: true; the input reads as it did. -/
def fnExactMemPlaySpec : ChangeSpec := { name := "fnExactMemPlay", fn := fun _ => fun
  | [d1, d2] => { results := [.lit (.bool true)], args := [d1, d2] }
  | _ => none }
def fnExactMemPlayRow : OpenClaim := { program := "ytigjhfijkdlldaa", sum := "c4a7b96a3253bee143c0bbb09d14fa89cb742cb3082b0c9f9d5ba082e0215ab7", func := "loop.example/sismem/laws.FnExactMemPlay", spec := "fnExactMemPlay", unfollowed := true, recurses := true, apart := false }
def FnExactMemPlaySaid : Prop := fnExactMemPlayRow.holds Try.pinned (OpenSpec.ofChange fnExactMemPlaySpec)

/-- ITS FALSE NEIGHBOUR: 'it returns false'. Refute it at one input. -/
def fnExactMemPlayWrong : ChangeSpec := { name := "fnExactMemPlay", fn := fun _ => fun
  | [d1, d2] => { results := [.lit (.bool false)], args := [d1, d2] }
  | _ => none }
def FnExactMemPlayWrongFalsely : Prop := fnExactMemPlayRow.holds Try.pinned (OpenSpec.ofChange fnExactMemPlayWrong)

/- THE SECOND FORM. 'bulk': how many values and letters a reading holds, each counted each time it is reached (what is shared counts as often as it is met; a slice's spare places count too). A statement '..UptoSaid' is the law's where the arguments, and the package variables that the reading takes, are together of bulk at most 1048576: NARROWER than '..Said'. Prove '..Said' where nothing that the law and all that it calls make is longer than what came in: it says more and counts as full. Else prove '..UptoSaid'. A law counts once. -/
mutual
def uptoBulk {H : Type} : DataW H → Nat
  | .lit (.string bytes) => bytes.length + 1
  | .lit _ => 1
  | .nil => 1
  | .ptr d => uptoBulk d + 1
  | .slice elems spare => uptoBulkAll elems + uptoBulkAll spare + 1
  | .agg parts => uptoBulkAll parts + 1
  | .iface _ d => uptoBulk d + 1
  | .map entries => uptoBulkEntries entries + 1
  | .held _ => 1
def uptoBulkAll {H : Type} : List (DataW H) → Nat
  | [] => 0
  | d :: r => uptoBulk d + uptoBulkAll r
def uptoBulkEntries {H : Type} : List (Lit × DataW H) → Nat
  | [] => 0
  | x :: r => uptoBulkEntry x + uptoBulkEntries r
def uptoBulkEntry {H : Type} : Lit × DataW H → Nat
  | (.string bytes, d) => bytes.length + uptoBulk d + 1
  | (_, d) => uptoBulk d + 1
 end
def uptoSmall : (H : Type) → List (DataW H) → Bool := fun _ ds => decide (uptoBulkAll ds ≤ 1048576)
def OpenSpec.upto (s : _root_.Go.ChangeSpec) : _root_.Go.OpenSpec := { _root_.Go.OpenSpec.ofChange s with cond := some uptoSmall }

/-- 'laws.FnExactConstants', WHERE WHAT IT READS IS OF BULK AT MOST 1048576: true; the input reads as it did. -/
def fnExactConstantsUptoRow : OpenClaim := { program := "ytigjhfijkdlldaa", sum := "c4a7b96a3253bee143c0bbb09d14fa89cb742cb3082b0c9f9d5ba082e0215ab7", func := "loop.example/sismem/laws.FnExactConstants", spec := "fnExactConstants", apart := false, narrowed := true }
def FnExactConstantsUptoSaid : Prop := fnExactConstantsUptoRow.holds Try.pinned (OpenSpec.upto fnExactConstantsSpec)

/-- 'laws.FnTop', WHERE WHAT IT READS IS OF BULK AT MOST 1048576: true; the input reads as it did. -/
def fnTopUptoRow : OpenClaim := { program := "ytigjhfijkdlldaa", sum := "c4a7b96a3253bee143c0bbb09d14fa89cb742cb3082b0c9f9d5ba082e0215ab7", func := "loop.example/sismem/laws.FnTop", spec := "fnTop", unfollowed := true, recurses := true, apart := false, narrowed := true }
def FnTopUptoSaid : Prop := fnTopUptoRow.holds Try.pinned (OpenSpec.upto fnTopSpec)

/-- 'laws.FnExactMemOk', WHERE WHAT IT READS IS OF BULK AT MOST 1048576: true; the input reads as it did. -/
def fnExactMemOkUptoRow : OpenClaim := { program := "ytigjhfijkdlldaa", sum := "c4a7b96a3253bee143c0bbb09d14fa89cb742cb3082b0c9f9d5ba082e0215ab7", func := "loop.example/sismem/laws.FnExactMemOk", spec := "fnExactMemOk", unfollowed := true, recurses := true, apart := false, narrowed := true }
def FnExactMemOkUptoSaid : Prop := fnExactMemOkUptoRow.holds Try.pinned (OpenSpec.upto fnExactMemOkSpec)

/-- 'laws.FnExactMemReach', WHERE WHAT IT READS IS OF BULK AT MOST 1048576: true; the input reads as it did. -/
def fnExactMemReachUptoRow : OpenClaim := { program := "ytigjhfijkdlldaa", sum := "c4a7b96a3253bee143c0bbb09d14fa89cb742cb3082b0c9f9d5ba082e0215ab7", func := "loop.example/sismem/laws.FnExactMemReach", spec := "fnExactMemReach", unfollowed := true, recurses := true, apart := false, narrowed := true }
def FnExactMemReachUptoSaid : Prop := fnExactMemReachUptoRow.holds Try.pinned (OpenSpec.upto fnExactMemReachSpec)

/-- 'laws.FnExactMemSame', WHERE WHAT IT READS IS OF BULK AT MOST 1048576: true; the input reads as it did. -/
def fnExactMemSameUptoRow : OpenClaim := { program := "ytigjhfijkdlldaa", sum := "c4a7b96a3253bee143c0bbb09d14fa89cb742cb3082b0c9f9d5ba082e0215ab7", func := "loop.example/sismem/laws.FnExactMemSame", spec := "fnExactMemSame", unfollowed := true, recurses := true, apart := false, narrowed := true }
def FnExactMemSameUptoSaid : Prop := fnExactMemSameUptoRow.holds Try.pinned (OpenSpec.upto fnExactMemSameSpec)

/-- 'laws.FnReach', WHERE WHAT IT READS IS OF BULK AT MOST 1048576: true; the input reads as it did. -/
def fnReachUptoRow : OpenClaim := { program := "ytigjhfijkdlldaa", sum := "c4a7b96a3253bee143c0bbb09d14fa89cb742cb3082b0c9f9d5ba082e0215ab7", func := "loop.example/sismem/laws.FnReach", spec := "fnReach", unfollowed := true, recurses := true, apart := false, narrowed := true }
def FnReachUptoSaid : Prop := fnReachUptoRow.holds Try.pinned (OpenSpec.upto fnReachSpec)

/-- 'laws.FnExactMemCollect', WHERE WHAT IT READS IS OF BULK AT MOST 1048576: true; the input reads as it did. -/
def fnExactMemCollectUptoRow : OpenClaim := { program := "ytigjhfijkdlldaa", sum := "c4a7b96a3253bee143c0bbb09d14fa89cb742cb3082b0c9f9d5ba082e0215ab7", func := "loop.example/sismem/laws.FnExactMemCollect", spec := "fnExactMemCollect", unfollowed := true, recurses := true, apart := false, narrowed := true }
def FnExactMemCollectUptoSaid : Prop := fnExactMemCollectUptoRow.holds Try.pinned (OpenSpec.upto fnExactMemCollectSpec)

/-- 'laws.FnCollect', WHERE WHAT IT READS IS OF BULK AT MOST 1048576: true; the input reads as it did. -/
def fnCollectUptoRow : OpenClaim := { program := "ytigjhfijkdlldaa", sum := "c4a7b96a3253bee143c0bbb09d14fa89cb742cb3082b0c9f9d5ba082e0215ab7", func := "loop.example/sismem/laws.FnCollect", spec := "fnCollect", unfollowed := true, recurses := true, apart := false, narrowed := true }
def FnCollectUptoSaid : Prop := fnCollectUptoRow.holds Try.pinned (OpenSpec.upto fnCollectSpec)

/-- 'laws.FnGuard', WHERE WHAT IT READS IS OF BULK AT MOST 1048576: true; the input reads as it did. -/
def fnGuardUptoRow : OpenClaim := { program := "ytigjhfijkdlldaa", sum := "c4a7b96a3253bee143c0bbb09d14fa89cb742cb3082b0c9f9d5ba082e0215ab7", func := "loop.example/sismem/laws.FnGuard", spec := "fnGuard", unfollowed := true, recurses := true, apart := false, narrowed := true }
def FnGuardUptoSaid : Prop := fnGuardUptoRow.holds Try.pinned (OpenSpec.upto fnGuardSpec)

/-- 'laws.FnSame', WHERE WHAT IT READS IS OF BULK AT MOST 1048576: true; the input reads as it did. -/
def fnSameUptoRow : OpenClaim := { program := "ytigjhfijkdlldaa", sum := "c4a7b96a3253bee143c0bbb09d14fa89cb742cb3082b0c9f9d5ba082e0215ab7", func := "loop.example/sismem/laws.FnSame", spec := "fnSame", unfollowed := true, recurses := true, apart := false, narrowed := true }
def FnSameUptoSaid : Prop := fnSameUptoRow.holds Try.pinned (OpenSpec.upto fnSameSpec)

/-- 'laws.FnStep', WHERE WHAT IT READS IS OF BULK AT MOST 1048576: true; the input reads as it did. -/
def fnStepUptoRow : OpenClaim := { program := "ytigjhfijkdlldaa", sum := "c4a7b96a3253bee143c0bbb09d14fa89cb742cb3082b0c9f9d5ba082e0215ab7", func := "loop.example/sismem/laws.FnStep", spec := "fnStep", unfollowed := true, recurses := true, apart := false, narrowed := true }
def FnStepUptoSaid : Prop := fnStepUptoRow.holds Try.pinned (OpenSpec.upto fnStepSpec)

/-- 'laws.FnExactMemStep', WHERE WHAT IT READS IS OF BULK AT MOST 1048576: true; the input reads as it did. -/
def fnExactMemStepUptoRow : OpenClaim := { program := "ytigjhfijkdlldaa", sum := "c4a7b96a3253bee143c0bbb09d14fa89cb742cb3082b0c9f9d5ba082e0215ab7", func := "loop.example/sismem/laws.FnExactMemStep", spec := "fnExactMemStep", unfollowed := true, recurses := true, apart := false, narrowed := true }
def FnExactMemStepUptoSaid : Prop := fnExactMemStepUptoRow.holds Try.pinned (OpenSpec.upto fnExactMemStepSpec)

/-- 'laws.FnExactMemPlay', WHERE WHAT IT READS IS OF BULK AT MOST 1048576: true; the input reads as it did. -/
def fnExactMemPlayUptoRow : OpenClaim := { program := "ytigjhfijkdlldaa", sum := "c4a7b96a3253bee143c0bbb09d14fa89cb742cb3082b0c9f9d5ba082e0215ab7", func := "loop.example/sismem/laws.FnExactMemPlay", spec := "fnExactMemPlay", unfollowed := true, recurses := true, apart := false, narrowed := true }
def FnExactMemPlayUptoSaid : Prop := fnExactMemPlayUptoRow.holds Try.pinned (OpenSpec.upto fnExactMemPlaySpec)

end Rows
end Go.Proofs.Ytigjhfijkdlldaa
