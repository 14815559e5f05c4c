/- For every text the law FnExactMemSession answers true: the program's MemSession answers as the reference's, and leaves its argument as it was. No condition but what the card ties to the program's text: the library's tables as that text lays them. -/
import Derived.Test.YtigjhfijkdlldaaDoorTie
import Derived.Test.YtigjhfijkdlldaaDoorCards
import Derived.Test.YtigjhfijkdlldaaDoorSliSl
import Derived.Deep.DeepHandedRow
import Derived.JoinedOf
import Derived.ProofKit
import Derived.Lay
import Derived.SevenTiedAt
namespace Go.Proofs.YtigjhfijkdlldaaDoor.fnExactMemSession
open Go.ChangeShapes Go.WideShapes Go.ChangeAt Go.RowKit Go.ChangeMaps Go.Proofs.YtigjhfijkdlldaaDoor.H
set_option linter.unusedVariables false
theorem own:ownKnob Tryd.prog.godebug=none:=by kernel_rfl
theorem laidOut:laidOutB Tryd.prog=true:=by kernel_rfl
set_option maxRecDepth 100000 in
theorem lifted (os:Os) (started:os.Started) (H:Type) (enc:TypeId × Value→H) :
    ReturnsInHanded {} Tryd.checked os 3 .any ((OpenSpec.ofChange Rows.fnExactMemSessionSpec).preRow enc Tryd.prog Tryd.f3 [] false Rows.fnExactMemSessionRow.laid) (Rows.fnExactMemSessionSpec.post enc Tryd.prog Tryd.f3 false true false false):=by
  refine returnsInHanded_of_row (C:=Tryd.checked) (s:=OpenSpec.ofChange Rows.fnExactMemSessionSpec) (F:=fun _ _ _=>0) own started (by kernel_rfl) Tryd.func3
    (ChangeSpec.witness_shaped (enc:=enc) (C:=Tryd.checked) (os:=os) (X:=fun w _=>laidMetH Tryd.prog Rows.fnExactMemSessionRow.laid w) false (World.laidAll Tryd.prog os Rows.fnExactMemSessionRow.laid) #[.string ⟨#[]⟩] 8 (World.laidAll_os _ _ _)
      (World.shaped_of_ZipB (by kernel_rfl) (by kernel_rfl)) (by kernel_rfl) (by kernel_rfl) (by kernel_rfl)
      (by rw[MakeChecks.laidMetH_plain _ _ _ (by kernel_rfl)];exact laidMet_laidAll _ (by kernel_rfl) (by kernel_rfl))) ?_
  intro W base args ds gs before hval0 hW _ _ _ hL hsh _
  have hval:∀(j:Nat) t v,Tryd.f3.params[j]?=some t→args[j]?=some v→Value.okWide Tryd.prog W .any base t v:=hval0
  have hW':=hW
  obtain⟨p,q,hA0,hV,rfl,hfz,hnd⟩:=hW
  have hA:DataW.TrodAll enc Tryd.prog W 0 (fun _=>true) true Tryd.f3.params.toList args.toList ds p:=hA0
  rw[Tryd.params3]at hA hval
  obtain⟨v0,d0,rfl,rfl,h0⟩:=trodAll_one hA
  obtain⟨rfl,rfl⟩:=trodVars_none hV
  obtain⟨x,rfl,rfl,rfl,wx⟩:=open_string Tryd.underlying9 (hval 0 9 v0 rfl rfl) h0
  simp only[List.append_nil]at hW'
  obtain⟨m,hm⟩:=Tryd.max_cell hsh
  refine(FnExactMemSession_walk hm).mono fun e W' ⟨he,hb⟩=>?_
  subst he
  exact⟨_,rfl,_,_,_,[],[],[],hW',trodAll_mk1 (shut_bool Tryd.underlying4 _),trodAll_mk1 (shut_string Tryd.underlying9 wx),rfl,hb.frame _,fun h=>by cases h⟩
theorem over:Rows.fnExactMemSessionRow.holds Tryd.pinned (OpenSpec.ofChange Rows.fnExactMemSessionSpec):=
  OpenClaim.holds_of_wide 3 Tryd.f3 rfl rfl rfl rfl rfl rfl rfl ⟨rfl,rfl,rfl,rfl,rfl⟩ rfl rfl rfl rfl rfl (by kernel_rfl) Tryd.func3 (by kernel_rfl)
    (of_decide_eq_true (by kernel_rfl)) (by unfold Func.isWrapper;first|(rw[if_pos (by decide +kernel)];kernel_rfl)|(rw[if_neg (by decide +kernel)];exact⟨rfl,rfl⟩))
    (fun os started H enc _=>by rw[OpenClaim.pre_eq_preRow];exact lifted os started H enc)
end Go.Proofs.YtigjhfijkdlldaaDoor.fnExactMemSession
namespace Go.Proofs.YtigjhfijkdlldaaDoor
theorem fnExactMemSession_holds:Rows.FnExactMemSessionCardSaid:=
  Claim7.holds_tied_plain_at .later [] [.data,.data,.data,.data,.pinned] true (true,"5518dd13fc9231b61400d10cf00e2a2ddcb4501408324679dd6b59188f7ea219") false
    fnExactMemSession.over (fun _ h=>by cases h) (by kernel_rfl) (fun _ h=>by cases h) fnExactMemSession_row_tie rfl ⟨rfl,rfl⟩ (by kernel_rfl) rfl
    (fun f fn hf hfn=>by
      obtain rfl:f=3:=Option.some.inj ((show Tryd.prog.funcNamed "loop.example/sismem/laws.FnExactMemSession"=some 3 by kernel_rfl).symm.trans hf) |>.symm
      obtain rfl:fn=Tryd.f3:=(Option.some.inj (Tryd.func3.symm.trans hfn)).symm
      exact⟨by kernel_rfl,fun j t ht=>by
        rw[Tryd.params3]at ht
        have hm:t∈[9]:=by simpa using Array.mem_of_getElem? ht
        have hall:([9].all fun u=>!Tryd.prog.wantsStandIn u)=true:=by kernel_rfl
        exact(show Tryd.prog.wantsStandIn t=false by simpa using List.all_eq_true.1 hall t hm)⟩)
    (by kernel_rfl)
#print axioms fnExactMemSession_holds
end Go.Proofs.YtigjhfijkdlldaaDoor
