import Derived.Test.YtigjhfijkdlldaaDoorSliSl
import Derived.Test.YtigjhfijkdlldaaDoorSliSn
import Derived.Test.YtigjhfijkdlldaaDoorSliSa
import Derived.Test.YtigjhfijkdlldaaDoorRows
import Derived.ProofKit
import Derived.OpenShut
import Derived.ShutString
import Derived.ChangeOld
import Derived.SizedLaws
import Derived.Lib.SmallJoins
namespace Go.Proofs.YtigjhfijkdlldaaDoor.H
open Go.RowKit Go.Proofs.YtigjhfijkdlldaaDoorW.PrintWords Go.Proofs.YtigjhfijkdlldaaDoorW.PrintLast Go.Proofs.YtigjhfijkdlldaaDoorW.PrintMore Go.Proofs.YtigjhfijkdlldaaDoor.Q
set_option linter.unusedVariables false
set_option linter.unusedSimpArgs false
section
set_option maxHeartbeats 8000000 in
set_option maxRecDepth 100000 in
theorem FnLines_walk {w:World} {A:Option Addr} {c:Nat} {code:List Int} {m:Int} (hr:Kd.C (Kd.int .u8) w A code.length code) (hc:code.length≤c) (hb:∀b∈code,0≤b∧b<256) (hm:w.cell? ⟨0,0,none⟩=some (.int .i64 m)) :
    Calls Tryd.prog 4 #[.slice A code.length c] w fun e w'=>e=.returned (.bool true)∧Below w.heap.size w w':=by
  have HMX:=AK hm
  have H0:=AK (And.intro hr (And.intro hc hb))
  clear hr hc hb hm
  by_cases c1:1048576<code.length
  · have f0:=eq_true (show (1048576:Int)<(code.length:Int)by omega)
    have f1:decide ((1048576:Int)<(code.length:Int))=true:=deT (by omega)
    have f2:decide (1048576<code.length)=true:=deT c1
    have f3:=eq_true c1
    clear c1
    go_enter Tryd.func4,Tryd.ntmps4
    go_wp2
    go_ret
    exact⟨rfl,Below.refl _ _⟩
  have f0:=eq_false (show ¬ (1048576:Int)<(code.length:Int)by omega)
  have f1:decide ((1048576:Int)<(code.length:Int))=false:=deF (by omega)
  have f2:decide (1048576<code.length)=false:=deF c1
  have f3:=eq_false c1
  clear c1
  go_enter Tryd.func4,Tryd.ntmps4
  go_wp2_with fail
  clear f0 f1 f2 f3
  refine(drawSession_c H0.out.1 H0.out.2.1 H0.out.2.2).mono ?_
  rintro en w1 ⟨t,rfl,ht,hb⟩
  have HT:=AK ht
  have B:=AK hb
  replace HMX:=AK (pcb hb HMX.out)
  clear ht hb H0
  go_upto_block 0 with fail
  go_cut [5] (fun v5 wc=>∃hd:ByteArray,v5=.string hd∧wc=w1∧Aside0 (hd.size≤1000000))
  case first=>
    go_wp2_with fail
    go_loopg [4,5,6] t.size (fun kq v4 v5 v6 w'=>∃(q i:Int),v4=.int .i64 q∧v5=.string t∧v6=.int .i64 i∧w'=w1∧Aside0 (0≤i∧i+kq=t.size))
    case atStart=>exact⟨_,0,rfl,rfl,rfl,rfl,⟨by omega,by omega⟩⟩
    case round=>
      obtain⟨q,i,rfl,rfl,rfl,rfl,HI⟩:=hrel
      cases gk with
      | zero=>
        have c9:decide (i<(t.size:Int))=false:=deF (by have:=HI.out;omega)
        go_wp2
        go_meet
        case rel=>exact⟨t,rfl,rfl,HT⟩
      | succ k1=>
        have c9:decide (i<(t.size:Int))=true:=deT (by have:=HI.out;omega)
        have hi0:=eq_true (show 0≤i by have:=HI.out;omega)
        have hi1:=eq_true (show i<(t.size:Int)by have:=HI.out;omega)
        have hb:=bt_at t i
        obtain⟨b1,hb1⟩:∃b,(bt t i == 10)=b:=⟨_,rfl⟩
        obtain⟨j,hj⟩:∃j,wrap64 (i+1)=j:=⟨_,rfl⟩
        have HJ:=AK (show j=i+1 from by rw[←hj,wr_in (by have:=HI.out;omega) (by have:=HI.out;have:=HT.out;omega)])
        have j0:=eq_true (show 0≤j by have:=HI.out;have:=HJ.out;omega)
        have j1:=eq_true (show j≤(t.size:Int)by have:=HI.out;have:=HJ.out;omega)
        cases b1 with
        | false=>
          go_wp2
          go_roundg k1
          case measure=>omega
          case rel=>
            rw[hj]
            exact⟨q,j,rfl,rfl,rfl,rfl,⟨by have:=HI.out;have:=HJ.out;omega,by have:=HI.out;have:=HJ.out;omega⟩⟩
        | true=>
          obtain⟨q2,hq2⟩:∃x,wrap64 (q - 1)=x:=⟨_,rfl⟩
          obtain⟨b2,hb2⟩:∃b,decide (q2<0)=b:=⟨_,rfl⟩
          cases b2 with
          | false=>
            go_wp2
            go_roundg k1
            case measure=>omega
            case rel=>
              rw[hj,hq2]
              exact⟨q2,j,rfl,rfl,rfl,rfl,⟨by have:=HI.out;have:=HJ.out;omega,by have:=HI.out;have:=HJ.out;omega⟩⟩
          | true=>
            go_wp2
            go_meet
            case rel=>exact⟨_,rfl,rfl,⟨by rw[ByteArray.size_extract];have:=HT.out;omega⟩⟩
  case rest=>
  obtain⟨hd,rfl,hw_,HD⟩:=hcut
  rw[hw_]
  clear hw_ wc
  obtain⟨p,hp⟩:∃p,sessionB hd=p:=⟨_,rfl⟩
  obtain⟨r,hr⟩:∃r,sessionB t=r:=⟨_,rfl⟩
  have HPP:=AK hp
  have HRR:=AK hr
  clear hp hr
  go_wp2_with fail
  refine(implSession_c (by have:=HD.out;omega) HMX.out).mono ?_
  rintro en w2 ⟨rfl,hb⟩
  rw[HPP.out]
  replace B:=AK (bst B.out hb)
  replace HMX:=AK (pcb hb HMX.out)
  clear hb
  go_wp2_with fail
  refine(implSession_c (by have:=HT.out;omega) HMX.out).mono ?_
  rintro en w3 ⟨rfl,hb⟩
  rw[HRR.out]
  replace B:=AK (bst B.out hb)
  clear hb HMX
  go_wp2_with fail
  refine(specSession_c (by have:=HD.out;omega)).mono ?_
  rintro en w4 ⟨rfl,hb⟩
  rw[HPP.out]
  replace B:=AK (bst B.out hb)
  clear hb
  go_wp2_with fail
  refine(specSession_c (by have:=HT.out;omega)).mono ?_
  rintro en w5 ⟨rfl,hb⟩
  rw[HRR.out]
  replace B:=AK (bst B.out hb)
  clear hb
  have t1:(r.toList == r.toList)=true:=beq_self_eq_true _
  have t2:(p.toList == p.toList)=true:=beq_self_eq_true _
  by_cases cs:r.size<p.size
  · have g0:=eq_true (show (r.size:Int)<(p.size:Int)by omega)
    have g1:decide ((r.size:Int)<(p.size:Int))=true:=deT (by omega)
    have g2:decide (r.size<p.size)=true:=deT cs
    have g3:=eq_true cs
    clear cs
    go_wp2
    go_ret
    exact⟨rfl,B.out⟩
  have g0:=eq_false (show ¬ (r.size:Int)<(p.size:Int)by omega)
  have g1:decide ((r.size:Int)<(p.size:Int))=false:=deF (by omega)
  have g2:decide (r.size<p.size)=false:=deF cs
  have g3:=eq_false cs
  have g4:=eq_true (show (p.size:Int)≤(r.size:Int)by omega)
  have g5:=eq_true (show p.size≤r.size by omega)
  have g6:=eq_true (show 0≤(p.size:Int)by omega)
  clear cs
  obtain⟨x,hx⟩:∃x,r.extract 0 p.size=x:=⟨_,rfl⟩
  by_cases cx:x.toList=p.toList
  · have x1:(x.toList == p.toList)=true:=by rw[cx];exact beq_self_eq_true _
    have x2:(x.toList != p.toList)=false:=by rw[cx];simp
    clear cx
    go_wp2
    go_ret
    exact⟨rfl,B.out⟩
  · have x1:(x.toList == p.toList)=false:=beq_eq_false_iff_ne.2 cx
    have x2:(x.toList != p.toList)=true:=by simp[bne,x1]
    clear cx
    go_wp2
    go_ret
    exact⟨rfl,B.out⟩
end
end Go.Proofs.YtigjhfijkdlldaaDoor.H
namespace Go.Proofs.YtigjhfijkdlldaaDoor.H
open Go.RowKit Go.WideShapes Go.ChangeShapes Go.ChangeAt Go.Joins Go.Deep Go.Proofs.YtigjhfijkdlldaaDoorW.PrintWords Go.Proofs.YtigjhfijkdlldaaDoorW.PrintLast Go.Proofs.YtigjhfijkdlldaaDoorW.PrintMore Go.Proofs.YtigjhfijkdlldaaDoor.Q
set_option linter.unusedVariables false
set_option linter.unusedSimpArgs false
section
section
variable {H:Type} {enc:TypeId × Value→H} {w:World} {base:Nat} {spare:Nat→Bool} {held:Bool}
def Rd (enc:TypeId × Value→H) (w:World) (base:Nat) (spare:Nat→Bool) (held:Bool) {α:Type} (t:TypeId) (d:Kd α) (Q:α→Prop):Prop:=
  ∀fuel cs x,DataW.trod enc Tryd.prog w base spare held fuel t cs=some x→∃a,d.K w a cs∧Q a
theorem list_of {α:Type} (n:Nat) (P:Nat→α→Prop) (h:∀i,i<n→∃a,P i a):∃xs:List α,xs.length=n∧∀i x,xs[i]?=some x→P i x:=by
  induction n with
  | zero=>exact⟨[],rfl,fun i x hx=>by simp at hx⟩
  | succ n ih=>
    obtain⟨xs,hl,hx⟩:=ih (fun i hi=>h i (by omega))
    obtain⟨a,ha⟩:=h n (by omega)
    refine⟨xs++[a],by simp[hl],fun i x hi=>?_⟩
    by_cases c:i<n
    · rw[List.getElem?_append_left (by omega)]at hi;exact hx i x hi
    · by_cases c2:i=n
      · subst c2
        rw[List.getElem?_append_right (by omega),hl]at hi
        simp at hi;subst hi;exact ha
      · rw[List.getElem?_eq_none (by simp[hl];omega)]at hi;cases hi
theorem rd_slice {α:Type} {t e:TypeId} {d:Kd α} {Q:α→Prop} (ht:Tryd.prog.underlying t=some (.slice e)) (hc:Tryd.prog.cellsOf e=d.sz) (h:Rd enc w base spare held e d Q) :
    Rd enc w base spare held t (Kd.slice e d) (fun xs=>∀x∈xs,Q x):=by
  intro fuel cs x hx
  rcases DataW.trod_slice ht hx with⟨rfl,_⟩|⟨a,len,cap,elems,rest,n,_,rfl,_,_,hlc,hm,hel,hr,_,_⟩
  · exact⟨[],⟨none,0,rfl,Nat.le_refl _,by simp,by simp,fun h=>absurd h (Nat.lt_irrefl 0)⟩,fun x hx=>by cases hx⟩
  · have hex : ∀ i, i < len → ∃ y, ∃ c : List Value, c.length = d.sz ∧ d.K w y c ∧ Q y ∧ ∀ j u, c[j]? = some u → w.cell? (a.add (i * d.sz + j)) = some u := by
      intro i hi
      have h1:=hr i hi
      rw[List.getElem?_eq_getElem (by omega)]at h1
      obtain⟨c,hcs,htr⟩:=Option.bind_eq_some_iff.1 h1
      obtain⟨_,hl,hcell⟩:=World.cells?_some hcs
      obtain⟨y,hy,hq⟩:=h _ _ _ htr
      rw[hc]at hl hcell
      refine⟨y,c,hl,hy,hq,fun j u hu=>?_⟩
      have hj:j<d.sz:=by
        have:=(List.getElem?_eq_some_iff.1 hu).1
        omega
      have:=(hcell j hj).trans hu
      rw[Addr.add_add]at this
      exact this
    obtain⟨xs,hxl,hxs⟩:=list_of len _ hex
    refine⟨xs,⟨some a,cap,by rw[hxl],by omega,rfl,?_,fun h0=>⟨a,rfl,fun j p hj=>?_⟩⟩,fun x hx=>?_⟩
    · rw[hxl];unfold maxLen at hm;omega
    · obtain⟨c,h1,h2,_,h3⟩:=hxs j p hj
      exact⟨c,h1,h2,h3⟩
    · obtain⟨i,hi⟩:=List.getElem?_of_mem hx
      obtain⟨c,_,_,h3,_⟩:=hxs i x hi
      exact h3
end
end
section
set_option maxRecDepth 100000
theorem rd_byte {H:Type} {enc:TypeId × Value→H} {w:World} {base:Nat} {spare:Nat→Bool} {held:Bool}:Rd enc w base spare held 5 (Kd.int .u8) (fun n=>0≤n∧n<256):=by
  intro fuel cs x h
  obtain⟨n,rfl,_,hw⟩:=DataW.trod_int Tryd.underlying5 h
  have h2:(Lit.int .u8 n).wf=true:=hw
  simp only[Lit.wf,Bool.and_eq_true,decide_eq_true_eq]at h2
  have h3:IntKind.u8.min=0:=by decide
  have h4:IntKind.u8.max=255:=by decide
  rw[h3,h4]at h2
  exact⟨n,rfl,h2.1,by omega⟩
theorem open_code {H:Type} {enc:TypeId × Value→H} {w:World} {base:Nat} {spare:Nat→Bool} {held:Bool} {r:Reach} {b0:Nat} {v:Value} {d:DataW H} {p:List MemPlace} (hv:Value.okWide Tryd.prog w r b0 24 v) (h:DataW.Trod enc Tryd.prog w base spare held 24 v d p) :
    ∃(A:Option Addr) (c:Nat) (bs:List Int),v=.slice A bs.length c∧Kd.C (Kd.int .u8) w A bs.length bs∧bs.length≤c∧∀b∈bs,0≤b∧b<256:=by
  obtain⟨a,len,cap,rfl⟩:=okWide_slice Tryd.underlying24 hv
  obtain⟨fuel,hf⟩:=h
  obtain⟨bs,⟨A,c,e,hc,hr⟩,hq⟩:=rd_slice Tryd.underlying24 (show Tryd.prog.cellsOf 5=1 by kernel_rfl) rd_byte fuel _ _ hf
  refine⟨A,c,bs,?_,hr,hc,hq⟩
  have h2:[Value.slice a len cap]=[Value.slice A bs.length c]:=by simpa [Value.cells] using e
  exact(List.cons.inj h2).1
end
end Go.Proofs.YtigjhfijkdlldaaDoor.H
