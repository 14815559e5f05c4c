import Derived.Test.YtigjhfijkdlldaaDoorSliYrf
namespace Go.Proofs.YtigjhfijkdlldaaDoor.H
open Go.RowKit Go.Proofs.YtigjhfijkdlldaaDoorW.PrintWords Go.Proofs.YtigjhfijkdlldaaDoorW.PrintLast Go.Proofs.YtigjhfijkdlldaaDoorW.PrintMore Go.Proofs.YtigjhfijkdlldaaDoor.Q
set_option linter.unusedVariables false
set_option linter.unusedSimpArgs false
section
section
variable {w:World} {K A B A0 A1 A2 A3:Option Addr} {c d c0 c1 c2 c3 ck:Nat} {l t:List S60} {x:List Int}
set_option maxHeartbeats 1000000 in
theorem l3Told_s {n0 n1 n3:Nat} (h:Kd.C k60 w A2 l.length l) (hx:Kd.C (Kd.int .i64) w K x.length x) (hl:l.length≤1048576) :
    Calls Tryd.prog 69 #[.agg #[.slice A0 n0 c0,.slice A1 n1 c1,.slice A2 l.length c2,.slice A3 n3 c3],.slice K x.length ck] w fun e w'=>∃v:Value,e=.returned v∧Kd.R k60 71 w' w.heap.size (fun _=>True) v (toldL x l)∧Below w.heap.size w w':=by
  have HL:=AK h
  have HX:=AK hx
  have HM:=AK hl
  have HW:=AK (show Below w.heap.size w (w.alloc (.cells #[.slice A0 n0 c0,.slice A1 n1 c1,.slice A2 l.length c2,.slice A3 n3 c3] 33 (0,0)))∧(w.alloc (.cells #[.slice A0 n0 c0,.slice A1 n1 c1,.slice A2 l.length c2,.slice A3 n3 c3] 33 (0,0))).heap[w.heap.size]?=some (.cells #[.slice A0 n0 c0,.slice A1 n1 c1,.slice A2 l.length c2,.slice A3 n3 c3] 33 (0,0))from⟨below_alloc (Below.refl _ _) _,blk_new w _⟩)
  obtain⟨r,er⟩:∃r,r=toldL x l:=⟨_,rfl⟩
  have HE0:=AK (show r=[]++toldL x (l.drop (0:Int).toNat)from er)
  rw[←er]
  clear h hx hl er
  go_enter Tryd.func69,Tryd.ntmps69
  go_wp2_with ((with_reducible refine gate_dst (N:=8) rfl ?_);refine Kd.R_lit k60 (w0:=(w.alloc (.cells #[.slice A0 n0 c0,.slice A1 n1 c1,.slice A2 l.length c2,.slice A3 n3 c3] 33 (0,0)))) (World.heap (w.alloc (.cells #[.slice A0 n0 c0,.slice A1 n1 c1,.slice A2 l.length c2,.slice A3 n3 c3] 33 (0,0)))).size 71 ?hg (N:=8) ?hd (xs:=([]:List S60)) (inner:=[]) (ok:=fun _=>True) (okp:=fun _=>True) ?hr ?hp (fun _ hk=>hk) trivial (Below.refl _ _) (Nat.le_refl _) (by simp) ?_;(case hd=>rfl);(case hg=>rfl);(case hr=>first|(go_simp;done)|(go_simp;rfl));(case hp=>exact Reps.none _ _);intro v1 w2 hr hb hg hn;obtain⟨K0,ck0,hv⟩:=Kd.R_slice hr;subst hv;have HR:=AK (Kd.R_lower hr HW.out.1.size);have HB:=AK (And.intro (bst HW.out.1 hb) (bbl HW.out.2 hb));clear hr hb hg hn)
  go_loopg [5,6] l.length (fun kq v5 v6 w'=>∃(m:List S60) (M:Option Addr) (cm:Nat) (i:Int),v5=.slice M m.length cm∧v6=.int .i64 i∧Aside0 (0≤i∧i+kq=l.length∧(m.length:Int)≤i)∧Aside0 (r=m++toldL x (l.drop i.toNat))∧Aside0 (Kd.R k60 71 w' w.heap.size (fun _=>True) (.slice M m.length cm) m)∧Aside0 (Below w.heap.size w w'∧w'.heap[w.heap.size]?=some (.cells #[.slice A0 n0 c0,.slice A1 n1 c1,.slice A2 l.length c2,.slice A3 n3 c3] 33 (0,0))))
  case atStart=>exact⟨[],K0,ck0,0,rfl,rfl,⟨by omega,by omega,by simp⟩,HE0,HR,HB⟩
  case round=>
    clear HE0 HR HB
    obtain⟨m,M,cm,i,rfl,rfl,HI,HE,HR,HB⟩:=hrel
    obtain⟨p0,p1,p2,p3⟩:=box4 HB.out.2
    cases gk with
    | zero =>
        have c9:decide (i<(l.length:Int))=false:=deF (by have:=HI.out;omega)
        have hr:m=r:=by rw[HE.out,drop_end _ _ (by have:=HI.out;omega)];exact(List.append_nil m).symm
        clear HE
        subst hr
        go_wp2
        go_ret
        exact⟨_,rfl,HR.out,HB.out.1⟩
    | succ k1=>
      have c9:decide (i<(l.length:Int))=true:=deT (by have:=HI.out;omega)
      have hi0:=eq_true (show 0≤i by have:=HI.out;omega)
      have hi1:=eq_true (show i<(l.length:Int)by have:=HI.out;omega)
      obtain⟨ad,e1,y0,y1⟩:=at_T60 (Kd.C_below HL.out HB.out.1) i (by have:=HI.out;omega) (by have:=HI.out;omega)
      subst e1
      have hr:=HE.out
      rw[drop_cons l z60 i (by have:=HI.out;omega) (by have:=HI.out;omega),toldL_cons,show l.getD i.toNat z60=rd_T60 l i from rfl]at hr
      obtain⟨z,ez⟩:∃z,z=rd_T60 l i:=⟨_,rfl⟩
      rw[←ez]at y0 y1 hr
      unfold toldB at hr
      have HBA:=AK (And.intro (below_alloc HB.out.1 (.cells #[.int .i64 z.f0,.int .i64 z.f1] 71 (0,0))) (And.intro (blk_alloc HB.out.2 (.cells #[.int .i64 z.f0,.int .i64 z.f1] 71 (0,0))) (blk_new wr (.cells #[.int .i64 z.f0,.int .i64 z.f1] 71 (0,0)))))
      have HRA:=AK (Kd.R_alloc HR.out (.cells #[.int .i64 z.f0,.int .i64 z.f1] 71 (0,0)))
      have HNE:=AK (show ∀k,(Value.slice M m.length cm).ownBlock=some k→k<wr.heap.size from fun k e=>((Kd.R_bound HR.out).1 k e).2.2.1)
      obtain⟨b1,hb1⟩:∃b,decide (0≤idxL x z.f0)=b:=⟨_,rfl⟩
      obtain⟨b2,hb2⟩:∃b,decide (idxL x z.f1<0)=b:=⟨_,rfl⟩
      rw[hb1,hb2]at hr
      have HR1:=AK hr
      clear hr ez HE
      go_wp2_with fail
      clear y0 y1 p0 p1 p2 p3 HR HB
      generalize wr.alloc (.cells #[.int .i64 z.f0,.int .i64 z.f1] 71 (0,0))=w5 at HBA HRA ⊢
      have HR:=HRA
      have HB:=AK (And.intro HBA.out.1 HBA.out.2.1)
      have HZ:=AK HBA.out.2.2
      obtain⟨q0,q1⟩:=box2 HZ.out
      clear HBA HRA
      refine(l2At_s (Kd.C_below HX.out HB.out.1) z.f0).mono ?_
      rintro e w6 ⟨rfl,rfl⟩
      cases b1 with
      | false=>
        have HE:=AK (show r=m++toldL x (l.drop (i+1).toNat)from HR1.out)
        go_wp2
        go_roundg k1
        case measure=>omega
        case rel=>
          rw[wrap_succ i (by have:=HI.out;omega) (by have:=HI.out;have:=HM.out;omega)]
          exact⟨m,M,cm,i+1,rfl,rfl,⟨by have:=HI.out;omega,by have:=HI.out;omega,by have:=HI.out;omega⟩,HE,HR,HB⟩
      | true=>
        go_wp2_with fail
        refine(l2At_s (Kd.C_below HX.out HB.out.1) z.f1).mono ?_
        rintro e w7 ⟨rfl,rfl⟩
        cases b2 with
        | false=>
          have HE:=AK (show r=m++toldL x (l.drop (i+1).toNat)from HR1.out)
          go_wp2
          go_roundg k1
          case measure=>omega
          case rel=>
            rw[wrap_succ i (by have:=HI.out;omega) (by have:=HI.out;have:=HM.out;omega)]
            exact⟨m,M,cm,i+1,rfl,rfl,⟨by have:=HI.out;omega,by have:=HI.out;omega,by have:=HI.out;omega⟩,HE,HR,HB⟩
        | true=>
          obtain⟨m2,e2⟩:∃a,a=m++[z]:=⟨_,rfl⟩
          have E2:=AK e2
          have HE:=AK (show r=m2++toldL x (l.drop (i+1).toNat)by rw[e2,List.append_assoc];exact HR1.out)
          have hl2:m2.length=m.length+1:=by rw[e2];simp
          have HL2:=AK hl2
          clear e2 hl2
          go_wp2_with ((with_reducible refine gate_builtin (b:=.append) (xs:=#[.tmp 33,.tmp 35]) rfl ?_);at_builtin;refine Kd.R_append k60 (w0:=w) w.heap.size rfl (.tmp 33) (.tmp 35) 31 71 (.agg #[.int .i64 0,.int .i64 0]) 16 rfl Tryd.underlying31 info60 rfl (by decide) (by omega) (.slice M m.length cm) m z [.int .i64 z.f0,.int .i64 z.f1] (fun _=>True) (fun _=>False) rfl rfl ?aP (fun _ hk=>hk.elim) (fun _ _=>trivial) HR.out HB.out.1 HB.out.1.size ?aL ?_;(case aP=>exact k60_mkM _ _ _ z);(case aL=>have:=HI.out;have:=HM.out;omega);intro v3 w3 ho hb hg hat;rw[←E2.out]at ho;obtain⟨M3,c3',hv3⟩:=Kd.R_slice ho;subst hv3;have HR3:=AK ho;have HB3:=AK (And.intro hb (blk_grown HB.out.2 hg (Kd.R_ne HR.out HB.out.2 (by decide))));clear ho hb hg hat)
          go_roundg k1
          case measure=>omega
          case rel=>
            rw[wrap_succ i (by have:=HI.out;omega) (by have:=HI.out;have:=HM.out;omega)]
            exact⟨m2,M3,c3',i+1,rfl,rfl,⟨by have:=HI.out;omega,by have:=HI.out;omega,by have:=HI.out;have:=HL2.out;omega⟩,HE,HR3,HB3⟩
theorem l3Told_c {l0:List S38} {l1:List Int} {l2 l3:List S60} (h:InH w A0 c0 A1 c1 A2 c2 A3 c3 l0 l1 l2 l3) (hx:Kd.C (Kd.int .i64) w K x.length x) (hc:x.length≤ck) (hl:l2.length≤1048576) :
    Calls Tryd.prog 69 #[.agg #[.slice A0 l0.length c0,.slice A1 l1.length c1,.slice A2 l2.length c2,.slice A3 l3.length c3],.slice K x.length ck] w fun e w'=>
      ∃v:Value,e=.returned v∧Kd.R k60 71 w' w.heap.size (fun _=>True) v (toldL x l2)∧Below w.heap.size w w':=l3Told_s h.r2 hx hl
theorem any_cons (t:List S60) (z:S60) (j:Int) (h0:0≤j) (h1:j<t.length):((t.drop j.toNat).any fun u=>weB u z)=(weB (rd_T60 t j) z || ((t.drop (j+1).toNat).any fun u=>weB u z)):=by
  rw[drop_cons t z60 j h0 h1,List.any_cons];rfl
set_option maxHeartbeats 1000000 in
theorem l3Without_c (h:Kd.C k60 w A l.length l) (hc:l.length≤c) (h':Kd.C k60 w B t.length t) (hd:t.length≤d) (hl:l.length≤1048576) (ht:t.length≤1048576) :
    Calls Tryd.prog 70 #[.slice A l.length c,.slice B t.length d] w fun e w'=>∃v:Value,e=.returned v∧Kd.R k60 71 w' w.heap.size (fun _=>True) v (withoutL t l)∧Below w.heap.size w w':=by
  have HL:=AK h
  have HT:=AK h'
  have HM:=AK hl
  have HN:=AK ht
  obtain⟨r,er⟩:∃r,r=withoutL t l:=⟨_,rfl⟩
  have HE0:=AK (show r=[]++withoutL t (l.drop (0:Int).toNat)from er)
  rw[←er]
  clear h h' hl ht hc hd er
  go_enter Tryd.func70,Tryd.ntmps70
  go_wp2_with ((with_reducible refine gate_dst (N:=9) rfl ?_);refine Kd.R_lit k60 (w0:=w) (World.heap w).size 71 ?hg (N:=9) ?hd (xs:=([]:List S60)) (inner:=[]) (ok:=fun _=>True) (okp:=fun _=>True) ?hr ?hp (fun _ hk=>hk) trivial (Below.refl _ _) (Nat.le_refl _) (by simp) ?_;(case hd=>rfl);(case hg=>rfl);(case hr=>first|(go_simp;done)|(go_simp;rfl));(case hp=>exact Reps.none _ _);intro v1 w2 hr hb hg hn;obtain⟨K0,ck0,hv⟩:=Kd.R_slice hr;subst hv;have HR:=AK hr;have HB:=AK (And.intro hb trivial);clear hr hb hg hn)
  go_loopg [5,6] l.length (fun kq v5 v6 w'=>∃(m:List S60) (M:Option Addr) (cm:Nat) (i:Int),v5=.slice M m.length cm∧v6=.int .i64 i∧Aside0 (0≤i∧i+kq=l.length∧(m.length:Int)≤i)∧Aside0 (r=m++withoutL t (l.drop i.toNat))∧Aside0 (Kd.R k60 71 w' w.heap.size (fun _=>True) (.slice M m.length cm) m)∧Aside0 (Below w.heap.size w w'∧True))
  case atStart=>exact⟨[],K0,ck0,0,rfl,rfl,⟨by omega,by omega,by simp⟩,HE0,HR,HB⟩
  case round=>
    clear HE0 HR HB
    obtain⟨m,M,cm,i,rfl,rfl,HI,HE,HR,HB⟩:=hrel
    cases gk with
    | zero =>
        have c9:decide (i<(l.length:Int))=false:=deF (by have:=HI.out;omega)
        have hr:m=r:=by rw[HE.out,drop_end _ _ (by have:=HI.out;omega)];exact(List.append_nil m).symm
        clear HE
        subst hr
        go_wp2
        go_ret
        exact⟨_,rfl,HR.out,HB.out.1⟩
    | succ k1=>
      have c9:decide (i<(l.length:Int))=true:=deT (by have:=HI.out;omega)
      have hi0:=eq_true (show 0≤i by have:=HI.out;omega)
      have hi1:=eq_true (show i<(l.length:Int)by have:=HI.out;omega)
      obtain⟨ad,e1,y0,y1⟩:=at_T60 (Kd.C_below HL.out HB.out.1) i (by have:=HI.out;omega) (by have:=HI.out;omega)
      subst e1
      have hr:=HE.out
      rw[drop_cons l z60 i (by have:=HI.out;omega) (by have:=HI.out;omega),withoutL_cons,show l.getD i.toNat z60=rd_T60 l i from rfl]at hr
      obtain⟨z,ez⟩:∃z,z=rd_T60 l i:=⟨_,rfl⟩
      rw[←ez]at y0 y1 hr
      obtain⟨b,eb⟩:∃b,b=t.any fun u=>weB u z:=⟨_,rfl⟩
      rw[←eb]at hr
      have HR1:=AK hr
      have HG0:=AK (show b=(false || ((t.drop (0:Int).toNat).any fun u=>weB u z))by rw[eb];rfl)
      have HII:=AK (And.intro (of_eq_true hi0) (of_eq_true hi1))
      have EZ:=AK ez
      clear hr ez HE eb y0 y1
      go_wp2
      clear hi0 hi1 c9
      go_loopg [7,8] t.length (fun kq v7 v8 w'=>∃(g:Bool) (j:Int),v7=.bool g∧v8=.int .i64 j∧Aside0 (0≤j∧j+kq=t.length)∧Aside0 (b=(g || ((t.drop j.toNat).any fun u=>weB u z)))∧Aside0 (Kd.R k60 71 w' w.heap.size (fun _=>True) (.slice M m.length cm) m)∧Aside0 (Below w.heap.size w w'∧True))
      case atStart=>exact⟨false,0,rfl,rfl,⟨by omega,by omega⟩,HG0,HR,HB⟩
      case round=>
        clear HG0 HR HB
        obtain⟨g,j,rfl,rfl,HJ,HG,HR,HB⟩:=hrel
        obtain⟨ad',e1',y0,y1⟩:=at_T60 (Kd.C_below HL.out HB.out.1) i (by have:=HI.out;omega) (by have:=HII.out;omega)
        injection e1' with e1'
        subst e1'
        rw[←EZ.out]at y0 y1
        have hi0:=eq_true HII.out.1
        have hi1:=eq_true HII.out.2
        cases gk with
        | zero=>
          have c9:decide (j<(t.length:Int))=false:=deF (by have:=HJ.out;omega)
          have hb:g=b:=by rw[HG.out,drop_end _ _ (by have:=HJ.out;omega)];simp
          clear HG
          subst hb
          cases g with
          | true=>
            have HE:=AK (show r=m++withoutL t (l.drop (i+1).toNat)from HR1.out)
            go_wp2
            go_roundg k1
            case measure=>omega
            case rel=>
              rw[wrap_succ i (by have:=HI.out;omega) (by have:=HI.out;have:=HM.out;omega)]
              exact⟨m,M,cm,i+1,rfl,rfl,⟨by have:=HI.out;omega,by have:=HI.out;omega,by have:=HI.out;omega⟩,HE,HR,HB⟩
          | false=>
            obtain⟨m2,e2⟩:∃a,a=m++[z]:=⟨_,rfl⟩
            have E2:=AK e2
            have HE:=AK (show r=m2++withoutL t (l.drop (i+1).toNat)by rw[e2,List.append_assoc];exact HR1.out)
            have hl2:m2.length=m.length+1:=by rw[e2];simp
            have HL2:=AK hl2
            clear e2 hl2
            go_wp2_with ((with_reducible refine gate_builtin (b:=.append) (xs:=#[.tmp 36,.tmp 41]) rfl ?_);at_builtin;refine Kd.R_append k60 (w0:=w) w.heap.size rfl (.tmp 36) (.tmp 41) 31 71 (.agg #[.int .i64 0,.int .i64 0]) 16 rfl Tryd.underlying31 info60 rfl (by decide) (by omega) (.slice M m.length cm) m z [.int .i64 z.f0,.int .i64 z.f1] (fun _=>True) (fun _=>False) rfl rfl ?aP (fun _ hk=>hk.elim) (fun _ _=>trivial) HR.out HB.out.1 HB.out.1.size ?aL ?_;(case aP=>exact k60_mkM _ _ _ z);(case aL=>have:=HI.out;have:=HM.out;omega);intro v3 w3 ho hb hg hat;rw[←E2.out]at ho;obtain⟨M3,c3',hv3⟩:=Kd.R_slice ho;subst hv3;have HR3:=AK ho;have HB3:=AK (And.intro hb trivial);clear ho hb hg hat)
            go_roundg k1
            case measure=>omega
            case rel=>
              rw[wrap_succ i (by have:=HI.out;omega) (by have:=HI.out;have:=HM.out;omega)]
              exact⟨m2,M3,c3',i+1,rfl,rfl,⟨by have:=HI.out;omega,by have:=HI.out;omega,by have:=HI.out;have:=HL2.out;omega⟩,HE,HR3,HB3⟩
        | succ k2=>
          have c9:decide (j<(t.length:Int))=true:=deT (by have:=HJ.out;omega)
          have hj0:=eq_true (show 0≤j by have:=HJ.out;omega)
          have hj1:=eq_true (show j<(t.length:Int)by have:=HJ.out;omega)
          obtain⟨ae,e2,u0,u1⟩:=at_T60 (Kd.C_below HT.out HB.out.1) j (by have:=HJ.out;omega) (by have:=HJ.out;omega)
          subst e2
          have hg:=HG.out
          rw[any_cons t z j (by have:=HJ.out;omega) (by have:=HJ.out;omega)]at hg
          obtain⟨u,eu⟩:∃u,u=rd_T60 t j:=⟨_,rfl⟩
          rw[←eu]at u0 u1 hg
          unfold weB at hg
          obtain⟨b1,hb1⟩:∃b,(u.f0 == z.f0)=b:=⟨_,rfl⟩
          obtain⟨b2,hb2⟩:∃b,(u.f1 == z.f1)=b:=⟨_,rfl⟩
          rw[hb1,hb2]at hg
          have HG2:=AK (show b=((g || b1 && b2) || ((t.drop (j+1).toNat).any fun u=>weB u z))by rw[hg,Bool.or_assoc];rfl)
          clear hg eu HG
          cases g<;>cases b1<;>cases b2
          all_goals
            go_wp2_with fail
            go_quiet (fail)
            go_wp2
            go_roundg k2
            case measure=>omega
            case rel=>
              rw[wrap_succ j (by have:=HJ.out;omega) (by have:=HJ.out;have:=HN.out;omega)]
              exact⟨_,j+1,rfl,rfl,⟨by have:=HJ.out;omega,by have:=HJ.out;omega⟩,HG2,⟨Kd.R_drewN HR.out _⟩,⟨pw_below_drewN HB.out.1 _,trivial⟩⟩
theorem moved6_tab:rtab .any (opsOf Tryd.f54 6)=(true,[([],[]),([],[]),([],[]),([],[]),([2,3],[2,3]),([4],[4]),([5],[5]),([1,6],[1,6]),([],[]),([],[]),([],[]),([9,10],[9,10]),([11],[11]),([12],[12]),([8,13,7],[8,13]),([7,14],[7,14]),([15],[15]),([0,16,14],[0,16]),([17,17,0,1,2,3,4,5,6,7,8,9,10,11,12,13,14,15,16,17],[0,17])]):=by kernel_rfl
theorem moved6_bits:waitsOk [([],[]),([],[]),([],[]),([],[]),([2,3],[2,3]),([4],[4]),([5],[5]),([1,6],[1,6]),([],[]),([],[]),([],[]),([9,10],[9,10]),([11],[11]),([12],[12]),([8,13,7],[8,13]),([7,14],[7,14]),([15],[15]),([0,16,14],[0,16]),([17,17,0,1,2,3,4,5,6,7,8,9,10,11,12,13,14,15,16,17],[0,17])] [0,0,0,0,12,28,60,126,0,0,0,1536,3584,7680,16382,32766,65534,131071,262143]=true:=by kernel_rfl
set_option maxHeartbeats 4000000 in
set_option maxRecDepth 100000 in
theorem l3Moved_c {Kx:Option Addr} (h:Kd.C k60 w A l.length l) (hc:l.length≤c) (hx:Kd.C (Kd.int .i64) w Kx x.length x) (hk:x.length≤ck) (hl:l.length≤1048576) :
    Calls Tryd.prog 54 #[.slice A l.length c,.slice Kx x.length ck] w fun e w'=>∃v:Value,e=.returned v∧Kd.R k60 71 w' w.heap.size (fun _=>True) v (movedW x l)∧Below w.heap.size w w':=by
  have HL:=AK h
  have HX:=AK hx
  have HM:=AK hl
  obtain⟨r,er⟩:∃r,r=movedW x l:=⟨_,rfl⟩
  have HE0:=AK (show r=[]++movedW x (l.drop (0:Int).toNat)from er)
  rw[←er]
  clear h hx hl hc hk er
  go_enter Tryd.func54,Tryd.ntmps54
  go_wp2_with ((with_reducible refine gate_dst (N:=7) rfl ?_);refine Kd.R_lit k60 (w0:=w) (World.heap w).size 71 ?hg (N:=7) ?hd (xs:=([]:List S60)) (inner:=[]) (ok:=fun _=>True) (okp:=fun _=>True) ?hr ?hp (fun _ hk=>hk) trivial (Below.refl _ _) (Nat.le_refl _) (by simp) ?_;(case hd=>rfl);(case hg=>rfl);(case hr=>first|(go_simp;done)|(go_simp;rfl));(case hp=>exact Reps.none _ _);intro v1 w2 hr hb hg hn;obtain⟨K0,ck0,hv⟩:=Kd.R_slice hr;subst hv;have HR:=AK hr;have HB:=AK (And.intro hb trivial);clear hr hb hg hn)
  go_loopg [5,6] l.length (fun kq v5 v6 w'=>∃(m:List S60) (M:Option Addr) (cm:Nat) (i:Int),v5=.slice M m.length cm∧v6=.int .i64 i∧Aside0 (0≤i∧i+kq=l.length∧(m.length:Int)≤i)∧Aside0 (r=m++movedW x (l.drop i.toNat))∧Aside0 (Kd.R k60 71 w' w.heap.size (fun _=>True) (.slice M m.length cm) m)∧Aside0 (Below w.heap.size w w'∧True))
  case atStart=>exact⟨[],K0,ck0,0,rfl,rfl,⟨by omega,by omega,by simp⟩,HE0,HR,HB⟩
  case round=>
    clear HE0 HR HB
    obtain⟨m,M,cm,i,rfl,rfl,HI,HE,HR,HB⟩:=hrel
    cases gk with
    | zero =>
        have c9:decide (i<(l.length:Int))=false:=deF (by have:=HI.out;omega)
        have hr:m=r:=by rw[HE.out,drop_end _ _ (by have:=HI.out;omega)];exact(List.append_nil m).symm
        clear HE
        subst hr
        go_wp2
        go_ret
        exact⟨_,rfl,HR.out,HB.out.1⟩
    | succ k1=>
      have c9:decide (i<(l.length:Int))=true:=deT (by have:=HI.out;omega)
      have hi0:=eq_true (show 0≤i by have:=HI.out;omega)
      have hi1:=eq_true (show i<(l.length:Int)by have:=HI.out;omega)
      obtain⟨ad,e1,y0,y1⟩:=at_T60 HL.out i (by have:=HI.out;omega) (by have:=HI.out;omega)
      subst e1
      have hr:=HE.out
      rw[drop_cons l z60 i (by have:=HI.out;omega) (by have:=HI.out;omega),movedW_cons,show l.getD i.toNat z60=rd_T60 l i from rfl]at hr
      obtain⟨z,ez⟩:∃z,z=rd_T60 l i:=⟨_,rfl⟩
      rw[←ez]at y0 y1 hr
      have HY:=AK (show w.cell? (ad.add (i.toNat*2))=some (.int .i64 z.f0)∧w.cell? ⟨(ad.add (i.toNat*2)).block,(ad.add (i.toNat*2)).off+1,none⟩=some (.int .i64 z.f1)from⟨y0,y1⟩)
      replace y0:=pcb HB.out.1 y0
      replace y1:=pcb HB.out.1 y1
      obtain⟨b1,hb1⟩:∃b,decide (0≤idxL x z.f0)=b:=⟨_,rfl⟩
      obtain⟨b2,hb2⟩:∃b,decide (0≤idxL x z.f1)=b:=⟨_,rfl⟩
      rw[hb1,hb2]at hr
      have HR1:=AK hr
      clear hr ez HE
      go_wp2_with fail
      refine(l2At_s (Kd.C_below HX.out HB.out.1) z.f0).mono ?_
      rintro e w6 ⟨rfl,rfl⟩
      cases b1 with
      | false=>
        have HE:=AK (show r=m++movedW x (l.drop (i+1).toNat)from HR1.out)
        go_wp2
        go_roundg k1
        case measure=>omega
        case rel=>
          rw[wrap_succ i (by have:=HI.out;omega) (by have:=HI.out;have:=HM.out;omega)]
          exact⟨m,M,cm,i+1,rfl,rfl,⟨by have:=HI.out;omega,by have:=HI.out;omega,by have:=HI.out;omega⟩,HE,HR,HB⟩
      | true=>
        go_wp2_with fail
        refine(l2At_s (Kd.C_below HX.out HB.out.1) z.f1).mono ?_
        rintro e w7 ⟨rfl,rfl⟩
        cases b2 with
        | false=>
          have HE:=AK (show r=m++movedW x (l.drop (i+1).toNat)from HR1.out)
          go_wp2
          go_roundg k1
          case measure=>omega
          case rel=>
            rw[wrap_succ i (by have:=HI.out;omega) (by have:=HI.out;have:=HM.out;omega)]
            exact⟨m,M,cm,i+1,rfl,rfl,⟨by have:=HI.out;omega,by have:=HI.out;omega,by have:=HI.out;omega⟩,HE,HR,HB⟩
        | true=>
          obtain⟨m2,e2⟩:∃a,a=m++[(⟨idxL x z.f0,idxL x z.f1⟩:S60)]:=⟨_,rfl⟩
          have E2:=AK e2
          have HE:=AK (show r=m2++movedW x (l.drop (i+1).toNat)by rw[e2,List.append_assoc];exact HR1.out)
          have hl2:m2.length=m.length+1:=by rw[e2];simp
          have HL2:=AK hl2
          clear e2 hl2 y0 y1
          go_wp2_with fail
          refine start_ (n:=19) (S:=(fun w'=>(w'.cell? (ad.add (i.toNat*2))=some (.int .i64 z.f0)∧w'.cell? ⟨(ad.add (i.toNat*2)).block,(ad.add (i.toNat*2)).off+1,none⟩=some (.int .i64 z.f1)))) (ds:=[]) #[fF,fF,fF,fF,fF,fF,fF,fF,fF,fF,fF,fF,fF,fF,fF,fF,fF,fF,fF] (by kernel_rfl) rfl rfl ⟨pcb HB.out.1 HY.out.1,pcb HB.out.1 HY.out.2⟩ (fun hHeld=>?_);refine with_tabW moved6_tab moved6_bits (fun HT_ HW_=>?_)
          replace HB:=AK (And.intro (below_drew HB.out.1) trivial)
          replace HR:=AK (Kd.R_drew HR.out)
          generalize w7.drew=wq at HB HR hHeld ⊢
          refine pU HT_ 0 (some 32) (bM 19 1) ?_
          refine pU HT_ 1 (some 33) (bM 19 3) ?_
          refine pU HT_ 2 (some 34) (bM 19 7) ?_
          refine pU HT_ 3 (some 35) (bM 19 15) ?_
          refine pU HT_ 4 (some 36) (bM 19 31) ?_
          refine pU HT_ 5 (some 37) (bM 19 63) ?_
          refine tU HT_ HW_ 6 (some 38) (bM 19 127) hHeld rfl (by refine Or.inl ⟨by rfl,?_⟩;rintro w' ⟨s0,s1⟩;go_simp;with_reducible rfl) ?_
          refine pU HT_ 8 (some 40) (bM 19 383) ?_
          refine pU HT_ 9 (some 41) (bM 19 895) ?_
          refine pU HT_ 10 (some 42) (bM 19 1919) ?_
          refine pU HT_ 11 (some 43) (bM 19 3967) ?_
          refine pU HT_ 12 (some 44) (bM 19 8063) ?_
          refine tU HT_ HW_ 13 (some 45) (bM 19 16255) hHeld rfl (by refine Or.inl ⟨by rfl,?_⟩;rintro w' ⟨s0,s1⟩;go_simp;with_reducible rfl) ?_
          refine one_ (i:=7) (N:=some 39) (bM 19 16383) rfl rfl (one_of HT_.out (by kernel_rfl)) (by decide) (fun K hK=>?_)
          refine goes_ Tryd.func52 (by kernel_rfl) rfl #[.slice Kx x.length ck,.int .i64 z.f0] (by rfl) rfl rfl zI ?_
          refine(l2At_s (Kd.C_below HX.out HB.out.1) z.f0).mono ?_
          rintro e q0 ⟨rfl,rfl⟩
          refine⟨_,rfl,?_⟩
          refine hK.out _ _ ⟨pcb HB.out.1 HY.out.1,pcb HB.out.1 HY.out.2⟩ (fun hHeld=>?_)
          clear hK K
          refine nO (some 39) ?_
          refine one_ (i:=14) (N:=some 46) (bM 19 32767) rfl rfl (one_of HT_.out (by kernel_rfl)) (by decide) (fun K hK=>?_)
          refine goes_ Tryd.func52 (by kernel_rfl) rfl #[.slice Kx x.length ck,.int .i64 z.f1] (by rfl) rfl rfl zI ?_
          refine(l2At_s (Kd.C_below HX.out HB.out.1) z.f1).mono ?_
          rintro e q1 ⟨rfl,rfl⟩
          refine⟨_,rfl,?_⟩
          refine hK.out _ _ ⟨pcb HB.out.1 HY.out.1,pcb HB.out.1 HY.out.2⟩ (fun hHeld=>?_)
          clear hK K
          refine nO (some 46) ?_
          refine pU HT_ 15 (some 47) (bM 19 65535) ?_
          refine one_ (i:=16) (N:=some 48) (bM 19 131071) rfl rfl (one_of HT_.out (by kernel_rfl)) (by decide) (fun K hK=>?_)
          refine value_ (v:=.slice (some ⟨q1.heap.size,0,none⟩) 1 1) (w1:=q1.alloc (.cells #[.int .i64 (idxL x z.f0),.int .i64 (idxL x z.f1)] 71 (0,0))) (by rfl) rfl ?hr ?_;(case hr=>first|(go_simp;done)|(go_simp;rfl))
          refine hK.out _ _ ⟨pcb (below_alloc HB.out.1 _) HY.out.1,pcb (below_alloc HB.out.1 _) HY.out.2⟩ (fun hHeld=>?_)
          clear hK K
          refine nO (some 48) ?_
          refine one_ (i:=17) (N:=some 49) (bM 19 262143) rfl rfl (one_of HT_.out (by kernel_rfl)) (by decide) (fun K hK=>?_)
          refine Kd.R_append_step k60 (w0:=w) (W:=q1) w.heap.size (by rfl) (.tmp 32) (.tmp 48) 31 71 (.agg #[(.int .i64 0),(.int .i64 0)]) 16 rfl Tryd.underlying31 info60 rfl (by decide) (by omega) (.slice M m.length cm) m (⟨idxL x z.f0,idxL x z.f1⟩:S60) [.int .i64 (idxL x z.f0),.int .i64 (idxL x z.f1)] (fun _=>True) (fun _=>False) rfl rfl ?aP (fun _ hk=>hk.elim) ?aF ?aO ?aB ?aS ?aL ?_;(case aP=>exact k60_mkM _ _ _ (⟨idxL x z.f0,idxL x z.f1⟩:S60));(case aF=>exact fun _ _=>trivial);(case aO=>exact HR.out);(case aB=>exact HB.out.1);(case aS=>exact HB.out.1.size);(case aL=>have:=HI.out;have:=HM.out;omega)
          intro v5 w5 ho hb hg hat
          rw[←E2.out]at ho
          obtain⟨M3,c3',hv3⟩:=Kd.R_slice ho
          subst hv3
          have HR3:=AK ho
          have HB3:=AK (And.intro hb trivial)
          clear ho hb hg hat
          refine hK.out _ _ ⟨pcb HB3.out.1 HY.out.1,pcb HB3.out.1 HY.out.2⟩ (fun hHeld=>?_)
          clear hK K
          refine nO (some 49) ?_
          refine pU HT_ 18 (some 5) (bM 19 524287) ?_
          refine done_ (done_of HT_.out (by kernel_rfl)) ?_
          clear HT_ HW_ hHeld
          go_wp2
          go_roundg k1
          case measure=>omega
          case rel=>
            rw[wrap_succ i (by have:=HI.out;omega) (by have:=HI.out;have:=HM.out;omega)]
            exact⟨m2,M3,c3',i+1,rfl,rfl,⟨by have:=HI.out;omega,by have:=HI.out;omega,by have:=HI.out;have:=HL2.out;omega⟩,HE,HR3,HB3⟩
end
end
section
theorem putAll_fst (x:List Int) (t:List S60) (j:Int) (h0:0≤j) (h1:j<t.length):putL (putAll x ((t.take j.toNat).map (·.f1))) (rd_T60 t j).f1=putAll x ((t.take (j+1).toNat).map (·.f1)):=by
 have h2:j.toNat<t.length:=by omega
 rw[show (j+1).toNat=j.toNat+1 by omega,List.take_add_one,List.getElem?_eq_getElem h2,List.map_append,putAll_append]
 simp[rd_T60,List.getD_eq_getElem?_getD,List.getElem?_eq_getElem h2,putAll]
theorem tell4_tab:rtab .any (opsOf Tryd.f51 4)=(true,[([],[]),([],[]),([1],[1]),([0,2,0],[0]),([2,3,0,1,2,3],[2])]):=by kernel_rfl
theorem tell4_bits:waitsOk [([],[]),([],[]),([1],[1]),([0,2,0],[0]),([2,3,0,1,2,3],[2])] [0,0,2,7,15]=true:=by kernel_rfl
set_option maxHeartbeats 4000000 in
set_option maxRecDepth 100000 in
theorem l3Tell_calls (A0 A1 A2 A3:Option Addr) (c0 c1 c2 c3:Nat) (l0:List S38) (l1:List Int) (l2 l3:List S60) (w:World) (h:InH w A0 c0 A1 c1 A2 c2 A3 c3 l0 l1 l2 l3) (hk:OkH l0 l1 l2 l3) (t2 t3:List S60) (x:List Int) (ht:(t2,t3)=tellL l0 l1 (l2.length+1) l2 l3) (hx:x=reachL l0 l1 t3) :
  Calls Tryd.prog 51 #[.agg #[.slice A0 l0.length c0,.slice A1 l1.length c1,.slice A2 l2.length c2,.slice A3 l3.length c3]] w fun e w'=>∃W cw D cd K ck,e=.returned (.tuple #[.agg #[.slice A0 l0.length c0,.slice A1 l1.length c1,.slice W t2.length cw,.slice D t3.length cd],.slice K x.length ck]) ∧
   InH w' A0 c0 A1 c1 W cw D cd l0 l1 t2 t3∧Kd.R (Kd.int .i64) 3 w' w.heap.size (fun _=>True) (.slice K x.length ck) x∧Below w.heap.size w w':=by
 have HI0:=AK h
 have HK:=AK hk
 have HTE:=AK ht
 have HXE:=AK hx
 have HW1:=AK (show Below w.heap.size w ((w.alloc (.cells #[.slice A0 l0.length c0,.slice A1 l1.length c1,.slice A2 l2.length c2,.slice A3 l3.length c3] 33 (0,0))).alloc (.cells #[.slice none 0 0,.slice none 0 0,.slice none 0 0,.slice none 0 0] 33 (0,0)))∧((w.alloc (.cells #[.slice A0 l0.length c0,.slice A1 l1.length c1,.slice A2 l2.length c2,.slice A3 l3.length c3] 33 (0,0))).alloc (.cells #[.slice none 0 0,.slice none 0 0,.slice none 0 0,.slice none 0 0] 33 (0,0))).heap[w.heap.size]?=some (.cells #[.slice A0 l0.length c0,.slice A1 l1.length c1,.slice A2 l2.length c2,.slice A3 l3.length c3] 33 (0,0))∧((w.alloc (.cells #[.slice A0 l0.length c0,.slice A1 l1.length c1,.slice A2 l2.length c2,.slice A3 l3.length c3] 33 (0,0))).alloc (.cells #[.slice none 0 0,.slice none 0 0,.slice none 0 0,.slice none 0 0] 33 (0,0))).heap[w.heap.size+1]?=some (.cells #[.slice none 0 0,.slice none 0 0,.slice none 0 0,.slice none 0 0] 33 (0,0))from⟨below_alloc (below_alloc (Below.refl w.heap.size w) _) _,blk_alloc (blk_new w _) _,blk_new1 w _ _⟩)
 clear h hk ht hx
 go_enter Tryd.func51,Tryd.ntmps51
 go_wp2_with fail
 generalize ((w.alloc (.cells #[.slice A0 l0.length c0,.slice A1 l1.length c1,.slice A2 l2.length c2,.slice A3 l3.length c3] 33 (0,0))).alloc (.cells #[.slice none 0 0,.slice none 0 0,.slice none 0 0,.slice none 0 0] 33 (0,0)))=w1 at HW1 ⊢
 refine(l2Reach_c2 (HI0.out.below HW1.out.1) HK.out).mono ?_
 rintro e w2 ⟨v,rfl,hr,hb⟩
 obtain⟨K0,ck0,e⟩:=Kd.R_slice hr
 subst e
 have HT:=AK (show TK w #[.slice A0 l0.length c0,.slice A1 l1.length c1,.slice A2 l2.length c2,.slice A3 l3.length c3] A2 A3 c2 c3 l2 l3 K0 ck0 (reachL l0 l1 l3) w2 from⟨bst HW1.out.1 hb,bbl HW1.out.2.1 hb,bbl HW1.out.2.2 hb,⟨HI0.out.k2,.inl HI0.out.r2⟩,⟨HI0.out.k3,.inl HI0.out.r3⟩,Kd.R_lower hr HW1.out.1.size⟩)
 have HG:=AK (reach_good HK.out)
 clear hr hb HW1
 go_wp2_with fail
 go_loopg [4] (l2.length+1) (fun kq v4 w'=>∃(m2 m3:List S60) (W D:Option Addr) (cw cd:Nat) (K:Option Addr) (ck:Nat) (y:List Int),v4=.slice K y.length ck∧Aside0 (OkH l0 l1 m2 m3)∧Aside0 (m2.length<kq)∧Aside0 (tellL l0 l1 kq m2 m3=tellL l0 l1 (l2.length+1) l2 l3) ∧
  Aside0 (GoodL l0.length y∧∀p,p∈y↔p∈reachL l0 l1 m3)∧Aside0 (TK w #[.slice A0 l0.length c0,.slice A1 l1.length c1,.slice W m2.length cw,.slice D m3.length cd] W D cw cd m2 m3 K ck y w'))
 case atStart=>exact⟨l2,l3,A2,A3,c2,c3,K0,ck0,_,rfl,HK,⟨by omega⟩,⟨rfl⟩,⟨HG.out,fun p=>Iff.rfl⟩,HT⟩
 case round=>
  clear HT HG HK
  obtain⟨m2,m3,W,D,cw,cd,K,ck,y,rfl,HK,HM,HE,HY,HT⟩:=hrel
  obtain⟨k1,rfl⟩:∃k1,gk=k1+1:=⟨gk - 1,by have:=HM.out;omega⟩
  have HE1:=AK (show (if(toldL y m2).length=0 then(m2,m3)else tellL l0 l1 k1 (stayL y m2) (m3++toldL y m2))=tellL l0 l1 (l2.length+1) l2 l3 by
   rw[toldL_congr HY.out.2,stayL_congr HY.out.2,←HE.out];rfl)
  have HI:=AK (show InH wr A0 c0 A1 c1 W cw D cd l0 l1 m2 m3 from⟨Kd.C_below HI0.out.r0 HT.out.b,Kd.C_below HI0.out.r1 HT.out.b,HT.out.rw.now HT.out.b,HT.out.rd.now HT.out.b,HI0.out.k0,HI0.out.k1,HT.out.rw.le,HT.out.rd.le⟩)
  obtain⟨p0,p1,p2,p3⟩:=box4 HT.out.yh
  clear HE
  go_wp2_with fail
  clear p0 p1 p2 p3
  refine(l3Told_c HI.out (Kd.R_reads' HT.out.kn).2.2 (Kd.R_reads' HT.out.kn).2.1 (by have:=HK.out.w;omega)).mono ?_
  rintro e w3 ⟨v,rfl,hr,hb⟩
  have hln:=told_stay_len y m2
  have hkk:=HE1.out
  have hok:=tell_step_ok HK.out y
  have hwo:=without_told y m2
  have htk:=tell_known HK.out y HY.out.1 HY.out.2
  obtain⟨s5,e5⟩:∃s,s=stayL y m2:=⟨_,rfl⟩
  obtain⟨s6,e6⟩:∃s,s=toldL y m2:=⟨_,rfl⟩
  have HGT:=AK (show ∀z∈s6,z.f1<(l0.length:Int)from fun z hz=>by rw[e6]at hz;exact(wt_parts (HK.out.ws z (List.mem_filter.1 hz).1)).2.2.2.2)
  rw[←e6]at hr
  rw[←e5,←e6]at hln hkk hok hwo
  replace htk:∀p,p∈traceL l0 (m3++s6) (l0.length+1) 0 (putAll y (s6.map (·.f1)))↔p∈reachL l0 l1 (m3++s6):=by rw[e6];exact htk
  have HLN:=AK hln
  have HE2:=AK hkk
  have HOK:=AK hok
  have HWO:=AK hwo
  have HTKN:=AK htk
  obtain⟨S6,c6,e⟩:=Kd.R_slice hr
  subst e
  have HR6:=AK (Kd.R_lower hr HT.out.b.size)
  replace HT:=AK (HT.out.below hb)
  replace HI:=AK (HI.out.below hb)
  clear e5 e6 hln hkk hok hwo htk hr hb HE1
  obtain⟨p0,p1,p2,p3⟩:=box4 HT.out.yh
  by_cases hz:s6.length=0
  case pos=>
   have hz2:=List.length_eq_zero_iff.1 hz
   subst hz2
   have HE3:=AK (show (m2,m3)=(t2,t3)by rw[HTE.out,←HE2.out];rfl)
   have he:=HE3.out
   injection he with he2 he3
   subst he2
   subst he3
   clear HE2 HOK HWO HTKN HLN hz HE3
   go_wp2_with fail
   clear p0 p1 p2 p3
   have HB:=AK (below_drew (Below.refl w3.heap.size w3))
   refine start_ (n:=5) (S:=(fun w'=>w'.cell? ⟨w.heap.size,0,none⟩=some (.slice A0 l0.length c0)∧w'.cell? ⟨w.heap.size,1,none⟩=some (.slice A1 l1.length c1)∧w'.cell? ⟨w.heap.size,2,none⟩=some (.slice W m2.length cw)∧w'.cell? ⟨w.heap.size,3,none⟩=some (.slice D m3.length cd))) (ds:=[]) #[fF,fF,fF,fF,fF] (by kernel_rfl) rfl rfl ⟨pcb HB.out (box4 HT.out.yh).1,pcb HB.out (box4 HT.out.yh).2.1,pcb HB.out (box4 HT.out.yh).2.2.1,pcb HB.out (box4 HT.out.yh).2.2.2⟩ (fun hHeld=>?_);refine with_tabW tell4_tab tell4_bits (fun HT_ HW_=>?_)
   generalize w3.drew=v4 at HB hHeld ⊢
   refine tU HT_ HW_ 0 (some 15) (bM 5 1) hHeld rfl (by refine Or.inl ⟨by rfl,?_⟩;rintro w' ⟨s_0,s_1,s_2,s_3⟩;go_simp;with_reducible rfl) ?_
   refine tU HT_ HW_ 1 (some 16) (bM 5 3) hHeld rfl (by refine Or.inl ⟨by rfl,?_⟩;rintro w' ⟨s_0,s_1,s_2,s_3⟩;go_simp;with_reducible rfl) ?_
   refine one_ (i:=2) (N:=some 17) (bM 5 7) rfl rfl (one_of HT_.out (by kernel_rfl)) (by decide) (fun K hK=>?_)
   refine goes_ Tryd.func24 (by kernel_rfl) rfl #[.agg #[.slice A0 l0.length c0,.slice A1 l1.length c1,.slice W m2.length cw,.slice D m3.length cd]] (by rfl) rfl rfl zI ?_
   refine(l2Reach_c2 (HI.out.below HB.out) HK.out).mono ?_
   rintro e v5 ⟨v,rfl,hr,hb⟩
   rw[←HXE.out]at hr
   obtain⟨Kx,kx,e⟩:=Kd.R_slice hr
   subst e
   refine⟨_,rfl,?_⟩
   have HKX:=AK (Kd.R_lower hr (HT.out.below HB.out).b.size)
   replace HB:=AK (bst HB.out hb)
   clear hr hb
   refine hK.out _ _ ⟨pcb HB.out (box4 HT.out.yh).1,pcb HB.out (box4 HT.out.yh).2.1,pcb HB.out (box4 HT.out.yh).2.2.1,pcb HB.out (box4 HT.out.yh).2.2.2⟩ (fun hHeld=>?_)
   clear hK K
   refine nO (some 17) ?_
   refine one_ (i:=3) (N:=none) (bM 5 15) rfl rfl (one_of HT_.out (by kernel_rfl)) (by decide) (fun K hK=>?_)
   have ht:=HT.out.below HB.out
   obtain⟨z0,z1,z2,z3⟩:=box4 ht.yz
   have y0:=bfz ht.yz 0
   have y1:=bfz ht.yz 1
   have y2:=bfz ht.yz 2
   have y3:=bfz ht.yz 3
   refine skip_ (w1:=?_) (by rfl) rfl ?_ ?_
   rotate_left
   ·go_simp
    rfl
   have hh:=set4_far (g:=w.heap.size+1) (a:=(.slice A0 l0.length c0)) (b:=(.slice A1 l1.length c1)) (c:=(.slice W m2.length cw)) (d:=(.slice D m3.length cd)) ht.yh (show w.heap.size≠w.heap.size+1 by omega)
   clear z0 z1 z2 z3 y0 y1 y2 y3
   refine hK.out _ _ (box4 hh) (fun hHeld=>?_)
   clear hK K
   refine pU HT_ 4 (some 3) (bM 5 31) ?_
   refine done_ (done_of HT_.out (by kernel_rfl)) ?_
   clear HT_ HW_ hHeld
   go_wp2
   refine bodyPost_ret (results_ct rfl _ _ (w.heap.size+1) 33 #[.slice A0 l0.length c0,.slice A1 l1.length c1,.slice W m2.length cw,.slice D m3.length cd] (0,0) _ rfl (set4_blk ht.yz) Tryd.underlying33 rfl (by kernel_rfl)) rfl ?_
   have hb4:=set4_below (a:=.slice A0 l0.length c0) (b:=.slice A1 l1.length c1) (c:=.slice W m2.length cw) (d:=.slice D m3.length cd) ht.b (show w.heap.size≤w.heap.size+1 by omega)
   have hrr:∀{A:Option Addr} {m:List S60} {c:Nat},RD w v5 A m c→RD w (set4 v5 (w.heap.size+1) (.slice A0 l0.length c0) (.slice A1 l1.length c1) (.slice W m2.length cw) (.slice D m3.length cd)) A m c:=fun h=>⟨h.le,h.r.elim .inl (fun h=>.inr (set4_R h ht.yz (k60_ap 33 (by decide))))⟩
   exact⟨W,cw,D,cd,Kx,kx,rfl,⟨Kd.C_below HI0.out.r0 hb4,Kd.C_below HI0.out.r1 hb4,(hrr ht.rw).now hb4,(hrr ht.rd).now hb4,HI0.out.k0,HI0.out.k1,ht.rw.le,ht.rd.le⟩,set4_R HKX.out ht.yz (int_ap 33 (by decide)),hb4⟩
  have g1:((s6.length:Int) == 0)=false:=by simp;intro h;rw[h]at hz;exact hz rfl
  have g2:¬ s6=[]:=fun h=>hz (by rw[h];rfl)
  have g3:decide (s6.length=0)=false:=deF hz
  have HE3:=AK (show tellL l0 l1 k1 s5 (m3++s6)=tellL l0 l1 (l2.length+1) l2 l3 by rw[←HE2.out,if_neg hz])
  have HZ:=AK (Nat.pos_of_ne_zero hz)
  clear hz HE2
  obtain⟨a3,ea3⟩:∃a,a=m3++s6:=⟨_,rfl⟩
  rw[←ea3]at HE3 HOK HTKN
  have EA3:=AK ea3
  clear ea3
  go_wp2_with fail
  clear p0 p1 p2 p3 g1 g2 g3
  refine(l3Without_c HI.out.r2 HI.out.k2 (Kd.R_reads' HR6.out).2.2 (Kd.R_reads' HR6.out).2.1 (by have:=HK.out.w;omega) (by have:=HK.out.w;have:=HLN.out;omega)).mono ?_
  rintro e w4 ⟨v,rfl,hr,hb⟩
  rw[HWO.out]at hr
  obtain⟨S5,c5,e⟩:=Kd.R_slice hr
  subst e
  have HR5:=AK (Kd.R_lower hr HT.out.b.size)
  replace HT:=AK (HT.out.below hb)
  replace HR6:=AK (Kd.R_below HR6.out hb)
  clear hr hb HI
  obtain⟨p0,p1,p2,p3⟩:=box4 HT.out.yh
  have y2:=bfz HT.out.yh 2
  have y3:=bfz HT.out.yh 3
  have N0:=AK (show TK w #[.slice A0 l0.length c0,.slice A1 l1.length c1,.slice S5 s5.length c5,.slice D m3.length cd] S5 D c5 cd s5 m3 K ck y (w4.setCell ⟨w.heap.size,2,none⟩ (.slice S5 s5.length c5))from⟨(HT.out.set 2 (.slice S5 s5.length c5) #[.slice A0 l0.length c0,.slice A1 l1.length c1,.slice S5 s5.length c5,.slice D m3.length cd] rfl).b,(HT.out.set 2 (.slice S5 s5.length c5) #[.slice A0 l0.length c0,.slice A1 l1.length c1,.slice S5 s5.length c5,.slice D m3.length cd] rfl).yh,(HT.out.set 2 (.slice S5 s5.length c5) #[.slice A0 l0.length c0,.slice A1 l1.length c1,.slice S5 s5.length c5,.slice D m3.length cd] rfl).yz,RD.own (Kd.R_set HR5.out HT.out.yh (k60_ap 33 (by decide)) 2 _),(HT.out.set 2 (.slice S5 s5.length c5) #[.slice A0 l0.length c0,.slice A1 l1.length c1,.slice S5 s5.length c5,.slice D m3.length cd] rfl).rd,(HT.out.set 2 (.slice S5 s5.length c5) #[.slice A0 l0.length c0,.slice A1 l1.length c1,.slice S5 s5.length c5,.slice D m3.length cd] rfl).kn⟩)
  have N6:=AK (Kd.R_set HR6.out HT.out.yh (k60_ap 33 (by decide)) 2 (.slice S5 s5.length c5))
  clear HT HR6 HR5
  go_wp2_with (first|((with_reducible refine gate_store (t:=31) (p:=22) (v:=.tmp 21) rfl ?_);refine skip_event (W1:=(w4.setCell ⟨w.heap.size,2,none⟩ (.slice S5 s5.length c5))) rfl rfl ?hr ?_;(case hr=>first|(go_simp;done)|(go_simp;rfl));clear p0 p1 p2 p3 y2 y3;generalize (w4.setCell ⟨w.heap.size,2,none⟩ (.slice S5 s5.length c5))=w5 at N0 N6 ⊢;have HT:=N0;have HR6:=N6;clear N0 N6;obtain⟨p0,p1,p2,p3⟩:=box4 HT.out.yh;have y3:=bfz HT.out.yh 3)|((with_reducible refine gate_dst (N:=23) rfl ?_);refine Kd.R_lit k60 (w0:=w5) w5.heap.size 71 ?hg (N:=23) ?hd (xs:=([]:List S60)) (inner:=[]) (ok:=fun _=>True) (okp:=fun _=>True) ?hr ?hp (fun _ hk=>hk) trivial (Below.refl _ _) (Nat.le_refl _) (by simp) ?_;(case hd=>rfl);(case hg=>rfl);(case hr=>first|(go_simp;done)|(go_simp;rfl));(case hp=>exact Reps.none _ _);intro v23 w6 hr hb hg hn;have HR23:=AK hr;have HB:=AK hb;clear p0 p1 p2 p3 y3;obtain⟨p0,p1,p2,p3⟩:=box4 (HT.out.below HB.out).yh;have y3:=bfz (HT.out.below HB.out).yh 3;clear hr hb hg hn)|((with_reducible refine gate_dst (N:=26) rfl ?_);at_builtin;refine Kd.R_append_rows k60 (w0:=w5) w5.heap.size rfl (.tmp 23) (.tmp 25) 31 71 (.agg #[.int .i64 0,.int .i64 0]) 16 rfl Tryd.underlying31 info60 rfl (by decide) (by omega) v23 [] m3 D m3.length cd (fun _=>True) (fun _=>False) rfl rfl ?aO ?aR (fun _ _ h=>h) (fun _ h=>h.elim) (fun _ _=>trivial) ?aB ?aS ?aL ?_;(case aO=>exact HR23.out);(case aR=>exact((HT.out.below HB.out).rd.now (HT.out.below HB.out).b));(case aB=>exact HB.out);(case aS=>exact HB.out.size);(case aL=>have:=HK.out.w;have:=HLN.out;have h1:([]:List S60).length=0:=rfl;omega);intro v26 w7 hr hb hg hat;clear hg hat;replace hr:Kd.R k60 71 w7 w5.heap.size (fun _=>True) v26 m3:=hr;clear HR23;have HR23:=AK hr;replace HB:=AK hb;clear hr hb p0 p1 p2 p3 y3;obtain⟨p0,p1,p2,p3⟩:=box4 (HT.out.below HB.out).yh;have y3:=bfz (HT.out.below HB.out).yh 3)|((with_reducible refine gate_dst (N:=28) rfl ?_);at_builtin;refine Kd.R_append_rows k60 (w0:=w5) w5.heap.size rfl (.tmp 26) (.tmp 27) 31 71 (.agg #[.int .i64 0,.int .i64 0]) 16 rfl Tryd.underlying31 info60 rfl (by decide) (by omega) v26 m3 s6 S6 s6.length c6 (fun _=>True) (fun _=>False) rfl rfl ?aO ?aR (fun _ _ h=>h) (fun _ h=>h.elim) (fun _ _=>trivial) ?aB ?aS ?aL ?_;(case aO=>exact HR23.out);(case aR=>exact(Kd.R_reads' (Kd.R_below HR6.out HB.out)).2.2);(case aB=>exact HB.out);(case aS=>exact HB.out.size);(case aL=>have:=HK.out.w;have:=HLN.out;have h1:([]:List S60).length=0:=rfl;omega);intro v28 w8 hr hb hg hat;clear hg hat;rw[←EA3.out]at hr;obtain⟨D2,cd2,e⟩:=Kd.R_slice hr;subst e;clear HR23;have HR23:=AK hr;replace HB:=AK hb;clear hr hb p0 p1 p2 p3 y3;obtain⟨p0,p1,p2,p3⟩:=box4 (HT.out.below HB.out).yh;have y3:=bfz (HT.out.below HB.out).yh 3))
  have ht:=HT.out.below HB.out
  have hs:=ht.set 3 (.slice D2 a3.length cd2) #[.slice A0 l0.length c0,.slice A1 l1.length c1,.slice S5 s5.length c5,.slice D2 a3.length cd2] rfl
  have N0:=AK (show TK w #[.slice A0 l0.length c0,.slice A1 l1.length c1,.slice S5 s5.length c5,.slice D2 a3.length cd2] S5 D2 c5 cd2 s5 a3 K ck y (w8.setCell ⟨w.heap.size,3,none⟩ (.slice D2 a3.length cd2))from⟨hs.b,hs.yh,hs.yz,hs.rw,RD.own (Kd.R_set (Kd.R_lower HR23.out HT.out.b.size) ht.yh (k60_ap 33 (by decide)) 3 _),hs.kn⟩)
  have N6:=AK (show RD w (w8.setCell ⟨w.heap.size,3,none⟩ (.slice D2 a3.length cd2)) S6 s6 c6 from RD.own (Kd.R_set (Kd.R_below HR6.out HB.out) ht.yh (k60_ap 33 (by decide)) 3 _))
  clear ht hs HT HR6 HR23 HB p0 p1 p2 p3 y3
  generalize (w8.setCell ⟨w.heap.size,3,none⟩ (.slice D2 a3.length cd2))=w9 at N0 N6 ⊢
  go_loopg [4,6] s6.length (fun kq v4 v6 w'=>∃(j:Int) (K:Option Addr) (ck:Nat) (y':List Int),v4=.slice K y'.length ck∧v6=.int .i64 j∧Aside0 (0≤j∧j+kq=s6.length)∧Aside0 (y'=putAll y ((s6.take j.toNat).map (·.f1)))∧Aside0 (TK w #[.slice A0 l0.length c0,.slice A1 l1.length c1,.slice S5 s5.length c5,.slice D2 a3.length cd2] S5 D2 c5 cd2 s5 a3 K ck y' w')∧Aside0 (RD w w' S6 s6 c6))
  case atStart=>exact⟨0,K,ck,y,rfl,rfl,⟨by omega,by omega⟩,⟨rfl⟩,N0,N6⟩
  case round=>
   clear N0 N6
   obtain⟨j,K,ck,y',rfl,rfl,HJ,HYJ,HT,H6⟩:=hrel
   have HGY:=AK (show GoodL l0.length y' by rw[HYJ.out];exact good_putAll _ HY.out.1 (fun q hq=>by obtain⟨z,hz,rfl⟩:=List.mem_map.1 hq;exact HGT.out z (List.mem_of_mem_take hz)))
   cases gk with
   | succ k2=>
    have c33:decide (j<(s6.length:Int))=true:=deT (by have:=HJ.out;omega)
    have hj0:=eq_true (show 0≤j by have:=HJ.out;omega)
    have hj1:=eq_true (show j<(s6.length:Int)by have:=HJ.out;omega)
    obtain⟨ad2,e,hz0,hz1⟩:=at_T60 (H6.out.now HT.out.b) j (by have:=HJ.out;omega) (by have:=HJ.out;omega)
    subst e
    have HPS:=AK (putAll_fst y s6 j (by have:=HJ.out;omega) (by have:=HJ.out;omega))
    obtain⟨z,ez⟩:∃z,z=rd_T60 s6 j:=⟨_,rfl⟩
    rw[←ez]at hz0 hz1 HPS
    clear ez
    go_wp2_with fail
    clear hz0 hz1 hj0 hj1
    refine(l2Put_c HT.out.b HT.out.kn (by have:=nodup_len _ _ HGY.out;have:=HK.out.n;omega) z.f1).mono ?_
    rintro e w10 ⟨v,rfl,hr,hb,hkp⟩
    obtain⟨K2,ck2,e⟩:=Kd.R_slice hr
    subst e
    have N0:=AK (HT.out.known hb hkp hr)
    have N6:=AK (H6.out.kept HT.out.kn hkp)
    have NY:=AK (show putL y' z.f1=putAll y ((s6.take (j+1).toNat).map (·.f1))by rw[HYJ.out];exact HPS.out)
    obtain⟨y2,ey2⟩:∃y2,y2=putL y' z.f1:=⟨_,rfl⟩
    rw[←ey2]at N0 NY ⊢
    clear hr hb hkp ey2 HT H6
    go_wp2
    go_roundg k2
    case measure=>omega
    case rel=>
     have h1:=HJ.out
     have h2:=HLN.out
     have h3:=HK.out.w
     rw[wrap_succ j (by omega) (by omega)]
     exact⟨j+1,K2,ck2,y2,rfl,rfl,⟨by omega,by omega⟩,NY,N0,N6⟩
   | zero=>
    have c33:decide (j<(s6.length:Int))=false:=deF (by have:=HJ.out;omega)
    have HYE:=AK (show y'=putAll y (s6.map (·.f1))by rw[HYJ.out,take_all _ _ (by have:=HJ.out;omega)])
    clear HYJ H6 HJ
    obtain⟨p0,p1,p2,p3⟩:=box4 HT.out.yh
    go_wp2_with fail
    clear p0 p1 p2 p3
    refine(l2Trace_c HI0.out.r0 HI0.out.k0 HI0.out.r1 HI0.out.k1 HT.out.rw HT.out.rd HT.out.b HT.out.kn HOK.out HGY.out).mono ?_
    rintro e w11 ⟨v,rfl,hr,hb,hkp⟩
    obtain⟨K3,ck3,e⟩:=Kd.R_slice hr
    subst e
    have N0:=AK (HT.out.known hb hkp hr)
    have NG:=AK (trace_good HOK.out (l0.length+1) 0 y' HGY.out (by omega))
    have NK:=AK (show ∀p,p∈traceL l0 a3 (l0.length+1) 0 y'↔p∈reachL l0 l1 a3 by rw[HYE.out];exact HTKN.out)
    obtain⟨y3,ey3⟩:∃y3,y3=traceL l0 a3 (l0.length+1) 0 y':=⟨_,rfl⟩
    rw[←ey3]at N0 NG NK ⊢
    clear hr hb hkp ey3 HT
    go_wp2
    go_roundg k1
    case measure=>omega
    case rel=>exact⟨s5,a3,S5,D2,c5,cd2,K3,ck3,y3,rfl,HOK,⟨by have:=HLN.out;have:=HM.out;have:=HZ.out;omega⟩,HE3,⟨NG.out,NK.out⟩,N0⟩
end
end Go.Proofs.YtigjhfijkdlldaaDoor.H
