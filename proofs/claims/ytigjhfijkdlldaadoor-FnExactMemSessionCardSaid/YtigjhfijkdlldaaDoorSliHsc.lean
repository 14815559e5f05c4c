import Derived.Test.YtigjhfijkdlldaaDoorSliHlc
import Derived.Test.YtigjhfijkdlldaaDoorSliHlt
import Derived.Test.YtigjhfijkdlldaaDoorSliHmc
import Derived.Test.YtigjhfijkdlldaaDoorSliCa
import Derived.Test.YtigjhfijkdlldaaDoorSliSa
namespace Go.Proofs.YtigjhfijkdlldaaDoor.H
open Go.RowKit Go.Proofs.YtigjhfijkdlldaaDoorW.PrintWords Go.Proofs.YtigjhfijkdlldaaDoorW.PrintLast Go.Proofs.YtigjhfijkdlldaaDoorW.PrintMore Go.Proofs.YtigjhfijkdlldaaDoor.Q
set_option linter.unusedVariables false
set_option linter.unusedSimpArgs false
theorem S_lower {w:World} {base base':Nat} {ok:Nat→Prop} {v:Value} {xs:List S38} (h:Kd.S k38 35 w base ok v xs) (hb:base'≤base):Kd.S k38 35 w base' ok v xs:=by
 obtain⟨f,hf⟩:=h
 exact⟨f,Kd.R_lower hf hb⟩
theorem scoll13_tab:rtab .any (opsOf Tryd.f39 13)=(true,[([],[]),([0],[0]),([],[]),([],[]),([2,3],[2,3]),([4],[4]),([1,5],[1,5]),([6],[6]),([7],[7]),([],[]),([9,8,8,0,1,2,3,4,5,6,7,8,9],[8,9])]):=by kernel_rfl
theorem scoll13_bits:waitsOk [([],[]),([0],[0]),([],[]),([],[]),([2,3],[2,3]),([4],[4]),([1,5],[1,5]),([6],[6]),([7],[7]),([],[]),([9,8,8,0,1,2,3,4,5,6,7,8,9],[8,9])] [0,1,0,0,12,28,63,127,255,0,1023]=true:=by kernel_rfl
theorem scoll17_tab:rtab .any (opsOf Tryd.f39 17)=(true,[([],[]),([0],[0]),([],[]),([],[]),([],[]),([4],[4]),([],[]),([5,6],[5,6]),([7],[7]),([3,8],[3,8]),([1,2,0,1,2,3,4,5,6,7,8,9],[1,2]),([10,9,9,0,1,2,3,4,5,6,7,8,9],[9,10])]):=by kernel_rfl
theorem scoll17_bits:waitsOk [([],[]),([0],[0]),([],[]),([],[]),([],[]),([4],[4]),([],[]),([5,6],[5,6]),([7],[7]),([3,8],[3,8]),([1,2,0,1,2,3,4,5,6,7,8,9],[1,2]),([10,9,9,0,1,2,3,4,5,6,7,8,9],[9,10])] [0,1,0,0,0,16,0,112,240,504,1023,2047]=true:=by kernel_rfl
theorem scoll22_tab:rtab .any (opsOf Tryd.f39 22)=(true,[([],[]),([0],[0]),([],[]),([],[]),([3],[3]),([],[]),([4,5],[4,5]),([6],[6]),([2,7],[2,7]),([8],[8]),([1,9,8],[1,9]),([0,1,2,3,4,5,6,7,8,9,10],[]),([11,10,10,0,1,2,3,4,5,6,7,8,9,10],[10,11])]):=by kernel_rfl
theorem scoll22_bits:waitsOk [([],[]),([0],[0]),([],[]),([],[]),([3],[3]),([],[]),([4,5],[4,5]),([6],[6]),([2,7],[2,7]),([8],[8]),([1,9,8],[1,9]),([0,1,2,3,4,5,6,7,8,9,10],[]),([11,10,10,0,1,2,3,4,5,6,7,8,9,10],[10,11])] [0,1,0,0,8,0,56,120,252,508,1023,2047,4095]=true:=by kernel_rfl
set_option maxHeartbeats 4000000 in
set_option maxRecDepth 100000 in
theorem specCollect_calls (A0 A1 A2 A3:Option Addr) (c0 c1 c2 c3:Nat) (l0:List S38) (l1:List Int) (l2 l3:List S60) (w:World) (h:InH w A0 c0 A1 c1 A2 c2 A3 c3 l0 l1 l2 l3) (hf:Fine l0 l1 l2 l3) (G:Hp) (mv:List Int) (hG:(G,mv)=collectB ⟨l0,l1,l2,l3⟩) :
  Calls Tryd.prog 39 #[.agg #[.slice A0 l0.length c0,.slice A1 l1.length c1,.slice A2 l2.length c2,.slice A3 l3.length c3]] w fun e w'=>∃B0 d0 B1 d1 B2 d2 B3 d3 E ee,e=.returned (.tuple #[.agg #[.slice B0 G.o.length d0,.slice B1 G.r.length d1,.slice B2 G.w.length d2,.slice B3 G.d.length d3],.slice E mv.length ee]) ∧
   OwnM w' w.heap.size B0 d0 B1 d1 B2 d2 B3 d3 E ee G mv∧Below w.heap.size w w':=by
 have HI0:=AK h
 have HF:=AK hf
 have HW1:=AK (show Below w.heap.size w ((w.alloc (.cells #[.slice A0 l0.length c0,.slice A1 l1.length c1,.slice A2 l2.length c2,.slice A3 l3.length c3] 33 (0,0))).alloc (.cells #[.slice none 0 0,.slice none 0 0,.slice none 0 0,.slice none 0 0] 33 (0,0)))∧((w.alloc (.cells #[.slice A0 l0.length c0,.slice A1 l1.length c1,.slice A2 l2.length c2,.slice A3 l3.length c3] 33 (0,0))).alloc (.cells #[.slice none 0 0,.slice none 0 0,.slice none 0 0,.slice none 0 0] 33 (0,0))).heap[w.heap.size]?=some (.cells #[.slice A0 l0.length c0,.slice A1 l1.length c1,.slice A2 l2.length c2,.slice A3 l3.length c3] 33 (0,0))∧((w.alloc (.cells #[.slice A0 l0.length c0,.slice A1 l1.length c1,.slice A2 l2.length c2,.slice A3 l3.length c3] 33 (0,0))).alloc (.cells #[.slice none 0 0,.slice none 0 0,.slice none 0 0,.slice none 0 0] 33 (0,0))).heap[w.heap.size+1]?=some (.cells #[.slice none 0 0,.slice none 0 0,.slice none 0 0,.slice none 0 0] 33 (0,0))from⟨below_alloc (below_alloc (Below.refl w.heap.size w) _) _,blk_alloc (blk_new w _) _,blk_new1 w _ _⟩)
 have HG:=AK hG
 obtain⟨b,eb⟩:∃b,b=okB l0 l1 l2 l3:=⟨_,rfl⟩
 have EB:=AK eb
 clear h hf hG eb
 go_enter Tryd.func39,Tryd.ntmps39
 go_wp2_with fail
 generalize ((w.alloc (.cells #[.slice A0 l0.length c0,.slice A1 l1.length c1,.slice A2 l2.length c2,.slice A3 l3.length c3] 33 (0,0))).alloc (.cells #[.slice none 0 0,.slice none 0 0,.slice none 0 0,.slice none 0 0] 33 (0,0)))=w1 at HW1 ⊢
 refine(specOk_c (HI0.out.below HW1.out.1) (by have:=HF.out.o;omega) HF.out.f (by have:=HF.out.r;omega) (by have:=HF.out.w;omega)).mono ?_
 rintro e w2 ⟨rfl,hb⟩
 rw[←EB.out]
 have HB:=AK hb
 clear hb
 cases b with
 | false=>
  have he:(G,mv)=(hp0,[]):=by rw[HG.out];unfold collectB Hp.ok;rw[←EB.out];rfl
  injection he with he1 he2
  subst he1 he2
  have HZ:=AK (show w2.heap[w.heap.size+1]?=some (.cells #[.slice none 0 0,.slice none 0 0,.slice none 0 0,.slice none 0 0] 33 (0,0))from bbl HW1.out.2.2 HB.out)
  have HBW:=AK (bst HW1.out.1 HB.out)
  clear HW1 HB HI0
  go_wp2_with ((with_reducible refine gate_dst (N:=17) rfl ?_);refine Kd.R_lit (Kd.int .i64) (w0:=w2) (World.heap w2).size 3 ?hg (N:=17) ?hd (xs:=([]:List Int)) (inner:=[]) (ok:=fun _=>True) (okp:=fun _=>True) ?hr ?hp (fun _ hk=>hk) trivial (Below.refl _ _) (Nat.le_refl _) (by simp) ?_;(case hd=>rfl);(case hg=>rfl);(case hr=>first|(go_simp;done)|(go_simp;rfl));(case hp=>exact Reps.none _ _);intro v17 w3 hr hb hg hn;have HL:=AK (Kd.R_lower hr HBW.out.size);replace HZ:=AK (bbl HZ.out hb);replace HBW:=AK (bst HBW.out hb);obtain⟨q0,q1,q2,q3⟩:=box4 HZ.out;have y0:=bfz HZ.out 0;have y1:=bfz HZ.out 1;have y2:=bfz HZ.out 2;have y3:=bfz HZ.out 3;clear hr hb hg hn)
  refine bodyPost_ret (results_ct rfl _ _ (w.heap.size+1) 33 #[.slice none 0 0,.slice none 0 0,.slice none 0 0,.slice none 0 0] (0,0) _ rfl (set4_blk HZ.out) Tryd.underlying33 rfl (by kernel_rfl)) rfl ?_
  obtain⟨E,ee,e⟩:=Kd.R_slice HL.out
  subst e
  exact⟨none,0,none,0,none,0,none,0,E,ee,rfl,⟨Kd.S_nil _ _ _ _ _,Kd.R_nil _ _ _ _ _,Kd.R_nil _ _ _ _ _,Kd.R_nil _ _ _ _ _,set4_R HL.out HZ.out (int_ap 33 (by decide))⟩,set4_below HBW.out (by omega)⟩
 | true=>
 have HK:=AK (ok_parts EB.out.symm)
 obtain⟨p0,p1,p2,p3⟩:=box4 (bbl HW1.out.2.1 HB.out)
 go_wp2_with fail
 clear p0 p1 p2 p3
 refine(l1Copy_calls _ _ _ _ _ _ _ _ _ _ _ _ _ (HI0.out.below (bst HW1.out.1 HB.out)) (lim_ok HK.out)).mono ?_
 rintro e w3 ⟨B0,b0,B1,b1,B2,b2,B3,b3,rfl,hO,hb⟩
 have HO:=AK hO
 replace HB:=AK (bst HB.out hb)
 obtain⟨t2,t3,ht⟩:∃t2 t3,(t2,t3)=tellL l0 l1 (l2.length+1) l2 l3:=⟨_,_,rfl⟩
 obtain⟨x,hx⟩:∃x,x=reachL l0 l1 t3:=⟨_,rfl⟩
 have hk2:=tell_ok (l2.length+1) HK.out
 rw[←ht]at hk2
 have HK2:=AK (show OkH l0 l1 t2 t3 from hk2)
 have HGX:=AK (show GoodL l0.length x by rw[hx];exact reach_good hk2)
 have hve:(G,mv)=(moveL l0 l1 t2 t3 x,(List.range l0.length).map fun(j:Nat)=>idxL x (j:Int)):=by
  rw[HG.out]
  unfold collectB Hp.ok
  rw[←EB.out]
  show collectK l0 l1 l2 l3=_
  unfold collectK
  rw[←ht,hx]
 injection hve with hG1 hG2
 have HGO:=AK (show G.o=x.map (fun p=>objOf x (rd_T38 l0 p))by rw[hG1];rfl)
 have HGR:=AK (show G.r=l1.map (wh x)by rw[hG1];rfl)
 have HGW:=AK (show G.w=movedW x t2 by rw[hG1];rfl)
 have HGD:=AK (show G.d=movedW x t3 by rw[hG1];rfl)
 have HMV:=AK hG2
 have HTE:=AK ht
 have HXE:=AK hx
 clear hb hO hk2 hG1 hG2 ht hx
 go_wp2_with fail
 refine(l3Tell_calls _ _ _ _ _ _ _ _ _ _ _ _ _ HO.out.reads HK.out t2 t3 x HTE.out HXE.out).mono ?_
 rintro e w4 ⟨W,cw,D,cd,K,ck,rfl,hi,hr,hb⟩
 have HI:=AK hi
 have HKN:=AK (Kd.R_lower hr (bst HW1.out.1 HB.out).size)
 have HW4:=AK (show Below w.heap.size w w4∧w4.heap[w.heap.size+1]?=some (.cells #[.slice none 0 0,.slice none 0 0,.slice none 0 0,.slice none 0 0] 33 (0,0))from⟨bst (bst HW1.out.1 HB.out) hb,bbl HW1.out.2.2 (bst HB.out hb)⟩)
 have HLT:=AK (blk_lt HW4.out.2)
 clear hi hr hb HO HB HW1 HTE
 go_wp2_with ((with_reducible refine gate_dst (N:=25) rfl ?_);refine Kd.R_lit (Kd.int .i64) (w0:=((w4.alloc (.cells #[.slice B0 l0.length b0,.slice B1 l1.length b1,.slice W t2.length cw,.slice D t3.length cd] 33 (0,0))).alloc (.cells #[.slice none 0 0,.slice none 0 0,.slice none 0 0,.slice none 0 0] 33 (0,0)))) (World.heap ((w4.alloc (.cells #[.slice B0 l0.length b0,.slice B1 l1.length b1,.slice W t2.length cw,.slice D t3.length cd] 33 (0,0))).alloc (.cells #[.slice none 0 0,.slice none 0 0,.slice none 0 0,.slice none 0 0] 33 (0,0)))).size 3 ?hg (N:=25) ?hd (xs:=([]:List Int)) (inner:=[]) (ok:=fun _=>True) (okp:=fun _=>True) ?hr ?hp (fun _ hk=>hk) trivial (Below.refl _ _) (Nat.le_refl _) (by simp) ?_;(case hd=>rfl);(case hg=>rfl);(case hr=>first|(go_simp;done)|(go_simp;rfl));(case hp=>exact Reps.none _ _);intro v25 w5 hr hb hg hn;obtain⟨M,em,e⟩:=Kd.R_slice hr;subst e;have HM:=AK (Kd.R_lower (base':=w4.heap.size) hr (below_alloc (below_alloc (Below.refl _ _) _) _).size);have HS:=AK (show Below w4.heap.size w4 w5∧w5.heap[w4.heap.size]?=some (.cells #[.slice B0 l0.length b0,.slice B1 l1.length b1,.slice W t2.length cw,.slice D t3.length cd] 33 (0,0))∧w5.heap[w4.heap.size+1]?=some (.cells #[.slice none 0 0,.slice none 0 0,.slice none 0 0,.slice none 0 0] 33 (0,0))from⟨bst (below_alloc (below_alloc (Below.refl _ _) _) _) hb,bbl (blk_alloc (blk_new w4 _) _) hb,bbl (blk_new1 w4 _ _) hb⟩);clear hr hb hg hn)
 have HM5:=AK (show Kd.R (Kd.int .i64) 3 w5 w4.heap.size (fun _=>True) (.slice M (0:Int).toNat em) ((List.range (0:Int).toNat).map fun(j:Nat)=>idxL x (j:Int))from HM.out)
 clear HM
 go_loopg [7,8] l0.length (fun kq v7 v8 w'=>∃(i:Int) (M:Option Addr) (em:Nat),v7=.slice M i.toNat em∧v8=.int .i64 i∧Aside0 (0≤i∧i+kq=l0.length)∧Aside0 (Below w4.heap.size w4 w'∧w'.heap[w4.heap.size]?=some (.cells #[.slice B0 l0.length b0,.slice B1 l1.length b1,.slice W t2.length cw,.slice D t3.length cd] 33 (0,0))∧w'.heap[w4.heap.size+1]?=some (.cells #[.slice none 0 0,.slice none 0 0,.slice none 0 0,.slice none 0 0] 33 (0,0)))∧Aside0 (Kd.R (Kd.int .i64) 3 w' w4.heap.size (fun _=>True) (.slice M i.toNat em) ((List.range i.toNat).map fun(j:Nat)=>idxL x (j:Int))))
 case atStart=>exact⟨0,M,em,rfl,rfl,⟨by omega,by omega⟩,HS,HM5⟩
 case round=>
  clear HS HM5
  obtain⟨i,M,em,rfl,rfl,HJ,HS,HM⟩:=hrel
  obtain⟨p0,p1,p2,p3⟩:=box4 HS.out.2.1
  cases gk with
  | succ k1=>
   have c30:decide (i<(l0.length:Int))=true:=deT (by have:=HJ.out;omega)
   have htk:((List.range (i+1).toNat).map fun(j:Nat)=>idxL x (j:Int))=((List.range i.toNat).map fun(j:Nat)=>idxL x (j:Int))++[idxL x i]:=by
    rw[show (i+1).toNat=i.toNat+1 by have:=HJ.out;omega,List.range_succ,List.map_append]
    simp only[List.map_cons,List.map_nil]
    rw[Int.toNat_of_nonneg HJ.out.1]
   obtain⟨ms,ems⟩:∃ms,ms=((List.range i.toNat).map fun(j:Nat)=>idxL x (j:Int)):=⟨_,rfl⟩
   rw[←ems]at HM htk
   have HXL:=AK (show (ms++[idxL x i]).length=i.toNat+1∧ms.length≤60 by
    have h1:ms.length=i.toNat:=by rw[ems,List.length_map,List.length_range]
    exact⟨by rw[List.length_append,h1];rfl,by have:=HK.out.n;have:=HJ.out;omega⟩)
   have HTK:=AK htk
   clear ems htk
   go_wp2_with fail
   clear p0 p1 p2 p3
   refine(l2At_c (Kd.R_reads' (Kd.R_below HKN.out HS.out.1)).2.2 (Kd.R_reads' HKN.out).2.1 i).mono ?_
   rintro e w6 ⟨rfl,hd⟩
   replace HM:=AK (Kd.R_below HM.out hd.below)
   replace HS:=AK (show Below w4.heap.size w4 w6∧w6.heap[w4.heap.size]?=some (.cells #[.slice B0 l0.length b0,.slice B1 l1.length b1,.slice W t2.length cw,.slice D t3.length cd] 33 (0,0))∧w6.heap[w4.heap.size+1]?=some (.cells #[.slice none 0 0,.slice none 0 0,.slice none 0 0,.slice none 0 0] 33 (0,0))from⟨bst HS.out.1 hd.below,bbl HS.out.2.1 hd.below,bbl HS.out.2.2 hd.below⟩)
   clear hd
   go_wp2_with ((with_reducible refine gate_dst (N:=38) rfl ?_);at_builtin;refine Kd.R_append (Kd.int .i64) (w0:=w4) w4.heap.size rfl (.tmp 33) (.tmp 37) 29 3 (.int .i64 0) 8 rfl Tryd.underlying29 info3 rfl (by decide) (by omega) (.slice M i.toNat em) ms (idxL x i) [.int .i64 (idxL x i)] (fun _=>True) (fun _=>False) rfl rfl ?aP (fun _ hk=>hk.elim) (fun _ _=>trivial) ?aO ?aB ?aS ?aL ?_;(case aP=>exact rfl);(case aO=>exact HM.out);(case aB=>exact HS.out.1);(case aS=>exact HS.out.1.size);(case aL=>have:=HXL.out.2;omega);intro v38 w7 hr hb hg hat;obtain⟨M2,em2,e⟩:=Kd.R_slice hr;rw[HXL.out.1]at e;subst e;have N0:=AK hr;have N1:=AK (show Below w4.heap.size w4 w7∧w7.heap[w4.heap.size]?=some (.cells #[.slice B0 l0.length b0,.slice B1 l1.length b1,.slice W t2.length cw,.slice D t3.length cd] 33 (0,0))∧w7.heap[w4.heap.size+1]?=some (.cells #[.slice none 0 0,.slice none 0 0,.slice none 0 0,.slice none 0 0] 33 (0,0))from⟨hb,blk_grown HS.out.2.1 hg (Kd.R_ne HM.out HS.out.2.1 (by decide)),blk_grown HS.out.2.2 hg (Kd.R_ne HM.out HS.out.2.2 (by decide))⟩);clear hr hb hg hat)
   go_roundg k1
   case measure=>omega
   case rel=>
    have h1:=HJ.out
    have h2:=HK.out.n
    rw[wrap_succ i (by omega) (by omega)]
    refine⟨i+1,M2,em2,?_,rfl,⟨by omega,by omega⟩,N1,⟨?_⟩⟩
    ·rw[show (i+1).toNat=i.toNat+1 by omega]
    ·rw[HTK.out,show (i+1).toNat=i.toNat+1 by omega];exact N0.out
  | zero=>
   have c30:decide (i<(l0.length:Int))=false:=deF (by have:=HJ.out;omega)
   have hil:i.toNat=l0.length:=by have:=HJ.out;omega
   have hm:=HM.out
   rw[hil,←HMV.out,show l0.length=mv.length by rw[HMV.out,List.length_map,List.length_range]]at hm
   obtain⟨u6,hu6⟩:∃u,u=wr:=⟨_,rfl⟩
   subst hu6
   obtain⟨n1,hn1⟩:∃n,n=u6.heap.size:=⟨_,rfl⟩
   have HN1:=AK (show n1=u6.heap.size∧w4.heap.size+1<n1 by have:=blk_lt HS.out.2.2;exact⟨hn1,by omega⟩)
   have HT:=AK (show n1≤u6.heap.size∧NS w4 w4.heap.size (w4.heap.size+1) #[.slice B0 l0.length b0,.slice B1 l1.length b1,.slice W t2.length cw,.slice D t3.length cd] #[(.slice none 0 0),(.slice none 0 0),(.slice none 0 0),(.slice none 0 0)] n1 u6.heap.size M em mv (.slice none 0 0) [] u6 from⟨by omega,HS.out.1,HS.out.2.1,HS.out.2.2,Kd.R_mono (Kd.R_bound hm) (fun k hk=>by rw[hn1];exact hk.2.2.1),Kd.S_nil _ _ _ _ _⟩)
   have HML:=AK (show i.toNat=mv.length by rw[hil,HMV.out,List.length_map,List.length_range])
   clear hil hm hn1
   go_wp2
   clear p0 p1 p2 p3
   rw[HML.out]
   clear HS HM HJ HML
   go_loopg [9] x.length (fun kq v9 w'=>∃(i:Int) (Ao:Option Addr) (ao:Nat),v9=.int .i64 i∧Aside0 (0≤i∧i+kq=x.length)∧Aside0 (n1≤w'.heap.size∧NS w4 w4.heap.size (w4.heap.size+1) #[.slice B0 l0.length b0,.slice B1 l1.length b1,.slice W t2.length cw,.slice D t3.length cd] #[.slice Ao i.toNat ao,(.slice none 0 0),(.slice none 0 0),(.slice none 0 0)] n1 w'.heap.size M em mv (.slice Ao i.toNat ao) ((x.take i.toNat).map fun p=>objOf x (rd_T38 l0 p)) w'))
   case atStart=>exact⟨0,none,0,rfl,⟨by omega,by omega⟩,HT⟩
   case round=>
    clear HT
    obtain⟨i,Ao,ao,rfl,HJ,HT⟩:=hrel
    cases gk with
    | succ k2=>
     have c42:decide (i<(x.length:Int))=true:=deT (by have:=HJ.out;omega)
     have hi0:=eq_true (show 0≤i by have:=HJ.out;omega)
     have hi1:=eq_true (show i<(x.length:Int)by have:=HJ.out;omega)
     obtain⟨adx,e,hx0⟩:=Kd.at_int (Kd.R_reads' HKN.out).2.2 i (by have:=HJ.out;omega) (by have:=HJ.out;omega)
     subst e
     have hgp:=HGX.out.2 _ (getD_mem x 0 i (by have:=HJ.out;omega) (by have:=HJ.out;omega))
     have htk:x.take (i+1).toNat=x.take i.toNat++[rd x i]:=by
      rw[show (i+1).toNat=i.toNat+1 by have:=HJ.out;omega,List.take_add_one,List.getElem?_eq_getElem (show i.toNat<x.length by have:=HJ.out;omega)]
      simp[rd,List.getD_eq_getElem?_getD,List.getElem?_eq_getElem (show i.toNat<x.length by have:=HJ.out;omega)]
     obtain⟨p,ep⟩:∃p,p=rd x i:=⟨_,rfl⟩
     replace hgp:0≤p∧p<l0.length:=by rw[ep];exact hgp
     rw[←ep]at hx0 htk
     obtain⟨ad0,Af,cf,e,ha0,ha1,ha2,hal,hag⟩:=at_T38 HI.out.r0 p hgp.1 hgp.2
     subst e
     obtain⟨o,eo⟩:∃o,o=rd_T38 l0 p:=⟨_,rfl⟩
     have HOS:=AK (show o.f2.length≤6 by rw[eo];exact(ob_small2 (ob_at HK.out hgp.1 hgp.2)).2)
     have htk2:((x.take (i+1).toNat).map fun p=>objOf x (rd_T38 l0 p))=((x.take i.toNat).map fun p=>objOf x (rd_T38 l0 p))++[objOf x o]:=by rw[htk,List.map_append,eo];rfl
     rw[←eo]at ha0 ha1 ha2 hal hag
     obtain⟨xs,exs⟩:∃xs,xs=((x.take i.toNat).map fun p=>objOf x (rd_T38 l0 p)):=⟨_,rfl⟩
     rw[←exs]at HT htk2
     have HXL:=AK (show (xs++[objOf x o]).length=i.toNat+1∧xs.length≤60 by
      have h1:xs.length=i.toNat:=by rw[exs,List.length_map,List.length_take];have:=HJ.out;omega
      exact⟨by rw[List.length_append,h1];rfl,by have:=nodup_len _ _ HGX.out;have:=HK.out.n;have:=HJ.out;omega⟩)
     have HTK:=AK htk2
     have HG2:=AK (And.intro hag hal)
     have CS:=AK (And.intro hx0 (And.intro ha0 (And.intro ha1 ha2)))
     have hp0:=eq_true hgp.1
     have hp1:=eq_true hgp.2
     clear ep eo exs htk htk2 hag hal ha0 ha1 ha2 hx0 hgp
     go_wp2_with fail
     obtain⟨u7,hu7⟩:∃u,u=wr:=⟨_,rfl⟩
     subst hu7
     have HB:=AK (below_drew (Below.refl u7.heap.size u7))
     refine start_ (n:=11) (S:=(fun w'=>w'.cell? ⟨w4.heap.size,0,none⟩=some (.slice (some ad0) l0.length b0)∧w'.cell? (adx.add i.toNat)=some (.int .i64 p)∧w'.cell? (ad0.add (p.toNat*3))=some (.int .i64 o.f0)∧w'.cell? ⟨(ad0.add (p.toNat*3)).block,(ad0.add (p.toNat*3)).off+1,none⟩=some (.string o.f1)∧w'.cell? ⟨(ad0.add (p.toNat*3)).block,(ad0.add (p.toNat*3)).off+2,none⟩=some (.slice Af o.f2.length cf))) (ds:=[]) #[fF,fF,fF,fF,fF,fF,fF,fF,fF,fF,fF] (by kernel_rfl) rfl rfl ⟨pcb HB.out (box4 HT.out.2.g).1,pcb (bst HT.out.2.b HB.out) CS.out.1,pcb (bst HT.out.2.b HB.out) CS.out.2.1,pcb (bst HT.out.2.b HB.out) CS.out.2.2.1,pcb (bst HT.out.2.b HB.out) CS.out.2.2.2⟩ (fun hHeld=>?_);refine with_tabW scoll13_tab scoll13_bits (fun HT_ HW_=>?_)
     generalize u7.drew=v5 at HB hHeld ⊢
     refine pU HT_ 0 (some 45) (bM 11 1) ?_
     refine tU HT_ HW_ 1 (some 46) (bM 11 3) hHeld rfl (by refine Or.inl ⟨by rfl,?_⟩;rintro w' ⟨s_0,s_1,s_2,s_3,s_4⟩;go_simp;with_reducible rfl) ?_
     refine pU HT_ 2 (some 47) (bM 11 7) ?_
     refine pU HT_ 3 (some 48) (bM 11 15) ?_
     refine pU HT_ 4 (some 49) (bM 11 31) ?_
     refine tU HT_ HW_ 5 (some 50) (bM 11 63) hHeld rfl (by refine Or.inl ⟨by rfl,?_⟩;rintro w' ⟨s_0,s_1,s_2,s_3,s_4⟩;go_simp;with_reducible rfl) ?_
     refine pU HT_ 6 (some 51) (bM 11 127) ?_
     refine tU HT_ HW_ 7 (some 52) (bM 11 255) hHeld rfl (by refine Or.inl ⟨by rfl,?_⟩;rintro w' ⟨s_0,s_1,s_2,s_3,s_4⟩;go_simp;with_reducible rfl) ?_
     refine join_ (σ:=Option Addr × Nat × Nat) 1 #[tT,tT,tT,tT,tT,tT,tT,tT,tT,tT,fF] (fun s=>[(53,.agg #[.int .i64 o.f0,.string o.f1,.slice s.1 o.f2.length s.2.1]),(10,.pointer (some ⟨s.2.2,0,none⟩))]) (fun s w'=>Below u7.heap.size u7 w'∧Kd.R (Kd.int .i64) 3 w' w4.heap.size (fun k=>u7.heap.size≤k) (.slice s.1 o.f2.length s.2.1) o.f2∧(w'.heap[s.2.2]?=some (.cells #[.int .i64 0,.string ⟨#[]⟩,.slice none 0 0] 35 (0,0))∧u7.heap.size≤s.2.2)) ?_ ?_
     rotate_left
     ·intro hCont
      refine two_ (i:=8) (j:=9) (Ni:=some 53) (Nj:=some 10) (bM 11 511) (bM 11 767) rfl rfl rfl rfl (two_of HT_.out (by kernel_rfl)) (by decide) (by decide) (fun K hK=>?_) (fun K hK=>?_)
      ·skip
       refine goes_ Tryd.func32 (by kernel_rfl) rfl #[.agg #[.int .i64 o.f0,.string o.f1,.slice Af o.f2.length cf]] (by rfl) rfl rfl zI ?_
       refine(l1Obj_c (Kd.C_below HG2.out.1 (bst HT.out.2.b HB.out)) HG2.out.2 (by have:=HOS.out;omega)).mono ?_
       rintro e v6 ⟨v,rfl,hr,hb⟩
       obtain⟨Rf,rf,e⟩:=Kd.R_slice hr
       subst e
       refine⟨_,rfl,?_⟩
       have HRF:=AK (Kd.R_mono (R_fresh hr (bst HT.out.2.b HB.out).size) (ok':=fun k=>u7.heap.size≤k) (fun k hk=>Nat.le_trans HB.out.size hk.1))
       replace HB:=AK (bst HB.out hb)
       clear hr hb
       refine hK.out _ _ ⟨pcb HB.out (box4 HT.out.2.g).1,pcb (bst HT.out.2.b HB.out) CS.out.1,pcb (bst HT.out.2.b HB.out) CS.out.2.1,pcb (bst HT.out.2.b HB.out) CS.out.2.2.1,pcb (bst HT.out.2.b HB.out) CS.out.2.2.2⟩ (fun hHeld=>?_)
       clear hK K
       refine nO (some 53) ?_
       refine one_ (i:=9) (N:=some 10) (bM 11 1023) rfl rfl (one_of HT_.out (by kernel_rfl)) (by decide) (fun K hK=>?_)
       refine box_step ?hg (N:=10) ?hd (cs:=#[.int .i64 0,.string ⟨#[]⟩,.slice none 0 0]) (t:=35) ?hr ?_;(case hd=>rfl);(case hg=>rfl);(case hr=>first|(go_simp;done)|(go_simp;rfl))
       intro b10 hg v7 hbox hb
       have H10:=AK (show _∧_ from⟨hbox,show u7.heap.size≤b10 by rw[hg];exact HB.out.size⟩)
       replace HRF:=AK (Kd.R_below HRF.out hb)
       replace HB:=AK (bst HB.out hb)
       clear hg hbox hb
       refine hK.out _ _ ⟨pcb HB.out (box4 HT.out.2.g).1,pcb (bst HT.out.2.b HB.out) CS.out.1,pcb (bst HT.out.2.b HB.out) CS.out.2.1,pcb (bst HT.out.2.b HB.out) CS.out.2.2.1,pcb (bst HT.out.2.b HB.out) CS.out.2.2.2⟩ (fun hHeld=>?_)
       clear hK K
       refine nO (some 10) ?_
       exact norm_ zJ (hCont (Rf,rf,b10) _ ⟨HB.out,HRF.out,H10.out⟩)
      ·skip
       refine box_step ?hg (N:=10) ?hd (cs:=#[.int .i64 0,.string ⟨#[]⟩,.slice none 0 0]) (t:=35) ?hr ?_;(case hd=>rfl);(case hg=>rfl);(case hr=>first|(go_simp;done)|(go_simp;rfl))
       intro b10 hg v7 hbox hb
       have H10:=AK (show _∧_ from⟨hbox,show u7.heap.size≤b10 by rw[hg];exact HB.out.size⟩)
       replace HB:=AK (bst HB.out hb)
       clear hg hbox hb
       refine hK.out _ _ ⟨pcb HB.out (box4 HT.out.2.g).1,pcb (bst HT.out.2.b HB.out) CS.out.1,pcb (bst HT.out.2.b HB.out) CS.out.2.1,pcb (bst HT.out.2.b HB.out) CS.out.2.2.1,pcb (bst HT.out.2.b HB.out) CS.out.2.2.2⟩ (fun hHeld=>?_)
       clear hK K
       refine nO (some 10) ?_
       refine one_ (i:=8) (N:=some 53) (bM 11 1023) rfl rfl (one_of HT_.out (by kernel_rfl)) (by decide) (fun K hK=>?_)
       refine goes_ Tryd.func32 (by kernel_rfl) rfl #[.agg #[.int .i64 o.f0,.string o.f1,.slice Af o.f2.length cf]] (by rfl) rfl rfl zI ?_
       refine(l1Obj_c (Kd.C_below HG2.out.1 (bst HT.out.2.b HB.out)) HG2.out.2 (by have:=HOS.out;omega)).mono ?_
       rintro e v6 ⟨v,rfl,hr,hb⟩
       obtain⟨Rf,rf,e⟩:=Kd.R_slice hr
       subst e
       refine⟨_,rfl,?_⟩
       have HRF:=AK (Kd.R_mono (R_fresh hr (bst HT.out.2.b HB.out).size) (ok':=fun k=>u7.heap.size≤k) (fun k hk=>Nat.le_trans HB.out.size hk.1))
       replace H10:=AK (show _∧_ from⟨bbl H10.out.1 hb,H10.out.2⟩)
       replace HB:=AK (bst HB.out hb)
       clear hr hb
       refine hK.out _ _ ⟨pcb HB.out (box4 HT.out.2.g).1,pcb (bst HT.out.2.b HB.out) CS.out.1,pcb (bst HT.out.2.b HB.out) CS.out.2.1,pcb (bst HT.out.2.b HB.out) CS.out.2.2.1,pcb (bst HT.out.2.b HB.out) CS.out.2.2.2⟩ (fun hHeld=>?_)
       clear hK K
       refine nO (some 53) ?_
       exact norm_ zJ (hCont (Rf,rf,b10) _ ⟨HB.out,HRF.out,H10.out⟩)
     clear HB hHeld
     rintro⟨Rf,rf,b10⟩ v8 ⟨hb,hr,h10⟩
     have HB:=AK (show Below u7.heap.size u7 v8 from hb)
     have HRF:=AK (show Kd.R (Kd.int .i64) 3 v8 w4.heap.size (fun k=>u7.heap.size≤k) (.slice Rf o.f2.length rf) o.f2 from hr)
     have H10:=AK (show v8.heap[b10]?=some (.cells #[.int .i64 0,.string ⟨#[]⟩,.slice none 0 0] 35 (0,0))∧u7.heap.size≤b10 from h10)
     clear hb hr h10
     refine norm_ (a':=?_) ?_ ?_
     rotate_left
     ·show (Act.put (Act.put _ (some 53) _) (some 10) _)=_
      exact zP
     refine one_ (i:=10) (N:=none) (bM 11 2047) rfl rfl (one_of HT_.out (by kernel_rfl)) (by decide) (fun K hK=>?_)
     obtain⟨z0,z1,z2⟩:=box3 H10.out.1
     have y0:=bfz H10.out.1 0
     have y1:=bfz H10.out.1 1
     have y2:=bfz H10.out.1 2
     have N1:=AK (show (((v8.setCell ⟨b10,0,none⟩ (.int .i64 o.f0)).setCell ⟨b10,1,none⟩ (.string o.f1)).setCell ⟨b10,2,none⟩ (.slice Rf o.f2.length rf)).heap[b10]?=some (.cells #[.int .i64 o.f0,.string o.f1,.slice Rf o.f2.length rf] 35 (0,0))from blk_put (blk_put (blk_put H10.out.1 0 _ rfl) 1 _ rfl) 2 _ rfl)
     have N2:=AK (show Below u7.heap.size u7 (((v8.setCell ⟨b10,0,none⟩ (.int .i64 o.f0)).setCell ⟨b10,1,none⟩ (.string o.f1)).setCell ⟨b10,2,none⟩ (.slice Rf o.f2.length rf))from below_set (below_set (below_set HB.out H10.out.2) H10.out.2) H10.out.2)
     have N3:=AK (show Kd.R (Kd.int .i64) 3 (((v8.setCell ⟨b10,0,none⟩ (.int .i64 o.f0)).setCell ⟨b10,1,none⟩ (.string o.f1)).setCell ⟨b10,2,none⟩ (.slice Rf o.f2.length rf)) w4.heap.size (fun k=>u7.heap.size≤k) (.slice Rf o.f2.length rf) o.f2 from Kd.R_set (Kd.R_set (Kd.R_set HRF.out H10.out.1 (int_ap 35 (by decide)) 0 _) (blk_set H10.out.1 0 _) (int_ap 35 (by decide)) 1 _) (blk_set (blk_set H10.out.1 0 _) 1 _) (int_ap 35 (by decide)) 2 _)
     refine skip_ (w1:=?_) (by rfl) rfl ?_ ?_
     rotate_left
     ·go_simp
      rfl
     clear z0 z1 z2 y0 y1 y2 HB HRF
     generalize (((v8.setCell ⟨b10,0,none⟩ (.int .i64 o.f0)).setCell ⟨b10,1,none⟩ (.string o.f1)).setCell ⟨b10,2,none⟩ (.slice Rf o.f2.length rf))=v9 at N1 N2 N3 ⊢
     have HB:=N2
     have HRF:=N3
     have H10':=N1
     clear N1 N2 N3
     refine hK.out _ _ ⟨pcb HB.out (box4 HT.out.2.g).1,pcb (bst HT.out.2.b HB.out) CS.out.1,pcb (bst HT.out.2.b HB.out) CS.out.2.1,pcb (bst HT.out.2.b HB.out) CS.out.2.2.1,pcb (bst HT.out.2.b HB.out) CS.out.2.2.2⟩ (fun hHeld=>?_)
     clear hK K
     refine done_ (done_of HT_.out (by kernel_rfl)) ?_
     clear HT_ HW_ hHeld
     have HT7:=AK (HT.out.2.below HB.out)
     have HNU:=AK (show n1≤u7.heap.size∧w4.heap.size≤u7.heap.size from⟨HT.out.1,HT.out.2.b.size⟩)
     have HNB:=AK H10.out.2
     clear HT HB H10
     go_wp2
     go_loopg [11] o.f2.length (fun kq v11 w'=>∃j:Int,v11=.int .i64 j∧Aside0 (0≤j∧j+kq=o.f2.length)∧Aside0 (u7.heap.size≤w'.heap.size∧NS w4 w4.heap.size (w4.heap.size+1) #[.slice (some ad0) l0.length b0,.slice B1 l1.length b1,.slice W t2.length cw,.slice D t3.length cd] #[.slice Ao i.toNat ao,(.slice none 0 0),(.slice none 0 0),(.slice none 0 0)] n1 u7.heap.size M em mv (.slice Ao i.toNat ao) xs w')∧Aside0 (w'.heap[b10]?=some (.cells #[.int .i64 o.f0,.string o.f1,.slice Rf o.f2.length rf] 35 (0,0)))∧Aside0 (Kd.R (Kd.int .i64) 3 w' w4.heap.size (fun k=>u7.heap.size≤k) (.slice Rf o.f2.length rf) ((o.f2.take j.toNat).map (wh x)++o.f2.drop j.toNat)))
     case atStart=>exact⟨0,rfl,⟨by omega,by omega⟩,⟨by have h1:=blk_lt H10'.out;have h2:=HNB.out;omega,HT7.out⟩,H10',HRF⟩
     case round=>
      clear HT7 H10' HRF
      obtain⟨j,rfl,HQ,HT7,H10,HRF⟩:=hrel
      obtain⟨z0,z1,z2⟩:=box3 H10.out
      cases gk with
      | succ k4=>
       have c58:decide (j<(o.f2.length:Int))=true:=deT (by have:=HQ.out;omega)
       have hj0:=eq_true (show 0≤j by have:=HQ.out;omega)
       have hj1:=eq_true (show j<(o.f2.length:Int)by have:=HQ.out;omega)
       have hml:=mixed_len x o.f2 j
       have hmr:=mixed_rd x o.f2 j (by have:=HQ.out;omega) (by have:=HQ.out;omega)
       have hms:=mixed_set x o.f2 j (by have:=HQ.out;omega) (by have:=HQ.out;omega)
       obtain⟨q,eq⟩:∃q,q=rd o.f2 j:=⟨_,rfl⟩
       rw[←eq]at hmr hms
       obtain⟨mx,emx⟩:∃mx,mx=(o.f2.take j.toNat).map (wh x)++o.f2.drop j.toNat:=⟨_,rfl⟩
       rw[←emx]at hml hmr hms HRF
       have HMS:=AK hms
       obtain⟨ga,cap,e,_,_,cells,hcells⟩:=Kd.R_form HRF.out (by rw[hml];have:=HQ.out;omega)
       injection e with e1 e2' e3
       subst e1
       subst e3
       obtain⟨hz,hfz⟩:=RI_at HRF.out j (by have:=HQ.out;omega) (by have:=HQ.out;omega)
       rw[hmr]at hz
       have HGA:=AK (HRF.out.1 ga rfl)
       have HCE:=AK hcells
       have HZ:=AK (And.intro hz hfz)
       clear eq emx hml hmr hms e2' hcells hfz
       go_wp2_with fail
       clear hz z0 z1 z2
       obtain⟨u8,hu8⟩:∃u,u=wr:=⟨_,rfl⟩
       subst hu8
       have HB:=AK (below_drew (Below.refl u8.heap.size u8))
       refine start_ (n:=12) (S:=(fun w'=>w'.cell? ⟨b10,2,none⟩=some (.slice (some ⟨ga,0,none⟩) o.f2.length rf)∧w'.cell? ⟨ga,j.toNat,none⟩=some (.int .i64 q))) (ds:=[11]) #[fF,fF,fF,fF,fF,fF,fF,fF,fF,fF,fF,fF] (by kernel_rfl) rfl rfl ⟨pcb HB.out (box3 H10.out).2.2,pcb HB.out HZ.out.1⟩ (fun hHeld=>?_);refine with_tabW scoll17_tab scoll17_bits (fun HT_ HW_=>?_)
       generalize u8.drew=v5' at HB hHeld ⊢
       refine pU HT_ 0 (some 61) (bM 12 1) ?_
       refine tU HT_ HW_ 1 (some 62) (bM 12 3) hHeld rfl (by refine Or.inl ⟨by rfl,?_⟩;rintro w' ⟨s_0,s_1⟩;go_simp;with_reducible rfl) ?_
       refine pU HT_ 2 (some 63) (bM 12 7) ?_
       refine pU HT_ 3 (some 64) (bM 12 15) ?_
       refine pU HT_ 4 (some 65) (bM 12 31) ?_
       refine tU HT_ HW_ 5 (some 66) (bM 12 63) hHeld rfl (by refine Or.inl ⟨by rfl,?_⟩;rintro w' ⟨s_0,s_1⟩;go_simp;with_reducible rfl) ?_
       refine pU HT_ 6 (some 67) (bM 12 127) ?_
       refine pU HT_ 7 (some 68) (bM 12 255) ?_
       refine tU HT_ HW_ 8 (some 69) (bM 12 511) hHeld rfl (by refine Or.inl ⟨by rfl,?_⟩;rintro w' ⟨s_0,s_1⟩;go_simp;with_reducible rfl) ?_
       refine one_ (i:=9) (N:=some 70) (bM 12 1023) rfl rfl (one_of HT_.out (by kernel_rfl)) (by decide) (fun K hK=>?_)
       refine goes_ Tryd.func53 (by kernel_rfl) rfl #[.slice (some adx) x.length ck,.int .i64 q] (by rfl) rfl rfl zI ?_
       refine(l2Where_c2 (Kd.R_reads' (Kd.R_below HKN.out (bst HT7.out.2.b HB.out))).2.2 (Kd.R_reads' HKN.out).2.1 q).mono ?_
       rintro e v6 ⟨rfl,hd⟩
       refine⟨_,rfl,?_⟩
       replace HB:=AK (bst HB.out hd.below)
       clear hd
       refine hK.out _ _ ⟨pcb HB.out (box3 H10.out).2.2,pcb HB.out HZ.out.1⟩ (fun hHeld=>?_)
       clear hK K
       refine nO (some 70) ?_
       refine pU HT_ 10 (some 71) (bM 12 2047) ?_
       refine last_ (i:=11) (N:=none) #[tT,tT,tT,tT,tT,tT,tT,tT,tT,tT,tT,tT] rfl rfl (one_of HT_.out (by kernel_rfl)) (by decide) (fun K hK=>?_)
       have hr3:=Kd.R_below HRF.out HB.out
       have hc3:=bbl HCE.out HB.out
       have hk3:=bbl H10.out HB.out
       have N0:=AK (show u7.heap.size≤(v6.setCell ⟨ga,j.toNat,none⟩ (.int .i64 (wh x q))).heap.size∧NS w4 w4.heap.size (w4.heap.size+1) #[.slice (some ad0) l0.length b0,.slice B1 l1.length b1,.slice W t2.length cw,.slice D t3.length cd] #[.slice Ao i.toNat ao,(.slice none 0 0),(.slice none 0 0),(.slice none 0 0)] n1 u7.heap.size M em mv (.slice Ao i.toNat ao) xs (v6.setCell ⟨ga,j.toNat,none⟩ (.int .i64 (wh x q)))from⟨by rw[size_set];exact Nat.le_trans HT7.out.1 HB.out.size,(HT7.out.2.below HB.out).far (Nat.le_trans HNU.out.2 HGA.out) hc3 (Nat.le_trans HNU.out.1 HGA.out) HGA.out j.toNat _⟩)
       have N1:=AK (show (v6.setCell ⟨ga,j.toNat,none⟩ (.int .i64 (wh x q))).heap[b10]?=some (.cells #[.int .i64 o.f0,.string o.f1,.slice (some ⟨ga,0,none⟩) o.f2.length rf] 35 (0,0))from blk_far hk3 (p:=⟨ga,j.toNat,none⟩) (blk_ne hk3 hc3 (by decide)) _)
       have N2:=AK (RI_set hr3 j (by have:=HQ.out;omega) (by have:=HQ.out;omega) (wh x q))
       rw[HMS.out]at N2
       have hz:=pcb HB.out HZ.out.1
       have hfz:=(RI_at hr3 j (by have:=HQ.out;omega) (by have:=HQ.out;omega)).2
       clear hr3 hc3 hk3
       refine skip_ (w1:=?_) (by rfl) rfl ?_ ?_
       rotate_left
       ·go_simp
        rfl
       clear hz hfz HB
       refine hK.out _ _ ?_
       clear hK K
       refine done_ (done_of HT_.out (by kernel_rfl)) ?_
       clear HT_ HW_ hHeld
       go_wp2
       go_roundg k4
       case measure=>omega
       case rel=>
        have h1:=HQ.out
        have h2:=HOS.out
        rw[wrap_succ j (by omega) (by omega)]
        exact⟨j+1,rfl,⟨by omega,by omega⟩,N0,N1,N2⟩
      | zero=>
       have c58:decide (j<(o.f2.length:Int))=false:=deF (by have:=HQ.out;omega)
       have hr:=HRF.out
       rw[take_all _ _ (by have:=HQ.out;omega),drop_end _ _ (by have:=HQ.out;omega),List.append_nil]at hr
       have HRF2:=AK hr
       clear hr HRF HQ
       obtain⟨u9,hu9⟩:∃u,u=wr:=⟨_,rfl⟩
       subst hu9
       obtain⟨q0,q1,q2,q3⟩:=box4 HT7.out.2.o
       go_wp2_with ((with_reducible refine gate_dst (N:=76) rfl ?_);at_builtin;refine Kd.S_append k38 (w0:=w4) w4.heap.size rfl (.tmp 73) (.tmp 75) 30 35 (.agg #[.int .i64 0,.string ⟨#[]⟩,.slice none 0 0]) 48 rfl Tryd.underlying30 info38 rfl (by decide) (by omega) (.slice Ao i.toNat ao) xs (objOf x o) [.int .i64 o.f0,.string o.f1,.slice Rf o.f2.length rf] (fun k=>n1≤k∧True) (fun k=>some k=(Value.slice Rf o.f2.length rf).ownBlock) rfl rfl ?aP ?aK ?aF ?aO ?aB ?aS ?aL ?_;(case aP=>exact k38_mkM _ _ _ (objOf x o) (Kd.R_tight rfl HRF2.out));(case aK=>exact fun k hk=>by have h1:=HRF2.out.1 k hk.symm;have h2:=HNU.out.1;exact⟨⟨by omega,trivial⟩,fun e=>by have h4:=((Kd.S_R HT7.out.2.s).1 k e.symm).2;omega⟩);(case aF=>exact fun k hk=>⟨by have h1:=HT7.out.1;have h2:=HNU.out.1;omega,trivial⟩);(case aO=>exact Kd.S_mono HT7.out.2.s (fun k hk=>⟨⟨hk.1,trivial⟩,fun e=>by have h1:=HRF2.out.1 k e.symm;have h2:=hk.2;omega⟩));(case aB=>exact HT7.out.2.b);(case aS=>exact HT7.out.2.b.size);(case aL=>have:=HXL.out.2;omega);intro v76 w76 hs hb hg hat;obtain⟨A7,a7,e⟩:=Kd.S_slice hs;rw[HXL.out.1]at e;subst e;have N0:=AK (HT7.out.2.push (by omega) (Nat.ne_of_lt (Nat.lt_succ_self _)) (S_upto hs) hb hg #[.slice A7 (i.toNat+1) a7,(.slice none 0 0),(.slice none 0 0),(.slice none 0 0)] rfl);have N1:=AK (show n1≤w76.heap.size from Nat.le_trans (Nat.le_trans HNU.out.1 HT7.out.1) hg.size);have ho7:=blk_grown HT7.out.2.o hg (Kd.S_ne HT7.out.2.s HT7.out.2.o (by decide));clear q0 q1 q2 q3;obtain⟨q0,q1,q2,q3⟩:=box4 ho7;have y0:=bfz ho7 0;clear hs hb hg hat ho7)
       go_roundg k2
       case measure=>omega
       case rel=>
        have h1:=HJ.out
        have h2:=nodup_len _ _ HGX.out
        have h3:=HK.out.n
        rw[wrap_succ i (by omega) (by omega)]
        refine⟨i+1,A7,a7,rfl,⟨by omega,by omega⟩,⟨by rw[size_set];exact N1.out,?_⟩⟩
        rw[HTK.out,show (i+1).toNat=i.toNat+1 by omega]
        have h4:=N0.out
        rwa [←size_set w76 ⟨w4.heap.size+1,0,none⟩ (.slice A7 (i.toNat+1) a7)]at h4
    | zero=>
     have c42:decide (i<(x.length:Int))=false:=deF (by have:=HJ.out;omega)
     have hix:i.toNat=x.length:=by have:=HJ.out;omega
     have ht:=HT.out.2
     obtain⟨n2,hn2⟩:∃n,n=wr.heap.size:=⟨_,rfl⟩
     rw[hix,List.take_length,←HGO.out,show x.length=G.o.length by rw[HGO.out,List.length_map],←hn2]at ht
     have HN2:=AK (show n1≤n2 by rw[hn2];exact HT.out.1)
     have HT2:=AK (show n2≤wr.heap.size∧NS w4 w4.heap.size (w4.heap.size+1) #[.slice B0 l0.length b0,.slice B1 l1.length b1,.slice W t2.length cw,.slice D t3.length cd] #[(.slice Ao G.o.length ao),(.slice none 0 0),(.slice none 0 0),(.slice none 0 0)] n1 n2 M em mv (.slice Ao G.o.length ao) G.o wr from⟨by omega,ht⟩)
     clear hix hn2 ht HT HJ
     go_wp2
     go_loopg [12] l1.length (fun kq v12 w'=>∃(i:Int) (Rr:Option Addr) (rr:Nat),v12=.int .i64 i∧Aside0 (0≤i∧i+kq=l1.length)∧Aside0 (n2≤w'.heap.size∧NS w4 w4.heap.size (w4.heap.size+1) #[.slice B0 l0.length b0,.slice B1 l1.length b1,.slice W t2.length cw,.slice D t3.length cd] #[(.slice Ao G.o.length ao),.slice Rr i.toNat rr,(.slice none 0 0),(.slice none 0 0)] n1 n2 M em mv (.slice Ao G.o.length ao) G.o w')∧Aside0 (Kd.R (Kd.int .i64) 3 w' w4.heap.size (fun k=>n2≤k) (.slice Rr i.toNat rr) ((l1.take i.toNat).map (wh x))))
     case atStart=>exact⟨0,none,0,rfl,⟨by omega,by omega⟩,HT2,⟨Kd.R_nil _ _ _ _ _⟩⟩
     case round=>
      clear HT2
      obtain⟨i,Rr,rr,rfl,HJ,HT,HRR⟩:=hrel
      obtain⟨u4,hu4'⟩:∃u,u=wr:=⟨_,rfl⟩
      subst hu4'
      cases gk with
      | succ k5=>
       have c82:decide (i<(l1.length:Int))=true:=deT (by have:=HJ.out;omega)
       have hi0:=eq_true (show 0≤i by have:=HJ.out;omega)
       have hi1:=eq_true (show i<(l1.length:Int)by have:=HJ.out;omega)
       obtain⟨adr,e,hx0⟩:=Kd.at_int HI.out.r1 i (by have:=HJ.out;omega) (by have:=HJ.out;omega)
       subst e
       have htk:(l1.take (i+1).toNat).map (wh x)=(l1.take i.toNat).map (wh x)++[wh x (rd l1 i)]:=by
        rw[show (i+1).toNat=i.toNat+1 by have:=HJ.out;omega,List.take_add_one,List.getElem?_eq_getElem (show i.toNat<l1.length by have:=HJ.out;omega),List.map_append]
        simp[rd,List.getD_eq_getElem?_getD,List.getElem?_eq_getElem (show i.toNat<l1.length by have:=HJ.out;omega)]
       obtain⟨q,eq⟩:∃q,q=rd l1 i:=⟨_,rfl⟩
       rw[←eq]at hx0 htk
       obtain⟨xs,exs⟩:∃xs,xs=(l1.take i.toNat).map (wh x):=⟨_,rfl⟩
       rw[←exs]at htk HRR
       have HXL:=AK (show (xs++[wh x q]).length=i.toNat+1∧xs.length≤8 by
        have h1:xs.length=i.toNat:=by rw[exs,List.length_map,List.length_take];have:=HJ.out;omega
        exact⟨by rw[List.length_append,h1];rfl,by have:=HK.out.r;have:=HJ.out;omega⟩)
       have HTK:=AK htk
       have CS:=AK hx0
       obtain⟨p0,p1,p2,p3⟩:=box4 HT.out.2.g
       clear eq exs htk hx0
       go_wp2_with fail
       clear p0 p1 p2 p3
       have HB:=AK (below_drew (Below.refl u4.heap.size u4))
       refine start_ (n:=13) (S:=(fun w'=>w'.cell? ⟨w4.heap.size+1,1,none⟩=some (.slice Rr i.toNat rr)∧w'.cell? ⟨w4.heap.size,1,none⟩=some (.slice (some adr) l1.length b1)∧w'.cell? (adr.add i.toNat)=some (.int .i64 q))) (ds:=[12]) #[fF,fF,fF,fF,fF,fF,fF,fF,fF,fF,fF,fF,fF] (by kernel_rfl) rfl rfl ⟨pcb HB.out (box4 HT.out.2.o).2.1,pcb HB.out (box4 HT.out.2.g).2.1,pcb (bst HT.out.2.b HB.out) CS.out⟩ (fun hHeld=>?_);refine with_tabW scoll22_tab scoll22_bits (fun HT_ HW_=>?_)
       generalize u4.drew=v5 at HB hHeld ⊢
       refine pU HT_ 0 (some 85) (bM 13 1) ?_
       refine tU HT_ HW_ 1 (some 86) (bM 13 3) hHeld rfl (by refine Or.inl ⟨by rfl,?_⟩;rintro w' ⟨s_0,s_1,s_2⟩;go_simp;with_reducible rfl) ?_
       refine pU HT_ 2 (some 87) (bM 13 7) ?_
       refine pU HT_ 3 (some 88) (bM 13 15) ?_
       refine tU HT_ HW_ 4 (some 89) (bM 13 31) hHeld rfl (by refine Or.inl ⟨by rfl,?_⟩;rintro w' ⟨s_0,s_1,s_2⟩;go_simp;with_reducible rfl) ?_
       refine pU HT_ 5 (some 90) (bM 13 63) ?_
       refine pU HT_ 6 (some 91) (bM 13 127) ?_
       refine tU HT_ HW_ 7 (some 92) (bM 13 255) hHeld rfl (by refine Or.inl ⟨by rfl,?_⟩;rintro w' ⟨s_0,s_1,s_2⟩;go_simp;with_reducible rfl) ?_
       refine one_ (i:=8) (N:=some 93) (bM 13 511) rfl rfl (one_of HT_.out (by kernel_rfl)) (by decide) (fun K_ hK=>?_)
       refine goes_ Tryd.func53 (by kernel_rfl) rfl #[.slice K x.length ck,.int .i64 q] (by rfl) rfl rfl zI ?_
       refine(l2Where_c2 (Kd.R_reads' (Kd.R_below HKN.out (bst HT.out.2.b HB.out))).2.2 (Kd.R_reads' HKN.out).2.1 q).mono ?_
       rintro e v6 ⟨rfl,hd⟩
       refine⟨_,rfl,?_⟩
       replace HB:=AK (bst HB.out hd.below)
       clear hd
       refine hK.out _ _ ⟨pcb HB.out (box4 HT.out.2.o).2.1,pcb HB.out (box4 HT.out.2.g).2.1,pcb (bst HT.out.2.b HB.out) CS.out⟩ (fun hHeld=>?_)
       clear hK K_
       refine nO (some 93) ?_
       refine one_ (i:=9) (N:=some 94) (bM 13 1023) rfl rfl (one_of HT_.out (by kernel_rfl)) (by decide) (fun K_ hK=>?_)
       refine value_ (v:=.slice (some ⟨v6.heap.size,0,none⟩) 1 1) (w1:=v6.alloc (.cells #[.int .i64 (wh x q)] 3 (0,0))) (by rfl) rfl ?hr ?_;(case hr=>first|(go_simp;done)|(go_simp;rfl))
       refine hK.out _ _ ⟨pcb (below_alloc HB.out _) (box4 HT.out.2.o).2.1,pcb (below_alloc HB.out _) (box4 HT.out.2.g).2.1,pcb (bst HT.out.2.b (below_alloc HB.out _)) CS.out⟩ (fun hHeld=>?_)
       clear hK K_
       refine nO (some 94) ?_
       refine one_ (i:=10) (N:=some 95) (bM 13 2047) rfl rfl (one_of HT_.out (by kernel_rfl)) (by decide) (fun K_ hK=>?_)
       have hm6:=HT.out.2.below HB.out
       have hr6:=Kd.R_below HRR.out HB.out
       have hsz:=HB.out.size
       have hn2:=HT.out.1
       have hn1:=HN2.out
       refine Kd.R_append_step (Kd.int .i64) (w0:=w4) (W:=v6) w4.heap.size (by rfl) (.tmp 86) (.tmp 94) 29 3 (.int .i64 0) 8 rfl Tryd.underlying29 info3 rfl (by decide) (by omega) (.slice Rr i.toNat rr) xs (wh x q) [.int .i64 (wh x q)] (fun k=>n2≤k) (fun _=>False) rfl rfl ?aP (fun _ hk=>hk.elim) ?aF ?aO ?aB ?aS ?aL ?_;(case aP=>exact rfl);(case aF=>exact fun k hk=>by omega);(case aO=>exact hr6);(case aB=>exact hm6.b);(case aS=>exact hm6.b.size);(case aL=>have:=HXL.out.2;omega)
       intro v7 w7 ho hb hg hat
       obtain⟨R7,r7,e⟩:=Kd.R_slice ho
       rw[HXL.out.1]at e
       subst e
       have HT7:=AK (hm6.grown hg hb (fun k hk=>⟨hr6.1 k hk,Nat.le_trans hn1 (hr6.1 k hk),Kd.R_typed hr6 k hk⟩))
       have HR7:=AK ho
       have HS7:=AK (show n2≤w7.heap.size from Nat.le_trans (Nat.le_trans hn2 hsz) hg.size)
       clear ho hb hg hat hm6 hr6 hsz hn2 hn1 HB
       refine hK.out _ _ ⟨(box4 HT7.out.o).2.1,(box4 HT7.out.g).2.1,pcb HT7.out.b CS.out⟩ (fun hHeld=>?_)
       clear hK K_
       refine nO (some 95) ?_
       refine pU HT_ 11 (some 96) (bM 13 4095) ?_
       refine last_ (i:=12) (N:=none) #[tT,tT,tT,tT,tT,tT,tT,tT,tT,tT,tT,tT,tT] rfl rfl (one_of HT_.out (by kernel_rfl)) (by decide) (fun K_ hK=>?_)
       obtain⟨z0,z1,z2,z3⟩:=box4 HT7.out.o
       have y1:=bfz HT7.out.o 1
       have N0:=AK (HT7.out.set (Nat.le_succ _) (Nat.ne_of_lt (Nat.lt_succ_self _)) 1 (.slice R7 (i.toNat+1) r7) #[(.slice Ao G.o.length ao),.slice R7 (i.toNat+1) r7,(.slice none 0 0),(.slice none 0 0)] rfl)
       have N1:=AK (Kd.R_set HR7.out HT7.out.o (int_ap 33 (by decide)) 1 (.slice R7 (i.toNat+1) r7))
       have N2:=AK (show n2≤(w7.setCell ⟨w4.heap.size+1,1,none⟩ (.slice R7 (i.toNat+1) r7)).heap.size by rw[size_set];exact HS7.out)
       refine skip_ (w1:=?_) (by rfl) rfl ?_ ?_
       rotate_left
       ·go_simp
        rfl
       clear z0 z1 z2 z3 y1
       refine hK.out _ _ ?_
       clear hK K_
       refine done_ (done_of HT_.out (by kernel_rfl)) ?_
       clear HT_ HW_ hHeld
       go_wp2
       go_roundg k5
       case measure=>omega
       case rel=>
        have h1:=HJ.out
        have h2:=HK.out.r
        rw[wrap_succ i (by omega) (by omega)]
        refine⟨i+1,R7,r7,rfl,⟨by omega,by omega⟩,⟨N2.out,?_⟩,⟨?_⟩⟩
        ·rw[show (i+1).toNat=i.toNat+1 by omega];exact N0.out
        ·rw[HTK.out,show (i+1).toNat=i.toNat+1 by omega];exact N1.out
      | zero=>
       have c82:decide (i<(l1.length:Int))=false:=deF (by have:=HJ.out;omega)
       have hil:i.toNat=l1.length:=by have:=HJ.out;omega
       have hm:=HT.out
       have hr:=HRR.out
       rw[hil,List.take_length,←HGR.out]at hr
       have hlr:l1.length=G.r.length:=by rw[HGR.out,List.length_map]
       rw[show i.toNat=G.r.length by omega]at hm
       rw[hlr]at hr
       have HSZ:=AK hm.1
       replace HT:=AK hm.2
       replace HRR:=AK hr
       obtain⟨p0,p1,p2,p3⟩:=box4 HT.out.g
       clear hm hr hil hlr HJ
       go_wp2_with fail
       clear p0 p1 p2 p3
       refine(l3Moved_c (Kd.C_below HI.out.r2 HT.out.b) HI.out.k2 (Kd.R_reads' (Kd.R_below HKN.out HT.out.b)).2.2 (Kd.R_reads' HKN.out).2.1 (by have:=HK2.out.w;omega)).mono ?_
       rintro e v6 ⟨v,rfl,hr,hb⟩
       rw[←HGW.out]at hr
       obtain⟨Ta,ta,e⟩:=Kd.R_slice hr
       subst e
       have Ha:=AK (R_fresh hr HT.out.b.size)
       have La:=AK (show n2≤u4.heap.size from HSZ.out)
       replace HSZ:=AK (Nat.le_trans HSZ.out hb.size)
       replace HT:=AK (HT.out.below hb)
       replace HRR:=AK (Kd.R_below HRR.out hb)
       clear hr hb
       have N0:=AK (HT.out.set (Nat.le_succ _) (Nat.ne_of_lt (Nat.lt_succ_self _)) 2 (.slice Ta G.w.length ta) #[(.slice Ao G.o.length ao),(.slice Rr G.r.length rr),(.slice Ta G.w.length ta),(.slice none 0 0)] rfl)
       have N1:=AK (Kd.R_set HRR.out HT.out.o (int_ap 33 (by decide)) 2 (.slice Ta G.w.length ta))
       have Na:=AK (Kd.R_set Ha.out HT.out.o (k60_ap 33 (by decide)) 2 (.slice Ta G.w.length ta))
       have NS_:=AK (show n2≤(v6.setCell ⟨w4.heap.size+1,2,none⟩ (.slice Ta G.w.length ta)).heap.size by rw[size_set];exact HSZ.out)
       have y:=bfz HT.out.o 2
       obtain⟨q0,q1,q2,q3⟩:=box4 HT.out.o
       obtain⟨p0,p1,p2,p3⟩:=box4 N0.out.g
       have NSV:=AK (show v6.heap.size≤(v6.setCell ⟨w4.heap.size+1,2,none⟩ (.slice Ta G.w.length ta)).heap.size by rw[size_set];exact Nat.le_refl _)
       go_wp2_with fail
       clear q0 q1 q2 q3 p0 p1 p2 p3 y HT HRR Ha HSZ
       generalize v6.setCell ⟨w4.heap.size+1,2,none⟩ (.slice Ta G.w.length ta)=v7 at N0 N1 Na NS_ NSV ⊢
       have HT:=N0
       have HRR:=N1
       have Ha:=Na
       have HSZ:=NS_
       clear N0 N1 Na NS_
       refine(l3Moved_c (Kd.C_below HI.out.r3 HT.out.b) HI.out.k3 (Kd.R_reads' (Kd.R_below HKN.out HT.out.b)).2.2 (Kd.R_reads' HKN.out).2.1 (by have:=HK2.out.w;omega)).mono ?_
       rintro e v8 ⟨v,rfl,hr,hb⟩
       rw[←HGD.out]at hr
       obtain⟨Tb,tb,e⟩:=Kd.R_slice hr
       subst e
       have Hb:=AK (R_fresh hr HT.out.b.size)
       have Lb:=AK (show n2≤v7.heap.size from HSZ.out)
       replace HSZ:=AK (Nat.le_trans HSZ.out hb.size)
       replace HT:=AK (HT.out.below hb)
       replace HRR:=AK (Kd.R_below HRR.out hb)
       replace Ha:=AK (Kd.R_below Ha.out hb)
       clear hr hb
       have N0:=AK (HT.out.set (Nat.le_succ _) (Nat.ne_of_lt (Nat.lt_succ_self _)) 3 (.slice Tb G.d.length tb) #[(.slice Ao G.o.length ao),(.slice Rr G.r.length rr),(.slice Ta G.w.length ta),(.slice Tb G.d.length tb)] rfl)
       have N1:=AK (Kd.R_set HRR.out HT.out.o (int_ap 33 (by decide)) 3 (.slice Tb G.d.length tb))
       have Na:=AK (Kd.R_set Ha.out HT.out.o (k60_ap 33 (by decide)) 3 (.slice Tb G.d.length tb))
       have Nb:=AK (Kd.R_set Hb.out HT.out.o (k60_ap 33 (by decide)) 3 (.slice Tb G.d.length tb))
       have NS_:=AK (show n2≤(v8.setCell ⟨w4.heap.size+1,3,none⟩ (.slice Tb G.d.length tb)).heap.size by rw[size_set];exact HSZ.out)
       have y:=bfz HT.out.o 3
       obtain⟨q0,q1,q2,q3⟩:=box4 HT.out.o
       obtain⟨p0,p1,p2,p3⟩:=box4 N0.out.g
       have hz:=bbl HW4.out.2 N0.out.b
       obtain⟨z0,z1,z2,z3⟩:=box4 hz
       have y0:=bfz hz 0
       have y1:=bfz hz 1
       have y2:=bfz hz 2
       have y3:=bfz hz 3
       have HZ:=AK hz
       obtain⟨o0,o1,o2,o3⟩:=box4 N0.out.o
       clear hz q0 q1 q2 p0 p1 p2 p3
       go_wp2
       refine bodyPost_ret (results_ct rfl _ _ (w.heap.size+1) 33 #[(.slice Ao G.o.length ao),(.slice Rr G.r.length rr),(.slice Ta G.w.length ta),(.slice Tb G.d.length tb)] (0,0) _ rfl (set4_blk HZ.out) Tryd.underlying33 rfl (by kernel_rfl)) rfl ?_
       exact⟨Ao,ao,Rr,rr,Ta,ta,Tb,tb,M,em,rfl,⟨Kd.S_mono (set4_S (S_lower N0.out.s HW4.out.1.size) HZ.out) (fun k hk=>⟨fun e=>by have:=N1.out.1 k e.symm;have:=hk.2;omega,fun e=>by have:=N0.out.m.1 k e.symm;have:=hk.1;omega⟩),Kd.R_mono (set4_R (Kd.R_lower N1.out HW4.out.1.size) HZ.out (int_ap 33 (by decide))) (fun k hk e=>by have:=N0.out.m.1 k e.symm;have:=HN2.out;omega),
        Kd.R_mono (set4_R (Kd.R_lower Na.out HW4.out.1.size) HZ.out (k60_ap 33 (by decide))) (fun k hk e=>by have:=(Nb.out.1 k e.symm).1;have:=hk.2;have:=NSV.out;omega),Kd.R_mono (set4_R (Kd.R_lower Nb.out HW4.out.1.size) HZ.out (k60_ap 33 (by decide))) (fun k hk e=>by have:=(Na.out.1 k e.symm).2;have:=hk.1;have:=NSV.out;omega),Kd.R_mono (set4_R (Kd.R_lower N0.out.m HW4.out.1.size) HZ.out (int_ap 33 (by decide))) (fun _ _=>trivial)⟩,set4_below (bst HW4.out.1 N0.out.b) (by omega)⟩
end Go.Proofs.YtigjhfijkdlldaaDoor.H
