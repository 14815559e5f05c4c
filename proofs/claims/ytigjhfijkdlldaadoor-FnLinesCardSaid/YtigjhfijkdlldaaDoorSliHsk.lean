import Derived.Test.YtigjhfijkdlldaaDoorSliSd
import Derived.Test.YtigjhfijkdlldaaDoorSliQc
namespace Go.Proofs.YtigjhfijkdlldaaDoor.H
open Go.RowKit Go.Proofs.YtigjhfijkdlldaaDoorW.PrintWords Go.Proofs.YtigjhfijkdlldaaDoorW.PrintLast Go.Proofs.YtigjhfijkdlldaaDoorW.PrintMore Go.Proofs.YtigjhfijkdlldaaDoor.Q
set_option linter.unusedVariables false
set_option linter.unusedSimpArgs false
section
def sOf:ByteArray:=⟨#[32,111,102,32]⟩
def sBad:ByteArray:=⟨#[98,97,100]⟩
def sNl:ByteArray:=⟨#[10]⟩
def sLong:ByteArray:=⟨#[116,111,111,32,108,111,110,103,10]⟩
def lineB (h:Hp) (l:ByteArray):Hp × ByteArray:=
  match eventB (cutB 32 l)with
  | some e=>stepB h e
  | none=>if(tw (cutB 32 l) == [115,105,122,101]) && ((cutB 32 l).length == 1)then(h,(decB (reachL h.o h.r h.d).length++sOf)++decB h.o.length)else(h,sBad)
theorem ev_bounds {ws:List ByteArray} {e:S40} (h:eventB ws=some e):e.f4.f2.length≤ws.length - 2∧(e.f4.f1=⟨#[]⟩∨e.f4.f1=ws.getD 2 ByteArray.empty):=by
  unfold eventB at h
  repeat' split at h
  all_goals first
    | (injection h with h;subst h;simp;done)
    | (injection h with h;subst h;exact⟨by simp,.inl rfl⟩)
    | (injection h with h;subst h;exact⟨by simp,.inr rfl⟩)
    | cases h
def sessB:Hp→List ByteArray→ByteArray→ByteArray
  | _,[],out=>out
  | h,l :: ls,out=>sessB (lineB h l).1 ls (out++((lineB h l).2++sNl))
def linesB (text:ByteArray):List ByteArray:=if((cutB 10 text).getD ((cutB 10 text).length - 1) ByteArray.empty).toList=[]then(cutB 10 text).take ((cutB 10 text).length - 1)else cutB 10 text
def h0:Hp:=⟨[],List.replicate 8 (-1),[],[]⟩
def sessionB (text:ByteArray):ByteArray:=if 6000<text.size∨200<(linesB text).length then sLong else sessB h0 (linesB text) ByteArray.empty
theorem h0_ok:h0.ok=true:=by
  refine OkH.b (l0:=[]) (l2:=[]) (l3:=[]) ⟨by simp,by simp[h0],by simp,by simp,fun p hp=>?_,by simp,by simp⟩
  have:=(List.mem_replicate.1 hp).2
  simp;omega
theorem line_ok {h:Hp} (hk:h.ok=true) (l:ByteArray):(lineB h l).1.ok=true:=by
  unfold lineB
  split
  · exact step_ok h _
  · split<;>exact hk
theorem sees_size {l:List S38} (h:∀o∈l,o.f1.size≤12) (p:Int):(seesB l p).size≤13:=by
  unfold seesB
  split
  · decide
  · split
    · by_cases c:0≤p∧p<l.length
      · have:=h _ (getD_mem l z38 p c.1 c.2)
        show (rd_T38 l p).f1.size≤13
        unfold rd_T38;omega
      · have e : rd_T38 l p = z38 := by
          unfold rd_T38
          rw[List.getD_eq_getElem?_getD,List.getElem?_eq_none (by omega)];rfl
        rw[e];decide
    · split
      · rw[ByteArray.size_append,strOfNums_size]
        show 8+1≤13
        omega
      · split<;>decide
theorem n_no:sNo.size≤13:=by decide
theorem n_ok:sOk.size≤13:=by decide
theorem n_full:sFull.size≤13:=by decide
theorem step_size {h:Hp} (hk:h.ok=true) (e:S40):(stepB h e).2.size≤13:=by
  have ho:∀o∈h.o,o.f1.size≤12:=fun o ho=>ob_text ((ok_parts hk).o o ho)
  unfold stepB
  rw[if_pos hk]
  split
  · unfold doB
    split
    · unfold makesB
      split
      · rename_i c
        split
        · exact n_full
        · refine show (seesB (h.o++[madeO h e]) h.o.length).size≤13 from sees_size (fun o ho2=>?_) _
          rcases List.mem_append.1 ho2 with ho2|ho2
          · exact ho o ho2
          · rw[List.mem_singleton.1 ho2];exact ob_text c
      · exact n_no
    split
    · unfold takesB
      split
      · exact n_no
      · exact sees_size ho _
    split
    · unfold setsB
      split
      · exact n_no
      · exact n_ok
    split
    · exact n_ok
    split
    · unfold watchesB
      split
      · split
        · exact n_full
        · exact n_ok
      · exact n_no
    split
    · unfold asksB
      split
      · exact sees_size ho _
      · exact n_no
    split
    · exact n_ok
    · exact n_no
  · exact n_no
theorem line_size {h:Hp} (hk:h.ok=true) (l:ByteArray):(lineB h l).2.size≤13:=by
  unfold lineB
  split
  · exact step_size hk _
  · split
    · have h1:=decB_size (reachL h.o h.r h.d).length
      have h2:=decB_size h.o.length
      rw[ByteArray.size_append,ByteArray.size_append]
      show _+4+_≤13
      omega
    · show sBad.size≤13;decide
end
section
set_option maxHeartbeats 4000000 in
set_option maxRecDepth 100000 in
theorem l4Watches_calls (v w:World) (A0 A1 A2 A3:Option Addr) (c0 c1 c2 c3:Nat) (G:Hp) (e:S40) (A6:Option Addr) (c6:Nat) (hB:Below v.heap.size v w) (hO:OwnG w v.heap.size A0 c0 A1 c1 A2 c2 A3 c3 G) (hk:OkH G.o G.r G.w G.d) (he:Kd.C (Kd.int .i64) w A6 e.f4.f2.length e.f4.f2) (hc:e.f4.f2.length≤c6) (R:Hp) (s:ByteArray) (hR:(R,s)=watchesB G e) :
  Calls Tryd.prog 37 #[.agg #[.slice A0 G.o.length c0,.slice A1 G.r.length c1,.slice A2 G.w.length c2,.slice A3 G.d.length c3],.agg #[.int .i64 e.f0,.int .i64 e.f1,.int .i64 e.f2,.int .i64 e.f3,.int .i64 e.f4.f0,.string e.f4.f1,.slice A6 e.f4.f2.length c6]] w fun en w'=>∃B0 d0 B1 d1 B2 d2 B3 d3,en=.returned (.tuple #[.agg #[.slice B0 R.o.length d0,.slice B1 R.r.length d1,.slice B2 R.w.length d2,.slice B3 R.d.length d3],.string s]) ∧
   OwnG w' v.heap.size B0 d0 B1 d1 B2 d2 B3 d3 R∧Below v.heap.size v w'∧Keeps w w':=by
 have HK0:=AK hO
 have HOK:=AK hk
 have HR:=AK hR
 have HE0:=AK (And.intro he hc)
 have K0:=AK (WK.start hB hO e A6 c6)
 clear hB hO hk he hc hR
 go_enter Tryd.func37,Tryd.ntmps37
 go_wp2_with fail
 have K:=AK (show WK v w w.heap.size A0 c0 A1 c1 A2 c2 A3 c3 G e A6 c6 (((w.alloc (.cells #[.slice A0 G.o.length c0,.slice A1 G.r.length c1,.slice A2 G.w.length c2,.slice A3 G.d.length c3] 33 (0,0))).alloc (.cells #[.int .i64 e.f0,.int .i64 e.f1,.int .i64 e.f2,.int .i64 e.f3,.int .i64 e.f4.f0,.string e.f4.f1,.slice A6 e.f4.f2.length c6] 37 (0,0))).alloc (.cells #[.slice none 0 0,.slice none 0 0,.slice none 0 0,.slice none 0 0] 33 (0,0)))from K0.out)
 have HWB:=AK (show Below w.heap.size w (((w.alloc (.cells #[.slice A0 G.o.length c0,.slice A1 G.r.length c1,.slice A2 G.w.length c2,.slice A3 G.d.length c3] 33 (0,0))).alloc (.cells #[.int .i64 e.f0,.int .i64 e.f1,.int .i64 e.f2,.int .i64 e.f3,.int .i64 e.f4.f0,.string e.f4.f1,.slice A6 e.f4.f2.length c6] 37 (0,0))).alloc (.cells #[.slice none 0 0,.slice none 0 0,.slice none 0 0,.slice none 0 0] 33 (0,0)))from below_alloc (below_alloc (below_alloc (Below.refl _ _) _) _) _)
 generalize (((w.alloc (.cells #[.slice A0 G.o.length c0,.slice A1 G.r.length c1,.slice A2 G.w.length c2,.slice A3 G.d.length c3] 33 (0,0))).alloc (.cells #[.int .i64 e.f0,.int .i64 e.f1,.int .i64 e.f2,.int .i64 e.f3,.int .i64 e.f4.f0,.string e.f4.f1,.slice A6 e.f4.f2.length c6] 37 (0,0))).alloc (.cells #[.slice none 0 0,.slice none 0 0,.slice none 0 0,.slice none 0 0] 33 (0,0)))=w1 at K HWB ⊢
 generalize w.heap.size=n at K ⊢
 clear K0 HK0
 refine(root_c (p:=e.f1) K.out.own.reads HOK.out.r).mono ?_
 rintro en w2 ⟨rfl,hb⟩
 replace K:=AK (K.out.below hb)
 clear hb
 have hgg:=known_range HOK.out e.f1
 obtain⟨g,eg⟩:∃g,g=knownL G.r e.f1:=⟨_,rfl⟩
 rw[←eg]at hgg ⊢
 have Eg:=AK eg
 clear eg
 obtain⟨p0,p1,p2,p3⟩:=K.out.hc
 obtain⟨q0,q1,q2,q3,q4,q5,q6⟩:=K.out.ec
 go_wp2_with fail
 clear p0 p1 p2 p3 q0 q1 q2 q3 q4 q5 q6
 refine(root_c (p:=e.f2) K.out.own.reads HOK.out.r).mono ?_
 rintro en w3 ⟨rfl,hb⟩
 replace K:=AK (K.out.below hb)
 clear hb
 have hgo:=known_range HOK.out e.f2
 obtain⟨o,eo⟩:∃o,o=knownL G.r e.f2:=⟨_,rfl⟩
 rw[←eo]at hgo ⊢
 have Eo:=AK eo
 clear eo
 by_cases cg:g<0
 case pos=>
  have cg1:decide (g<0)=true:=deT cg
  have he:(R,s)=(G,sNo):=by rw[HR.out];unfold watchesB;rw[←Eg.out,←Eo.out];exact if_neg (by rw[isGuard_iff];intro h;omega)
  injection he with he1 he2
  subst he1 he2
  obtain⟨p0,p1,p2,p3⟩:=K.out.hc
  obtain⟨z0,z1,z2,z3⟩:=K.out.oc
  have y0:=K.out.of 0
  have y1:=K.out.of 1
  have y2:=K.out.of 2
  have y3:=K.out.of 3
  go_wp2
  refine bodyPost_ret (results_ct rfl _ _ (n+2) 33 #[.slice A0 R.o.length c0,.slice A1 R.r.length c1,.slice A2 R.w.length c2,.slice A3 R.d.length c3] (0,0) _ rfl K.out.fin.2.2.1 Tryd.underlying33 rfl (by kernel_rfl)) rfl ?_
  exact⟨A0,c0,A1,c1,A2,c2,A3,c3,rfl,K.out.fin.1,K.out.fin.2.1,K.out.fin.2.2.2⟩
 have cg1:decide (g<0)=false:=deF cg
 by_cases co:o<0
 case pos=>
  have co1:decide (o<0)=true:=deT co
  have he:(R,s)=(G,sNo):=by rw[HR.out];unfold watchesB;rw[←Eg.out,←Eo.out];exact if_neg (by rw[isGuard_iff];intro h;omega)
  injection he with he1 he2
  subst he1 he2
  obtain⟨p0,p1,p2,p3⟩:=K.out.hc
  obtain⟨z0,z1,z2,z3⟩:=K.out.oc
  have y0:=K.out.of 0
  have y1:=K.out.of 1
  have y2:=K.out.of 2
  have y3:=K.out.of 3
  go_wp2
  refine bodyPost_ret (results_ct rfl _ _ (n+2) 33 #[.slice A0 R.o.length c0,.slice A1 R.r.length c1,.slice A2 R.w.length c2,.slice A3 R.d.length c3] (0,0) _ rfl K.out.fin.2.2.1 Tryd.underlying33 rfl (by kernel_rfl)) rfl ?_
  exact⟨A0,c0,A1,c1,A2,c2,A3,c3,rfl,K.out.fin.1,K.out.fin.2.1,K.out.fin.2.2.2⟩
 have co1:decide (o<0)=false:=deF co
 obtain⟨ad,Af,cf,ea,ha0,_,_,_,_⟩:=at_T38 K.out.own.reads.r0 g (by omega) (by omega)
 subst ea
 have hg0:=eq_true (show 0≤g by omega)
 have hg1:=eq_true (show g<(G.o.length:Int)by omega)
 by_cases ck:(rd_T38 G.o g).f0=4
 case neg=>
  have ck1:((rd_T38 G.o g).f0 != 4)=true:=bne_iff_ne.mpr ck
  have he:(R,s)=(G,sNo):=by rw[HR.out];unfold watchesB;rw[←Eg.out,←Eo.out];exact if_neg (by rw[isGuard_iff];intro h;exact ck h.1.2)
  injection he with he1 he2
  subst he1 he2
  obtain⟨p0,p1,p2,p3⟩:=K.out.hc
  obtain⟨z0,z1,z2,z3⟩:=K.out.oc
  have y0:=K.out.of 0
  have y1:=K.out.of 1
  have y2:=K.out.of 2
  have y3:=K.out.of 3
  go_wp2
  refine bodyPost_ret (results_ct rfl _ _ (n+2) 33 #[.slice (some ad) R.o.length c0,.slice A1 R.r.length c1,.slice A2 R.w.length c2,.slice A3 R.d.length c3] (0,0) _ rfl K.out.fin.2.2.1 Tryd.underlying33 rfl (by kernel_rfl)) rfl ?_
  exact⟨(some ad),c0,A1,c1,A2,c2,A3,c3,rfl,K.out.fin.1,K.out.fin.2.1,K.out.fin.2.2.2⟩
 have ck1:((rd_T38 G.o g).f0 != 4)=false:=bne_eq_false_iff_eq.mpr ck
 have hyes:(R,s)=if 20≤G.w.length+G.d.length then(G,sFull)else(⟨G.o,G.r,G.w++[⟨g,o⟩],G.d⟩,sOk):=by
  rw[HR.out];unfold watchesB;rw[←Eg.out,←Eo.out];exact if_pos ⟨(isGuard_iff _ _).2 ⟨by omega,ck⟩,by omega⟩
 clear HR
 have hwb:=HOK.out.w
 have hwr:wrap64 ((G.w.length:Int)+(G.d.length:Int))=(G.w.length:Int)+(G.d.length:Int):=by unfold wrap64;omega
 have hwb1:(G.w.length:Int)≤1152921504606846976:=by omega
 have hwb2:(G.d.length:Int)≤1152921504606846976:=by omega
 by_cases cf:20≤G.w.length+G.d.length
 case pos=>
  rw[if_pos cf]at hyes
  injection hyes with he1 he2
  subst he1 he2
  have cf1:decide (20≤(R.w.length:Int)+(R.d.length:Int))=true:=deT (by omega)
  obtain⟨p0,p1,p2,p3⟩:=K.out.hc
  obtain⟨z0,z1,z2,z3⟩:=K.out.oc
  have y0:=K.out.of 0
  have y1:=K.out.of 1
  have y2:=K.out.of 2
  have y3:=K.out.of 3
  go_wp2
  refine bodyPost_ret (results_ct rfl _ _ (n+2) 33 #[.slice (some ad) R.o.length c0,.slice A1 R.r.length c1,.slice A2 R.w.length c2,.slice A3 R.d.length c3] (0,0) _ rfl K.out.fin.2.2.1 Tryd.underlying33 rfl (by kernel_rfl)) rfl ?_
  exact⟨(some ad),c0,A1,c1,A2,c2,A3,c3,rfl,K.out.fin.1,K.out.fin.2.1,K.out.fin.2.2.2⟩
 rw[if_neg cf]at hyes
 obtain⟨W2,eW2⟩:∃W2,W2=G.w++[(⟨g,o⟩:S60)]:=⟨_,rfl⟩
 rw[←eW2]at hyes
 have EW2:=AK eW2
 clear eW2
 injection hyes with he1 he2
 subst he1 he2
 have cf1:decide (20≤(G.w.length:Int)+(G.d.length:Int))=false:=deF (by omega)
 have HL:=AK (show G.w.length≤20 by omega)
 obtain⟨p0,p1,p2,p3⟩:=K.out.hc
 obtain⟨q0,q1,q2,q3,q4,q5,q6⟩:=K.out.ec
 obtain⟨u4,hu4⟩:∃u,u=w3:=⟨_,rfl⟩
 have hhz:=K.out.hf 2
 have hn:=AK (show v.heap.size≤w3.heap.size from K.out.b.size)
 go_wp2_with ((with_reducible refine gate_dst (N:=47) rfl ?_);at_builtin;refine Kd.R_append k60 (w0:=v) v.heap.size rfl (.tmp 42) (.tmp 46) 31 71 (.agg #[.int .i64 0,.int .i64 0]) 16 rfl Tryd.underlying31 info60 rfl (by decide) (by omega) (.slice A2 G.w.length c2) G.w (⟨g,o⟩:S60) [.int .i64 g,.int .i64 o] (fun k=>some k≠(Value.slice A3 G.d.length c3).ownBlock) (fun _=>False) rfl rfl ?aP (fun _ hk=>hk.elim) ?aF ?aO ?aB ?aS ?aL ?_;(case aP=>exact k60_mkM _ _ _ (⟨g,o⟩:S60));(case aF=>exact fun k hk e=>by have:=Kd.R_lt K.out.own.s3 k e.symm;omega);(case aO=>exact K.out.own.s2);(case aB=>exact K.out.b);(case aS=>exact hn.out);(case aL=>have:=HL.out;omega);intro v47 w4 hr hb hgr hat;rw[←EW2.out]at hr;obtain⟨B2,b2,ee⟩:=Kd.R_slice hr;subst ee;have K4:=AK (K.out.pushW hr hb hgr hat);have hf4:=bfz (blk_grown K.out.h hgr (Kd.R_ne K.out.own.s2 K.out.h (by decide))) 2;have hc4:=box4 (blk_grown K.out.h hgr (Kd.R_ne K.out.own.s2 K.out.h (by decide)));obtain⟨r0,r1,r2,r3⟩:=hc4;obtain⟨s0,s1,s2,s3⟩:=K4.out.hc;obtain⟨z0,z1,z2,z3⟩:=K4.out.oc;have y0:=K4.out.of 0;have y1:=K4.out.of 1;have y2:=K4.out.of 2;have y3:=K4.out.of 3;clear hr hb hgr hat)
 refine bodyPost_ret (results_ct rfl _ _ (n+2) 33 #[.slice (some ad) G.o.length c0,.slice A1 G.r.length c1,.slice B2 W2.length b2,.slice A3 G.d.length c3] (0,0) _ rfl K4.out.fin.2.2.1 Tryd.underlying33 rfl (by kernel_rfl)) rfl ?_
 exact⟨(some ad),c0,A1,c1,B2,b2,A3,c3,rfl,K4.out.fin.1,K4.out.fin.2.1,K4.out.fin.2.2.2⟩
end
section
theorem smk5_tab:rtab .any (opsOf Tryd.f33 5)=(true,[([],[]),([0],[0]),([],[]),([],[]),([],[]),([4],[4]),([],[]),([5,6],[5,6]),([7],[7]),([3,8],[3,8]),([1,2,0,1,2,3,4,5,6,7,8,9],[1,2]),([10,9,9,0,1,2,3,4,5,6,7,8,9],[9,10])]):=by kernel_rfl
theorem smk5_bits:waitsOk [([],[]),([0],[0]),([],[]),([],[]),([],[]),([4],[4]),([],[]),([5,6],[5,6]),([7],[7]),([3,8],[3,8]),([1,2,0,1,2,3,4,5,6,7,8,9],[1,2]),([10,9,9,0,1,2,3,4,5,6,7,8,9],[9,10])] [0,1,0,0,0,16,0,112,240,504,1023,2047]=true:=by kernel_rfl
theorem smk12_tab:rtab .any (opsOf Tryd.f33 12)=(true,[([],[]),([],[]),([],[]),([2],[2]),([],[]),([4],[4]),([3,5],[3,5]),([6],[6]),([1,7],[1,7]),([0,8,0],[0]),([8,9,0,1,2,3,4,5,6,7,8,9],[8])]):=by kernel_rfl
theorem smk12_bits:waitsOk [([],[]),([],[]),([],[]),([2],[2]),([],[]),([4],[4]),([3,5],[3,5]),([6],[6]),([1,7],[1,7]),([0,8,0],[0]),([8,9,0,1,2,3,4,5,6,7,8,9],[8])] [0,0,0,4,0,16,60,124,254,511,1023]=true:=by kernel_rfl
set_option maxHeartbeats 4000000 in
set_option maxRecDepth 100000 in
theorem l4Makes_calls (v w:World) (A0 A1 A2 A3:Option Addr) (c0 c1 c2 c3:Nat) (G:Hp) (e:S40) (A6:Option Addr) (c6:Nat) (hB:Below v.heap.size v w) (hO:OwnG w v.heap.size A0 c0 A1 c1 A2 c2 A3 c3 G) (hk:OkH G.o G.r G.w G.d) (he:Kd.C (Kd.int .i64) w A6 e.f4.f2.length e.f4.f2) (hc:e.f4.f2.length≤c6) (hl6:e.f4.f2.length≤1048576) (hs6:(e.f4.f1.size:Int)≤4611686018427387903) (ht:toB G e=true) (R:Hp) (s:ByteArray) (hR:(R,s)=makesB G e) :
  Calls Tryd.prog 33 #[.agg #[.slice A0 G.o.length c0,.slice A1 G.r.length c1,.slice A2 G.w.length c2,.slice A3 G.d.length c3],.agg #[.int .i64 e.f0,.int .i64 e.f1,.int .i64 e.f2,.int .i64 e.f3,.int .i64 e.f4.f0,.string e.f4.f1,.slice A6 e.f4.f2.length c6]] w fun en w'=>∃B0 d0 B1 d1 B2 d2 B3 d3,en=.returned (.tuple #[.agg #[.slice B0 R.o.length d0,.slice B1 R.r.length d1,.slice B2 R.w.length d2,.slice B3 R.d.length d3],.string s]) ∧
   OwnG w' v.heap.size B0 d0 B1 d1 B2 d2 B3 d3 R∧Below v.heap.size v w'∧Keeps w w':=by
 have HL6:=AK (And.intro hl6 hs6)
 have HTO:=AK (show 0≤e.f1∧e.f1<G.r.length by unfold toB at ht;simpa using ht)
 clear hl6 hs6 ht
 obtain⟨b1,cr,er,_,_,_,_⟩:=Kd.R_form hO.s1 (by have:=HTO.out;omega)
 injection er with er1 er2 er3
 subst er1 er3
 clear er2
 have HK0:=AK hO
 have HOK:=AK hk
 have HR:=AK hR
 have HE0:=AK (And.intro he hc)
 have K0:=AK (WK.start hB hO e A6 c6)
 clear hB hO hk he hc hR
 go_enter Tryd.func33,Tryd.ntmps33
 go_wp2_with fail
 have K:=AK (show WK v w w.heap.size A0 c0 (some ⟨b1,0,none⟩) c1 A2 c2 A3 c3 G e A6 c6 (((w.alloc (.cells #[.slice A0 G.o.length c0,.slice (some ⟨b1,0,none⟩) G.r.length c1,.slice A2 G.w.length c2,.slice A3 G.d.length c3] 33 (0,0))).alloc (.cells #[.int .i64 e.f0,.int .i64 e.f1,.int .i64 e.f2,.int .i64 e.f3,.int .i64 e.f4.f0,.string e.f4.f1,.slice A6 e.f4.f2.length c6] 37 (0,0))).alloc (.cells #[.slice none 0 0,.slice none 0 0,.slice none 0 0,.slice none 0 0] 33 (0,0)))from K0.out)
 have HWB:=AK (show Below w.heap.size w (((w.alloc (.cells #[.slice A0 G.o.length c0,.slice (some ⟨b1,0,none⟩) G.r.length c1,.slice A2 G.w.length c2,.slice A3 G.d.length c3] 33 (0,0))).alloc (.cells #[.int .i64 e.f0,.int .i64 e.f1,.int .i64 e.f2,.int .i64 e.f3,.int .i64 e.f4.f0,.string e.f4.f1,.slice A6 e.f4.f2.length c6] 37 (0,0))).alloc (.cells #[.slice none 0 0,.slice none 0 0,.slice none 0 0,.slice none 0 0] 33 (0,0)))from below_alloc (below_alloc (below_alloc (Below.refl _ _) _) _) _)
 generalize (((w.alloc (.cells #[.slice A0 G.o.length c0,.slice (some ⟨b1,0,none⟩) G.r.length c1,.slice A2 G.w.length c2,.slice A3 G.d.length c3] 33 (0,0))).alloc (.cells #[.int .i64 e.f0,.int .i64 e.f1,.int .i64 e.f2,.int .i64 e.f3,.int .i64 e.f4.f0,.string e.f4.f1,.slice A6 e.f4.f2.length c6] 37 (0,0))).alloc (.cells #[.slice none 0 0,.slice none 0 0,.slice none 0 0,.slice none 0 0] 33 (0,0)))=w1 at K HWB ⊢
 generalize w.heap.size=n at K ⊢
 clear K0 HK0
 refine(l1Obj_c (o:=e.f4) (Kd.C_below HE0.out.1 HWB.out) HE0.out.2 HL6.out.1).mono ?_
 rintro en w2 ⟨vv,rfl,hr,hb⟩
 obtain⟨Rf,rf,ee⟩:=Kd.R_slice hr
 subst ee
 have HN:=AK (And.intro K.out.b.size hb.size)
 have HOW:=AK ((OwnH.toP (P:=fun k=>k<w1.heap.size) K.out.own (fun k _ h=>h)).below (bst hb (below_alloc (Below.refl w2.heap.size w2) (.cells #[.int .i64 e.f4.f0,.string e.f4.f1,.slice Rf e.f4.f2.length rf] 35 (0,0)))))
 have HRF:=AK (Kd.R_below (Kd.R_lower (base':=v.heap.size) (Kd.R_mono (Kd.R_bound hr) (ok':=fun k=>w1.heap.size≤k) (fun k hk=>hk.2.1)) K.out.b.size) (below_alloc (Below.refl w2.heap.size w2) (.cells #[.int .i64 e.f4.f0,.string e.f4.f1,.slice Rf e.f4.f2.length rf] 35 (0,0))))
 have HB6:=AK (blk_new w2 (.cells #[.int .i64 e.f4.f0,.string e.f4.f1,.slice Rf e.f4.f2.length rf] 35 (0,0)))
 replace K:=AK (K.out.below (bst hb (below_alloc (Below.refl w2.heap.size w2) (.cells #[.int .i64 e.f4.f0,.string e.f4.f1,.slice Rf e.f4.f2.length rf] 35 (0,0)))))
 clear hr hb
 go_wp2
 generalize hw3:w2.alloc (.cells #[.int .i64 e.f4.f0,.string e.f4.f1,.slice Rf e.f4.f2.length rf] 35 (0,0))=w3 at K HOW HRF HB6 ⊢
 clear hw3
 have HB6N:=AK (show w1.heap.size≤w2.heap.size from HN.out.2)
 generalize w2.heap.size=b6 at HB6 HB6N ⊢
 go_loopg [7] e.f4.f2.length (fun kq v7 w'=>∃j:Int,v7=.int .i64 j∧Aside0 (0≤j∧j+kq=e.f4.f2.length)∧Aside0 (WK v w n A0 c0 (some ⟨b1,0,none⟩) c1 A2 c2 A3 c3 G e A6 c6 w')∧Aside0 (OwnP w' v.heap.size (fun k=>k<w1.heap.size) A0 c0 (some ⟨b1,0,none⟩) c1 A2 c2 A3 c3 G.o G.r G.w G.d)∧Aside0 (w'.heap[b6]?=some (.cells #[.int .i64 e.f4.f0,.string e.f4.f1,.slice Rf e.f4.f2.length rf] 35 (0,0)))∧Aside0 (Kd.R (Kd.int .i64) 3 w' v.heap.size (fun k=>w1.heap.size≤k) (.slice Rf e.f4.f2.length rf) ((e.f4.f2.take j.toNat).map (knownL G.r)++e.f4.f2.drop j.toNat)))
 case atStart=>exact⟨0,rfl,⟨by omega,by omega⟩,K,HOW,HB6,HRF⟩
 case round=>
  clear K HOW HB6 HRF
  obtain⟨j,rfl,HQ,K,HOW,HB6,HRF⟩:=hrel
  obtain⟨z0,z1,z2⟩:=box3 HB6.out
  cases gk with
  | succ k4=>
   have c15:decide (j<(e.f4.f2.length:Int))=true:=deT (by have:=HQ.out;omega)
   have hj0:=eq_true (show 0≤j by have:=HQ.out;omega)
   have hj1:=eq_true (show j<(e.f4.f2.length:Int)by have:=HQ.out;omega)
   have hml:=mixF_len (knownL G.r) e.f4.f2 j
   have hmr:=mixF_rd (knownL G.r) e.f4.f2 j (by have:=HQ.out;omega) (by have:=HQ.out;omega)
   have hms:=mixF_set (knownL G.r) e.f4.f2 j (by have:=HQ.out;omega) (by have:=HQ.out;omega)
   obtain⟨q,eq⟩:∃q,q=rd e.f4.f2 j:=⟨_,rfl⟩
   rw[←eq]at hmr hms
   obtain⟨mx,emx⟩:∃mx,mx=((e.f4.f2.take j.toNat).map (knownL G.r)++e.f4.f2.drop j.toNat):=⟨_,rfl⟩
   rw[←emx]at hml hmr hms HRF
   have HMS:=AK hms
   obtain⟨ga,cap,ee,_,_,cells,hcells⟩:=Kd.R_form HRF.out (by rw[hml];have:=HQ.out;omega)
   injection ee with e1 e2' e3
   subst e1
   subst e3
   obtain⟨hz,hfz⟩:=RI_at HRF.out j (by have:=HQ.out;omega) (by have:=HQ.out;omega)
   rw[hmr]at hz
   have HGA:=AK (HRF.out.1 ga rfl)
   have HCE:=AK hcells
   have HZ:=AK hz
   clear eq emx hml hmr hms e2' hcells hfz
   go_wp2_with fail
   clear hz z0 z1 z2
   replace K:=AK (K.out.below (below_drew1 (Below.refl _ _)))
   replace HOW:=AK (HOW.out.below (below_drew1 (Below.refl _ _)))
   replace HB6:=AK (blk_drew HB6.out)
   replace HRF:=AK (Kd.R_drew HRF.out)
   replace HCE:=AK (blk_drew HCE.out)
   replace HZ:=AK (pcb (below_drew1 (Below.refl _ _)) HZ.out)
   refine start_ (n:=12) (S:=(fun w'=>w'.cell? ⟨b6,2,none⟩=some (.slice (some ⟨ga,0,none⟩) e.f4.f2.length rf)∧(w'.cell? ⟨n,0,none⟩=some (.slice A0 G.o.length c0)∧w'.cell? ⟨n,1,none⟩=some (.slice (some ⟨b1,0,none⟩) G.r.length c1)∧w'.cell? ⟨n,2,none⟩=some (.slice A2 G.w.length c2)∧w'.cell? ⟨n,3,none⟩=some (.slice A3 G.d.length c3))∧w'.cell? ⟨ga,j.toNat,none⟩=some (.int .i64 q))) (ds:=[11]) #[fF,fF,fF,fF,fF,fF,fF,fF,fF,fF,fF,fF] (by kernel_rfl) rfl rfl ⟨(box3 HB6.out).2.2,K.out.hc,HZ.out⟩ (fun hHeld=>?_);refine with_tabW smk5_tab smk5_bits (fun HT_ HW_=>?_)
   generalize wr.drew=v5 at K HOW HB6 HRF HCE HZ hHeld ⊢
   refine pU HT_ 0 (some 18) (bM 12 1) ?_
   refine tU HT_ HW_ 1 (some 19) (bM 12 3) hHeld rfl (by refine Or.inl ⟨by rfl,?_⟩;rintro w' ⟨s0,⟨s1,s2,s3,s4⟩,s5⟩;go_simp;with_reducible rfl) ?_
   refine pU HT_ 2 (some 20) (bM 12 7) ?_
   refine tU HT_ HW_ 3 (some 21) (bM 12 15) hHeld rfl (by refine Or.inl ⟨by rfl,?_⟩;rintro w' ⟨s0,⟨s1,s2,s3,s4⟩,s5⟩;go_simp;with_reducible rfl) ?_
   refine pU HT_ 4 (some 22) (bM 12 31) ?_
   refine tU HT_ HW_ 5 (some 23) (bM 12 63) hHeld rfl (by refine Or.inl ⟨by rfl,?_⟩;rintro w' ⟨s0,⟨s1,s2,s3,s4⟩,s5⟩;go_simp;with_reducible rfl) ?_
   refine pU HT_ 6 (some 24) (bM 12 127) ?_
   refine pU HT_ 7 (some 25) (bM 12 255) ?_
   refine tU HT_ HW_ 8 (some 26) (bM 12 511) hHeld rfl (by refine Or.inl ⟨by rfl,?_⟩;rintro w' ⟨s0,⟨s1,s2,s3,s4⟩,s5⟩;go_simp;with_reducible rfl) ?_
   refine one_ (i:=9) (N:=some 27) (bM 12 1023) rfl rfl (one_of HT_.out (by kernel_rfl)) (by decide) (fun K_ hK=>?_)
   refine goes_ Tryd.func36 (by kernel_rfl) rfl #[.agg #[.slice A0 G.o.length c0,.slice (some ⟨b1,0,none⟩) G.r.length c1,.slice A2 G.w.length c2,.slice A3 G.d.length c3],.int .i64 q] (by rfl) rfl rfl zI ?_
   refine(root_c (p:=q) K.out.own.reads HOK.out.r).mono ?_
   rintro en v6 ⟨rfl,hb⟩
   refine⟨_,rfl,?_⟩
   replace K:=AK (K.out.below hb)
   replace HOW:=AK (HOW.out.below hb)
   replace HB6:=AK (bbl HB6.out hb)
   replace HRF:=AK (Kd.R_below HRF.out hb)
   replace HCE:=AK (bbl HCE.out hb)
   replace HZ:=AK (pcb hb HZ.out)
   clear hb
   refine hK.out _ _ ⟨(box3 HB6.out).2.2,K.out.hc,HZ.out⟩ (fun hHeld=>?_)
   clear hK K_
   refine nO (some 27) ?_
   refine pU HT_ 10 (some 28) (bM 12 2047) ?_
   refine last_ (i:=11) (N:=none) #[tT,tT,tT,tT,tT,tT,tT,tT,tT,tT,tT,tT] rfl rfl (one_of HT_.out (by kernel_rfl)) (by decide) (fun K_ hK=>?_)
   have N0:=AK (K.out.far HOW.out HGA.out (Nat.le_trans HN.out.1 HGA.out) HCE.out j.toNat (.int .i64 (knownL G.r q)))
   have N1:=AK (HOW.out.far HGA.out j.toNat (.int .i64 (knownL G.r q)))
   have N2:=AK (show (v6.setCell ⟨ga,j.toNat,none⟩ (.int .i64 (knownL G.r q))).heap[b6]?=some (.cells #[.int .i64 e.f4.f0,.string e.f4.f1,.slice (some ⟨ga,0,none⟩) e.f4.f2.length rf] 35 (0,0))from blk_far HB6.out (p:=⟨ga,j.toNat,none⟩) (blk_ne HB6.out HCE.out (by decide)) _)
   have N3:=AK (RI_set HRF.out j (by have:=HQ.out;omega) (by have:=HQ.out;omega) (knownL G.r q))
   rw[HMS.out]at N3
   have hz:=HZ.out
   have hfz:=(RI_at HRF.out j (by have:=HQ.out;omega) (by have:=HQ.out;omega)).2
   refine skip_ (w1:=?_) (by rfl) rfl ?_ ?_
   rotate_left
   ·go_simp
    rfl
   clear hz hfz
   refine hK.out _ _ ?_
   clear hK K_
   refine done_ (done_of HT_.out (by kernel_rfl)) ?_
   clear HT_ HW_ hHeld
   go_wp2
   go_roundg k4
   case measure=>omega
   case rel=>
    have h1:=HQ.out
    have h2:=HL6.out.1
    rw[wrap_succ j (by omega) (by omega)]
    exact⟨j+1,rfl,⟨by omega,by omega⟩,N0,N1,N2,N3⟩
  | zero=>
   have c15:decide (j<(e.f4.f2.length:Int))=false:=deF (by have:=HQ.out;omega)
   have hr:=HRF.out
   rw[take_all _ _ (by have:=HQ.out;omega),drop_end _ _ (by have:=HQ.out;omega),List.append_nil]at hr
   obtain⟨O,eO⟩:∃O,O=madeO G e:=⟨_,rfl⟩
   have EO:=AK eO
   have hOl:e.f4.f2.length=O.f2.length:=by rw[eO];unfold madeO;simp
   have h0:O.f0=e.f4.f0:=by rw[eO];rfl
   have h1:O.f1=e.f4.f1:=by rw[eO];rfl
   have h2:O.f2=e.f4.f2.map (knownL G.r):=by rw[eO];rfl
   rw[←h2,hOl]at hr
   rw[hOl]at c15
   have hb6:=HB6.out
   rw[hOl,←h0,←h1]at hb6
   have hft:Fit O:=⟨by rw[h1];exact HL6.out.2,by rw[←hOl];have:=HL6.out.1;omega⟩
   replace HRF:=AK (show Kd.R (Kd.int .i64) 3 wr v.heap.size (fun k=>w1.heap.size≤k) (.slice Rf O.f2.length rf) O.f2 from hr)
   replace HB6:=AK (show wr.heap[b6]?=some (.cells #[.int .i64 O.f0,.string O.f1,.slice Rf O.f2.length rf] 35 (0,0))from hb6)
   have HFT:=AK hft
   clear hr eO hOl h0 h1 h2 hb6 hft z0 z1 z2
   obtain⟨p0,p1,p2,p3⟩:=K.out.hc
   obtain⟨x0,x1,x2⟩:=box3 HB6.out
   go_wp2_with fail
   clear x0 x1 x2
   clear p0 p1 p2 p3
   refine(l1ObjOk_c ⟨by omega,by have:=HOK.out.n;omega⟩ HFT.out (Kd.R_reads' HRF.out).2.2).mono ?_
   rintro en w5 ⟨rfl,hb⟩
   replace K:=AK (K.out.below hb)
   replace HOW:=AK (HOW.out.below hb)
   replace HB6:=AK (bbl HB6.out hb)
   replace HRF:=AK (Kd.R_below HRF.out hb)
   clear hb HFT
   have hmk:(R,s)=if obB G.o.length O=true then(if 60≤G.o.length then(G,sFull)else(⟨G.o++[O],G.r.set e.f1.toNat G.o.length,G.w,G.d⟩,seesB (G.o++[O]) G.o.length))else(G,sNo):=by rw[HR.out,EO.out];rfl
   clear HR
   by_cases cb:obB G.o.length O=true
   case neg=>
    rw[if_neg cb]at hmk
    have cbf:obB G.o.length O=false:=by simpa using cb
    rw[cbf]
    injection hmk with he1 he2
    subst he1 he2
    obtain⟨p0,p1,p2,p3⟩:=K.out.hc
    obtain⟨z0,z1,z2,z3⟩:=K.out.oc
    have y0:=K.out.of 0
    have y1:=K.out.of 1
    have y2:=K.out.of 2
    have y3:=K.out.of 3
    go_wp2
    refine bodyPost_ret (results_ct rfl _ _ (n+2) 33 #[.slice A0 R.o.length c0,.slice (some ⟨b1,0,none⟩) R.r.length c1,.slice A2 R.w.length c2,.slice A3 R.d.length c3] (0,0) _ rfl K.out.fin.2.2.1 Tryd.underlying33 rfl (by kernel_rfl)) rfl ?_
    exact⟨A0,c0,(some ⟨b1,0,none⟩),c1,A2,c2,A3,c3,rfl,K.out.fin.1,K.out.fin.2.1,K.out.fin.2.2.2⟩
   have HCB:=AK cb
   rw[if_pos cb]at hmk
   rw[cb]
   clear cb
   have hno:=HOK.out.n
   by_cases cf:60≤G.o.length
   case pos=>
    rw[if_pos cf]at hmk
    injection hmk with he1 he2
    subst he1 he2
    have cf1:decide (60≤(R.o.length:Int))=true:=deT (by omega)
    obtain⟨p0,p1,p2,p3⟩:=K.out.hc
    obtain⟨z0,z1,z2,z3⟩:=K.out.oc
    have y0:=K.out.of 0
    have y1:=K.out.of 1
    have y2:=K.out.of 2
    have y3:=K.out.of 3
    go_wp2
    refine bodyPost_ret (results_ct rfl _ _ (n+2) 33 #[.slice A0 R.o.length c0,.slice (some ⟨b1,0,none⟩) R.r.length c1,.slice A2 R.w.length c2,.slice A3 R.d.length c3] (0,0) _ rfl K.out.fin.2.2.1 Tryd.underlying33 rfl (by kernel_rfl)) rfl ?_
    exact⟨A0,c0,(some ⟨b1,0,none⟩),c1,A2,c2,A3,c3,rfl,K.out.fin.1,K.out.fin.2.1,K.out.fin.2.2.2⟩
   rw[if_neg cf]at hmk
   have cf1:decide (60≤(G.o.length:Int))=false:=deF (by omega)
   obtain⟨O2,eO2⟩:∃O2,O2=G.o++[O]:=⟨_,rfl⟩
   obtain⟨p,ep⟩:∃p:Int,p=G.o.length:=⟨_,rfl⟩
   obtain⟨r2,er2⟩:∃r2,r2=G.r.set e.f1.toNat p:=⟨_,rfl⟩
   rw[←eO2,←ep,←er2]at hmk
   have hO2:(O2.length:Int)=G.o.length+1:=by rw[eO2,List.length_append];rfl
   have hpp:(O2.length:Int) - 1=p:=by omega
   have hwr:wrap64 ((O2.length:Int) - 1)=p:=by unfold wrap64;omega
   have hob:(O2.length:Int)≤1152921504606846976:=by omega
   have hob1:1≤(O2.length:Int):=by omega
   have hi0:=eq_true (show 0≤e.f1 from HTO.out.1)
   have hi1:=eq_true (show e.f1<(G.r.length:Int)from HTO.out.2)
   have HO2:=AK (And.intro eO2 (And.intro ep er2))
   have HRL:=AK (show r2.length=G.r.length by rw[er2,List.length_set])
   have HRD:=AK (show rd r2 e.f1=p by
    rw[er2];unfold rd;rw[List.getD_eq_getElem?_getD,List.getElem?_set_self (by have:=HTO.out;omega)];rfl)
   have HOP:=AK (show p<O2.length∧(rd_T38 O2 p).f2.length≤6 by
    refine⟨by omega,?_⟩
    have h3:rd_T38 O2 p=O:=by rw[eO2,ep];unfold rd_T38;rw[Int.toNat_natCast,List.getD_eq_getElem?_getD];simp
    rw[h3];exact(ob_small2 HCB.out).2)
   have HL:=AK hno
   injection hmk with he1 he2
   subst he1 he2
   clear eO2 ep er2 hO2 hno cf
   obtain⟨p0,p1,p2,p3⟩:=K.out.hc
   obtain⟨t0,t1,t2⟩:=box3 HB6.out
   go_wp2_with ((with_reducible refine gate_dst (N:=45) rfl ?_);at_builtin;refine Kd.S_append k38 (w0:=v) v.heap.size rfl (.tmp 42) (.tmp 44) 30 35 (.agg #[.int .i64 0,.string ⟨#[]⟩,.slice none 0 0]) 48 rfl Tryd.underlying30 info38 rfl (by decide) (by omega) (.slice A0 G.o.length c0) G.o O [.int .i64 O.f0,.string O.f1,.slice Rf O.f2.length rf] (fun k=>some k≠(Value.slice (some ⟨b1,0,none⟩) G.r.length c1).ownBlock) (fun k=>some k=(Value.slice Rf O.f2.length rf).ownBlock) rfl rfl ?aP ?aK ?aF ?aO ?aB ?aS ?aL ?_;(case aP=>exact k38_mkM _ _ _ O (Kd.R_tight rfl HRF.out));(case aK=>exact fun k hk=>⟨fun ee=>by have h3:=HRF.out.1 k hk.symm;have h4:k<w1.heap.size:=HOW.out.s1.1 k ee.symm;omega,fun ee=>by have h3:=HRF.out.1 k hk.symm;have h4:=((Kd.S_R HOW.out.s0).1 k ee.symm).1;omega⟩);(case aF=>exact fun k hk ee=>by have h3:=Kd.R_lt K.out.own.s1 k ee.symm;omega);(case aO=>exact Kd.S_mono HOW.out.s0 (fun k hk=>⟨hk.2,fun ee=>by have h3:=HRF.out.1 k ee.symm;have h4:=hk.1;omega⟩));(case aB=>exact K.out.b);(case aS=>exact K.out.b.size);(case aL=>have:=HL.out;omega);intro v45 w6 hs hb hgr hat;rw[←HO2.out.1]at hs;obtain⟨B0,b0,ee⟩:=Kd.S_slice hs;subst ee;have K5:=AK (K.out.pushO hs hb hgr);have hh:=blk_grown K.out.h hgr (Kd.S_ne K.out.own.s0 K.out.h (by decide));obtain⟨r0,r1,r2_,r3⟩:=box4 hh;have hf4:=bfz hh 0;obtain⟨s0,s1,s2,s3⟩:=K5.out.hc;obtain⟨q0,q1,q2,q3,q4,q5,q6⟩:=K5.out.ec;obtain⟨x0,xf⟩:=RI_at K5.out.own.s1 e.f1 HTO.out.1 HTO.out.2;have K6:=AK (K5.out.setR e.f1 HTO.out.1 HTO.out.2 p HO2.out.2.2);have HRT:=AK ((RI_at K6.out.own.s1 e.f1 HTO.out.1 (by rw[show (r2.length:Int)=G.r.length by rw[HRL.out]];exact HTO.out.2)).1.trans (by rw[HRD.out]));clear hs hb hgr hat hh)
   clear p0 p1 p2 p3 t0 t1 t2 r0 r1 r2_ r3 hf4 s0 s1 s2 s3 q0 q1 q2 q3 q4 q5 q6 x0 xf
   generalize (w6.setCell ⟨n,0,none⟩ (.slice B0 O2.length b0)).setCell ⟨b1,e.f1.toNat,none⟩ (.int .i64 p)=w7 at K6 HRT ⊢
   have hi2:=eq_true (show e.f1<(r2.length:Int)by rw[show (r2.length:Int)=G.r.length by rw[HRL.out]];exact HTO.out.2)
   replace HRT:=AK (show (World.drew w7).cell? _=_ from pcb (below_drew1 (Below.refl _ _)) HRT.out)
   replace K6:=AK (K6.out.below (below_drew1 (Below.refl _ _)))
   refine start_ (n:=11) (S:=(fun w'=>(w'.cell? ⟨n,0,none⟩=some (.slice B0 O2.length b0)∧w'.cell? ⟨n,1,none⟩=some (.slice (some ⟨b1,0,none⟩) r2.length c1)∧w'.cell? ⟨n,2,none⟩=some (.slice A2 G.w.length c2)∧w'.cell? ⟨n,3,none⟩=some (.slice A3 G.d.length c3))∧w'.cell? ⟨n+1,1,none⟩=some (.int .i64 e.f1)∧w'.cell? ⟨b1,e.f1.toNat,none⟩=some (.int .i64 p))) (ds:=[9]) #[fF,fF,fF,fF,fF,fF,fF,fF,fF,fF,fF] (by kernel_rfl) rfl rfl ⟨K6.out.hc,K6.out.ec.2.1,HRT.out⟩ (fun hHeld=>?_);refine with_tabW smk12_tab smk12_bits (fun HT_ HW_=>?_)
   generalize w7.drew=v5 at HRT K6 hHeld ⊢
   refine tU HT_ HW_ 0 (some 56) (bM 11 1) hHeld rfl (by refine Or.inl ⟨by rfl,?_⟩;rintro w' ⟨⟨s0,s1,s2,s3⟩,s4,s5⟩;go_simp;with_reducible rfl) ?_
   refine tU HT_ HW_ 1 (some 57) (bM 11 3) hHeld rfl (by refine Or.inl ⟨by rfl,?_⟩;rintro w' ⟨⟨s0,s1,s2,s3⟩,s4,s5⟩;go_simp;with_reducible rfl) ?_
   refine pU HT_ 2 (some 58) (bM 11 7) ?_
   refine tU HT_ HW_ 3 (some 59) (bM 11 15) hHeld rfl (by refine Or.inl ⟨by rfl,?_⟩;rintro w' ⟨⟨s0,s1,s2,s3⟩,s4,s5⟩;go_simp;with_reducible rfl) ?_
   refine pU HT_ 4 (some 60) (bM 11 31) ?_
   refine tU HT_ HW_ 5 (some 61) (bM 11 63) hHeld rfl (by refine Or.inl ⟨by rfl,?_⟩;rintro w' ⟨⟨s0,s1,s2,s3⟩,s4,s5⟩;go_simp;with_reducible rfl) ?_
   refine pU HT_ 6 (some 62) (bM 11 127) ?_
   refine tU HT_ HW_ 7 (some 63) (bM 11 255) hHeld rfl (by refine Or.inl ⟨by rfl,?_⟩;rintro w' ⟨⟨s0,s1,s2,s3⟩,s4,s5⟩;go_simp;with_reducible rfl) ?_
   refine one_ (i:=8) (N:=some 64) (bM 11 511) rfl rfl (one_of HT_.out (by kernel_rfl)) (by decide) (fun K_ hK=>?_)
   refine goes_ Tryd.func35 (by kernel_rfl) rfl #[.agg #[.slice B0 O2.length b0,.slice (some ⟨b1,0,none⟩) r2.length c1,.slice A2 G.w.length c2,.slice A3 G.d.length c3],.int .i64 p] (by rfl) rfl rfl zI ?_
   refine(sees_c K6.out.own.reads HOP.out.1 (fun _=>HOP.out.2)).mono ?_
   rintro en v6 ⟨rfl,hb⟩
   refine⟨_,rfl,?_⟩
   replace HRT:=AK (pcb hb HRT.out)
   replace K6:=AK (K6.out.below hb)
   clear hb
   refine hK.out _ _ ⟨K6.out.hc,K6.out.ec.2.1,HRT.out⟩ (fun hHeld=>?_)
   clear hK K_
   refine nO (some 64) ?_
   refine last_ (i:=9) (N:=none) #[tT,tT,tT,tT,tT,tT,tT,tT,tT,tT,fF] rfl rfl (one_of HT_.out (by kernel_rfl)) (by decide) (fun K_ hK=>?_)
   obtain⟨z0,z1,z2,z3⟩:=K6.out.oc
   have y0:=K6.out.of 0
   have y1:=K6.out.of 1
   have y2:=K6.out.of 2
   have y3:=K6.out.of 3
   refine skip_ (w1:=?_) (by rfl) rfl ?_ ?_
   rotate_left
   ·go_simp
    rfl
   clear z0 z1 z2 z3 y0 y1 y2 y3
   refine hK.out _ _ ?_
   clear hK K_
   refine pU HT_ 10 (some 5) (bM 11 2047) ?_
   refine done_ (done_of HT_.out (by kernel_rfl)) ?_
   clear HT_ HW_ hHeld
   go_wp2
   refine bodyPost_ret (results_ct rfl _ _ (n+2) 33 #[.slice B0 O2.length b0,.slice (some ⟨b1,0,none⟩) r2.length c1,.slice A2 G.w.length c2,.slice A3 G.d.length c3] (0,0) _ rfl K6.out.fin.2.2.1 Tryd.underlying33 rfl (by kernel_rfl)) rfl ?_
   exact⟨B0,b0,(some ⟨b1,0,none⟩),c1,A2,c2,A3,c3,rfl,K6.out.fin.1,K6.out.fin.2.1,K6.out.fin.2.2.2⟩
end
end Go.Proofs.YtigjhfijkdlldaaDoor.H
