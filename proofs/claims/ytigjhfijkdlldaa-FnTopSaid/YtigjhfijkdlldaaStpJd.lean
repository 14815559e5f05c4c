import Derived.Test.YtigjhfijkdlldaaStpQc
import Derived.Test.YtigjhfijkdlldaaStpHsd
import Derived.Test.YtigjhfijkdlldaaStpPr
import Derived.Test.YtigjhfijkdlldaaStpQb
import Derived.Test.YtigjhfijkdlldaaStpPz
import Derived.Test.YtigjhfijkdlldaaStpHlc
namespace Go.Proofs.Ytigjhfijkdlldaa.H
open Go.RowKit Go.Proofs.YtigjhfijkdlldaaW.PrintWords Go.Proofs.YtigjhfijkdlldaaW.PrintLast Go.Proofs.YtigjhfijkdlldaaW.PrintMore Go.Proofs.Ytigjhfijkdlldaa.Q
set_option linter.unusedVariables false
set_option linter.unusedSimpArgs false
section
structure SK (v w0:World) (n:Nat) (X E:Array Value) (w':World):Prop where
  b:Below v.heap.size v w'
  bw:Below w0.heap.size w0 w'
  n0:v.heap.size≤n
  h:w'.heap[n]?=some (.cells X 28 (0,0))
  e:w'.heap[n+1]?=some (.cells E 40 (0,0))
  o:w'.heap[n+2]?=some (.cells nilC 28 (0,0))
section
variable {v w0 w w1:World} {n:Nat} {X E:Array Value}
theorem SK.below (h:SK v w0 n X E w) (hb:Below w.heap.size w w1):SK v w0 n X E w1:=
  ⟨bst h.b hb,bst h.bw hb,h.n0,bbl h.h hb,bbl h.e hb,bbl h.o hb⟩
theorem SK.start (hB:Below v.heap.size v w) (X E:Array Value):SK v w w.heap.size X E (((w.alloc (.cells X 28 (0,0))).alloc (.cells E 40 (0,0))).alloc (.cells nilC 28 (0,0))):=by
  have hb:=below_alloc (below_alloc (below_alloc (Below.refl w.heap.size w) (.cells X 28 (0,0))) (.cells E 40 (0,0))) (.cells nilC 28 (0,0))
  refine⟨bst hB hb,hb,hB.size,blk_alloc (blk_alloc (blk_new w _) _) _,blk_alloc ?_ _,?_⟩
  · have:=blk_new (w.alloc (.cells X 28 (0,0))) (.cells E 40 (0,0))
    rwa [show (w.alloc (.cells X 28 (0,0))).heap.size=w.heap.size+1 from Array.size_push ..]at this
  · have:=blk_new ((w.alloc (.cells X 28 (0,0))).alloc (.cells E 40 (0,0))) (.cells nilC 28 (0,0))
    rwa [show ((w.alloc (.cells X 28 (0,0))).alloc (.cells E 40 (0,0))).heap.size=w.heap.size+2 by
      rw[show ((w.alloc (.cells X 28 (0,0))).alloc (.cells E 40 (0,0))).heap.size=(w.alloc (.cells X 28 (0,0))).heap.size+1 from Array.size_push ..,show (w.alloc (.cells X 28 (0,0))).heap.size=w.heap.size+1 from Array.size_push ..]]at this
theorem SK.oc (h:SK v w0 n X E w):w.cell? ⟨n+2,0,none⟩=some (.slice none 0 0)∧w.cell? ⟨n+2,1,none⟩=some (.slice none 0 0)∧w.cell? ⟨n+2,2,none⟩=some (.slice none 0 0)∧w.cell? ⟨n+2,3,none⟩=some (.slice none 0 0):=box4 h.o
theorem SK.of (h:SK v w0 n X E w) (j:Nat):w.frozen? ⟨n+2,j,none⟩=false:=bfz h.o j
theorem ec7 {e:S40} {A6:Option Addr} {c6:Nat} {g:Nat} (h:w.heap[g]?=some (.cells (evC e A6 c6) 40 (0,0))):w.cell? ⟨g,0,none⟩=some (.int .i64 e.f0)∧w.cell? ⟨g,1,none⟩=some (.int .i64 e.f1)∧w.cell? ⟨g,2,none⟩=some (.int .i64 e.f2)∧w.cell? ⟨g,3,none⟩=some (.int .i64 e.f3)∧w.cell? ⟨g,4,none⟩=some (.int .i64 e.f4.f0)∧w.cell? ⟨g,5,none⟩=some (.string e.f4.f1)∧w.cell? ⟨g,6,none⟩=some (.slice A6 e.f4.f2.length c6):=
  ⟨(bcl h 0).trans rfl,(bcl h 1).trans rfl,(bcl h 2).trans rfl,(bcl h 3).trans rfl,(bcl h 4).trans rfl,(bcl h 5).trans rfl,(bcl h 6).trans rfl⟩
end
end
section
set_option maxHeartbeats 4000000 in
set_option maxRecDepth 100000 in
theorem specStep_calls (v w:World) (A0 A1 A2 A3:Option Addr) (c0 c1 c2 c3:Nat) (G:Hp) (e:S40) (A6:Option Addr) (c6:Nat) (hB:Below v.heap.size v w) (h:InH w A0 c0 A1 c1 A2 c2 A3 c3 G.o G.r G.w G.d) (hf:Fine G.o G.r G.w G.d) (he:Kd.C (Kd.int .i64) w A6 e.f4.f2.length e.f4.f2) (hc:e.f4.f2.length≤c6) (hl6:e.f4.f2.length≤1048576) (hs6:(e.f4.f1.size:Int)≤4611686018427387903) (R:Hp) (s:ByteArray) (hR:(R,s)=stepB G e) :
  Calls Try.prog 47 #[.agg #[.slice A0 G.o.length c0,.slice A1 G.r.length c1,.slice A2 G.w.length c2,.slice A3 G.d.length c3],.agg #[.int .i64 e.f0,.int .i64 e.f1,.int .i64 e.f2,.int .i64 e.f3,.int .i64 e.f4.f0,.string e.f4.f1,.slice A6 e.f4.f2.length c6]] w fun en w'=>∃B0 d0 B1 d1 B2 d2 B3 d3,en=.returned (.tuple #[.agg #[.slice B0 R.o.length d0,.slice B1 R.r.length d1,.slice B2 R.w.length d2,.slice B3 R.d.length d3],.string s]) ∧
   OwnG w' v.heap.size B0 d0 B1 d1 B2 d2 B3 d3 R∧Below v.heap.size v w':=by
 have HI:=AK h
 have HF:=AK hf
 have HE0:=AK (And.intro he hc)
 have HL6:=AK (And.intro hl6 hs6)
 have HR:=AK hR
 obtain⟨b,eb⟩:∃b,b=okB G.o G.r G.w G.d:=⟨_,rfl⟩
 have EB:=AK eb
 have K0:=AK (SK.start hB (hpC A0 c0 A1 c1 A2 c2 A3 c3 G) (evC e A6 c6))
 clear hB h hf he hc hl6 hs6 hR eb
 go_enter Try.func47,Try.ntmps47
 go_wp2_with fail
 have K:=AK (show SK v w w.heap.size (hpC A0 c0 A1 c1 A2 c2 A3 c3 G) (evC e A6 c6) (((w.alloc (.cells #[.slice A0 G.o.length c0,.slice A1 G.r.length c1,.slice A2 G.w.length c2,.slice A3 G.d.length c3] 28 (0,0))).alloc (.cells #[.int .i64 e.f0,.int .i64 e.f1,.int .i64 e.f2,.int .i64 e.f3,.int .i64 e.f4.f0,.string e.f4.f1,.slice A6 e.f4.f2.length c6] 40 (0,0))).alloc (.cells #[.slice none 0 0,.slice none 0 0,.slice none 0 0,.slice none 0 0] 28 (0,0)))from K0.out)
 generalize (((w.alloc (.cells #[.slice A0 G.o.length c0,.slice A1 G.r.length c1,.slice A2 G.w.length c2,.slice A3 G.d.length c3] 28 (0,0))).alloc (.cells #[.int .i64 e.f0,.int .i64 e.f1,.int .i64 e.f2,.int .i64 e.f3,.int .i64 e.f4.f0,.string e.f4.f1,.slice A6 e.f4.f2.length c6] 40 (0,0))).alloc (.cells #[.slice none 0 0,.slice none 0 0,.slice none 0 0,.slice none 0 0] 28 (0,0)))=w1 at K ⊢
 generalize w.heap.size=n at K ⊢
 clear K0
 refine(specOk_c (HI.out.below K.out.bw) (by have:=HF.out.o;omega) HF.out.f (by have:=HF.out.r;omega) (by have:=HF.out.w;omega)).mono ?_
 rintro en w2 ⟨rfl,hb⟩
 rw[←EB.out]
 replace K:=AK (K.out.below hb)
 clear hb
 cases b with
 | false=>
  have he:(R,s)=(hp0,sNo):=by rw[HR.out];unfold stepB Hp.ok;rw[←EB.out];rfl
  injection he with he1 he2
  subst he1 he2
  obtain⟨z0,z1,z2,z3⟩:=K.out.oc
  have y0:=K.out.of 0
  have y1:=K.out.of 1
  have y2:=K.out.of 2
  have y3:=K.out.of 3
  go_wp2
  refine bodyPost_ret (results_ct rfl _ _ (n+2) 28 #[.slice none 0 0,.slice none 0 0,.slice none 0 0,.slice none 0 0] (0,0) _ rfl (set4_blk K.out.o) Try.underlying28 rfl (by kernel_rfl)) rfl ?_
  exact⟨none,0,none,0,none,0,none,0,rfl,⟨Kd.S_nil _ _ _ _ _,Kd.R_nil _ _ _ _ _,Kd.R_nil _ _ _ _ _,Kd.R_nil _ _ _ _ _⟩,set4_below K.out.b (by have:=K.out.n0;omega)⟩
 | true=>
 have HK:=AK (ok_parts EB.out.symm)
 have HST:=AK (show (R,s)=if e.f0=7∨toB G e=true then doB G e else(G,sNo)by rw[HR.out];unfold stepB Hp.ok;rw[←EB.out];rfl)
 clear HR
 obtain⟨p0,p1,p2,p3⟩:=box4 K.out.h
 go_wp2_with fail
 clear p0 p1 p2 p3
 refine(l1Copy_calls _ _ _ _ _ _ _ _ _ _ _ _ _ (HI.out.below K.out.bw) (lim_ok HK.out)).mono ?_
 rintro en w3 ⟨B0,b0,B1,b1,B2,b2,B3,b3,rfl,hO,hb⟩
 have HO:=AK (OwnH.lower hO K.out.b.size)
 replace K:=AK (K.out.below hb)
 have HX:=AK (blk_new w3 (.cells #[.slice B0 G.o.length b0,.slice B1 G.r.length b1,.slice B2 G.w.length b2,.slice B3 G.d.length b3] 28 (0,0)))
 have HXB:=AK (below_alloc (Below.refl w3.heap.size w3) (.cells #[.slice B0 G.o.length b0,.slice B1 G.r.length b1,.slice B2 G.w.length b2,.slice B3 G.d.length b3] 28 (0,0)))
 have K4:=AK (K.out.below HXB.out)
 have HO4:=AK (HO.out.below HXB.out)
 clear hO hb K HO HXB
 have hwl:=HK.out.r
 by_cases c7:e.f0=7
 case pos=>
  have f7:(e.f0 != 7)=false:=bne_eq_false_iff_eq.mpr c7
  have HDO:=AK (show (R,s)=doB G e by rw[HST.out,if_pos (.inl c7)])
  have HC7:=AK c7
  clear c7
  obtain⟨q0,q1,q2,q3,q4,q5,q6⟩:=ec7 K4.out.e
  go_wp2_with fail
  clear q0 q1 q2 q3 q4 q5 q6 f7
  generalize (w3.alloc (.cells #[.slice B0 G.o.length b0,.slice B1 G.r.length b1,.slice B2 G.w.length b2,.slice B3 G.d.length b3] 28 (0,0)))=w4 at K4 HX HO4 ⊢
  refine(l4Do_calls v w4 B0 B1 B2 B3 b0 b1 b2 b3 G e A6 c6 K4.out.b HO4.out HK.out (Kd.C_below HE0.out.1 K4.out.bw) HE0.out.2 HL6.out.1 HL6.out.2 (.inl HC7.out) R s HDO.out).mono ?_
  rintro en w6 ⟨D0,d0,D1,d1,D2,d2,D3,d3,rfl,hO6,hb6,hkp⟩
  have HZ:=AK (show w6.heap[n+2]?=some (.cells #[.slice none 0 0,.slice none 0 0,.slice none 0 0,.slice none 0 0] 28 (0,0))from hkp _ _ _ K4.out.o (by decide) (by decide) (by decide))
  have HN:=AK K4.out.n0
  have HY:=AK (below_alloc (Below.refl w6.heap.size w6) (.cells #[.slice D0 R.o.length d0,.slice D1 R.r.length d1,.slice D2 R.w.length d2,.slice D3 R.d.length d3] 28 (0,0)))
  have HB7:=AK (bst hb6 HY.out)
  have HZ7:=AK (bbl HZ.out HY.out)
  have HI7:=AK (hO6.below HY.out).reads
  have HRK:=AK (ok_parts (show okB R.o R.r R.w R.d=true by have h:=do_ok (h:=G) (EB.out.symm) e;rw[←HDO.out]at h;exact h))
  clear hO6 hb6 hkp K4 HO4 HX HZ HY
  go_wp2_with fail
  refine(l1Copy_calls _ _ _ _ _ _ _ _ _ _ _ _ _ HI7.out (lim_ok HRK.out)).mono ?_
  rintro en w8 ⟨F0,e0,F1,e1,F2,e2,F3,e3,rfl,hO8,hb8⟩
  have HZ8:=AK (bbl HZ7.out hb8)
  have HB8:=AK (bst HB7.out hb8)
  have HO8:=AK (OwnH.lower hO8 HB7.out.size)
  clear hO8 hb8
  obtain⟨z0,z1,z2,z3⟩:=box4 HZ8.out
  have y0:=bfz HZ8.out 0
  have y1:=bfz HZ8.out 1
  have y2:=bfz HZ8.out 2
  have y3:=bfz HZ8.out 3
  go_wp2
  refine bodyPost_ret (results_ct rfl _ _ (n+2) 28 #[.slice F0 R.o.length e0,.slice F1 R.r.length e1,.slice F2 R.w.length e2,.slice F3 R.d.length e3] (0,0) _ rfl (set4_blk HZ8.out) Try.underlying28 rfl (by kernel_rfl)) rfl ?_
  exact⟨F0,e0,F1,e1,F2,e2,F3,e3,rfl,HO8.out.set4 HZ8.out,set4_below HB8.out (by have:=HN.out;omega)⟩
 have f7:(e.f0 != 7)=true:=bne_iff_ne.mpr c7
 have HC7:=AK c7
 clear c7
 obtain⟨q0,q1,q2,q3,q4,q5,q6⟩:=ec7 K4.out.e
 obtain⟨p0,p1,p2,p3⟩:=box4 K4.out.h
 have hwr:wrap64 ((G.r.length:Int) - 1)=(G.r.length:Int) - 1:=by unfold wrap64;omega
 go_wp2_with fail
 clear q0 q1 q2 q3 q4 q5 q6 p0 p1 p2 p3 f7 hwr
 generalize (w3.alloc (.cells #[.slice B0 G.o.length b0,.slice B1 G.r.length b1,.slice B2 G.w.length b2,.slice B3 G.d.length b3] 28 (0,0)))=w4 at K4 HX HO4 ⊢
 generalize w3.heap.size=m at HX ⊢
 refine l1In_c.mono ?_
 rintro en w5 ⟨rfl,rfl⟩
 rw[show lB e.f1 0 ((G.r.length:Int) - 1)=toB G e by unfold lB toB;congr 1;exact decide_eq_decide.2 (by omega)]
 obtain⟨b2_,eb2⟩:∃b2_,b2_=toB G e:=⟨_,rfl⟩
 have EB2:=AK eb2
 rw[←eb2]
 clear eb2
 cases b2_ with
 | false=>
  have he:(R,s)=(G,sNo):=by rw[HST.out];exact if_neg (fun h=>h.elim HC7.out (fun h=>by rw[←EB2.out]at h;cases h))
  injection he with he1 he2
  subst he1 he2
  obtain⟨z0,z1,z2,z3⟩:=K4.out.oc
  have y0:=K4.out.of 0
  have y1:=K4.out.of 1
  have y2:=K4.out.of 2
  have y3:=K4.out.of 3
  obtain⟨x0,x1,x2,x3⟩:=box4 HX.out
  go_wp2
  refine bodyPost_ret (results_ct rfl _ _ (n+2) 28 #[.slice B0 R.o.length b0,.slice B1 R.r.length b1,.slice B2 R.w.length b2,.slice B3 R.d.length b3] (0,0) _ rfl (set4_blk K4.out.o) Try.underlying28 rfl (by kernel_rfl)) rfl ?_
  exact⟨B0,b0,B1,b1,B2,b2,B3,b3,rfl,HO4.out.set4 K4.out.o,set4_below K4.out.b (by have:=K4.out.n0;omega)⟩
 | true=>
  have HDO:=AK (show (R,s)=doB G e by rw[HST.out,if_pos (.inr EB2.out.symm)])
  obtain⟨q0,q1,q2,q3,q4,q5,q6⟩:=ec7 K4.out.e
  obtain⟨x0,x1,x2,x3⟩:=box4 HX.out
  go_wp2_with fail
  clear q0 q1 q2 q3 q4 q5 q6 x0 x1 x2 x3
  refine(l4Do_calls v w5 B0 B1 B2 B3 b0 b1 b2 b3 G e A6 c6 K4.out.b HO4.out HK.out (Kd.C_below HE0.out.1 K4.out.bw) HE0.out.2 HL6.out.1 HL6.out.2 (.inr EB2.out.symm) R s HDO.out).mono ?_
  rintro en w6 ⟨D0,d0,D1,d1,D2,d2,D3,d3,rfl,hO6,hb6,hkp⟩
  have HZ:=AK (show w6.heap[n+2]?=some (.cells #[.slice none 0 0,.slice none 0 0,.slice none 0 0,.slice none 0 0] 28 (0,0))from hkp _ _ _ K4.out.o (by decide) (by decide) (by decide))
  have HN:=AK K4.out.n0
  have HY:=AK (below_alloc (Below.refl w6.heap.size w6) (.cells #[.slice D0 R.o.length d0,.slice D1 R.r.length d1,.slice D2 R.w.length d2,.slice D3 R.d.length d3] 28 (0,0)))
  have HB7:=AK (bst hb6 HY.out)
  have HZ7:=AK (bbl HZ.out HY.out)
  have HI7:=AK (hO6.below HY.out).reads
  have HRK:=AK (ok_parts (show okB R.o R.r R.w R.d=true by have h:=do_ok (h:=G) (EB.out.symm) e;rw[←HDO.out]at h;exact h))
  clear hO6 hb6 hkp K4 HO4 HX HZ HY
  go_wp2_with fail
  refine(l1Copy_calls _ _ _ _ _ _ _ _ _ _ _ _ _ HI7.out (lim_ok HRK.out)).mono ?_
  rintro en w8 ⟨F0,e0,F1,e1,F2,e2,F3,e3,rfl,hO8,hb8⟩
  have HZ8:=AK (bbl HZ7.out hb8)
  have HB8:=AK (bst HB7.out hb8)
  have HO8:=AK (OwnH.lower hO8 HB7.out.size)
  clear hO8 hb8
  obtain⟨z0,z1,z2,z3⟩:=box4 HZ8.out
  have y0:=bfz HZ8.out 0
  have y1:=bfz HZ8.out 1
  have y2:=bfz HZ8.out 2
  have y3:=bfz HZ8.out 3
  go_wp2
  refine bodyPost_ret (results_ct rfl _ _ (n+2) 28 #[.slice F0 R.o.length e0,.slice F1 R.r.length e1,.slice F2 R.w.length e2,.slice F3 R.d.length e3] (0,0) _ rfl (set4_blk HZ8.out) Try.underlying28 rfl (by kernel_rfl)) rfl ?_
  exact⟨F0,e0,F1,e1,F2,e2,F3,e3,rfl,HO8.out.set4 HZ8.out,set4_below HB8.out (by have:=HN.out;omega)⟩
end
section
theorem pick_fuel (k:Nat) (bs:List Int) (p n:Int):spec_l1Rd_pick.f (k+1) bs p n=spec_l1Rd_pick.f 1 bs p n:=by
  unfold spec_l1Rd_pick.f
  rfl
theorem base_l0:∀(n k:Nat) (bs:List Int) (p:Int) (acc:List Int),n<k→acc.length+n≤100→spec_l5Base.l0 k (n:Int) bs p acc=some ([],acc++List.replicate n (-1),[],[],p):=by
  intro n
  induction n with
  | zero=>
    intro k bs p acc hk _
    cases k with
    | zero=>omega
    | succ k=>simp[spec_l5Base.l0]
  | succ n ih=>
    intro k bs p acc hk ha
    cases k with
    | zero=>omega
    | succ k=>
      simp only[spec_l5Base.l0]
      rw[if_pos (by omega),if_pos (by omega),wrap_in (x:=((n+1:Nat):Int) - 1) (by omega) (by omega),show ((n+1:Nat):Int) - 1=(n:Int)by omega,ih k bs p (acc++[-1]) (by omega) (by rw[List.length_append,List.length_singleton];omega),List.append_assoc]
      rfl
def baseH (m:Nat):Hp:=⟨[],List.replicate m (-1),[],[]⟩
theorem base_ok (m:Nat) (h:m≤6):(baseH m).ok=true:=by
  refine OkH.b (l0:=[]) (l2:=[]) (l3:=[]) ⟨by simp,by simp[baseH];omega,by simp,by simp,fun p hp=>?_,by simp,by simp⟩
  have:=(List.mem_replicate.1 hp).2
  simp;omega
def TxH (G:Hp):Prop:=∀o∈G.o,TxA o.f1
theorem txh_collect {h:Hp} (ht:TxH h):TxH (collectB h).1:=by
  cases hk:h.ok
  · have:(collectB h).1=hp0:=by unfold collectB;rw[if_neg (by rw[hk];decide)]
    rw[this];intro o ho;cases ho
  · obtain⟨t2,t3,_,hk2,e1,_⟩:=collect_eq hk
    rw[e1]
    intro o ho
    obtain⟨p,hp,rfl⟩:=List.mem_map.1 ho
    have hp2:=(reach_good hk2).2 p hp
    show TxA (rd_T38 h.o p).f1
    exact ht _ (getD_mem h.o z38 p hp2.1 hp2.2)
theorem txh_step {h:Hp} {e:S40} (ht:TxH h) (he:TxA e.f4.f1):TxH (stepB h e).1:=by
  unfold stepB
  cases hk:h.ok
  · rw[if_neg (by decide)];intro o ho;cases ho
  rw[if_pos rfl]
  have hh:OkH h.o h.r h.w h.d:=ok_parts hk
  split
  · unfold doB
    split
    · unfold makesB
      split
      · split
        · exact ht
        · intro o ho
          rcases List.mem_append.1 ho with ho|ho
          · exact ht o ho
          · rw[List.mem_singleton.1 ho];exact he
      · exact ht
    split
    · unfold takesB;split<;>exact ht
    split
    · unfold setsB
      split
      · exact ht
      · rename_i c
        have h1:=(part_range hh _ _ c).1
        intro o ho
        rcases List.mem_or_eq_of_mem_set ho with ho|rfl
        · exact ht o ho
        · show TxA (rd_T38 h.o _).f1
          exact ht _ (getD_mem h.o z38 _ h1.1 h1.2)
    split
    · exact ht
    split
    · unfold watchesB
      split
      · split<;>exact ht
      · exact ht
    split
    · unfold asksB;split<;>exact ht
    split
    · exact txh_collect ht
    · exact ht
  · exact ht
theorem k40_ap (t:Nat) (h:(40:Nat)≠t) (h3:(3:Nat)≠t):∀q,q∈40 :: k40.E→q≠t:=fun q hq=>by
  rcases List.mem_cons.1 hq with rfl|h1
  · exact h
  · rcases List.mem_cons.1 (show q∈[3]from h1)with rfl|h2
    · exact h3
    · cases h2
def EvOk (plain:Bool) (x:S40):Prop:=x.f4.f2.length≤8∧TxA x.f4.f1∧(plain=true→x.f4.f0<3)
structure EW (v w0:World) (g:Nat) (P:Int) (hc:Array Value) (K:Option Addr) (ck:Nat) (es:List S40) (w':World):Prop where
  b:Below v.heap.size v w'
  r:Rdr v w' g P
  k:KeepBut w0 w' g none
  hb:w'.heap[w0.heap.size]?=some (.cells hc 28 (0,0))
  ob:w'.heap[w0.heap.size+1]?=some (.cells nilC 28 (0,0))
  vl:v.heap.size≤w0.heap.size
  eo:Kd.R k40 40 w' w0.heap.size (fun _=>True) (.slice K es.length ck) es
section
variable {v w0 w w1 w2:World} {g:Nat} {P:Int} {hc:Array Value} {K:Option Addr} {ck:Nat} {es:List S40}
theorem EW.below (h:EW v w0 g P hc K ck es w) (hb:Below w.heap.size w w1):EW v w0 g P hc K ck es w1:=
  ⟨bst h.b hb,h.r.below hb,keep_below h.k hb,bbl h.hb hb,bbl h.ob hb,h.vl,Kd.R_below h.eo hb⟩
theorem EW.more {Q:Int} (h:EW v w0 g P hc K ck es w) (hq:P≤Q):EW v w0 g Q hc K ck es w:=⟨h.b,h.r.more hq,h.k,h.hb,h.ob,h.vl,h.eo⟩
theorem EW.pick {Q:Int} (h:EW v w0 g P hc K ck es w) (hr:Rdr v w1 g Q) (hb:Below v.heap.size v w1) (hk:KeepBut w w1 g none):EW v w0 g Q hc K ck es w1:=
  ⟨hb,hr,keep_then h.k hk,h.r.blk hk h.hb (by decide),h.r.blk hk h.ob (by decide),h.vl,h.r.R hk h.eo (k40_ap 121 (by decide) (by decide))⟩
theorem EW.set1 (h:EW v w0 g P hc K ck es w) (j:Nat) (u:Value) (hc':Array Value) (e:hc.setIfInBounds j u=hc'):EW v w0 g P hc' K ck es (w.setCell ⟨w0.heap.size,j,none⟩ u):=
  ⟨below_set h.b h.vl,h.r.far (a:=⟨w0.heap.size,j,none⟩) (h.r.ne h.hb (by decide)) u,keep_far h.k (p:=⟨w0.heap.size,j,none⟩) (Nat.le_refl _) u,e ▸ blk_set h.hb j u,blk_far h.ob (p:=⟨w0.heap.size,j,none⟩) (by show w0.heap.size+1≠w0.heap.size;omega) u,h.vl,Kd.R_set h.eo h.hb (k40_ap 28 (by decide) (by decide)) j u⟩
theorem EW.grown (h:EW v w0 g P hc K ck es w) (hg:w.grownBy w1 (Value.slice K es.length ck).ownBlock) {K2:Option Addr} {ck2:Nat} {es2:List S40} (hr:Kd.R k40 40 w1 w0.heap.size (fun _=>True) (.slice K2 es2.length ck2) es2):EW v w0 g P hc K2 ck2 es2 w1:=by
  have hlo:∀k,(Value.slice K es.length ck).ownBlock=some k→w0.heap.size≤k:=fun k hk=>((Kd.R_bound h.eo).1 k hk).2.1
  refine⟨h.b.grown hg h.b.size (fun k hk=>by have:=hlo k hk;have:=h.vl;omega),h.r.grown hg (h.r.ne_own h.eo (by decide)),?_,blk_grown h.hb hg (Kd.R_ne h.eo h.hb (by decide)),blk_grown h.ob hg (Kd.R_ne h.eo h.ob (by decide)),h.vl,hr⟩
  refine h.k.trans (KeepBut.of_grown hg g) ?_
  cases e:(Value.slice K es.length ck).ownBlock with
  | none=>exact .inl rfl
  | some k=>exact .inr ⟨k,rfl,hlo k e⟩
theorem OwnH.overE {base lo:Nat} {ok:Nat→Prop} {A0 A1 A2 A3:Option Addr} {c0 c1 c2 c3:Nat} {l0:List S38} {l1:List Int} {l2 l3:List S60} {u:Value} (h:OwnH w base A0 c0 A1 c1 A2 c2 A3 c3 l0 l1 l2 l3) (ht:Kd.R k40 40 w lo ok u es) (hg:w.grownBy w1 u.ownBlock):OwnH w1 base A0 c0 A1 c1 A2 c2 A3 c3 l0 l1 l2 l3:=by
  have hty:=Kd.R_typed ht
  exact⟨Kd.S_over' h.s0 hty (by decide) hg,Kd.R_over' h.s1 hty (by decide) hg,Kd.R_over' h.s2 hty (by decide) hg,Kd.R_over' h.s3 hty (by decide) hg⟩
theorem OwnH.lower2 {base lo:Nat} {A0 A1 A2 A3:Option Addr} {c0 c1 c2 c3:Nat} {l0:List S38} {l1:List Int} {l2 l3:List S60} (h:OwnH w base A0 c0 A1 c1 A2 c2 A3 c3 l0 l1 l2 l3) (hl:lo≤base):OwnH w lo A0 c0 A1 c1 A2 c2 A3 c3 l0 l1 l2 l3:=
  ⟨S_lowerC h.s0 hl,Kd.R_lower h.s1 hl,Kd.R_lower h.s2 hl,Kd.R_lower h.s3 hl⟩
end
section
variable {v w:World} {g lo:Nat} {P:Int} {A0 A1 A2 A3:Option Addr} {c0 c1 c2 c3:Nat} {G:Hp}
theorem l5Base_c (hR:Rdr v w g P) (hB:Below v.heap.size v w) (hP:P≤1000000) :
    Calls Try.prog 61 #[.pointer (some ⟨g,0,none⟩)] w fun e w'=>∃(m:Nat) (A0:Option Addr) (c0:Nat) (A1:Option Addr) (c1:Nat) (A2:Option Addr) (c2:Nat) (A3:Option Addr) (c3:Nat),e=.returned (.agg #[.slice A0 (baseH m).o.length c0,.slice A1 (baseH m).r.length c1,.slice A2 (baseH m).w.length c2,.slice A3 (baseH m).d.length c3])∧(3≤m∧m≤6)∧OwnG w' w.heap.size A0 c0 A1 c1 A2 c2 A3 c3 (baseH m)∧Rdr v w' g (P+1)∧Below v.heap.size v w'∧KeepBut w w' g none:=by
  obtain⟨bs,p,hi,hp,hb⟩:=hR.ex
  obtain⟨r,hr,h1,h2,h3⟩:=pick_some (n:=4) hb hp.1 (by omega)
  have h4:=h2 (by omega)
  obtain⟨m,em⟩:∃m:Nat,(m:Int)=3+r:=⟨(3+r).toNat,by omega⟩
  have hm:spec_l1Rd_pick.f 20 bs p 4=some (r,p+1):=by rw[pick_fuel 19];exact hr
  have hf:spec_l5Base.f 20 bs p=some ([],List.replicate m (-1),[],[],p+1):=by
    unfold spec_l5Base.f
    rw[hm]
    show spec_l5Base.l0 20 (wrap64 (3+r)) bs (p+1) []=_
    rw[wrap_in (x:=3+r) (by omega) (by omega),←em]
    exact base_l0 m 20 bs (p+1) [] (by omega) (by simp;omega)
  refine(spec_l5Base.calls 20 g bs p _ _ _ _ _ v w hi hB hf).mono ?_
  rintro e w' ⟨v0,v1,v2,v3,rfl,s0,s1,s2,s3,hi2,hb2,hk⟩
  obtain⟨A0,c0,A1,c1,A2,c2,A3,c3,rfl,rfl,rfl,rfl,ho⟩:=own_of v0 v1 v2 v3 s0 s1 s2 s3
  exact⟨m,A0,c0,A1,c1,A2,c2,A3,c3,rfl,⟨by omega,by omega⟩,ho,⟨bs,p+1,hi2,⟨by omega,by omega⟩,hb⟩,hb2,hk⟩
set_option maxHeartbeats 4000000 in
set_option maxRecDepth 100000 in
theorem l5Events_c (hR:Rdr v w g P) (hB:Below v.heap.size v w) (hP:P≤800000) (hO:OwnG w lo A0 c0 A1 c1 A2 c2 A3 c3 G) (hl:lo≤w.heap.size) (hk:G.ok=true) (ht:TxH G) (most:Int) (hm:most≤40) (plain:Bool) :
    Calls Try.prog 62 #[.pointer (some ⟨g,0,none⟩),.agg #[.slice A0 G.o.length c0,.slice A1 G.r.length c1,.slice A2 G.w.length c2,.slice A3 G.d.length c3],.int .i64 most,.bool plain] w fun en w'=>∃(R:Hp) (es:List S40) (B0:Option Addr) (d0:Nat) (B1:Option Addr) (d1:Nat) (B2:Option Addr) (d2:Nat) (B3:Option Addr) (d3:Nat) (K:Option Addr) (ck:Nat),en=.returned (.tuple #[.agg #[.slice B0 R.o.length d0,.slice B1 R.r.length d1,.slice B2 R.w.length d2,.slice B3 R.d.length d3],.slice K es.length ck]) ∧
      (R.ok=true∧TxH R∧es.length<40∧∀x∈es,EvOk plain x)∧OwnG w' lo B0 d0 B1 d1 B2 d2 B3 d3 R∧Kd.R k40 40 w' w.heap.size (fun _=>True) (.slice K es.length ck) es∧Rdr v w' g (P+1000)∧Below v.heap.size v w'∧KeepBut w w' g none:=by
  have HL:=AK (And.intro hl (And.intro hP hm))
  have HS0:=AK (And.intro hk (And.intro ht (show ∀x∈([]:List S40),EvOk plain x from fun x hx=>by cases hx)))
  have D:=AK (show EW v w g P #[.slice A0 G.o.length c0,.slice A1 G.r.length c1,.slice A2 G.w.length c2,.slice A3 G.d.length c3] none 0 [] ((w.alloc (.cells #[.slice A0 G.o.length c0,.slice A1 G.r.length c1,.slice A2 G.w.length c2,.slice A3 G.d.length c3] 28 (0,0))).alloc (.cells #[.slice none 0 0,.slice none 0 0,.slice none 0 0,.slice none 0 0] 28 (0,0)))from by
    have hb:=below_alloc (below_alloc (Below.refl w.heap.size w) (.cells #[.slice A0 G.o.length c0,.slice A1 G.r.length c1,.slice A2 G.w.length c2,.slice A3 G.d.length c3] 28 (0,0))) (.cells nilC 28 (0,0))
    exact⟨bst hB hb,hR.below hb,KeepBut.of_below hb g none,blk_alloc (blk_new w _) _,blk_new1 w _ _,hB.size,Kd.R_nil _ _ _ _ _⟩)
  have O:=AK (show OwnG ((w.alloc (.cells #[.slice A0 G.o.length c0,.slice A1 G.r.length c1,.slice A2 G.w.length c2,.slice A3 G.d.length c3] 28 (0,0))).alloc (.cells #[.slice none 0 0,.slice none 0 0,.slice none 0 0,.slice none 0 0] 28 (0,0))) lo A0 c0 A1 c1 A2 c2 A3 c3 G from(hO.below (below_alloc (below_alloc (Below.refl w.heap.size w) _) _)))
  clear hl hP hm hk ht hR hB hO
  go_enter Try.func62,Try.ntmps62
  go_upto_region 1 with fail
  generalize ((w.alloc (.cells #[.slice A0 G.o.length c0,.slice A1 G.r.length c1,.slice A2 G.w.length c2,.slice A3 G.d.length c3] 28 (0,0))).alloc (.cells #[.slice none 0 0,.slice none 0 0,.slice none 0 0,.slice none 0 0] 28 (0,0)))=w1 at D O ⊢
  go_wp2_with ((with_reducible refine gate_dst (N:=15) rfl ?_);refine Kd.R_lit k40 (w0:=w1) w1.heap.size 40 ?hg (N:=15) ?hd (xs:=([]:List S40)) (inner:=[]) (ok:=fun _=>True) (okp:=fun _=>True) ?hr ?hp (fun _ hk=>hk) trivial (Below.refl _ _) (Nat.le_refl _) (by simp) ?_;(case hd=>rfl);(case hg=>rfl);(case hr=>first|(go_simp;done)|(go_simp;rfl));(case hp=>exact Reps.none _ _);intro v1 w2 hr hb hg hn;obtain⟨K0,ck0,hv⟩:=Kd.R_slice hr;subst hv;have HR:=AK (Kd.R_lower hr D.out.k.1);replace D:=AK (D.out.below hb);replace O:=AK (O.out.below hb);clear hr hb hg hn)
  replace D:=AK (show EW v w g P #[.slice A0 G.o.length c0,.slice A1 G.r.length c1,.slice A2 G.w.length c2,.slice A3 G.d.length c3] K0 ck0 [] w2 from⟨D.out.b,D.out.r,D.out.k,D.out.hb,D.out.ob,D.out.vl,HR.out⟩)
  clear HR
  refine(pick_c (P:=P) most D.out.r D.out.b (by have:=HL.out;omega)).mono ?_
  rintro en w3 ⟨n,rfl,hn,hr,hb,hk⟩
  replace O:=AK (D.out.r.own hk O.out)
  replace D:=AK (D.out.pick hr hb hk)
  have HN:=AK (show 0≤n∧n<40 by have:=HL.out;refine⟨hn.1,?_⟩;by_cases h:most<1;(have:=hn.2.2 h;omega);(have:=hn.2.1 (by omega);omega))
  clear hr hb hk hn
  go_wp2_with fail
  go_loopg [10,11] n.toNat (fun kq v10 v11 w'=>∃(R:Hp) (B0:Option Addr) (d0:Nat) (B1:Option Addr) (d1:Nat) (B2:Option Addr) (d2:Nat) (B3:Option Addr) (d3:Nat) (K:Option Addr) (ck:Nat) (es:List S40) (i:Int),v10=.slice K es.length ck∧v11=.int .i64 i∧Aside0 (i=kq∧es.length+kq=n.toNat)∧Aside0 (R.ok=true∧TxH R∧∀x∈es,EvOk plain x)∧Aside0 (EW v w g (P+1+20*(es.length:Int)) #[.slice B0 R.o.length d0,.slice B1 R.r.length d1,.slice B2 R.w.length d2,.slice B3 R.d.length d3] K ck es w')∧Aside0 (OwnG w' lo B0 d0 B1 d1 B2 d2 B3 d3 R))
  case atStart=>exact⟨G,A0,c0,A1,c1,A2,c2,A3,c3,K0,ck0,[],n,rfl,rfl,⟨by have:=HN.out;omega,by simp⟩,HS0,⟨D.out.more (by simp)⟩,O⟩
  case round=>
    clear HS0 D O
    obtain⟨R,B0,d0,B1,d1,B2,d2,B3,d3,K,ck,es,i,rfl,rfl,HI,HS,D,O⟩:=hrel
    obtain⟨p0,p1,p2,p3⟩:=box4 D.out.hb
    cases gk with
    | zero=>
      have c9:decide (0<i)=false:=deF (by have:=HI.out;omega)
      obtain⟨z0,z1,z2,z3⟩:=box4 D.out.ob
      have y0:=bfz D.out.ob 0
      have y1:=bfz D.out.ob 1
      have y2:=bfz D.out.ob 2
      have y3:=bfz D.out.ob 3
      go_wp2
      refine bodyPost_ret (results_ct rfl _ _ (w.heap.size+1) 28 #[.slice B0 R.o.length d0,.slice B1 R.r.length d1,.slice B2 R.w.length d2,.slice B3 R.d.length d3] (0,0) _ rfl (set4_blk D.out.ob) Try.underlying28 rfl (by kernel_rfl)) rfl ?_
      have hv:v.heap.size≤w.heap.size+1:=by have:=D.out.vl;omega
      have hw:w.heap.size≤w.heap.size+1:=by omega
      have hne:g≠w.heap.size+1:=D.out.r.ne D.out.ob (by decide)
      refine⟨R,es,B0,d0,B1,d1,B2,d2,B3,d3,K,ck,rfl,⟨HS.out.1,HS.out.2.1,by have:=HI.out;have:=HN.out;omega,HS.out.2.2⟩,OwnH.set4 O.out D.out.ob,set4_R D.out.eo D.out.ob (k40_ap 28 (by decide) (by decide)),?_,below_set (below_set (below_set (below_set D.out.b hv) hv) hv) hv,?_⟩
      · exact Rdr.more ((((D.out.r.far (a:=⟨w.heap.size+1,0,none⟩) hne _).far (a:=⟨w.heap.size+1,1,none⟩) hne _).far (a:=⟨w.heap.size+1,2,none⟩) hne _).far (a:=⟨w.heap.size+1,3,none⟩) hne _) (by have:=HI.out;have:=HN.out;omega)
      · exact keep_far (keep_far (keep_far (keep_far D.out.k (p:=⟨w.heap.size+1,0,none⟩) hw _) (p:=⟨w.heap.size+1,1,none⟩) hw _) (p:=⟨w.heap.size+1,2,none⟩) hw _) (p:=⟨w.heap.size+1,3,none⟩) hw _
    | succ k1=>
      have c9:decide (0<i)=true:=deT (by have:=HI.out;omega)
      have HKR:=AK (show OkH R.o R.r R.w R.d from ok_parts HS.out.1)
      go_wp2_with fail
      clear p0 p1 p2 p3 c9
      have HW:=AK (show w.heap.size≤wr.heap.size from D.out.k.1)
      refine(l5Draw_c (P:=P+1+20*(es.length:Int)) D.out.r D.out.b (by have:=HL.out;have:=HI.out;have:=HN.out;omega) O.out (by have:=HKR.out.r;omega) (fun p hp=>(HKR.out.rs p hp).2) plain).mono ?_
      rintro en w4 ⟨e,F,f,rfl,he1,he2,he3,he4,hr,hb,hk⟩
      replace O:=AK (D.out.r.own hk O.out)
      replace D:=AK (D.out.pick hr hb hk)
      have HE:=AK (show EvOk plain e from⟨he1,he2,he3⟩)
      have HF:=AK (Kd.R_lower he4 HW.out)
      clear hr hb hk he1 he2 he3 he4
      unfold evC
      go_upto_region 6 with fail
      have HQ:=AK (blk_new w4 (.cells #[.int .i64 e.f0,.int .i64 e.f1,.int .i64 e.f2,.int .i64 e.f3,.int .i64 e.f4.f0,.string e.f4.f1,.slice F e.f4.f2.length f] 40 (0,0)))
      replace D:=AK (D.out.below (below_alloc (Below.refl _ _) (.cells #[.int .i64 e.f0,.int .i64 e.f1,.int .i64 e.f2,.int .i64 e.f3,.int .i64 e.f4.f0,.string e.f4.f1,.slice F e.f4.f2.length f] 40 (0,0))))
      replace O:=AK (O.out.below (below_alloc (Below.refl _ _) (.cells #[.int .i64 e.f0,.int .i64 e.f1,.int .i64 e.f2,.int .i64 e.f3,.int .i64 e.f4.f0,.string e.f4.f1,.slice F e.f4.f2.length f] 40 (0,0))))
      replace HF:=AK (Kd.R_alloc HF.out (.cells #[.int .i64 e.f0,.int .i64 e.f1,.int .i64 e.f2,.int .i64 e.f3,.int .i64 e.f4.f0,.string e.f4.f1,.slice F e.f4.f2.length f] 40 (0,0)))
      generalize w4.alloc (.cells #[.int .i64 e.f0,.int .i64 e.f1,.int .i64 e.f2,.int .i64 e.f3,.int .i64 e.f4.f0,.string e.f4.f1,.slice F e.f4.f2.length f] 40 (0,0))=w5 at D O HF HQ ⊢
      generalize w4.heap.size=q8 at HQ ⊢
      obtain⟨p0,p1,p2,p3⟩:=box4 D.out.hb
      obtain⟨q0,q1,q2,q3,q4,q5,q6⟩:=box7 HQ.out
      go_wp2_with fail
      clear p0 p1 p2 p3 q0 q1 q2 q3 q4 q5 q6
      obtain⟨R2,s2,er2⟩:∃R2 s2,(R2,s2)=stepB R e:=⟨_,_,rfl⟩
      have HS2:=AK (show R2.ok=true∧TxH R2 by
        have e1:R2=(stepB R e).1:=congrArg Prod.fst er2
        rw[e1];exact⟨step_ok R e,txh_step HS.out.2.1 HE.out.2.1⟩)
      refine(specStep_calls w5 w5 _ _ _ _ _ _ _ _ R e _ _ (Below.refl _ _) O.out.reads HKR.out.fine (Kd.R_reads' HF.out).2.2 (Kd.R_reads' HF.out).2.1 (by have:=HE.out.1;omega) (by have:=HE.out.2.1.1;omega) R2 s2 er2).mono ?_
      rintro en w6 ⟨Q0,t0,Q1,t1,Q2,t2,Q3,t3,rfl,hO,hb⟩
      have HLO:=AK (show lo≤w5.heap.size by have:=HL.out.1;have:=D.out.k.1;omega)
      replace O:=AK (hO.lower2 HLO.out)
      replace D:=AK (D.out.below hb)
      replace HF:=AK (Kd.R_below HF.out hb)
      replace HQ:=AK (bbl HQ.out hb)
      clear hO hb er2 HLO
      go_upto_region 7 with fail
      have HT:=AK (blk_new w6 (.cells #[.slice Q0 R2.o.length t0,.slice Q1 R2.r.length t1,.slice Q2 R2.w.length t2,.slice Q3 R2.d.length t3] 28 (0,0)))
      replace D:=AK (D.out.below (below_alloc (Below.refl _ _) (.cells #[.slice Q0 R2.o.length t0,.slice Q1 R2.r.length t1,.slice Q2 R2.w.length t2,.slice Q3 R2.d.length t3] 28 (0,0))))
      replace O:=AK (O.out.below (below_alloc (Below.refl _ _) (.cells #[.slice Q0 R2.o.length t0,.slice Q1 R2.r.length t1,.slice Q2 R2.w.length t2,.slice Q3 R2.d.length t3] 28 (0,0))))
      replace HF:=AK (Kd.R_alloc HF.out (.cells #[.slice Q0 R2.o.length t0,.slice Q1 R2.r.length t1,.slice Q2 R2.w.length t2,.slice Q3 R2.d.length t3] 28 (0,0)))
      replace HQ:=AK (blk_alloc HQ.out (.cells #[.slice Q0 R2.o.length t0,.slice Q1 R2.r.length t1,.slice Q2 R2.w.length t2,.slice Q3 R2.d.length t3] 28 (0,0)))
      generalize w6.alloc (.cells #[.slice Q0 R2.o.length t0,.slice Q1 R2.r.length t1,.slice Q2 R2.w.length t2,.slice Q3 R2.d.length t3] 28 (0,0))=w7 at D O HF HQ HT ⊢
      generalize w6.heap.size=q9 at HT ⊢
      obtain⟨p0,p1,p2,p3⟩:=box4 HT.out
      obtain⟨z0,z1,z2,z3⟩:=box4 D.out.hb
      have y0:=bfz D.out.hb 0
      have y1:=bfz D.out.hb 1
      have y2:=bfz D.out.hb 2
      have y3:=bfz D.out.hb 3
      have HNE:=AK (show q8≠w.heap.size from fun e=>blk_ne HQ.out D.out.hb (by decide) e)
      have D2:=AK (show EW v w g (P+1+20*(es.length:Int)+20) #[.slice Q0 R2.o.length t0,.slice Q1 R2.r.length t1,.slice Q2 R2.w.length t2,.slice Q3 R2.d.length t3] K ck es (set4 w7 w.heap.size (.slice Q0 R2.o.length t0) (.slice Q1 R2.r.length t1) (.slice Q2 R2.w.length t2) (.slice Q3 R2.d.length t3))from(((D.out.set1 0 (.slice Q0 R2.o.length t0) _ rfl).set1 1 (.slice Q1 R2.r.length t1) _ rfl).set1 2 (.slice Q2 R2.w.length t2) _ rfl).set1 3 (.slice Q3 R2.d.length t3) _ rfl)
      have O2:=AK (OwnH.set4 (p:=.slice Q0 R2.o.length t0) (q:=.slice Q1 R2.r.length t1) (r:=.slice Q2 R2.w.length t2) (s:=.slice Q3 R2.d.length t3) O.out D.out.hb)
      have HF2:=AK (set4_R (a:=.slice Q0 R2.o.length t0) (b:=.slice Q1 R2.r.length t1) (c:=.slice Q2 R2.w.length t2) (d:=.slice Q3 R2.d.length t3) HF.out D.out.hb (int_ap 28 (by decide)))
      have HQ2:=AK (set4_far (a:=.slice Q0 R2.o.length t0) (b:=.slice Q1 R2.r.length t1) (c:=.slice Q2 R2.w.length t2) (d:=.slice Q3 R2.d.length t3) HQ.out HNE.out)
      go_upto_region 8 with fail
      clear p0 p1 p2 p3 z0 z1 z2 z3 y0 y1 y2 y3
      have hw8:((((w7.setCell ⟨w.heap.size,0,none⟩ (.slice Q0 R2.o.length t0)).setCell ⟨w.heap.size,1,none⟩ (.slice Q1 R2.r.length t1)).setCell ⟨w.heap.size,2,none⟩ (.slice Q2 R2.w.length t2)).setCell ⟨w.heap.size,3,none⟩ (.slice Q3 R2.d.length t3))=set4 w7 w.heap.size (.slice Q0 R2.o.length t0) (.slice Q1 R2.r.length t1) (.slice Q2 R2.w.length t2) (.slice Q3 R2.d.length t3):=rfl
      rw[hw8]
      clear hw8
      generalize set4 w7 w.heap.size (.slice Q0 R2.o.length t0) (.slice Q1 R2.r.length t1) (.slice Q2 R2.w.length t2) (.slice Q3 R2.d.length t3)=w8 at D2 O2 HF2 HQ2 ⊢
      clear D O HF HQ HT
      obtain⟨q0,q1,q2,q3,q4,q5,q6⟩:=box7 HQ2.out
      obtain⟨es2,ees⟩:∃l,l=es++[e]:=⟨_,rfl⟩
      have EE:=AK ees
      clear ees
      go_wp2_with ((with_reducible refine gate_builtin (b:=.append) (xs:=#[.tmp 34,.tmp 36]) rfl ?_);at_builtin;refine Kd.R_append k40 (w0:=w8) w.heap.size rfl (.tmp 34) (.tmp 36) 29 40 (.agg #[.int .i64 0,.int .i64 0,.int .i64 0,.int .i64 0,.int .i64 0,.string ⟨#[]⟩,.slice none 0 0]) 80 rfl Try.underlying29 info40 rfl (by decide) (by omega) (.slice K es.length ck) es e [.int .i64 e.f0,.int .i64 e.f1,.int .i64 e.f2,.int .i64 e.f3,.int .i64 e.f4.f0,.string e.f4.f1,.slice F e.f4.f2.length f] (fun _=>True) (fun k=>some k=(Value.slice F e.f4.f2.length f).ownBlock) rfl rfl ?aP ?aK (fun _ _=>trivial) D2.out.eo (Below.refl _ _) D2.out.k.1 ?aL ?_;(case aP=>exact k40_mkM _ _ _ e (Kd.R_tight rfl HF2.out));(case aK=>exact fun k hk=>⟨trivial,fun h=>by obtain⟨_,h1⟩:=Kd.R_typed HF2.out k hk.symm;obtain⟨_,h2⟩:=Kd.R_typed D2.out.eo k h.symm;rw[h1]at h2;injection h2 with h2;injection h2 with _ h2;exact absurd h2 (by decide)⟩);(case aL=>have:=HI.out;have:=HN.out;omega);intro v66 w9 ho hb hg hat;rw[←EE.out]at ho;obtain⟨K2,ck2,ee⟩:=Kd.R_slice ho;subst ee;have D3:=AK (D2.out.grown hg ho);have O3:=AK (OwnH.overE O2.out D2.out.eo hg);clear ho hb hg hat)
      go_roundg k1
      case measure=>omega
      case rel=>
        have h1:=HI.out
        have h2:=HN.out
        have hl:es2.length=es.length+1:=by rw[EE.out];simp
        rw[wrap_in (x:=i - 1) (by omega) (by omega)]
        refine⟨R2,Q0,t0,Q1,t1,Q2,t2,Q3,t3,K2,ck2,es2,i - 1,rfl,rfl,⟨by omega,by omega⟩,⟨HS2.out.1,HS2.out.2,fun x hx=>?_⟩,⟨D3.out.more (by rw[hl];omega)⟩,O3⟩
        rw[EE.out]at hx
        rcases List.mem_append.1 hx with hx|hx
        · exact HS.out.2.2 x hx
        · rw[List.mem_singleton.1 hx];exact HE.out
end
end
section
structure HW (v w0:World) (g:Nat) (P:Int) (nr nb:Nat) (A0:Option Addr) (c0:Nat) (A1:Option Addr) (c1:Nat) (A2:Option Addr) (c2:Nat) (A3:Option Addr) (c3:Nat) (G:Hp) (w':World):Prop where
  b:Below v.heap.size v w'
  r:Rdr v w' g P
  k:KeepBut w0 w' g none
  ob:w'.heap[nr]?=some (.cells nilC 28 (0,0))
  xb:w'.heap[nb]?=some (.cells (hpC A0 c0 A1 c1 A2 c2 A3 c3 G) 28 (0,0))
  vl:v.heap.size≤w0.heap.size
  lr:w0.heap.size≤nr
  lb:nr<nb
  O:OwnG w' w0.heap.size A0 c0 A1 c1 A2 c2 A3 c3 G
section
variable {v w0 w w1:World} {g nr nb:Nat} {P:Int} {A0 A1 A2 A3:Option Addr} {c0 c1 c2 c3:Nat} {G:Hp}
theorem HW.below (h:HW v w0 g P nr nb A0 c0 A1 c1 A2 c2 A3 c3 G w) (hb:Below w.heap.size w w1):HW v w0 g P nr nb A0 c0 A1 c1 A2 c2 A3 c3 G w1:=
  ⟨bst h.b hb,h.r.below hb,keep_below h.k hb,bbl h.ob hb,bbl h.xb hb,h.vl,h.lr,h.lb,h.O.below hb⟩
theorem HW.drew (h:HW v w0 g P nr nb A0 c0 A1 c1 A2 c2 A3 c3 G w):HW v w0 g P nr nb A0 c0 A1 c1 A2 c2 A3 c3 G w.drew:=h.below (below_drew1 (Below.refl _ _))
theorem HW.more {Q:Int} (h:HW v w0 g P nr nb A0 c0 A1 c1 A2 c2 A3 c3 G w) (hq:P≤Q):HW v w0 g Q nr nb A0 c0 A1 c1 A2 c2 A3 c3 G w:=⟨h.b,h.r.more hq,h.k,h.ob,h.xb,h.vl,h.lr,h.lb,h.O⟩
theorem HW.pick {Q:Int} (h:HW v w0 g P nr nb A0 c0 A1 c1 A2 c2 A3 c3 G w) (hr:Rdr v w1 g Q) (hb:Below v.heap.size v w1) (hk:KeepBut w w1 g none):HW v w0 g Q nr nb A0 c0 A1 c1 A2 c2 A3 c3 G w1:=
  ⟨hb,hr,keep_then h.k hk,h.r.blk hk h.ob (by decide),h.r.blk hk h.xb (by decide),h.vl,h.lr,h.lb,h.r.own hk h.O⟩
structure HF (v w0:World) (g:Nat) (P:Int) (nr nb:Nat) (hc:Array Value) (w':World):Prop where
  b:Below v.heap.size v w'
  r:Rdr v w' g P
  k:KeepBut w0 w' g none
  ob:w'.heap[nr]?=some (.cells nilC 28 (0,0))
  xb:w'.heap[nb]?=some (.cells hc 28 (0,0))
theorem HW.fr (h:HW v w0 g P nr nb A0 c0 A1 c1 A2 c2 A3 c3 G w) {row:Option Nat} (hg:w.grownBy w1 row) (hrow:∀k,row=some k→w0.heap.size≤k∧∃cells t,w.heap[k]?=some (.cells cells t (0,0))∧t≠28∧t≠121):HF v w0 g P nr nb (hpC A0 c0 A1 c1 A2 c2 A3 c3 G) w1:=by
  have hne:∀{j:Nat} {cs:Array Value},w.heap[j]?=some (.cells cs 28 (0,0))→some j≠row:=fun hj e=>by
    obtain⟨_,cells,t,hc,h28,_⟩:=hrow _ e.symm
    exact blk_ne hj hc (Ne.symm h28) rfl
  refine⟨h.b.grown hg h.b.size (fun k hk=>by have:=(hrow k hk).1;have:=h.vl;omega),h.r.grown hg (fun e=>?_),h.k.trans (KeepBut.of_grown hg g) ?_,blk_grown h.ob hg (hne h.ob),blk_grown h.xb hg (hne h.xb)⟩
  · obtain⟨_,cells,t,hc,_,h121⟩:=hrow _ e.symm
    exact h.r.ne hc h121 rfl
  · cases e:row with
    | none=>exact .inl rfl
    | some k=>exact .inr ⟨k,rfl,(hrow k e).1⟩
theorem HF.cell {hc:Array Value} (h:HF v w0 g P nr nb hc w) (vl:v.heap.size≤w0.heap.size) (lr:w0.heap.size≤nr) (lb:nr<nb) (j:Nat) (u:Value) (hc':Array Value) (e:hc.setIfInBounds j u=hc'):HF v w0 g P nr nb hc' (w.setCell ⟨nb,j,none⟩ u):=
  ⟨below_set h.b (by omega),h.r.far (a:=⟨nb,j,none⟩) (h.r.ne h.xb (by decide)) u,keep_far h.k (p:=⟨nb,j,none⟩) (by show w0.heap.size≤nb;omega) u,blk_far h.ob (p:=⟨nb,j,none⟩) (by show nr≠nb;omega) u,e ▸ blk_set h.xb j u⟩
theorem HF.hw (h:HF v w0 g P nr nb (hpC A0 c0 A1 c1 A2 c2 A3 c3 G) w) (vl:v.heap.size≤w0.heap.size) (lr:w0.heap.size≤nr) (lb:nr<nb) (O:OwnG w w0.heap.size A0 c0 A1 c1 A2 c2 A3 c3 G):HW v w0 g P nr nb A0 c0 A1 c1 A2 c2 A3 c3 G w:=⟨h.b,h.r,h.k,h.ob,h.xb,vl,lr,lb,O⟩
theorem row_of {α:Type} {d:Kd α} {e base:Nat} {ok:Nat→Prop} {u:Value} {xs:List α} (h:d.R e w base ok u xs) (h28:e≠28) (h121:e≠121):∀k,u.ownBlock=some k→base≤k∧∃cells t,w.heap[k]?=some (.cells cells t (0,0))∧t≠28∧t≠121:=fun k hk=>by
  obtain⟨cells,hc⟩:=Kd.R_typed h k hk
  exact⟨Kd.R_base h k hk,cells,e,hc,h28,h121⟩
theorem HW.pushW (h:HW v w0 g P nr nb A0 c0 A1 c1 A2 c2 A3 c3 G w) {W2:List S60} {B:Option Addr} {c:Nat} (hr:Kd.R k60 60 w1 w0.heap.size (fun k=>some k≠(Value.slice A3 G.d.length c3).ownBlock) (.slice B W2.length c) W2)
    (hg:w.grownBy w1 (Value.slice A2 G.w.length c2).ownBlock) (hat:(Value.slice B W2.length c).ownBlock=(Value.slice A2 G.w.length c2).ownBlock∨∃b,(Value.slice B W2.length c).ownBlock=some b∧w.heap.size≤b) :
    HW v w0 g P nr nb A0 c0 A1 c1 B c A3 c3 ⟨G.o,G.r,W2,G.d⟩ (w1.setCell ⟨nb,2,none⟩ (.slice B W2.length c)):=by
  have hf:=h.fr hg (row_of h.O.s2 (by decide) (by decide))
  have hh:=hf.xb
  have hty:=Kd.R_typed h.O.s2
  refine(hf.cell h.vl h.lr h.lb 2 (.slice B W2.length c) _ rfl).hw h.vl h.lr h.lb ?_
  refine⟨Kd.S_set (Kd.S_over' h.O.s0 hty (by decide) hg) hh (k38_ap 28 (by decide) (by decide)) 2 _,Kd.R_set (Kd.R_over' h.O.s1 hty (by decide) hg) hh (int_ap 28 (by decide)) 2 _,Kd.R_set hr hh (k60_ap 28 (by decide)) 2 _,Kd.R_set ?_ hh (k60_ap 28 (by decide)) 2 _⟩
  refine Kd.R_mono (Kd.R_step (Kd.R_bound h.O.s3) (fun k hk hl=>hg.block k hl hk.1)) (fun k hk e=>?_)
  rcases hat with h1|⟨b,h1,h2⟩
  · exact hk.1 (e.trans h1)
  · rw[h1]at e;injection e with e;have:=hk.2.2.1;omega
theorem HW.pushO (h:HW v w0 g P nr nb A0 c0 A1 c1 A2 c2 A3 c3 G w) {O2:List S38} {B:Option Addr} {c:Nat} (hr:Kd.S k38 38 w1 w0.heap.size (fun k=>some k≠(Value.slice A1 G.r.length c1).ownBlock) (.slice B O2.length c) O2)
    (hg:w.grownBy w1 (Value.slice A0 G.o.length c0).ownBlock) :
    HW v w0 g P nr nb B c A1 c1 A2 c2 A3 c3 ⟨O2,G.r,G.w,G.d⟩ (w1.setCell ⟨nb,0,none⟩ (.slice B O2.length c)):=by
  have hf:=h.fr hg (row_of (Kd.S_R h.O.s0) (by decide) (by decide))
  have hh:=hf.xb
  have hty:=Kd.S_typed h.O.s0
  refine(hf.cell h.vl h.lr h.lb 0 (.slice B O2.length c) _ rfl).hw h.vl h.lr h.lb ?_
  exact⟨Kd.S_set hr hh (k38_ap 28 (by decide) (by decide)) 0 _,Kd.R_set (Kd.R_over' h.O.s1 hty (by decide) hg) hh (int_ap 28 (by decide)) 0 _,Kd.R_set (Kd.R_over' h.O.s2 hty (by decide) hg) hh (k60_ap 28 (by decide)) 0 _,Kd.R_set (Kd.R_over' h.O.s3 hty (by decide) hg) hh (k60_ap 28 (by decide)) 0 _⟩
theorem grown_cell (w:World) (a:Addr) (u:Value):w.grownBy (w.setCell a u) (some a.block):=⟨rfl,rfl,rfl,by simp[World.setCell],fun k _ hk=>Below.heap_setCell w a u k (fun e=>hk (by rw[e]))⟩
theorem HW.setR {g1:Nat} (h:HW v w0 g P nr nb A0 c0 (some ⟨g1,0,none⟩) c1 A2 c2 A3 c3 G w) (i:Int) (h0:0≤i) (h1:i<G.r.length) (p:Int) {r2:List Int} (e:r2=G.r.set i.toNat p) :
    HW v w0 g P nr nb A0 c0 (some ⟨g1,0,none⟩) c1 A2 c2 A3 c3 ⟨G.o,r2,G.w,G.d⟩ (w.setCell ⟨g1,i.toNat,none⟩ (.int .i64 p)):=by
  have hl:r2.length=G.r.length:=by rw[e,List.length_set]
  obtain⟨cells,hb⟩:=Kd.R_typed h.O.s1 g1 rfl
  have hg:=grown_cell w ⟨g1,i.toNat,none⟩ (.int .i64 p)
  have hf:=h.fr hg (fun k hk=>by injection hk with hk;subst hk;exact row_of h.O.s1 (by decide) (by decide) _ rfl)
  have hf2:HF v w0 g P nr nb (hpC A0 c0 (some ⟨g1,0,none⟩) c1 A2 c2 A3 c3 ⟨G.o,r2,G.w,G.d⟩) (w.setCell ⟨g1,i.toNat,none⟩ (.int .i64 p)):=by
    have:=hf
    unfold hpC at this ⊢
    show HF v w0 g P nr nb #[_,.slice _ r2.length _,_,_] _
    rw[hl];exact this
  have e1:=RI_set h.O.s1 i h0 h1 p
  refine hf2.hw h.vl h.lr h.lb ⟨?_,?_,Kd.R_set h.O.s2 hb (k60_ap 3 (by decide)) _ _,Kd.R_set h.O.s3 hb (k60_ap 3 (by decide)) _ _⟩
  · show Kd.S k38 38 _ _ (fun k=>some k≠(Value.slice _ r2.length _).ownBlock) _ _
    rw[hl]
    exact Kd.S_far (p:=⟨g1,i.toNat,none⟩) h.O.s0 (fun k hk e=>hk (by rw[show k=g1 from e];rfl)) _
  · show Kd.R (Kd.int .i64) 3 _ _ _ (.slice _ r2.length _) r2
    rw[hl,e];exact e1
theorem HW.fin (h:HW v w0 g P nr nb A0 c0 A1 c1 A2 c2 A3 c3 G w):let W:=set4 w nr (.slice A0 G.o.length c0) (.slice A1 G.r.length c1) (.slice A2 G.w.length c2) (.slice A3 G.d.length c3);
    W.heap[nr]?=some (.cells (hpC A0 c0 A1 c1 A2 c2 A3 c3 G) 28 (0,0))∧OwnG W w0.heap.size A0 c0 A1 c1 A2 c2 A3 c3 G∧Rdr v W g P∧Below v.heap.size v W∧KeepBut w0 W g none:=by
  intro W
  have hne:g≠nr:=h.r.ne h.ob (by decide)
  have hv:v.heap.size≤nr:=by have:=h.vl;have:=h.lr;omega
  refine⟨set4_blk h.ob,OwnH.set4 h.O h.ob,?_,below_set (below_set (below_set (below_set h.b hv) hv) hv) hv,?_⟩
  · exact(((h.r.far (a:=⟨nr,0,none⟩) hne _).far (a:=⟨nr,1,none⟩) hne _).far (a:=⟨nr,2,none⟩) hne _).far (a:=⟨nr,3,none⟩) hne _
  · exact keep_far (keep_far (keep_far (keep_far h.k (p:=⟨nr,0,none⟩) h.lr _) (p:=⟨nr,1,none⟩) h.lr _) (p:=⟨nr,2,none⟩) h.lr _) (p:=⟨nr,3,none⟩) h.lr _
end
end
section
structure BdG (R:Hp):Prop where
  n:R.o.length≤61
  f:∀x∈R.o,x.f2.length≤7
  t:TxH R
  r:R.r.length≤9
  w:R.w.length+R.d.length≤21
structure BdH (R:Hp):Prop where
  n:R.o.length≤62
  f:∀x∈R.o,x.f2.length≤8
  t:TxH R
  r:R.r.length≤10
  w:R.w.length+R.d.length≤22
theorem BdH.fine {R:Hp} (h:BdH R):Fine R.o R.r R.w R.d:=
  ⟨by have:=h.n;omega,fun x hx=>⟨by have:=(h.t x hx).1;omega,by have:=h.f x hx;omega⟩,by have:=h.r;omega,by have:=h.w;omega⟩
section
variable {v w:World} {g lo:Nat} {P:Int} {A0 A1 A2 A3:Option Addr} {c0 c1 c2 c3:Nat} {G:Hp}
end
end
section
section
variable {v w:World} {g lo:Nat} {P:Int} {A0 A1 A2 A3:Option Addr} {c0 c1 c2 c3:Nat} {G:Hp}
end
end
section
structure FB (v w0:World) (g:Nat) (P:Int) (w':World):Prop where
  b:Below v.heap.size v w'
  r:Rdr v w' g P
  k:KeepBut w0 w' g none
  ob:w'.heap[w0.heap.size]?=some (.cells nilC 28 (0,0))
  vl:v.heap.size≤w0.heap.size
section
variable {v w0 w w1:World} {g:Nat} {P:Int}
theorem FB.start (hR:Rdr v w g P) (hB:Below v.heap.size v w):FB v w g P (w.alloc (.cells nilC 28 (0,0))):=by
  have hb:=below_alloc (Below.refl w.heap.size w) (.cells nilC 28 (0,0))
  exact⟨bst hB hb,hR.below hb,KeepBut.of_below hb g none,blk_new w _,hB.size⟩
theorem FB.below (h:FB v w0 g P w) (hb:Below w.heap.size w w1):FB v w0 g P w1:=⟨bst h.b hb,h.r.below hb,keep_below h.k hb,bbl h.ob hb,h.vl⟩
theorem FB.pick {Q:Int} (h:FB v w0 g P w) (hr:Rdr v w1 g Q) (hb:Below v.heap.size v w1) (hk:KeepBut w w1 g none):FB v w0 g Q w1:=⟨hb,hr,keep_then h.k hk,h.r.blk hk h.ob (by decide),h.vl⟩
theorem FB.fin (h:FB v w0 g P w) {lo:Nat} {A0 A1 A2 A3:Option Addr} {c0 c1 c2 c3:Nat} {G:Hp} (O:OwnG w lo A0 c0 A1 c1 A2 c2 A3 c3 G) (hl:w0.heap.size≤lo):let W:=set4 w w0.heap.size (.slice A0 G.o.length c0) (.slice A1 G.r.length c1) (.slice A2 G.w.length c2) (.slice A3 G.d.length c3);
    W.heap[w0.heap.size]?=some (.cells (hpC A0 c0 A1 c1 A2 c2 A3 c3 G) 28 (0,0))∧OwnG W w0.heap.size A0 c0 A1 c1 A2 c2 A3 c3 G∧Rdr v W g P∧Below v.heap.size v W∧KeepBut w0 W g none:=by
  intro W
  have hne:g≠w0.heap.size:=h.r.ne h.ob (by decide)
  have hv:=h.vl
  have hr:w0.heap.size≤w0.heap.size:=Nat.le_refl _
  refine⟨set4_blk h.ob,OwnH.set4 (O.lower2 hl) h.ob,?_,below_set (below_set (below_set (below_set h.b hv) hv) hv) hv,?_⟩
  · exact(((h.r.far (a:=⟨w0.heap.size,0,none⟩) hne _).far (a:=⟨w0.heap.size,1,none⟩) hne _).far (a:=⟨w0.heap.size,2,none⟩) hne _).far (a:=⟨w0.heap.size,3,none⟩) hne _
  · exact keep_far (keep_far (keep_far (keep_far h.k (p:=⟨w0.heap.size,0,none⟩) hr _) (p:=⟨w0.heap.size,1,none⟩) hr _) (p:=⟨w0.heap.size,2,none⟩) hr _) (p:=⟨w0.heap.size,3,none⟩) hr _
end
section
variable {v w:World} {g lo:Nat} {P:Int} {A0 A1 A2 A3:Option Addr} {c0 c1 c2 c3:Nat} {G:Hp}
end
end
section
theorem cmp2_symm {α β:Type} {f:α→β→Bool} {g:β→α→Bool} (h:∀a b,f a b=g b a):∀(l:List α) (m:List β),cmp2 f l m=cmp2 g m l:=by
  intro l
  induction l with
  | nil=>intro m;cases m<;>rfl
  | cons a l ih=>
    intro m
    cases m with
    | nil=>rfl
    | cons b m=>show (f a b && cmp2 f l m)=(g b a && cmp2 g m l);rw[h,ih]
theorem cmp2_map {α β:Type} {f:α→β→Bool} (g:α→β):∀(l:List α),(∀a∈l,f a (g a)=true)→cmp2 f l (l.map g)=true:=by
  intro l
  induction l with
  | nil=>intro _;rfl
  | cons a l ih=>
    intro h
    show (f a (g a) && cmp2 f l (l.map g))=true
    rw[h a (List.mem_cons_self ..),ih (fun b hb=>h b (List.mem_cons_of_mem _ hb))];rfl
theorem cmp2_refl {α:Type} {f:α→α→Bool} (l:List α) (h:∀a∈l,f a a=true):cmp2 f l l=true:=by
  have:=cmp2_map (f:=f) id l h
  rwa [List.map_id]at this
theorem dec_symm {α:Type} [DecidableEq α] (a b:α):decide (a=b)=decide (b=a):=by
  by_cases c:a=b
  · subst c;rfl
  · rw[deF c,deF (fun e=>c e.symm)]
theorem whB_symm (x y:List Int) (p q:Int):whB x y p q=whB y x q p:=by
  unfold whB;exact BEq.comm
theorem rowsB_symm (x y l m:List Int):rowsB x y l m=rowsB y x m l:=by
  unfold rowsB
  rw[dec_symm,cmp2_symm (whB_symm x y)]
theorem alikeB_symm (x y:List Int) (a b:S38):alikeB x y a b=alikeB y x b a:=by
  unfold alikeB
  rw[rowsB_symm,dec_symm a.f0,dec_symm a.f1.toList]
theorem weB_symm (a b:S60):weB a b=weB b a:=by
  unfold weB
  rw[BEq.comm (a:=a.f0),BEq.comm (a:=a.f1)]
theorem sameW_symm (l m:List S60):sameW l m=sameW m l:=by
  unfold sameW
  rw[dec_symm,cmp2_symm weB_symm]
theorem sameC_symm (l0:List S38) (l1:List Int) (l2 l3:List S60) (m0:List S38) (m1:List Int) (m2 m3:List S60) (x y:List Int) :
    sameC l0 l1 l2 l3 m0 m1 m2 m3 x y=sameC m0 m1 m2 m3 l0 l1 l2 l3 y x:=by
  unfold sameC objsB
  rw[dec_symm x.length,cmp2_symm (whB_symm x y),sameW_symm (seenW x l2),sameW_symm (seenW x l3),
    cmp2_symm (g:=fun q p=>alikeB y x (rd_T38 m0 q) (rd_T38 l0 p)) (fun p q=>alikeB_symm x y _ _) x y]
theorem same_symm (l0:List S38) (l1:List Int) (l2 l3:List S60) (m0:List S38) (m1:List Int) (m2 m3:List S60):sameB l0 l1 l2 l3 m0 m1 m2 m3=sameB m0 m1 m2 m3 l0 l1 l2 l3:=by
  unfold sameB
  rw[sameC_symm,dec_symm l1.length]
  cases okB l0 l1 l2 l3<;>cases okB m0 m1 m2 m3<;>rfl
theorem weB_refl (a:S60):weB a a=true:=by unfold weB;simp
theorem sameW_refl (l:List S60):sameW l l=true:=by
  unfold sameW
  rw[cmp2_refl l (fun a _=>weB_refl a)];simp
theorem sameC_refl (l0:List S38) (l1:List Int) (l2 l3:List S60) (x:List Int):sameC l0 l1 l2 l3 l0 l1 l2 l3 x x=true:=by
  have hw:∀p:Int,whB x x p p=true:=fun p=>by unfold whB;simp
  unfold sameC objsB
  rw[cmp2_refl l1 (fun p _=>hw p),sameW_refl,sameW_refl,cmp2_refl x (fun p _=>by
    unfold alikeB rowsB
    rw[cmp2_refl _ (fun p _=>hw p)];simp)]
  simp
theorem same_refl (l0:List S38) (l1:List Int) (l2 l3:List S60):sameB l0 l1 l2 l3 l0 l1 l2 l3=okB l0 l1 l2 l3:=by
  unfold sameB
  rw[sameC_refl,deT rfl]
  cases okB l0 l1 l2 l3<;>rfl
theorem seenW_range (n:Nat) (l:List S60) (h:∀w∈l,(0≤w.f0∧w.f0<n)∧0≤w.f1∧w.f1<n):seenW (rangeL n) l=l:=by
  unfold seenW
  rw[List.filter_eq_self.2 (fun w hw=>by
    have:=h w hw
    rw[decide_eq_true_eq,idx_rangeL n _ this.1.1 this.1.2]
    exact this.1.1)]
  conv=>rhs;rw[←List.map_id l]
  refine List.map_congr_left (fun w hw=>?_)
  have:=h w hw
  rw[idx_rangeL n _ this.1.1 this.1.2,idx_rangeL n _ this.2.1 this.2.2];rfl
theorem seen_moved (x:List Int) (l:List S60) (h:∀w∈l,w.f0∈x→w.f1∈x):seenW (rangeL x.length) (movedW x l)=seenW x l:=by
  rw[seenW_range]
  · unfold movedW seenW
    congr 1
    refine List.filter_congr (fun w hw=>?_)
    by_cases c:w.f0∈x
    · rw[deT ((idxL_nonneg x w.f0).2 c),deT ((idxL_nonneg x w.f1).2 (h w hw c))];rfl
    · rw[deF (fun e=>c ((idxL_nonneg x w.f0).1 e))];rfl
  · intro w hw
    obtain⟨u,hu,rfl⟩:=List.mem_map.1 hw
    have h2:=(List.mem_filter.1 hu).2
    rw[Bool.and_eq_true,decide_eq_true_eq,decide_eq_true_eq]at h2
    exact⟨⟨h2.1,(idxL_range x u.f0).2⟩,h2.2,(idxL_range x u.f1).2⟩
theorem tell_none {l0:List S38} {l1:List Int} {l2 l3:List S60} (h:∀w∈l2,w.f1∈reachL l0 l1 l3) (n:Nat):tellL l0 l1 (n+1) l2 l3=(l2,l3):=by
  simp only[tellL]
  rw[if_pos]
  unfold toldL
  rw[List.filter_eq_nil_iff.2 (fun w hw=>by rw[toldB_iff];exact fun e=>e.2 (h w hw))];rfl
theorem same_collected {h:Hp} (hw:∀w∈h.w,w.f1∈reachL h.o h.r h.d):sameB h.o h.r h.w h.d (collectB h).1.o (collectB h).1.r (collectB h).1.w (collectB h).1.d=h.ok:=by
  cases hk:h.ok
  · have:okB h.o h.r h.w h.d=false:=hk
    unfold sameB
    rw[this];rfl
  · obtain⟨t2,t3,ht,hk2,e1,e2⟩:=collect_eq hk
    have hh:OkH h.o h.r h.w h.d:=ok_parts hk
    rw[tell_none hw]at ht
    injection ht with a b
    subst a b
    obtain⟨x,ex⟩:∃x,x=reachL h.o h.r h.d:=⟨_,rfl⟩
    have hA:=reach_collected hk
    have hM:okB (collectB h).1.o (collectB h).1.r (collectB h).1.w (collectB h).1.d=true:=collect_ok h
    have hml:(collectB h).1.o.length=x.length:=by rw[e1,ex];exact List.length_map _
    rw[←ex]at e1 hw
    have hg:GoodL h.o.length x:=ex ▸ reach_good hh
    have hc:Closed h.o h.d (·∈x):=ex ▸ reach_closed hh
    have hk0:okB h.o h.r h.w h.d=true:=hk
    rw[hml]at hA
    unfold sameB
    rw[hM,hk0,hA,←ex,e1]
    have hwh:∀p:Int,whB x (rangeL x.length) p (wh x p)=true:=fun p=>by
      unfold whB
      rw[wh_rangeL _ _ (wh_range x p).1 (wh_range x p).2];simp
    have hr:cmp2 (whB x (rangeL x.length)) h.r (h.r.map (wh x))=true:=cmp2_map (wh x) h.r (fun p _=>hwh p)
    have ho:objsB h.o (moveL h.o h.r h.w h.d x).o x (rangeL x.length)=true:=by
      unfold objsB
      have h2:=cmp2_map (f:=fun p q=>alikeB x (rangeL x.length) (rd_T38 h.o p) (rd_T38 (moveL h.o h.r h.w h.d x).o q)) (idxL x) x (fun p hp=>by
        show alikeB x (rangeL x.length) (rd_T38 h.o p) (rd_T38 (moveL h.o h.r h.w h.d x).o (idxL x p))=true
        rw[rd_moved p hp]
        unfold alikeB rowsB objOf
        rw[cmp2_map (f:=whB x (rangeL x.length)) (wh x) _ (fun p _=>hwh p)];simp)
      rwa [map_idx_self x hg.1]at h2
    have h2:sameW (seenW x h.w) (seenW (rangeL x.length) (movedW x h.w))=true:=by
      rw[seen_moved x h.w (fun w hw2 _=>hw w hw2)];exact sameW_refl _
    have h3:sameW (seenW x h.d) (seenW (rangeL x.length) (movedW x h.d))=true:=by
      rw[seen_moved x h.d (fun w hw2 h0=>by
        have h5:=wt_parts (hh.ds w hw2)
        exact hc w.f0 h0 w.f1 (next_told hw2 h5.2.2.1) h5.2.2.2.1)];exact sameW_refl _
    have hl:decide (h.r.length=(h.r.map (wh x)).length)=true:=by simp
    show (true && (true && (decide (h.r.length=(h.r.map (wh x)).length) && sameC h.o h.r h.w h.d (moveL h.o h.r h.w h.d x).o (h.r.map (wh x)) (movedW x h.w) (movedW x h.d) x (rangeL x.length))))=true
    rw[hl]
    unfold sameC
    rw[hr,ho,h2,h3,rangeL_length]
    simp
end
end Go.Proofs.Ytigjhfijkdlldaa.H
