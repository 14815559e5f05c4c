import Derived.Test.YtigjhfijkdlldaaDoorSliQc
import Derived.Test.YtigjhfijkdlldaaDoorSliHsd
import Derived.Test.YtigjhfijkdlldaaDoorSliYrf
import Derived.Test.YtigjhfijkdlldaaDoorSliPt
import Derived.Test.YtigjhfijkdlldaaDoorSliCa
import Derived.Test.YtigjhfijkdlldaaDoorSliHsk
import Derived.Test.YtigjhfijkdlldaaDoorSliSc
namespace Go.Proofs.YtigjhfijkdlldaaDoor.H
open Go.RowKit Go.Proofs.YtigjhfijkdlldaaDoorW.PrintWords Go.Proofs.YtigjhfijkdlldaaDoorW.PrintLast Go.Proofs.YtigjhfijkdlldaaDoorW.PrintMore Go.Proofs.YtigjhfijkdlldaaDoor.Q
set_option linter.unusedVariables false
set_option linter.unusedSimpArgs false
section
structure SK (v w0:World) (n:Nat) (X E:Array Value) (w':World):Prop where
  b:Below v.heap.size v w'
  bw:Below w0.heap.size w0 w'
  n0:v.heap.size≤n
  h:w'.heap[n]?=some (.cells X 33 (0,0))
  e:w'.heap[n+1]?=some (.cells E 37 (0,0))
  o:w'.heap[n+2]?=some (.cells nilC 33 (0,0))
section
variable {v w0 w w1:World} {n:Nat} {X E:Array Value}
theorem SK.below (h:SK v w0 n X E w) (hb:Below w.heap.size w w1):SK v w0 n X E w1:=
  ⟨bst h.b hb,bst h.bw hb,h.n0,bbl h.h hb,bbl h.e hb,bbl h.o hb⟩
theorem SK.start (hB:Below v.heap.size v w) (X E:Array Value):SK v w w.heap.size X E (((w.alloc (.cells X 33 (0,0))).alloc (.cells E 37 (0,0))).alloc (.cells nilC 33 (0,0))):=by
  have hb:=below_alloc (below_alloc (below_alloc (Below.refl w.heap.size w) (.cells X 33 (0,0))) (.cells E 37 (0,0))) (.cells nilC 33 (0,0))
  refine⟨bst hB hb,hb,hB.size,blk_alloc (blk_alloc (blk_new w _) _) _,blk_alloc ?_ _,?_⟩
  · have:=blk_new (w.alloc (.cells X 33 (0,0))) (.cells E 37 (0,0))
    rwa [show (w.alloc (.cells X 33 (0,0))).heap.size=w.heap.size+1 from Array.size_push ..]at this
  · have:=blk_new ((w.alloc (.cells X 33 (0,0))).alloc (.cells E 37 (0,0))) (.cells nilC 33 (0,0))
    rwa [show ((w.alloc (.cells X 33 (0,0))).alloc (.cells E 37 (0,0))).heap.size=w.heap.size+2 by
      rw[show ((w.alloc (.cells X 33 (0,0))).alloc (.cells E 37 (0,0))).heap.size=(w.alloc (.cells X 33 (0,0))).heap.size+1 from Array.size_push ..,show (w.alloc (.cells X 33 (0,0))).heap.size=w.heap.size+1 from Array.size_push ..]]at this
theorem SK.oc (h:SK v w0 n X E w):w.cell? ⟨n+2,0,none⟩=some (.slice none 0 0)∧w.cell? ⟨n+2,1,none⟩=some (.slice none 0 0)∧w.cell? ⟨n+2,2,none⟩=some (.slice none 0 0)∧w.cell? ⟨n+2,3,none⟩=some (.slice none 0 0):=box4 h.o
theorem SK.of (h:SK v w0 n X E w) (j:Nat):w.frozen? ⟨n+2,j,none⟩=false:=bfz h.o j
theorem ec7 {e:S40} {A6:Option Addr} {c6:Nat} {g:Nat} (h:w.heap[g]?=some (.cells (evC e A6 c6) 37 (0,0))):w.cell? ⟨g,0,none⟩=some (.int .i64 e.f0)∧w.cell? ⟨g,1,none⟩=some (.int .i64 e.f1)∧w.cell? ⟨g,2,none⟩=some (.int .i64 e.f2)∧w.cell? ⟨g,3,none⟩=some (.int .i64 e.f3)∧w.cell? ⟨g,4,none⟩=some (.int .i64 e.f4.f0)∧w.cell? ⟨g,5,none⟩=some (.string e.f4.f1)∧w.cell? ⟨g,6,none⟩=some (.slice A6 e.f4.f2.length c6):=
  ⟨(bcl h 0).trans rfl,(bcl h 1).trans rfl,(bcl h 2).trans rfl,(bcl h 3).trans rfl,(bcl h 4).trans rfl,(bcl h 5).trans rfl,(bcl h 6).trans rfl⟩
end
end
section
set_option maxHeartbeats 4000000 in
set_option maxRecDepth 100000 in
theorem specStep_calls (v w:World) (A0 A1 A2 A3:Option Addr) (c0 c1 c2 c3:Nat) (G:Hp) (e:S40) (A6:Option Addr) (c6:Nat) (hB:Below v.heap.size v w) (h:InH w A0 c0 A1 c1 A2 c2 A3 c3 G.o G.r G.w G.d) (hf:Fine G.o G.r G.w G.d) (he:Kd.C (Kd.int .i64) w A6 e.f4.f2.length e.f4.f2) (hc:e.f4.f2.length≤c6) (hl6:e.f4.f2.length≤1048576) (hs6:(e.f4.f1.size:Int)≤4611686018427387903) (R:Hp) (s:ByteArray) (hR:(R,s)=stepB G e) :
  Calls Tryd.prog 10 #[.agg #[.slice A0 G.o.length c0,.slice A1 G.r.length c1,.slice A2 G.w.length c2,.slice A3 G.d.length c3],.agg #[.int .i64 e.f0,.int .i64 e.f1,.int .i64 e.f2,.int .i64 e.f3,.int .i64 e.f4.f0,.string e.f4.f1,.slice A6 e.f4.f2.length c6]] w fun en w'=>∃B0 d0 B1 d1 B2 d2 B3 d3,en=.returned (.tuple #[.agg #[.slice B0 R.o.length d0,.slice B1 R.r.length d1,.slice B2 R.w.length d2,.slice B3 R.d.length d3],.string s]) ∧
   OwnG w' v.heap.size B0 d0 B1 d1 B2 d2 B3 d3 R∧Below v.heap.size v w':=by
 have HI:=AK h
 have HF:=AK hf
 have HE0:=AK (And.intro he hc)
 have HL6:=AK (And.intro hl6 hs6)
 have HR:=AK hR
 obtain⟨b,eb⟩:∃b,b=okB G.o G.r G.w G.d:=⟨_,rfl⟩
 have EB:=AK eb
 have K0:=AK (SK.start hB (hpC A0 c0 A1 c1 A2 c2 A3 c3 G) (evC e A6 c6))
 clear hB h hf he hc hl6 hs6 hR eb
 go_enter Tryd.func10,Tryd.ntmps10
 go_wp2_with fail
 have K:=AK (show SK v w w.heap.size (hpC A0 c0 A1 c1 A2 c2 A3 c3 G) (evC e A6 c6) (((w.alloc (.cells #[.slice A0 G.o.length c0,.slice A1 G.r.length c1,.slice A2 G.w.length c2,.slice A3 G.d.length c3] 33 (0,0))).alloc (.cells #[.int .i64 e.f0,.int .i64 e.f1,.int .i64 e.f2,.int .i64 e.f3,.int .i64 e.f4.f0,.string e.f4.f1,.slice A6 e.f4.f2.length c6] 37 (0,0))).alloc (.cells #[.slice none 0 0,.slice none 0 0,.slice none 0 0,.slice none 0 0] 33 (0,0)))from K0.out)
 generalize (((w.alloc (.cells #[.slice A0 G.o.length c0,.slice A1 G.r.length c1,.slice A2 G.w.length c2,.slice A3 G.d.length c3] 33 (0,0))).alloc (.cells #[.int .i64 e.f0,.int .i64 e.f1,.int .i64 e.f2,.int .i64 e.f3,.int .i64 e.f4.f0,.string e.f4.f1,.slice A6 e.f4.f2.length c6] 37 (0,0))).alloc (.cells #[.slice none 0 0,.slice none 0 0,.slice none 0 0,.slice none 0 0] 33 (0,0)))=w1 at K ⊢
 generalize w.heap.size=n at K ⊢
 clear K0
 refine(specOk_c (HI.out.below K.out.bw) (by have:=HF.out.o;omega) HF.out.f (by have:=HF.out.r;omega) (by have:=HF.out.w;omega)).mono ?_
 rintro en w2 ⟨rfl,hb⟩
 rw[←EB.out]
 replace K:=AK (K.out.below hb)
 clear hb
 cases b with
 | false=>
  have he:(R,s)=(hp0,sNo):=by rw[HR.out];unfold stepB Hp.ok;rw[←EB.out];rfl
  injection he with he1 he2
  subst he1 he2
  obtain⟨z0,z1,z2,z3⟩:=K.out.oc
  have y0:=K.out.of 0
  have y1:=K.out.of 1
  have y2:=K.out.of 2
  have y3:=K.out.of 3
  go_wp2
  refine bodyPost_ret (results_ct rfl _ _ (n+2) 33 #[.slice none 0 0,.slice none 0 0,.slice none 0 0,.slice none 0 0] (0,0) _ rfl (set4_blk K.out.o) Tryd.underlying33 rfl (by kernel_rfl)) rfl ?_
  exact⟨none,0,none,0,none,0,none,0,rfl,⟨Kd.S_nil _ _ _ _ _,Kd.R_nil _ _ _ _ _,Kd.R_nil _ _ _ _ _,Kd.R_nil _ _ _ _ _⟩,set4_below K.out.b (by have:=K.out.n0;omega)⟩
 | true=>
 have HK:=AK (ok_parts EB.out.symm)
 have HST:=AK (show (R,s)=if e.f0=7∨toB G e=true then doB G e else(G,sNo)by rw[HR.out];unfold stepB Hp.ok;rw[←EB.out];rfl)
 clear HR
 obtain⟨p0,p1,p2,p3⟩:=box4 K.out.h
 go_wp2_with fail
 clear p0 p1 p2 p3
 refine(l1Copy_calls _ _ _ _ _ _ _ _ _ _ _ _ _ (HI.out.below K.out.bw) (lim_ok HK.out)).mono ?_
 rintro en w3 ⟨B0,b0,B1,b1,B2,b2,B3,b3,rfl,hO,hb⟩
 have HO:=AK (OwnH.lower hO K.out.b.size)
 replace K:=AK (K.out.below hb)
 have HX:=AK (blk_new w3 (.cells #[.slice B0 G.o.length b0,.slice B1 G.r.length b1,.slice B2 G.w.length b2,.slice B3 G.d.length b3] 33 (0,0)))
 have HXB:=AK (below_alloc (Below.refl w3.heap.size w3) (.cells #[.slice B0 G.o.length b0,.slice B1 G.r.length b1,.slice B2 G.w.length b2,.slice B3 G.d.length b3] 33 (0,0)))
 have K4:=AK (K.out.below HXB.out)
 have HO4:=AK (HO.out.below HXB.out)
 clear hO hb K HO HXB
 have hwl:=HK.out.r
 by_cases c7:e.f0=7
 case pos=>
  have f7:(e.f0 != 7)=false:=bne_eq_false_iff_eq.mpr c7
  have HDO:=AK (show (R,s)=doB G e by rw[HST.out,if_pos (.inl c7)])
  have HC7:=AK c7
  clear c7
  obtain⟨q0,q1,q2,q3,q4,q5,q6⟩:=ec7 K4.out.e
  go_wp2_with fail
  clear q0 q1 q2 q3 q4 q5 q6 f7
  generalize (w3.alloc (.cells #[.slice B0 G.o.length b0,.slice B1 G.r.length b1,.slice B2 G.w.length b2,.slice B3 G.d.length b3] 33 (0,0)))=w4 at K4 HX HO4 ⊢
  refine(l4Do_calls v w4 B0 B1 B2 B3 b0 b1 b2 b3 G e A6 c6 K4.out.b HO4.out HK.out (Kd.C_below HE0.out.1 K4.out.bw) HE0.out.2 HL6.out.1 HL6.out.2 (.inl HC7.out) R s HDO.out).mono ?_
  rintro en w6 ⟨D0,d0,D1,d1,D2,d2,D3,d3,rfl,hO6,hb6,hkp⟩
  have HZ:=AK (show w6.heap[n+2]?=some (.cells #[.slice none 0 0,.slice none 0 0,.slice none 0 0,.slice none 0 0] 33 (0,0))from hkp _ _ _ K4.out.o (by decide) (by decide) (by decide))
  have HN:=AK K4.out.n0
  have HY:=AK (below_alloc (Below.refl w6.heap.size w6) (.cells #[.slice D0 R.o.length d0,.slice D1 R.r.length d1,.slice D2 R.w.length d2,.slice D3 R.d.length d3] 33 (0,0)))
  have HB7:=AK (bst hb6 HY.out)
  have HZ7:=AK (bbl HZ.out HY.out)
  have HI7:=AK (hO6.below HY.out).reads
  have HRK:=AK (ok_parts (show okB R.o R.r R.w R.d=true by have h:=do_ok (h:=G) (EB.out.symm) e;rw[←HDO.out]at h;exact h))
  clear hO6 hb6 hkp K4 HO4 HX HZ HY
  go_wp2_with fail
  refine(l1Copy_calls _ _ _ _ _ _ _ _ _ _ _ _ _ HI7.out (lim_ok HRK.out)).mono ?_
  rintro en w8 ⟨F0,e0,F1,e1,F2,e2,F3,e3,rfl,hO8,hb8⟩
  have HZ8:=AK (bbl HZ7.out hb8)
  have HB8:=AK (bst HB7.out hb8)
  have HO8:=AK (OwnH.lower hO8 HB7.out.size)
  clear hO8 hb8
  obtain⟨z0,z1,z2,z3⟩:=box4 HZ8.out
  have y0:=bfz HZ8.out 0
  have y1:=bfz HZ8.out 1
  have y2:=bfz HZ8.out 2
  have y3:=bfz HZ8.out 3
  go_wp2
  refine bodyPost_ret (results_ct rfl _ _ (n+2) 33 #[.slice F0 R.o.length e0,.slice F1 R.r.length e1,.slice F2 R.w.length e2,.slice F3 R.d.length e3] (0,0) _ rfl (set4_blk HZ8.out) Tryd.underlying33 rfl (by kernel_rfl)) rfl ?_
  exact⟨F0,e0,F1,e1,F2,e2,F3,e3,rfl,HO8.out.set4 HZ8.out,set4_below HB8.out (by have:=HN.out;omega)⟩
 have f7:(e.f0 != 7)=true:=bne_iff_ne.mpr c7
 have HC7:=AK c7
 clear c7
 obtain⟨q0,q1,q2,q3,q4,q5,q6⟩:=ec7 K4.out.e
 obtain⟨p0,p1,p2,p3⟩:=box4 K4.out.h
 have hwr:wrap64 ((G.r.length:Int) - 1)=(G.r.length:Int) - 1:=by unfold wrap64;omega
 go_wp2_with fail
 clear q0 q1 q2 q3 q4 q5 q6 p0 p1 p2 p3 f7 hwr
 generalize (w3.alloc (.cells #[.slice B0 G.o.length b0,.slice B1 G.r.length b1,.slice B2 G.w.length b2,.slice B3 G.d.length b3] 33 (0,0)))=w4 at K4 HX HO4 ⊢
 generalize w3.heap.size=m at HX ⊢
 refine l1In_c.mono ?_
 rintro en w5 ⟨rfl,rfl⟩
 rw[show lB e.f1 0 ((G.r.length:Int) - 1)=toB G e by unfold lB toB;congr 1;exact decide_eq_decide.2 (by omega)]
 obtain⟨b2_,eb2⟩:∃b2_,b2_=toB G e:=⟨_,rfl⟩
 have EB2:=AK eb2
 rw[←eb2]
 clear eb2
 cases b2_ with
 | false=>
  have he:(R,s)=(G,sNo):=by rw[HST.out];exact if_neg (fun h=>h.elim HC7.out (fun h=>by rw[←EB2.out]at h;cases h))
  injection he with he1 he2
  subst he1 he2
  obtain⟨z0,z1,z2,z3⟩:=K4.out.oc
  have y0:=K4.out.of 0
  have y1:=K4.out.of 1
  have y2:=K4.out.of 2
  have y3:=K4.out.of 3
  obtain⟨x0,x1,x2,x3⟩:=box4 HX.out
  go_wp2
  refine bodyPost_ret (results_ct rfl _ _ (n+2) 33 #[.slice B0 R.o.length b0,.slice B1 R.r.length b1,.slice B2 R.w.length b2,.slice B3 R.d.length b3] (0,0) _ rfl (set4_blk K4.out.o) Tryd.underlying33 rfl (by kernel_rfl)) rfl ?_
  exact⟨B0,b0,B1,b1,B2,b2,B3,b3,rfl,HO4.out.set4 K4.out.o,set4_below K4.out.b (by have:=K4.out.n0;omega)⟩
 | true=>
  have HDO:=AK (show (R,s)=doB G e by rw[HST.out,if_pos (.inr EB2.out.symm)])
  obtain⟨q0,q1,q2,q3,q4,q5,q6⟩:=ec7 K4.out.e
  obtain⟨x0,x1,x2,x3⟩:=box4 HX.out
  go_wp2_with fail
  clear q0 q1 q2 q3 q4 q5 q6 x0 x1 x2 x3
  refine(l4Do_calls v w5 B0 B1 B2 B3 b0 b1 b2 b3 G e A6 c6 K4.out.b HO4.out HK.out (Kd.C_below HE0.out.1 K4.out.bw) HE0.out.2 HL6.out.1 HL6.out.2 (.inr EB2.out.symm) R s HDO.out).mono ?_
  rintro en w6 ⟨D0,d0,D1,d1,D2,d2,D3,d3,rfl,hO6,hb6,hkp⟩
  have HZ:=AK (show w6.heap[n+2]?=some (.cells #[.slice none 0 0,.slice none 0 0,.slice none 0 0,.slice none 0 0] 33 (0,0))from hkp _ _ _ K4.out.o (by decide) (by decide) (by decide))
  have HN:=AK K4.out.n0
  have HY:=AK (below_alloc (Below.refl w6.heap.size w6) (.cells #[.slice D0 R.o.length d0,.slice D1 R.r.length d1,.slice D2 R.w.length d2,.slice D3 R.d.length d3] 33 (0,0)))
  have HB7:=AK (bst hb6 HY.out)
  have HZ7:=AK (bbl HZ.out HY.out)
  have HI7:=AK (hO6.below HY.out).reads
  have HRK:=AK (ok_parts (show okB R.o R.r R.w R.d=true by have h:=do_ok (h:=G) (EB.out.symm) e;rw[←HDO.out]at h;exact h))
  clear hO6 hb6 hkp K4 HO4 HX HZ HY
  go_wp2_with fail
  refine(l1Copy_calls _ _ _ _ _ _ _ _ _ _ _ _ _ HI7.out (lim_ok HRK.out)).mono ?_
  rintro en w8 ⟨F0,e0,F1,e1,F2,e2,F3,e3,rfl,hO8,hb8⟩
  have HZ8:=AK (bbl HZ7.out hb8)
  have HB8:=AK (bst HB7.out hb8)
  have HO8:=AK (OwnH.lower hO8 HB7.out.size)
  clear hO8 hb8
  obtain⟨z0,z1,z2,z3⟩:=box4 HZ8.out
  have y0:=bfz HZ8.out 0
  have y1:=bfz HZ8.out 1
  have y2:=bfz HZ8.out 2
  have y3:=bfz HZ8.out 3
  go_wp2
  refine bodyPost_ret (results_ct rfl _ _ (n+2) 33 #[.slice F0 R.o.length e0,.slice F1 R.r.length e1,.slice F2 R.w.length e2,.slice F3 R.d.length e3] (0,0) _ rfl (set4_blk HZ8.out) Tryd.underlying33 rfl (by kernel_rfl)) rfl ?_
  exact⟨F0,e0,F1,e1,F2,e2,F3,e3,rfl,HO8.out.set4 HZ8.out,set4_below HB8.out (by have:=HN.out;omega)⟩
end
section
theorem specReach_c {w:World} {A0 A1 A2 A3:Option Addr} {c0 c1 c2 c3:Nat} {l0:List S38} {l1:List Int} {l2 l3:List S60} (h:InH w A0 c0 A1 c1 A2 c2 A3 c3 l0 l1 l2 l3) (hf:Fine l0 l1 l2 l3) :
    Calls Tryd.prog 12 #[.agg #[.slice A0 l0.length c0,.slice A1 l1.length c1,.slice A2 l2.length c2,.slice A3 l3.length c3]] w fun e w'=>
      ∃v:Value,e=.returned v∧Kd.R (Kd.int .i64) 3 w' w.heap.size (fun _=>True) v (reachA l0 l1 l2 l3)∧Below w.heap.size w w':=by
  have HI:=AK (h.below (below_alloc (Below.refl _ _) (.cells #[.slice A0 l0.length c0,.slice A1 l1.length c1,.slice A2 l2.length c2,.slice A3 l3.length c3] 33 (0,0))))
  have HF:=AK hf
  have HB:=AK (below_alloc (Below.refl w.heap.size w) (.cells #[.slice A0 l0.length c0,.slice A1 l1.length c1,.slice A2 l2.length c2,.slice A3 l3.length c3] 33 (0,0)))
  have HX:=AK (blk_new w (.cells #[.slice A0 l0.length c0,.slice A1 l1.length c1,.slice A2 l2.length c2,.slice A3 l3.length c3] 33 (0,0)))
  clear h hf
  go_enter Tryd.func12,Tryd.ntmps12
  go_wp2_with fail
  generalize w.alloc (.cells #[.slice A0 l0.length c0,.slice A1 l1.length c1,.slice A2 l2.length c2,.slice A3 l3.length c3] 33 (0,0))=w1 at HI HB HX ⊢
  refine(specOk_c HI.out (by have:=HF.out.o;omega) HF.out.f (by have:=HF.out.r;omega) (by have:=HF.out.w;omega)).mono ?_
  rintro e w2 ⟨rfl,hb⟩
  replace HI:=AK (HI.out.below hb)
  replace HB:=AK (bst HB.out hb)
  replace HX:=AK (bbl HX.out hb)
  clear hb
  cases hok:okB l0 l1 l2 l3 with
  | false=>
    have HO:=AK hok
    clear hok
    go_wp2_with ((with_reducible refine gate_dst (N:=6) rfl ?_);refine Kd.R_lit (Kd.int .i64) (w0:=w2) w.heap.size 3 ?hg (N:=6) ?hd (xs:=([]:List Int)) (inner:=[]) (ok:=fun _=>True) (okp:=fun _=>True) ?hr ?hp (fun _ hk=>hk) trivial (Below.refl _ _) HB.out.size (by simp) ?_;(case hd=>rfl);(case hg=>rfl);(case hr=>first|(go_simp;done)|(go_simp;rfl));(case hp=>exact Reps.none _ _);intro v1 w3 hr hb hg hn;have HR:=AK hr;have HG:=AK hg;clear hr hb hg hn)
    go_ret
    refine⟨_,rfl,?_,bst HB.out ⟨HG.out.os,HG.out.tape,HG.out.output,HG.out.size,fun k hk=>HG.out.block k hk (by simp)⟩⟩
    unfold reachA
    rw[HO.out,if_neg (by decide)]
    exact HR.out
  | true=>
    have HO:=AK hok
    clear hok
    obtain⟨q0,q1,q2,q3⟩:=box4 HX.out
    go_wp2_with fail
    refine(l2Reach_c2 HI.out (ok_parts HO.out)).mono ?_
    rintro e w3 ⟨v,rfl,hr,hb⟩
    have HB3:=AK (bst HB.out hb)
    have HR3:=AK (Kd.R_lower hr HB.out.size)
    clear hr hb
    go_wp2
    go_ret
    exact⟨_,rfl,by unfold reachA;rw[if_pos HO.out];exact HR3.out,HB3.out⟩
end
section
theorem l5Cut10_c {w:World} {s:ByteArray} (hs:s.size≤1048576):Calls Tryd.prog 8 #[.string s,.int .u8 10] w fun e w'=>∃(A:Option Addr) (d:Nat),e=.returned (.slice A (cutB 10 s).length d)∧Kd.R Kd.string 9 w' w.heap.size (fun _=>True) (.slice A (cutB 10 s).length d) (cutB 10 s)∧Below w.heap.size w w':=l5Cut_c (c:=10) hs
theorem l5Cut32_c {w:World} {s:ByteArray} (hs:s.size≤1048576):Calls Tryd.prog 8 #[.string s,.int .u8 32] w fun e w'=>∃(A:Option Addr) (d:Nat),e=.returned (.slice A (cutB 32 s).length d)∧Kd.R Kd.string 9 w' w.heap.size (fun _=>True) (.slice A (cutB 32 s).length d) (cutB 32 s)∧Below w.heap.size w w':=l5Cut_c (c:=32) hs
theorem cut27_to {K:Option Addr} {n c k:Nat} {j:Int} (h0:0≤j) (hm:j≤n) (hc:n≤c) (hk:k=j.toNat):∀W:World,(Instr.slice 27 (.slice K n c) none (some (.int .i64 j)) none).run Tryd.prog W=.ok (.slice K k c) W:=by
  subst hk
  obtain⟨i0,hinf,_⟩:=info_parts info9
  exact cut_to 27 9 .i64 Tryd.underlying27 hinf K n c j h0 hm hc
theorem lines_last {text:ByteArray} (h:((cutB 10 text).getD ((cutB 10 text).length - 1) ByteArray.empty).toList=[]):linesB text=(cutB 10 text).take ((cutB 10 text).length - 1):=by unfold linesB;rw[if_pos h]
theorem lines_all {text:ByteArray} (h:((cutB 10 text).getD ((cutB 10 text).length - 1) ByteArray.empty).toList≠[]):linesB text=cutB 10 text:=by unfold linesB;rw[if_neg h]
theorem lines_mem {text:ByteArray}:∀l∈linesB text,l.size≤text.size:=by
  intro l hl
  unfold linesB at hl
  split at hl
  · exact cutB_size 10 text l (List.mem_of_mem_take hl)
  · exact cutB_size 10 text l hl
theorem box4d {w:World} {g t:Nat} {a b c d:Value} (hb:w.heap[g]?=some (.cells #[a,b,c,d] t (0,0))):w.cell? ⟨g,0,none⟩=some a∧w.cell? ⟨g,1,none⟩=some b∧w.cell? ⟨g,2,none⟩=some c∧w.cell? ⟨g,3,none⟩=some d:=
  ⟨(bcl hb 0).trans rfl,(bcl hb 1).trans rfl,(bcl hb 2).trans rfl,(bcl hb 3).trans rfl⟩
theorem sess_step {h:Hp} {l:ByteArray} {M:List ByteArray} {out r:ByteArray} {i:Int} (h0:0≤i) (h1:i<M.length) (hl:l=M.getD i.toNat ByteArray.empty) (hr:sessB h (M.drop i.toNat) out=r):sessB (lineB h l).1 (M.drop (i+1).toNat) (out++((lineB h l).2++sNl))=r:=by
  rw[drop_cons M ByteArray.empty i h0 h1,←hl]at hr
  exact hr
theorem ss19_tab:rtab .any (opsOf Tryd.f5 19)=(true,[([],[]),([],[]),([1],[1]),([2],[2]),([3,2],[3]),([0,4],[0,4]),([5],[5]),([],[]),([7],[7]),([8],[8]),([9,4],[9]),([6,10],[6,10]),([11],[11]),([12,10,0,1,2,3,4,5,6,7,8,9,10,11,12],[0,12])]):=by kernel_rfl
theorem ss19_bits:waitsOk [([],[]),([],[]),([1],[1]),([2],[2]),([3,2],[3]),([0,4],[0,4]),([5],[5]),([],[]),([7],[7]),([8],[8]),([9,4],[9]),([6,10],[6,10]),([11],[11]),([12,10,0,1,2,3,4,5,6,7,8,9,10,11,12],[0,12])] [0,0,2,6,14,31,63,0,128,384,926,2047,4095,8191]=true:=by kernel_rfl
set_option maxHeartbeats 40000000 in
set_option maxRecDepth 100000 in
theorem specSession_c {w:World} {text:ByteArray} (hs:text.size≤1048576):Calls Tryd.prog 5 #[.string text] w fun e w'=>e=.returned (.string (sessionB text))∧Below w.heap.size w w':=by
  have HS:=AK hs
  obtain⟨r,hr⟩:∃r,r=sessionB text:=⟨_,rfl⟩
  have ER:=AK hr
  rw[←hr]
  clear hs hr
  go_enter Tryd.func5,Tryd.ntmps5
  go_wp2_with fail
  refine(l5Cut10_c HS.out).mono ?_
  rintro en w1 ⟨A,d,rfl,hR,hb⟩
  obtain⟨L,eL⟩:∃L,L=cutB 10 text:=⟨_,rfl⟩
  rw[←eL]at hR ⊢
  have EL:=AK eL
  have HB:=AK hb
  have HR:=AK (Kd.R_reads' hR).2
  have HL:=AK (show 1≤L.length∧L.length≤1048577 from by rw[eL];exact⟨cutB_pos _ _,by have:=cutB_most 10 text;have:=HS.out;omega⟩)
  clear hR hb eL
  obtain⟨ad,ea,_⟩:=Kd.at_string HR.out.2 0 (by omega) (by have:=HL.out;omega)
  subst ea
  obtain⟨n1,hn1⟩:∃n,wrap64 ((L.length:Int) - 1)=n:=⟨_,rfl⟩
  have HN1:=AK (show n1=L.length - 1 from by rw[←hn1,wr_in (by have:=HL.out;omega) (by have:=HL.out;omega)])
  obtain⟨u,hu⟩:∃u,u=L.getD (L.length - 1) ByteArray.empty:=⟨_,rfl⟩
  have HU:=AK hu
  have y0:=str_at HR.out.2 n1.toNat (by have:=HN1.out;have:=HL.out;omega)
  rw[show n1.toNat=L.length - 1 by have:=HN1.out;have:=HL.out;omega,←hu]at y0
  replace y0:w1.cell? (ad.add n1.toNat)=some (.string u):=by rw[show n1.toNat=L.length - 1 by have:=HN1.out;have:=HL.out;omega];exact y0
  have k0:=eq_true (show 0≤n1 by have:=HN1.out;have:=HL.out;omega)
  have k1:=eq_true (show n1<(L.length:Int)by have:=HN1.out;have:=HL.out;omega)
  obtain⟨bl,hbl⟩:∃b,(u.toList == ([]:List UInt8))=b:=⟨_,rfl⟩
  have HBL:=AK hbl
  obtain⟨M,hM⟩:∃m,m=linesB text:=⟨_,rfl⟩
  have EM:=AK hM
  clear hu hM
  go_upto_if 20 with fail
  clear hbl y0
  go_cut [3] (fun v3 wc=>v3=.slice (some ad) M.length d∧wc=w1)
  case first=>
    cases bl
    · have e:M=L:=by rw[EM.out,EL.out];exact lines_all (by rw[←EL.out,←HU.out];have:=HBL.out;simpa using this)
      subst e
      go_wp2
      go_meet
      case rel=>exact⟨rfl,rfl⟩
    · have e:M=L.take (L.length - 1):=by rw[EM.out,EL.out];exact lines_last (by rw[←EL.out,←HU.out];have:=HBL.out;simpa using this)
      have hcut:=cut27_to (K:=some ad) (n:=L.length) (c:=d) (k:=M.length) (j:=n1) (by have:=HN1.out;have:=HL.out;omega) (by have:=HN1.out;omega) HR.out.1 (by rw[e,List.length_take];have:=HN1.out;have:=HL.out;omega)
      clear e
      go_wp2
      go_meet
      case rel=>exact⟨rfl,rfl⟩
  case rest=>
  obtain⟨rfl,rfl⟩:=hcut
  clear hn1 k0 k1
  have HM:=AK (show Kd.C Kd.string wc (some ad) M.length M from by
    have h1:=HR.out.2
    cases bl
    · have e:M=L:=by rw[EM.out,EL.out];exact lines_all (by rw[←EL.out,←HU.out];have:=HBL.out;simpa using this)
      rw[e];exact h1
    · have e:M=L.take (L.length - 1):=by rw[EM.out,EL.out];exact lines_last (by rw[←EL.out,←HU.out];have:=HBL.out;simpa using this)
      have h2:=Kd.C_take (m:=L.length - 1) h1 (by omega)
      rw[e];exact h2)
  have HMS:=AK (show ∀l∈M,l.size≤1048576 from fun l hl=>by have:=lines_mem (text:=text) l (by rw[←EM.out];exact hl);have:=HS.out;omega)
  clear HR HU HBL HN1 EL HL
  by_cases c1:6000<text.size
  · have f0:=eq_true (show (6000:Int)<(text.size:Int)by omega)
    have f1:decide ((6000:Int)<(text.size:Int))=true:=deT (by omega)
    have f2:decide (6000<text.size)=true:=deT c1
    have f3:=eq_true c1
    have e:r=sLong:=by rw[ER.out];unfold sessionB;rw[if_pos (.inl c1)]
    subst e
    clear c1
    go_wp2
    go_ret
    exact⟨rfl,HB.out⟩
  have f0:=eq_false (show ¬ (6000:Int)<(text.size:Int)by omega)
  have f1:decide ((6000:Int)<(text.size:Int))=false:=deF (by omega)
  have f2:decide (6000<text.size)=false:=deF c1
  have f3:=eq_false c1
  by_cases c2:200<M.length
  · have g0:=eq_true (show (200:Int)<(M.length:Int)by omega)
    have g1:decide ((200:Int)<(M.length:Int))=true:=deT (by omega)
    have g2:decide (200<M.length)=true:=deT c2
    have g3:=eq_true c2
    have e:r=sLong:=by rw[ER.out];unfold sessionB;rw[if_pos (.inr (by rw[←EM.out];exact c2))]
    subst e
    clear c1 c2
    go_wp2
    go_ret
    exact⟨rfl,HB.out⟩
  have g0:=eq_false (show ¬ (200:Int)<(M.length:Int)by omega)
  have g1:decide ((200:Int)<(M.length:Int))=false:=deF (by omega)
  have g2:decide (200<M.length)=false:=deF c2
  have g3:=eq_false c2
  have HRR:=AK (show sessB h0 (M.drop (0:Int).toNat) ByteArray.empty=r from by
    rw[ER.out];unfold sessionB;rw[if_neg (by rw[←EM.out];omega),←EM.out];rfl)
  have HC2:=AK (show M.length≤200 by omega)
  clear c1 c2
  go_upto_region 6 with fail
  clear f0 f1 f2 f3 g0 g1 g2 g3
  go_upto_region 7 with((with_reducible refine gate_dst (N:=34) rfl ?_);refine Kd.R_lit (Kd.int .i64) (w0:=wc) wc.heap.size 3 ?hg (N:=34) ?hd (xs:=([-1,-1,-1,-1,-1,-1,-1,-1]:List Int)) (inner:=[.int .i64 (-1),.int .i64 (-1),.int .i64 (-1),.int .i64 (-1),.int .i64 (-1),.int .i64 (-1),.int .i64 (-1),.int .i64 (-1)]) (ok:=fun _=>True) (okp:=fun _=>True) ?hr ?hp (fun _ hk=>hk) trivial (Below.refl _ _) (Nat.le_refl _) (by simp) ?_;(case hd=>rfl);(case hg=>rfl);(case hr=>first|(go_simp;done)|(go_simp;rfl));(case hp=>exact(Reps.one (show Kd.M (Kd.int .i64) _ _ _ (-1) [.int .i64 (-1)]from rfl) (Reps.one (show Kd.M (Kd.int .i64) _ _ _ (-1) [.int .i64 (-1)]from rfl) (Reps.one (show Kd.M (Kd.int .i64) _ _ _ (-1) [.int .i64 (-1)]from rfl) (Reps.one (show Kd.M (Kd.int .i64) _ _ _ (-1) [.int .i64 (-1)]from rfl) (Reps.one (show Kd.M (Kd.int .i64) _ _ _ (-1) [.int .i64 (-1)]from rfl) (Reps.one (show Kd.M (Kd.int .i64) _ _ _ (-1) [.int .i64 (-1)]from rfl) (Reps.one (show Kd.M (Kd.int .i64) _ _ _ (-1) [.int .i64 (-1)]from rfl) (Reps.one (show Kd.M (Kd.int .i64) _ _ _ (-1) [.int .i64 (-1)]from rfl) (Reps.none _ _))))))))));intro v34 w5 hr hb hg hn;obtain⟨B1,d1,hv⟩:=Kd.R_slice hr;subst hv;have O:=AK (show OwnG w5 wc.heap.size none 0 B1 d1 none 0 none 0 h0 from⟨⟨fun _=>0,Kd.R_nil _ _ _ _ _⟩,hr,Kd.R_nil _ _ _ _ _,Kd.R_nil _ _ _ _ _⟩);have HBW:=AK hb;clear hr hb hg hn)
  have HNN:=AK (show wc.heap.size≤w5.heap.size from HBW.out.size)
  have HX:=AK (blk_new w5 (.cells #[.slice none 0 0,.slice B1 8 d1,.slice none 0 0,.slice none 0 0] 33 (0,0)))
  replace O:=AK (O.out.below (below_alloc (Below.refl _ _) (.cells #[.slice none 0 0,.slice B1 8 d1,.slice none 0 0,.slice none 0 0] 33 (0,0))))
  replace HBW:=AK (below_alloc HBW.out (.cells #[.slice none 0 0,.slice B1 8 d1,.slice none 0 0,.slice none 0 0] 33 (0,0)))
  generalize w5.alloc (.cells #[.slice none 0 0,.slice B1 8 d1,.slice none 0 0,.slice none 0 0] 33 (0,0))=w6 at HX O HBW ⊢
  generalize w5.heap.size=n at HX HNN ⊢
  go_wp2_with fail
  go_loopg [5,6] M.length (fun kq v5 v6 w'=>∃(h:Hp) (B0:Option Addr) (d0:Nat) (B1:Option Addr) (d1:Nat) (B2:Option Addr) (d2:Nat) (B3:Option Addr) (d3:Nat) (ot:ByteArray) (i:Int),v5=.string ot∧v6=.int .i64 i∧Aside0 (0≤i∧i+kq=M.length)∧Aside0 (h.ok=true∧(ot.size:Int)≤14*i)∧Aside0 (sessB h (M.drop i.toNat) ot=r)∧Aside0 (Below wc.heap.size wc w')∧Aside0 (w'.heap[n]?=some (.cells #[.slice B0 h.o.length d0,.slice B1 h.r.length d1,.slice B2 h.w.length d2,.slice B3 h.d.length d3] 33 (0,0)))∧Aside0 (OwnG w' wc.heap.size B0 d0 B1 d1 B2 d2 B3 d3 h))
  case atStart=>exact⟨h0,none,0,B1,d1,none,0,none,0,ByteArray.empty,0,rfl,rfl,⟨by omega,by omega⟩,⟨h0_ok,by decide⟩,HRR,HBW,HX,O⟩
  case round=>
    clear HX O HBW HRR
    obtain⟨h,B0,d0,B1,d1,B2,d2,B3,d3,ot,i,rfl,rfl,HI,HK,HT,HBW,HX,O⟩:=hrel
    cases gk with
    | zero=>
      have c9:decide (i<(M.length:Int))=false:=deF (by have:=HI.out;omega)
      have e:ot=r:=by
        have h1:=HT.out
        rw[List.drop_eq_nil_of_le (by have:=HI.out;omega)]at h1
        exact h1
      subst e
      go_wp2
      go_ret
      exact⟨rfl,bst HB.out HBW.out⟩
    | succ g1=>
      have c9:decide (i<(M.length:Int))=true:=deT (by have:=HI.out;omega)
      have hi0:=eq_true (show 0≤i by have:=HI.out;omega)
      have hi1:=eq_true (show i<(M.length:Int)by have:=HI.out;omega)
      obtain⟨l,hl⟩:∃l,l=M.getD i.toNat ByteArray.empty:=⟨_,rfl⟩
      have HLL:=AK hl
      have HLS:=AK (show l.size≤1048576 from by rw[hl];exact HMS.out _ (getD_mem M ByteArray.empty i (by have:=HI.out;omega) (by have:=HI.out;omega)))
      have y0:=str_at (Kd.C_below HM.out HBW.out) i.toNat (by have:=HI.out;omega)
      rw[←hl]at y0
      have HST:=AK (sess_step (h:=h) (l:=l) (M:=M) (out:=ot) (r:=r) (i:=i) (by have:=HI.out;omega) (by have:=HI.out;omega) hl HT.out)
      have HLK:=AK (line_ok HK.out.1 l)
      have HLZ:=AK (line_size HK.out.1 l)
      obtain⟨R,s,hRS⟩:∃R s,(R,s)=lineB h l:=⟨_,_,rfl⟩
      have HRS:=AK hRS
      rw[show (lineB h l).1=R from(congrArg Prod.fst hRS).symm,show (lineB h l).2=s from(congrArg Prod.snd hRS).symm]at HST
      rw[show (lineB h l).1=R from(congrArg Prod.fst hRS).symm]at HLK
      rw[show (lineB h l).2=s from(congrArg Prod.snd hRS).symm]at HLZ
      clear hl hRS
      go_wp2_with fail
      clear c9 hi0 hi1 y0
      refine(l5Cut32_c HLS.out).mono ?_
      rintro en w7 ⟨C,cc,rfl,hR,hb⟩
      obtain⟨ws,eW⟩:∃L,L=cutB 32 l:=⟨_,rfl⟩
      rw[←eW]at hR ⊢
      have EW:=AK eW
      have HWS:=AK (Kd.R_reads' hR).2.2
      have HWL:=AK (show 1≤ws.length∧ws.length≤1048577 from by rw[eW];exact⟨cutB_pos _ _,by have:=cutB_most 32 l;have:=HLS.out;omega⟩)
      have HWZ:=AK (show ∀p∈ws,p.size≤1048576 from fun p hp=>by rw[eW]at hp;have:=cutB_size 32 l p hp;have:=HLS.out;omega)
      replace HBW:=AK (bst HBW.out hb)
      replace HX:=AK (bbl HX.out hb)
      replace O:=AK (O.out.below hb)
      clear hR hb eW
      go_wp2_with fail
      refine(l5Event_c HWS.out HWL.out.1 HWL.out.2).mono ?_
      rintro en w8 ⟨e,F,f,rfl,he,hF,hb⟩
      have HE:=AK he
      have HF:=AK (Kd.R_reads' hF).2
      replace HWS:=AK (Kd.C_below HWS.out hb)
      replace HBW:=AK (bst HBW.out hb)
      replace HX:=AK (bbl HX.out hb)
      replace O:=AK (O.out.below hb)
      clear he hF hb
      obtain⟨be,hbe⟩:∃b,b=(eventB ws).isSome:=⟨_,rfl⟩
      have HBE:=AK hbe
      rw[←hbe]
      clear hbe
      go_upto_block 2 with fail
      have HY:=AK (blk_new w8 (.cells #[.int .i64 e.f0,.int .i64 e.f1,.int .i64 e.f2,.int .i64 e.f3,.int .i64 e.f4.f0,.string e.f4.f1,.slice F e.f4.f2.length f] 37 (0,0)))
      replace HF:=AK (And.intro HF.out.1 (Kd.C_below HF.out.2 (below_alloc (Below.refl _ _) (.cells #[.int .i64 e.f0,.int .i64 e.f1,.int .i64 e.f2,.int .i64 e.f3,.int .i64 e.f4.f0,.string e.f4.f1,.slice F e.f4.f2.length f] 37 (0,0)))))
      replace HWS:=AK (Kd.C_below HWS.out (below_alloc (Below.refl _ _) (.cells #[.int .i64 e.f0,.int .i64 e.f1,.int .i64 e.f2,.int .i64 e.f3,.int .i64 e.f4.f0,.string e.f4.f1,.slice F e.f4.f2.length f] 37 (0,0))))
      replace HBW:=AK (bst HBW.out (below_alloc (Below.refl _ _) (.cells #[.int .i64 e.f0,.int .i64 e.f1,.int .i64 e.f2,.int .i64 e.f3,.int .i64 e.f4.f0,.string e.f4.f1,.slice F e.f4.f2.length f] 37 (0,0))))
      replace HX:=AK (blk_alloc HX.out (.cells #[.int .i64 e.f0,.int .i64 e.f1,.int .i64 e.f2,.int .i64 e.f3,.int .i64 e.f4.f0,.string e.f4.f1,.slice F e.f4.f2.length f] 37 (0,0)))
      replace O:=AK (O.out.below (below_alloc (Below.refl _ _) (.cells #[.int .i64 e.f0,.int .i64 e.f1,.int .i64 e.f2,.int .i64 e.f3,.int .i64 e.f4.f0,.string e.f4.f1,.slice F e.f4.f2.length f] 37 (0,0))))
      generalize w8.alloc (.cells #[.int .i64 e.f0,.int .i64 e.f1,.int .i64 e.f2,.int .i64 e.f3,.int .i64 e.f4.f0,.string e.f4.f1,.slice F e.f4.f2.length f] 37 (0,0))=w9 at HY HF HWS HBW HX O ⊢
      generalize w8.heap.size=n8 at HY ⊢
      cases be
      case false=>
        as_aux_lemma=>
          have hnone:eventB ws=none:=by
            have h1:=HBE.out
            cases hx:eventB ws with
            | none=>rfl
            | some e=>rw[hx]at h1;cases h1
          obtain⟨u0,hu0⟩:∃u,u=ws.getD 0 ByteArray.empty:=⟨_,rfl⟩
          have HU0:=AK (show tw ws=u0.toList by rw[hu0];rfl)
          obtain⟨ad2,ea,_⟩:=Kd.at_string HWS.out 0 (by omega) (by have:=HWL.out;omega)
          subst ea
          have y0:=str_at0 HWS.out (by have:=HWL.out;omega)
          rw[←hu0]at y0
          have k0:=eq_true (show (0:Int)<(ws.length:Int)by have:=HWL.out;omega)
          have k0b:=eq_true (show 0<ws.length by have:=HWL.out;omega)
          have HLB:=AK (show (R,s)=if(u0.toList == [115,105,122,101]) && (ws.length == 1)then(h,(decB (reachL h.o h.r h.d).length++sOf)++decB h.o.length)else(h,sBad)from by
            rw[HRS.out];unfold lineB;rw[←EW.out,hnone,HU0.out])
          clear hnone hu0
          by_cases hX:u0.toList=[115,105,122,101]
          · have t1:(u0.toList == [115,105,122,101])=true:=by rw[hX];rfl
            by_cases hn:ws.length=1
            · have n1:((ws.length:Int) == 1)=true:=beq_iff_eq.2 (by omega)
              have n1p:=eq_true (show (ws.length:Int)=1 by omega)
              have hlb:=HLB.out
              rw[t1,beq_iff_eq.2 hn]at hlb
              simp only[Bool.and_true,if_true]at hlb
              clear hX hn
              have e1:R=h:=congrArg Prod.fst hlb
              have e2:s=(decB (reachL h.o h.r h.d).length++sOf)++decB h.o.length:=congrArg Prod.snd hlb
              clear hlb
              subst e1
              have HKO:=AK (show OkH R.o R.r R.w R.d from ok_parts HK.out.1)
              obtain⟨x,ex⟩:∃x,x=reachA R.o R.r R.w R.d:=⟨_,rfl⟩
              have EX:=AK ex
              have ex2:x=reachL R.o R.r R.d:=by rw[ex];unfold reachA;exact if_pos HK.out.1
              have HXL:=AK (show x.length≤60 from by
                have h1:=nodup_len _ _ (reach_good HKO.out)
                have h2:=HKO.out.n
                rw[ex2];omega)
              obtain⟨x1,ex1⟩:∃y,y=decB x.length:=⟨_,rfl⟩
              obtain⟨x2,exx2⟩:∃y,y=decB R.o.length:=⟨_,rfl⟩
              have EX1:=AK ex1
              have EX2:=AK exx2
              have ES:=AK (show s=(x1++sOf)++x2 from by rw[e2,ex1,exx2,ex2])
              have z0:=HK.out.2
              have z1:=HI.out
              have z2:=HC2.out
              have z3:x1.size≤2:=by rw[ex1];exact decB_size _
              have z4:x2.size≤2:=by rw[exx2];exact decB_size _
              have HZ:=AK (And.intro z3 z4)
              have a0:=eq_true (show ot.size+x1.size≤9223372036854775807 by omega)
              have a1:decide (ot.size+x1.size≤9223372036854775807)=true:=deT (by omega)
              have a2:=eq_false (show ¬ 9223372036854775807<ot.size+x1.size by omega)
              have b0:=eq_true (show ot.size+x1.size+4≤9223372036854775807 by omega)
              have b1:decide (ot.size+x1.size+4≤9223372036854775807)=true:=deT (by omega)
              have b2:=eq_false (show ¬ 9223372036854775807<ot.size+x1.size+4 by omega)
              have c0:=eq_true (show ot.size+x1.size+4+x2.size≤9223372036854775807 by omega)
              have c1:decide (ot.size+x1.size+4+x2.size≤9223372036854775807)=true:=deT (by omega)
              have c2:=eq_false (show ¬ 9223372036854775807<ot.size+x1.size+4+x2.size by omega)
              have g0:=eq_true (show ot.size+x1.size+4+x2.size+1≤9223372036854775807 by omega)
              have g1:decide (ot.size+x1.size+4+x2.size+1≤9223372036854775807)=true:=deT (by omega)
              have g2:=eq_false (show ¬ 9223372036854775807<ot.size+x1.size+4+x2.size+1 by omega)
              clear z0 z1 z2 z3 z4 e2 ex ex1 exx2 ex2
              go_upto_region 19 with fail
              clear t1 n1 n1p y0 k0 k0b
              have hb:=below_drew1 (Below.refl (World.heap w9).size w9)
              replace HBW:=AK (bst HBW.out hb)
              replace HX:=AK (bbl HX.out hb)
              replace O:=AK (O.out.below hb)
              clear hb
              refine start_ (n:=14) (S:=(fun w'=>w'.cell? ⟨n,0,none⟩=some (.slice B0 R.o.length d0)∧w'.cell? ⟨n,1,none⟩=some (.slice B1 R.r.length d1)∧w'.cell? ⟨n,2,none⟩=some (.slice B2 R.w.length d2)∧w'.cell? ⟨n,3,none⟩=some (.slice B3 R.d.length d3))) (ds:=[]) #[fF,fF,fF,fF,fF,fF,fF,fF,fF,fF,fF,fF,fF,fF] (by kernel_rfl) rfl rfl (box4d HX.out) (fun hHeld=>?_);refine with_tabW ss19_tab ss19_bits (fun HT_ HW_=>?_)
              generalize World.drew w9=vv at HBW HX O hHeld ⊢
              refine pU HT_ 0 (some 77) (bM 14 1) ?_
              refine tU HT_ HW_ 1 (some 78) (bM 14 3) hHeld rfl (by refine Or.inl ⟨by rfl,?_⟩;rintro w' ⟨s0,s1,s2,s3⟩;go_simp;with_reducible rfl) ?_
              refine pU HT_ 7 (some 84) (bM 14 131) ?_
              refine tU HT_ HW_ 8 (some 85) (bM 14 387) hHeld rfl (by refine Or.inl ⟨by rfl,?_⟩;rintro w' ⟨s0,s1,s2,s3⟩;go_simp;with_reducible rfl) ?_
              refine pU HT_ 9 (some 86) (bM 14 899) ?_
              refine one_ (i:=2) (N:=some 79) (bM 14 903) rfl rfl (one_of HT_.out (by kernel_rfl)) (by decide) (fun K hK=>?_)
              refine goes_ Tryd.func12 (by kernel_rfl) rfl #[.agg #[.slice B0 R.o.length d0,.slice B1 R.r.length d1,.slice B2 R.w.length d2,.slice B3 R.d.length d3]] (by rfl) rfl rfl zI ?_
              refine(specReach_c O.out.reads (OkH.fine HKO.out)).mono ?_
              rintro en vv ⟨v,rfl,hr,hb⟩
              rw[←EX.out]at hr
              obtain⟨X,xc,ee⟩:=Kd.R_slice hr
              subst ee
              refine⟨_,rfl,?_⟩
              clear hr
              replace HBW:=AK (bst HBW.out hb)
              replace HX:=AK (bbl HX.out hb)
              replace O:=AK (O.out.below hb)
              clear hb
              refine hK.out _ _ (box4d HX.out) (fun hHeld=>?_)
              clear hK K
              refine nO (some 79) ?_
              refine pU HT_ 3 (some 80) (bM 14 911) ?_
              refine one_ (i:=4) (N:=some 81) (bM 14 927) rfl rfl (one_of HT_.out (by kernel_rfl)) (by decide) (fun K hK=>?_)
              refine goes_ Tryd.func11 (by kernel_rfl) rfl #[.int .i64 ((x.length:Nat):Int)] (by rfl) rfl rfl zI ?_
              refine(l5Dec_c (n:=x.length) (by have:=HXL.out;omega)).mono ?_
              rintro en vv ⟨rfl,hb⟩
              rw[←EX1.out]
              refine⟨_,rfl,?_⟩
              replace HBW:=AK (bst HBW.out hb)
              replace HX:=AK (bbl HX.out hb)
              replace O:=AK (O.out.below hb)
              clear hb
              refine hK.out _ _ (box4d HX.out) (fun hHeld=>?_)
              clear hK K
              refine nO (some 81) ?_
              refine pU HT_ 5 (some 82) (bM 14 959) ?_
              refine pU HT_ 6 (some 83) (bM 14 1023) ?_
              refine one_ (i:=10) (N:=some 87) (bM 14 2047) rfl rfl (one_of HT_.out (by kernel_rfl)) (by decide) (fun K hK=>?_)
              refine goes_ Tryd.func11 (by kernel_rfl) rfl #[.int .i64 ((R.o.length:Nat):Int)] (by rfl) rfl rfl zI ?_
              refine(l5Dec_c (n:=R.o.length) (by have:=HKO.out.n;omega)).mono ?_
              rintro en vv ⟨rfl,hb⟩
              rw[←EX2.out]
              refine⟨_,rfl,?_⟩
              replace HBW:=AK (bst HBW.out hb)
              replace HX:=AK (bbl HX.out hb)
              replace O:=AK (O.out.below hb)
              clear hb
              refine hK.out _ _ (box4d HX.out) (fun hHeld=>?_)
              clear hK K
              refine nO (some 87) ?_
              refine pU HT_ 11 (some 88) (bM 14 4095) ?_
              refine pU HT_ 12 (some 89) (bM 14 8191) ?_
              refine pU HT_ 13 (some 5) (bM 14 16383) ?_
              refine done_ (done_of HT_.out (by kernel_rfl)) ?_
              clear HT_ HW_ hHeld
              clear a0 a1 a2 b0 b1 b2 c0 c1 c2 g0 g1 g2
              go_wp2
              go_roundg g1
              case measure=>omega
              case rel=>
                rw[wr_in (x:=i+1) (by have:=HI.out;omega) (by have:=HI.out;have:=HC2.out;omega)]
                have e3:(((ot++x1)++(⟨#[32,111,102,32]⟩:ByteArray))++x2)++(⟨#[10]⟩:ByteArray)=ot++(s++sNl):=by
                  rw[ES.out]
                  show (((ot++x1)++sOf)++x2)++sNl=_
                  simp only[ByteArray.append_assoc]
                rw[e3]
                exact⟨R,B0,d0,B1,d1,B2,d2,B3,d3,ot++(s++sNl),i+1,rfl,rfl,⟨by have:=HI.out;omega,by have:=HI.out;omega⟩,⟨HK.out.1,by have:=HK.out.2;have:=HLZ.out;rw[ByteArray.size_append,ByteArray.size_append];show ((ot.size+(s.size+1):Nat):Int)≤_;omega⟩,HST,HBW,HX,O⟩
            · have n1:((ws.length:Int) == 1)=false:=beq_eq_false_iff_ne.2 (by omega)
              have n1p:=eq_false (show ¬ (ws.length:Int)=1 by omega)
              have hlb:=HLB.out
              rw[t1,beq_eq_false_iff_ne.2 hn]at hlb
              simp only[Bool.and_false,Bool.false_eq_true,if_false]at hlb
              clear hX hn
              have e1:R=h:=congrArg Prod.fst hlb
              have e2:s=sBad:=congrArg Prod.snd hlb
              subst e1 e2
              clear hlb
              have z0:=HK.out.2
              have z1:=HI.out
              have z2:=HC2.out
              have a0:=eq_true (show ot.size+4≤9223372036854775807 by omega)
              have a1:decide (ot.size+4≤9223372036854775807)=true:=deT (by omega)
              have a2:=eq_false (show ¬ 9223372036854775807<ot.size+4 by omega)
              clear z0 z1 z2
              go_wp2
              go_roundg g1
              case measure=>omega
              case rel=>
                rw[wr_in (x:=i+1) (by have:=HI.out;omega) (by have:=HI.out;have:=HC2.out;omega)]
                have e3:ot++(⟨#[98,97,100,10]⟩:ByteArray)=ot++(sBad++sNl):=rfl
                rw[e3]
                exact⟨R,B0,d0,B1,d1,B2,d2,B3,d3,ot++(sBad++sNl),i+1,rfl,rfl,⟨by have:=HI.out;omega,by have:=HI.out;omega⟩,⟨HK.out.1,by have:=HK.out.2;rw[ByteArray.size_append];show ((ot.size+4:Nat):Int)≤_;omega⟩,HST,HBW,HX,O⟩
          · have t1:(u0.toList == [115,105,122,101])=false:=beq_eq_false_iff_ne.2 hX
            have hlb:=HLB.out
            rw[t1]at hlb
            simp only[Bool.false_and,Bool.false_eq_true,if_false]at hlb
            clear hX
            have e1:R=h:=congrArg Prod.fst hlb
            have e2:s=sBad:=congrArg Prod.snd hlb
            subst e1 e2
            clear hlb
            have z0:=HK.out.2
            have z1:=HI.out
            have z2:=HC2.out
            have a0:=eq_true (show ot.size+4≤9223372036854775807 by omega)
            have a1:decide (ot.size+4≤9223372036854775807)=true:=deT (by omega)
            have a2:=eq_false (show ¬ 9223372036854775807<ot.size+4 by omega)
            clear z0 z1 z2
            go_wp2
            go_roundg g1
            case measure=>omega
            case rel=>
              rw[wr_in (x:=i+1) (by have:=HI.out;omega) (by have:=HI.out;have:=HC2.out;omega)]
              have e3:ot++(⟨#[98,97,100,10]⟩:ByteArray)=ot++(sBad++sNl):=rfl
              rw[e3]
              exact⟨R,B0,d0,B1,d1,B2,d2,B3,d3,ot++(sBad++sNl),i+1,rfl,rfl,⟨by have:=HI.out;omega,by have:=HI.out;omega⟩,⟨HK.out.1,by have:=HK.out.2;rw[ByteArray.size_append];show ((ot.size+4:Nat):Int)≤_;omega⟩,HST,HBW,HX,O⟩
      case true=>
        as_aux_lemma=>
          have hev:eventB ws=some e:=by
            rcases HE.out with h1|h1
            · exact h1
            · have h2:=HBE.out
              rw[h1]at h2;cases h2
          have hbd:=ev_bounds hev
          have HEB := AK (show e.f4.f2.length ≤ 1048576 ∧ (e.f4.f1.size : Int) ≤ 4611686018427387903 from ⟨by
              have h1:=hbd.1
              have h2:=HWL.out
              omega,by
              rcases hbd.2 with h1|h1
              · rw[h1];decide
              · rw[h1]
                by_cases c:2<ws.length
                · have:=HWZ.out (ws.getD 2 ByteArray.empty) (getD_mem ws ByteArray.empty 2 (by omega) (by omega));omega
                · rw[List.getD_eq_getElem?_getD,List.getElem?_eq_none (by omega)];decide⟩)
          have HS2:=AK (show (R,s)=stepB h e from by rw[HRS.out];unfold lineB;rw[←EW.out,hev])
          have HFH:=AK (OkH.fine (show OkH h.o h.r h.w h.d from ok_parts HK.out.1))
          clear hev hbd
          obtain⟨p0,p1,p2,p3⟩:=box4d HX.out
          obtain⟨q0,q1,q2,q3,q4,q5,q6⟩:=box7 HY.out
          go_wp2_with fail
          clear p0 p1 p2 p3 q0 q1 q2 q3 q4 q5 q6
          refine(specStep_calls w9 w9 _ _ _ _ _ _ _ _ h e F f (Below.refl _ _) O.out.reads HFH.out HF.out.2 HF.out.1 HEB.out.1 HEB.out.2 R s HS2.out).mono ?_
          rintro en w10 ⟨D0,t0,D1,t1,D2,t2,D3,t3,rfl,hO,hb⟩
          have O2:=AK (OwnH.lower hO HBW.out.size)
          replace HBW:=AK (bst HBW.out hb)
          replace HX:=AK (bbl HX.out hb)
          clear hO hb O HF HY HWS
          go_upto_region 16 with fail
          have HZ:=AK (blk_new w10 (.cells #[.slice D0 R.o.length t0,.slice D1 R.r.length t1,.slice D2 R.w.length t2,.slice D3 R.d.length t3] 33 (0,0)))
          replace O2:=AK (O2.out.below (below_alloc (Below.refl _ _) (.cells #[.slice D0 R.o.length t0,.slice D1 R.r.length t1,.slice D2 R.w.length t2,.slice D3 R.d.length t3] 33 (0,0))))
          replace HBW:=AK (bst HBW.out (below_alloc (Below.refl _ _) (.cells #[.slice D0 R.o.length t0,.slice D1 R.r.length t1,.slice D2 R.w.length t2,.slice D3 R.d.length t3] 33 (0,0))))
          replace HX:=AK (blk_alloc HX.out (.cells #[.slice D0 R.o.length t0,.slice D1 R.r.length t1,.slice D2 R.w.length t2,.slice D3 R.d.length t3] 33 (0,0)))
          generalize w10.alloc (.cells #[.slice D0 R.o.length t0,.slice D1 R.r.length t1,.slice D2 R.w.length t2,.slice D3 R.d.length t3] 33 (0,0))=w11 at HZ O2 HBW HX ⊢
          generalize w10.heap.size=n10 at HZ ⊢
          obtain⟨p0,p1,p2,p3⟩:=box4d HX.out
          obtain⟨q0,q1,q2,q3⟩:=box4d HZ.out
          have f0:=bfz HX.out 0
          have f1:=bfz HX.out 1
          have f2:=bfz HX.out 2
          have f3:=bfz HX.out 3
          go_upto_region 17 with fail
          clear p0 p1 p2 p3 q0 q1 q2 q3 f0 f1 f2 f3
          have N1:=AK (show (set4 w11 n (.slice D0 R.o.length t0) (.slice D1 R.r.length t1) (.slice D2 R.w.length t2) (.slice D3 R.d.length t3)).heap[n]?=some (.cells #[.slice D0 R.o.length t0,.slice D1 R.r.length t1,.slice D2 R.w.length t2,.slice D3 R.d.length t3] 33 (0,0))from set4_blk HX.out)
          have N2:=AK (show OwnG (set4 w11 n (.slice D0 R.o.length t0) (.slice D1 R.r.length t1) (.slice D2 R.w.length t2) (.slice D3 R.d.length t3)) wc.heap.size D0 t0 D1 t1 D2 t2 D3 t3 R from OwnH.set4 O2.out HX.out)
          have N3:=AK (show Below wc.heap.size wc (set4 w11 n (.slice D0 R.o.length t0) (.slice D1 R.r.length t1) (.slice D2 R.w.length t2) (.slice D3 R.d.length t3))from set4_below HBW.out HNN.out)
          clear HX O2 HBW HZ
          generalize hws:set4 w11 n (.slice D0 R.o.length t0) (.slice D1 R.r.length t1) (.slice D2 R.w.length t2) (.slice D3 R.d.length t3)=w12 at N1 N2 N3
          have hws2:((((w11.setCell ⟨n,0,none⟩ (.slice D0 R.o.length t0)).setCell ⟨n,1,none⟩ (.slice D1 R.r.length t1)).setCell ⟨n,2,none⟩ (.slice D2 R.w.length t2)).setCell ⟨n,3,none⟩ (.slice D3 R.d.length t3))=w12:=hws
          rw[hws2]
          clear hws hws2
          have z0:=HK.out.2
          have z1:=HI.out
          have z2:=HC2.out
          have z3:=HLZ.out
          have a0:=eq_true (show ot.size+s.size≤9223372036854775807 by omega)
          have a1:decide (ot.size+s.size≤9223372036854775807)=true:=deT (by omega)
          have a2:=eq_false (show ¬ 9223372036854775807<ot.size+s.size by omega)
          have b0:=eq_true (show ot.size+s.size+1≤9223372036854775807 by omega)
          have b1:decide (ot.size+s.size+1≤9223372036854775807)=true:=deT (by omega)
          have b2:=eq_false (show ¬ 9223372036854775807<ot.size+s.size+1 by omega)
          clear z0 z1 z2 z3
          go_wp2
          go_roundg g1
          case measure=>omega
          case rel=>
            rw[wr_in (x:=i+1) (by have:=HI.out;omega) (by have:=HI.out;have:=HC2.out;omega)]
            have e3:(ot++s)++(⟨#[10]⟩:ByteArray)=ot++(s++sNl):=by
              show (ot++s)++sNl=_
              simp only[ByteArray.append_assoc]
            rw[e3]
            exact⟨R,D0,t0,D1,t1,D2,t2,D3,t3,ot++(s++sNl),i+1,rfl,rfl,⟨by have:=HI.out;omega,by have:=HI.out;omega⟩,⟨HLK.out,by have:=HK.out.2;have:=HLZ.out;rw[ByteArray.size_append,ByteArray.size_append];show ((ot.size+(s.size+1):Nat):Int)≤_;omega⟩,HST,N3,N1,N2⟩
end
section
theorem cgoes_ {P:Program} {ops:Array Oper} {Q:Exit→Act→World→Prop} {oi:Oper} {N:Option Tmp} {a:Act} {w:World} {K:Act→World→Prop} {f:FuncId} {fn:Func} {t:Tmp} {xs:Array Operand} {ts:Array TypeId} {cap:Array Value} (hf:P.funcs[f]?=some fn) (hname:(fn.name == "runtime.NumGoroutine")=false) (hb:fn.body.isSome=true) (args:Array Value)
    (hw:Region.wanted oi (yielded ops a.tmps)=true) (hN:oi.dst=N) (hop:oi.op=.call { callee:=.value (.tmp t),args:=xs,argTypes:=ts }) (hv:a.eval (.tmp t)=.func (.func f) #[] cap) (hargs:xs.map a.eval++cap=args)
    (h:Calls P f args w fun e w'=>∃v,e=.returned v∧K (a.put N v) w'):if Region.wanted oi (yielded ops a.tmps)=true then Oper.wp P oi a w K Q else K (a.put N undef) w:=by
  refine call_ f args hw hN ?_ h
  have he:=enters_ hf hname hb args w
  subst hargs
  unfold execOp
  simp[hop,resolve,Deferred.ofValue,invoke,hv,he]
theorem memDig_c {w:World} {B n d:Nat} {ad:Addr} {i:Int} {u:ByteArray} (hc:w.cell? ⟨B,0,none⟩=some (.slice (some ad) n d)) (h0:0≤i) (h1:i<(n:Int)) (hu:w.cell? (ad.add i.toNat)=some (.string u)) :
    Calls Tryd.prog 26 #[.int .i64 i,.pointer (some ⟨B,0,none⟩)] w fun e w'=>e=.returned (.int .i64 (digitB u))∧w'=w:=by
  have HB:=AK (show ∀h:0<u.size,bt u 0=((u[0]'h).toNat:Int)from fun h=>(bt_at u 0 h).symm)
  have i0:=eq_true h0
  have i1:=eq_true h1
  by_cases h2:u.size=1
  · have H1:=AK h2
    have c1:((u.size:Int) == 1)=true:=by simp[h2]
    have c1b:=eq_true h2
    have c2:=eq_true (show 0<u.size by omega)
    clear h2 h0 h1
    go_enter Tryd.func26,Tryd.ntmps26
    go_wp2
    all_goals
      go_ret
      refine⟨congrArg (fun v=>Ending.returned (Value.int .i64 v)) ?_,rfl⟩
      unfold digitB
      rw[if_pos H1.out,HB.out (by have:=H1.out;omega)]
      repeat' split
      all_goals omega
  · have c1:((u.size:Int) == 1)=false:=by simp;omega
    have c1b:=eq_false h2
    have e:digitB u=-1:=by unfold digitB;rw[if_neg h2]
    rw[e]
    clear h2 e h0 h1
    go_enter Tryd.func26,Tryd.ntmps26
    go_wp2
    go_ret
    exact⟨rfl,rfl⟩
end
end Go.Proofs.YtigjhfijkdlldaaDoor.H
