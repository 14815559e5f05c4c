import Derived.Test.YtigjhfijkdlldaaStpHsg
import Derived.Test.YtigjhfijkdlldaaStpPt
import Derived.Deep.RegionLaw
namespace Go.Proofs.Ytigjhfijkdlldaa.H
open Go.RowKit Go.Proofs.YtigjhfijkdlldaaW.PrintWords Go.Proofs.YtigjhfijkdlldaaW.PrintLast Go.Proofs.YtigjhfijkdlldaaW.PrintMore Go.Proofs.Ytigjhfijkdlldaa.Q
set_option linter.unusedVariables false
set_option linter.unusedSimpArgs false
structure SF (w:World) (A0 A1 A2 A3 B0 B1 B2 B3 Ax Ay:Option Addr) (c0 c1 c2 c3 d0 d1 d2 d3 cx cy:Nat) (l0:List S38) (l1:List Int) (l2 l3:List S60) (m0:List S38) (m1:List Int) (m2 m3:List S60) (x y:List Int) (w':World):Prop where
 b:Below w.heap.size w w'
 xa:w'.heap[w.heap.size]?=some (.cells #[.slice A0 l0.length c0,.slice A1 l1.length c1,.slice A2 l2.length c2,.slice A3 l3.length c3] 28 (0,0))
 xb:w'.heap[w.heap.size+1]?=some (.cells #[.slice B0 m0.length d0,.slice B1 m1.length d1,.slice B2 m2.length d2,.slice B3 m3.length d3] 28 (0,0))
 x:Kd.R (Kd.int .i64) 3 w' w.heap.size (fun _=>True) (.slice Ax x.length cx) x
 y:Kd.R (Kd.int .i64) 3 w' w.heap.size (fun _=>True) (.slice Ay y.length cy) y
theorem SF.below {w:World} {A0 A1 A2 A3 B0 B1 B2 B3 Ax Ay:Option Addr} {c0 c1 c2 c3 d0 d1 d2 d3 cx cy:Nat} {l0:List S38} {l1:List Int} {l2 l3:List S60} {m0:List S38} {m1:List Int} {m2 m3:List S60} {x y:List Int} {w' w2:World}
  (h:SF w A0 A1 A2 A3 B0 B1 B2 B3 Ax Ay c0 c1 c2 c3 d0 d1 d2 d3 cx cy l0 l1 l2 l3 m0 m1 m2 m3 x y w') (hb:Below w'.heap.size w' w2):SF w A0 A1 A2 A3 B0 B1 B2 B3 Ax Ay c0 c1 c2 c3 d0 d1 d2 d3 cx cy l0 l1 l2 l3 m0 m1 m2 m3 x y w2:=
 ⟨bst h.b hb,bbl h.xa hb,bbl h.xb hb,Kd.R_below h.x hb,Kd.R_below h.y hb⟩
theorem int_apart (t:Nat) (h:(3:Nat)≠t):∀q,q∈3 :: (Kd.int .i64).E→q≠t:=fun q hq=>by
 rcases List.mem_cons.1 hq with rfl|h1
 ·exact h
 ·cases h1
theorem SF.set {w:World} {A0 A1 A2 A3 B0 B1 B2 B3 Ax Ay:Option Addr} {c0 c1 c2 c3 d0 d1 d2 d3 cx cy:Nat} {l0:List S38} {l1:List Int} {l2 l3:List S60} {m0:List S38} {m1:List Int} {m2 m3:List S60} {x y:List Int} {w':World} (h:SF w A0 A1 A2 A3 B0 B1 B2 B3 Ax Ay c0 c1 c2 c3 d0 d1 d2 d3 cx cy l0 l1 l2 l3 m0 m1 m2 m3 x y w') {b:Nat} {cs:Array Value} (hb:w'.heap[b]?=some (.cells cs 25 (0,0))) (hw:w.heap.size≤b) (j:Nat) (u:Value):SF w A0 A1 A2 A3 B0 B1 B2 B3 Ax Ay c0 c1 c2 c3 d0 d1 d2 d3 cx cy l0 l1 l2 l3 m0 m1 m2 m3 x y (w'.setCell ⟨b,j,none⟩ u):=
 ⟨below_set h.b hw,blk_far h.xa (p:=⟨b,j,none⟩) (blk_ne h.xa hb (by decide)) u,blk_far h.xb (p:=⟨b,j,none⟩) (blk_ne h.xb hb (by decide)) u,Kd.R_set h.x hb (int_apart 25 (by decide)) j u,Kd.R_set h.y hb (int_apart 25 (by decide)) j u⟩
theorem box_set {w:World} {b t:Nat} {a u:Value} (h:w.heap[b]?=some (.cells #[a] t (0,0))):(w.setCell ⟨b,0,none⟩ u).heap[b]?=some (.cells #[u] t (0,0)):=blk_set h 0 u
theorem same13_tab:rtab .any (opsOf Try.f21 13)=(true,[([],[]),([0],[0]),([],[]),([],[]),([2,3],[2,3]),([4],[4]),([1,5],[1,5]),([6],[6]),([],[]),([8],[8]),([],[]),([],[]),([10,11],[10,11]),([12],[12]),([9,13],[9,13]),([14],[14]),([],[]),([],[]),([16,7,0,1,2,3,4,5,6,7,16,17],[7,16]),([17,15,18,0,1,2,3,4,5,6,7,8,9,10,11,12,13,14,15,16,17,18],[15,17])]):=by kernel_rfl
theorem same13_bits:waitsOk [([],[]),([0],[0]),([],[]),([],[]),([2,3],[2,3]),([4],[4]),([1,5],[1,5]),([6],[6]),([],[]),([8],[8]),([],[]),([],[]),([10,11],[10,11]),([12],[12]),([9,13],[9,13]),([14],[14]),([],[]),([],[]),([16,7,0,1,2,3,4,5,6,7,16,17],[7,16]),([17,15,18,0,1,2,3,4,5,6,7,8,9,10,11,12,13,14,15,16,17,18],[15,17])] [0,1,0,0,12,28,63,127,0,256,0,0,3072,7168,16128,32512,0,0,196863,524287]=true:=by kernel_rfl
theorem ob_small {n:Int} {x:S38} (h:obB n x=true):(∀z∈x.f2,z<n)∧x.f2.length≤6:=by
 obtain⟨h1,_,h2⟩:=ob_parts h
 refine⟨fun z hz=>(h1 z hz).2,?_⟩
 rcases h2 with⟨_,h⟩|⟨_,h⟩|⟨_,h⟩|⟨_,h⟩
 ·rw[h];simp
 ·exact h
 ·omega
 ·rw[h];simp
theorem same19_tab:rtab .any (opsOf Try.f21 19)=(true,[([],[]),([],[]),([],[]),([2],[2]),([],[]),([1,3,4],[1,3,4]),([],[]),([],[]),([7],[7]),([],[]),([6,8,9,5],[6,8,9]),([0,5,10,10],[0,5,10]),([11,11],[11]),([12],[12]),([12],[12]),([12],[12]),([15,12],[12,15]),([12],[12]),([14,16,17,12,12],[12,14,16,17]),([12],[12]),([12],[12]),([20,12],[12,20]),([12],[12]),([19,21,22,18,12],[12,19,21,22]),([13,18,23,23,12],[12,13,18,23]),([12,24],[12,24]),([25,24,0,1,2,3,4,5,6,7,8,9,10,11,12,13,14,15,16,17,18,19,20,21,22,23,24,25],[25])]):=by kernel_rfl
theorem same19_bits:waitsOk [([],[]),([],[]),([],[]),([2],[2]),([],[]),([1,3,4],[1,3,4]),([],[]),([],[]),([7],[7]),([],[]),([6,8,9,5],[6,8,9]),([0,5,10,10],[0,5,10]),([11,11],[11]),([12],[12]),([12],[12]),([12],[12]),([15,12],[12,15]),([12],[12]),([14,16,17,12,12],[12,14,16,17]),([12],[12]),([12],[12]),([20,12],[12,20]),([12],[12]),([19,21,22,18,12],[12,19,21,22]),([13,18,23,23,12],[12,13,18,23]),([12,24],[12,24]),([25,24,0,1,2,3,4,5,6,7,8,9,10,11,12,13,14,15,16,17,18,19,20,21,22,23,24,25],[25])] [0,0,0,4,0,30,0,0,128,0,1022,2047,4095,8191,8191,8191,40959,8191,253951,8191,8191,1056767,8191,8380415,16777215,33554431,67108863]=true:=by kernel_rfl
theorem same6_tab:rtab .any (opsOf Try.f21 6)=(true,[([],[]),([],[]),([0,1],[0,1]),([],[]),([],[]),([3,4,2],[3,4]),([],[]),([],[]),([6,2,5,0,1,2,6,7],[2,6]),([7,5,8,0,1,2,3,4,5,6,7,8],[5,7])]):=by kernel_rfl
theorem same6_bits:waitsOk [([],[]),([],[]),([0,1],[0,1]),([],[]),([],[]),([3,4,2],[3,4]),([],[]),([],[]),([6,2,5,0,1,2,6,7],[2,6]),([7,5,8,0,1,2,3,4,5,6,7,8],[5,7])] [0,0,3,0,0,31,0,0,255,511]=true:=by kernel_rfl
structure FitH (l0:List S38) (l2 l3:List S60):Prop where
 w:(l2.length:Int)+l3.length≤4611686018427387903
 f:∀x∈l0,Fit x
set_option maxHeartbeats 4000000 in
set_option maxRecDepth 100000 in
theorem MemSame_calls (A0 A1 A2 A3 B0 B1 B2 B3:Option Addr) (c0 c1 c2 c3 d0 d1 d2 d3:Nat) (l0:List S38) (l1:List Int) (l2 l3:List S60) (m0:List S38) (m1:List Int) (m2 m3:List S60) (w:World)
  (h:InH w A0 c0 A1 c1 A2 c2 A3 c3 l0 l1 l2 l3) (h':InH w B0 d0 B1 d1 B2 d2 B3 d3 m0 m1 m2 m3) (hf:FitH l0 l2 l3) (hf':FitH m0 m2 m3) :
  Calls Try.prog 21 #[.agg #[.slice A0 l0.length c0,.slice A1 l1.length c1,.slice A2 l2.length c2,.slice A3 l3.length c3],.agg #[.slice B0 m0.length d0,.slice B1 m1.length d1,.slice B2 m2.length d2,.slice B3 m3.length d3]] w
   fun e w'=>e=.returned (.bool (sameB l0 l1 l2 l3 m0 m1 m2 m3))∧Below w.heap.size w w':=by
 have HI0:=AK h
 have HJ0:=AK h'
 have HI:=AK (h.below (below_alloc (below_alloc (Below.refl w.heap.size w) (.cells #[.slice A0 l0.length c0,.slice A1 l1.length c1,.slice A2 l2.length c2,.slice A3 l3.length c3] 28 (0,0))) (.cells #[.slice B0 m0.length d0,.slice B1 m1.length d1,.slice B2 m2.length d2,.slice B3 m3.length d3] 28 (0,0))))
 have HJ:=AK (h'.below (below_alloc (below_alloc (Below.refl w.heap.size w) (.cells #[.slice A0 l0.length c0,.slice A1 l1.length c1,.slice A2 l2.length c2,.slice A3 l3.length c3] 28 (0,0))) (.cells #[.slice B0 m0.length d0,.slice B1 m1.length d1,.slice B2 m2.length d2,.slice B3 m3.length d3] 28 (0,0))))
 have HB:=AK (below_alloc (below_alloc (Below.refl w.heap.size w) (.cells #[.slice A0 l0.length c0,.slice A1 l1.length c1,.slice A2 l2.length c2,.slice A3 l3.length c3] 28 (0,0))) (.cells #[.slice B0 m0.length d0,.slice B1 m1.length d1,.slice B2 m2.length d2,.slice B3 m3.length d3] 28 (0,0)))
 have HXA:=AK (blk_alloc (blk_new w (.cells #[.slice A0 l0.length c0,.slice A1 l1.length c1,.slice A2 l2.length c2,.slice A3 l3.length c3] 28 (0,0))) (.cells #[.slice B0 m0.length d0,.slice B1 m1.length d1,.slice B2 m2.length d2,.slice B3 m3.length d3] 28 (0,0)))
 have HXB:=AK (show ((w.alloc (.cells #[.slice A0 l0.length c0,.slice A1 l1.length c1,.slice A2 l2.length c2,.slice A3 l3.length c3] 28 (0,0))).alloc (.cells #[.slice B0 m0.length d0,.slice B1 m1.length d1,.slice B2 m2.length d2,.slice B3 m3.length d3] 28 (0,0))).heap[w.heap.size+1]?=some (.cells #[.slice B0 m0.length d0,.slice B1 m1.length d1,.slice B2 m2.length d2,.slice B3 m3.length d3] 28 (0,0))by
  have h1:=blk_new (w.alloc (.cells #[.slice A0 l0.length c0,.slice A1 l1.length c1,.slice A2 l2.length c2,.slice A3 l3.length c3] 28 (0,0))) (.cells #[.slice B0 m0.length d0,.slice B1 m1.length d1,.slice B2 m2.length d2,.slice B3 m3.length d3] 28 (0,0))
  rwa [show (w.alloc (.cells #[.slice A0 l0.length c0,.slice A1 l1.length c1,.slice A2 l2.length c2,.slice A3 l3.length c3] 28 (0,0))).heap.size=w.heap.size+1 from Array.size_push ..]at h1)
 have HF:=AK hf
 have HG:=AK hf'
 clear h h' hf hf'
 cases hokA:okB l0 l1 l2 l3 with
 | false=>
  have e0:sameB l0 l1 l2 l3 m0 m1 m2 m3=false:=by unfold sameB;rw[hokA];rfl
  rw[e0]
  have HOA:=AK hokA
  clear e0 hokA
  go_enter Try.func21,Try.ntmps21
  go_wp2_with (go_at_call 25;refine(MemOk_calls _ _ _ _ _ _ _ _ _ _ _ _ _ HI.out.r0 HI.out.r1 HI.out.r2 HI.out.r3 HF.out.w HF.out.f).mono ?_;rintro e w2 ⟨rfl,hb⟩;rw[HOA.out];have HB2:=AK (bst HB.out hb);clear hb)
  go_ret
  exact⟨rfl,HB2.out⟩
 | true=>
 have HOA:=AK hokA
 cases hokB:okB m0 m1 m2 m3 with
 | false=>
  have e0:sameB l0 l1 l2 l3 m0 m1 m2 m3=false:=by unfold sameB;rw[hokA,hokB];rfl
  rw[e0]
  have HOB:=AK hokB
  clear e0 hokA hokB
  go_enter Try.func21,Try.ntmps21
  go_wp2_with fail
  refine(MemOk_calls _ _ _ _ _ _ _ _ _ _ _ _ _ HI.out.r0 HI.out.r1 HI.out.r2 HI.out.r3 HF.out.w HF.out.f).mono ?_
  rintro e w2 ⟨rfl,hb⟩
  rw[HOA.out]
  have HB2:=AK (bst HB.out hb)
  have HJ2:=AK (HJ.out.below hb)
  obtain⟨q0,q1,q2,q3⟩:=box4 (bbl HXB.out hb)
  clear hb
  go_wp2_with fail
  refine(MemOk_calls _ _ _ _ _ _ _ _ _ _ _ _ _ HJ2.out.r0 HJ2.out.r1 HJ2.out.r2 HJ2.out.r3 HG.out.w HG.out.f).mono ?_
  rintro e w3 ⟨rfl,hb⟩
  rw[HOB.out]
  have HB3:=AK (bst HB2.out hb)
  clear hb
  go_wp2
  go_ret
  exact⟨rfl,HB3.out⟩
 | true=>
 have HOB:=AK hokB
 by_cases hrl:l1.length=m1.length
 ·have ccl:((l1.length:Int) != m1.length)=false:=by simp[hrl]
  have HRL:=AK hrl
  have HKA:=AK (ok_parts hokA)
  have HKB:=AK (ok_parts hokB)
  obtain⟨x,ex⟩:∃x,x=reachL l0 l1 l3:=⟨_,rfl⟩
  obtain⟨y,ey⟩:∃y,y=reachL m0 m1 m3:=⟨_,rfl⟩
  have e0:sameB l0 l1 l2 l3 m0 m1 m2 m3=sameC l0 l1 l2 l3 m0 m1 m2 m3 x y:=by unfold sameB;rw[hokA,hokB,deT hrl,ex,ey];rfl
  rw[e0]
  obtain⟨r,er⟩:∃r,r=sameC l0 l1 l2 l3 m0 m1 m2 m3 x y:=⟨_,rfl⟩
  rw[←er]
  have ER:=AK er
  clear er
  have HGX:=AK (show GoodL l0.length x by rw[ex];exact reach_good HKA.out)
  have HGY:=AK (show GoodL m0.length y by rw[ey];exact reach_good HKB.out)
  have EX:=AK ex
  have EY:=AK ey
  clear e0 hokA hokB ex ey hrl
  go_enter Try.func21,Try.ntmps21
  go_wp2_with fail
  refine(MemOk_calls _ _ _ _ _ _ _ _ _ _ _ _ _ HI.out.r0 HI.out.r1 HI.out.r2 HI.out.r3 HF.out.w HF.out.f).mono ?_
  rintro e w2 ⟨rfl,hb⟩
  rw[HOA.out]
  have HB2:=AK (bst HB.out hb)
  have HI2:=AK (HI.out.below hb)
  have HJ2:=AK (HJ.out.below hb)
  have HXA2:=AK (bbl HXA.out hb)
  have HXB2:=AK (bbl HXB.out hb)
  obtain⟨q0,q1,q2,q3⟩:=box4 HXB2.out
  clear hb HI HJ HB HXA HXB
  go_wp2_with fail
  refine(MemOk_calls _ _ _ _ _ _ _ _ _ _ _ _ _ HJ2.out.r0 HJ2.out.r1 HJ2.out.r2 HJ2.out.r3 HG.out.w HG.out.f).mono ?_
  rintro e w3 ⟨rfl,hb⟩
  rw[HOB.out]
  have HB3:=AK (bst HB2.out hb)
  have HI3:=AK (HI2.out.below hb)
  have HJ3:=AK (HJ2.out.below hb)
  have HXA3:=AK (bbl HXA2.out hb)
  have HXB3:=AK (bbl HXB2.out hb)
  clear q0 q1 q2 q3
  obtain⟨q0,q1,q2,q3⟩:=box4 HXB3.out
  obtain⟨p0,p1,p2,p3⟩:=box4 HXA3.out
  clear hb HI2 HJ2 HB2 HXA2 HXB2
  go_wp2_with fail
  clear q0 q1 q2 q3 p0 p1 p2 p3
  go_region_held3 (fun w'=>(w'.cell? ⟨w.heap.size,0,none⟩=some (.slice A0 l0.length c0)∧w'.cell? ⟨w.heap.size,1,none⟩=some (.slice A1 l1.length c1)∧w'.cell? ⟨w.heap.size,2,none⟩=some (.slice A2 l2.length c2)∧w'.cell? ⟨w.heap.size,3,none⟩=some (.slice A3 l3.length c3))∧w'.cell? ⟨w.heap.size+1,0,none⟩=some (.slice B0 m0.length d0)∧w'.cell? ⟨w.heap.size+1,1,none⟩=some (.slice B1 m1.length d1)∧w'.cell? ⟨w.heap.size+1,2,none⟩=some (.slice B2 m2.length d2)∧w'.cell? ⟨w.heap.size+1,3,none⟩=some (.slice B3 m3.length d3))
   (first|exact⟨box4 HXA3.out,box4 HXB3.out⟩|exact⟨box4 HXA4.out,box4 HXB4.out⟩|exact⟨box4 HXA5.out,box4 HXB5.out⟩)
   (first|(go_at_call_of 67 c0;refine(memReach_calls _ _ _ _ _ _ _ _ _ _ _ _ _ (HI3.out.below (below_drew1 (Below.refl _ _))) HKA.out).mono ?_;rintro e w4 ⟨v,rfl,hr,hb⟩;rw[←EX.out]at hr;obtain⟨Ax,cx,ev⟩:=Kd.R_slice hr;subst ev;have HX4:=AK (Kd.R_lower hr HB3.out.size);have HB4:=AK (bst (below_drew1 HB3.out) hb);have HI4:=AK ((HI3.out.below (below_drew1 (Below.refl _ _))).below hb);have HJ4:=AK ((HJ3.out.below (below_drew1 (Below.refl _ _))).below hb);have HXA4:=AK (bbl (blk_drew HXA3.out) hb);have HXB4:=AK (bbl (blk_drew HXB3.out) hb);clear hr hb)|(go_at_call_of 67 d0;refine(memReach_calls _ _ _ _ _ _ _ _ _ _ _ _ _ HJ4.out HKB.out).mono ?_;rintro e w5 ⟨v,rfl,hr,hb⟩;rw[←EY.out]at hr;obtain⟨Ay,cy,ev⟩:=Kd.R_slice hr;subst ev;have HY5:=AK (Kd.R_lower hr HB4.out.size);have HX5:=AK (Kd.R_below HX4.out hb);have HB5:=AK (bst HB4.out hb);have HI5:=AK (HI4.out.below hb);have HJ5:=AK (HJ4.out.below hb);have HXA5:=AK (bbl HXA4.out hb);have HXB5:=AK (bbl HXB4.out hb);clear hr hb))
  clear HI3 HJ3 HB3 HXA3 HXB3 HX4 HB4 HI4 HJ4 HXA4 HXB4
  by_cases hxy:x.length=y.length
  ·have cxy:((x.length:Int) != y.length)=false:=by simp[hxy]
   have HXY:=AK hxy
   have HS:=AK (SF.mk HB5.out HXA5.out HXB5.out HX5.out HY5.out)
   clear hxy HB5 HXA5 HXB5 HX5 HY5 HI5 HJ5
   go_wp2_with fail
   refine start_ (n:=10) (S:=(fun w'=>(w'.cell? ⟨w.heap.size,0,none⟩=some (.slice A0 l0.length c0)∧w'.cell? ⟨w.heap.size,1,none⟩=some (.slice A1 l1.length c1)∧w'.cell? ⟨w.heap.size,2,none⟩=some (.slice A2 l2.length c2)∧w'.cell? ⟨w.heap.size,3,none⟩=some (.slice A3 l3.length c3))∧w'.cell? ⟨w.heap.size+1,0,none⟩=some (.slice B0 m0.length d0)∧w'.cell? ⟨w.heap.size+1,1,none⟩=some (.slice B1 m1.length d1)∧w'.cell? ⟨w.heap.size+1,2,none⟩=some (.slice B2 m2.length d2)∧w'.cell? ⟨w.heap.size+1,3,none⟩=some (.slice B3 m3.length d3))) (ds:=[]) #[fF,fF,fF,fF,fF,fF,fF,fF,fF,fF] (by kernel_rfl) rfl rfl ⟨box4 HS.out.xa,box4 HS.out.xb⟩ (fun hHeld=>?_);refine with_tabW same6_tab same6_bits (fun HT_ HW_=>?_)
   replace HS:=AK (HS.out.below (below_drew1 (Below.refl _ _)))
   generalize w5.drew=w6 at HS hHeld ⊢
   refine pU HT_ 1 (some 42) (bM 10 2) ?_
   refine pU HT_ 4 (some 45) (bM 10 18) ?_
   refine tU HT_ HW_ 0 (some 41) (bM 10 19) hHeld rfl (by refine Or.inl ⟨by rfl,?_⟩;rintro w' ⟨⟨s0,s1,s2,s3⟩,s4,s5,s6,s7⟩;go_simp;with_reducible rfl) ?_
   refine tU HT_ HW_ 3 (some 44) (bM 10 27) hHeld rfl (by refine Or.inl ⟨by rfl,?_⟩;rintro w' ⟨⟨s0,s1,s2,s3⟩,s4,s5,s6,s7⟩;go_simp;with_reducible rfl) ?_
   refine join_ (σ:=Value × Value × Nat × Nat) 2 #[tT,tT,tT,tT,tT,tT,tT,tT,fF,fF] (fun s=>[(43,s.1),(46,s.2.1),(7,.pointer (some ⟨s.2.2.1,0,none⟩)),(8,.pointer (some ⟨s.2.2.2,0,none⟩))]) (fun s w'=>SF w A0 A1 A2 A3 B0 B1 B2 B3 Ax Ay c0 c1 c2 c3 d0 d1 d2 d3 cx cy l0 l1 l2 l3 m0 m1 m2 m3 x y w'∧Kd.R (Kd.int .i64) 3 w' w.heap.size (fun _=>True) s.1 (plL l0.length x)∧Kd.R (Kd.int .i64) 3 w' w.heap.size (fun _=>True) s.2.1 (plL m0.length y)∧(w'.heap[s.2.2.1]?=some (.cells #[.slice none 0 0] 25 (0,0))∧w.heap.size≤s.2.2.1)∧(w'.heap[s.2.2.2]?=some (.cells #[.slice none 0 0] 25 (0,0))∧w.heap.size≤s.2.2.2)∧s.2.2.1≠s.2.2.2) ?_ ?_
   rotate_left
   ·intro hCont
    refine three_ (i:=2) (j:=6) (k:=7) (Ni:=some 43) (Nj:=some 7) (Nk:=some 8) (bM 10 31) (bM 10 91) (bM 10 155) rfl rfl rfl rfl rfl rfl (three_of HT_.out (by kernel_rfl)) (by decide) (by decide) (by decide) (fun K hK=>?_) (fun K hK=>?_) (fun K hK=>?_)
    ·skip
     refine goes_ Try.func68 (by kernel_rfl) rfl #[.agg #[.slice A0 l0.length c0,.slice A1 l1.length c1,.slice A2 l2.length c2,.slice A3 l3.length c3],.slice Ax x.length cx] (by rfl) rfl rfl zI ?_
     refine(memPlaces_calls _ _ _ _ _ _ _ _ _ _ _ _ _ _ x _ (HI0.out.below HS.out.b) (Kd.R_reads' HS.out.x).2.2 (Kd.R_reads' HS.out.x).2.1 HGX.out HKA.out.n).mono ?_
     rintro e w7 ⟨vP,rfl,hr,hb⟩
     refine⟨_,rfl,?_⟩
     have nz:=AK (Kd.R_lower hr HS.out.b.size)
     have ns:=AK (HS.out.below hb)
     clear HS;have HS:=ns;clear ns;have HP:=nz;clear nz hb hr
     refine hK.out _ _ ⟨box4 HS.out.xa,box4 HS.out.xb⟩ (fun hHeld=>?_)
     clear hK K
     refine nO (some 43) ?_
     refine three_ (i:=5) (j:=6) (k:=7) (Ni:=some 46) (Nj:=some 7) (Nk:=some 8) (bM 10 63) (bM 10 95) (bM 10 159) rfl rfl rfl rfl rfl rfl (three_of HT_.out (by kernel_rfl)) (by decide) (by decide) (by decide) (fun K hK=>?_) (fun K hK=>?_) (fun K hK=>?_)
     ·skip
      refine goes_ Try.func68 (by kernel_rfl) rfl #[.agg #[.slice B0 m0.length d0,.slice B1 m1.length d1,.slice B2 m2.length d2,.slice B3 m3.length d3],.slice Ay y.length cy] (by rfl) rfl rfl zI ?_
      refine(memPlaces_calls _ _ _ _ _ _ _ _ _ _ _ _ _ _ y _ (HJ0.out.below HS.out.b) (Kd.R_reads' HS.out.y).2.2 (Kd.R_reads' HS.out.y).2.1 HGY.out HKB.out.n).mono ?_
      rintro e w8 ⟨vQ,rfl,hr,hb⟩
      refine⟨_,rfl,?_⟩
      have nz:=AK (Kd.R_lower hr HS.out.b.size)
      have ns:=AK (HS.out.below hb)
      have nP:=AK (Kd.R_below HP.out hb)
      clear HP;have HP:=nP;clear nP
      clear HS;have HS:=ns;clear ns;have HQ:=nz;clear nz hb hr
      refine hK.out _ _ ⟨box4 HS.out.xa,box4 HS.out.xb⟩ (fun hHeld=>?_)
      clear hK K
      refine nO (some 46) ?_
      refine two_ (i:=6) (j:=7) (Ni:=some 7) (Nj:=some 8) (bM 10 127) (bM 10 191) rfl rfl rfl rfl (two_of HT_.out (by kernel_rfl)) (by decide) (by decide) (fun K hK=>?_) (fun K hK=>?_)
      ·skip
       refine box_step ?hg (N:=7) ?hd (cs:=#[.slice none 0 0]) (t:=25) ?hr ?_;(case hd=>rfl);(case hg=>rfl);(case hr=>first|(go_simp;done)|(go_simp;rfl))
       intro b7 hg w9 hbox hb
       have nz:=AK (show _∧_ from⟨hbox,show w.heap.size≤b7 by rw[hg];exact HS.out.b.size⟩)
       clear hbox hg
       have ns:=AK (HS.out.below hb)
       have nP:=AK (Kd.R_below HP.out hb)
       clear HP;have HP:=nP;clear nP
       have nQ:=AK (Kd.R_below HQ.out hb)
       clear HQ;have HQ:=nQ;clear nQ
       clear HS;have HS:=ns;clear ns;have K7:=nz;clear nz hb
       refine hK.out _ _ ⟨box4 HS.out.xa,box4 HS.out.xb⟩ (fun hHeld=>?_)
       clear hK K
       refine nO (some 7) ?_
       refine one_ (i:=7) (N:=some 8) (bM 10 255) rfl rfl (one_of HT_.out (by kernel_rfl)) (by decide) (fun K hK=>?_)
       refine box_step ?hg (N:=8) ?hd (cs:=#[.slice none 0 0]) (t:=25) ?hr ?_;(case hd=>rfl);(case hg=>rfl);(case hr=>first|(go_simp;done)|(go_simp;rfl))
       intro b8 hg w10 hbox hb
       have nz:=AK (show _∧_ from⟨hbox,show w.heap.size≤b8 by rw[hg];exact HS.out.b.size⟩)
       have HNE:=AK (show b7≠b8 by have h1:=blk_lt K7.out.1;intro h2;omega)
       clear hbox hg
       have ns:=AK (HS.out.below hb)
       have nP:=AK (Kd.R_below HP.out hb)
       clear HP;have HP:=nP;clear nP
       have nQ:=AK (Kd.R_below HQ.out hb)
       clear HQ;have HQ:=nQ;clear nQ
       have n7:=AK (show _∧_ from⟨bbl K7.out.1 hb,K7.out.2⟩)
       clear K7;have K7:=n7;clear n7
       clear HS;have HS:=ns;clear ns;have K8:=nz;clear nz hb
       refine hK.out _ _ ⟨box4 HS.out.xa,box4 HS.out.xb⟩ (fun hHeld=>?_)
       clear hK K
       refine nO (some 8) ?_
       exact norm_ (by simp only[putAll,Act.put,List.setIfInBounds_toArray,List.set_cons_zero,List.set_cons_succ];try rfl) (hCont (vP,vQ,b7,b8) _ ⟨HS.out,HP.out,HQ.out,K7.out,K8.out,HNE.out⟩)
      ·skip
       refine box_step ?hg (N:=8) ?hd (cs:=#[.slice none 0 0]) (t:=25) ?hr ?_;(case hd=>rfl);(case hg=>rfl);(case hr=>first|(go_simp;done)|(go_simp;rfl))
       intro b8 hg w9 hbox hb
       have nz:=AK (show _∧_ from⟨hbox,show w.heap.size≤b8 by rw[hg];exact HS.out.b.size⟩)
       clear hbox hg
       have ns:=AK (HS.out.below hb)
       have nP:=AK (Kd.R_below HP.out hb)
       clear HP;have HP:=nP;clear nP
       have nQ:=AK (Kd.R_below HQ.out hb)
       clear HQ;have HQ:=nQ;clear nQ
       clear HS;have HS:=ns;clear ns;have K8:=nz;clear nz hb
       refine hK.out _ _ ⟨box4 HS.out.xa,box4 HS.out.xb⟩ (fun hHeld=>?_)
       clear hK K
       refine nO (some 8) ?_
       refine one_ (i:=6) (N:=some 7) (bM 10 255) rfl rfl (one_of HT_.out (by kernel_rfl)) (by decide) (fun K hK=>?_)
       refine box_step ?hg (N:=7) ?hd (cs:=#[.slice none 0 0]) (t:=25) ?hr ?_;(case hd=>rfl);(case hg=>rfl);(case hr=>first|(go_simp;done)|(go_simp;rfl))
       intro b7 hg w10 hbox hb
       have nz:=AK (show _∧_ from⟨hbox,show w.heap.size≤b7 by rw[hg];exact HS.out.b.size⟩)
       have HNE:=AK (show b7≠b8 by have h1:=blk_lt K8.out.1;intro h2;omega)
       clear hbox hg
       have ns:=AK (HS.out.below hb)
       have nP:=AK (Kd.R_below HP.out hb)
       clear HP;have HP:=nP;clear nP
       have nQ:=AK (Kd.R_below HQ.out hb)
       clear HQ;have HQ:=nQ;clear nQ
       have n8:=AK (show _∧_ from⟨bbl K8.out.1 hb,K8.out.2⟩)
       clear K8;have K8:=n8;clear n8
       clear HS;have HS:=ns;clear ns;have K7:=nz;clear nz hb
       refine hK.out _ _ ⟨box4 HS.out.xa,box4 HS.out.xb⟩ (fun hHeld=>?_)
       clear hK K
       refine nO (some 7) ?_
       exact norm_ (by simp only[putAll,Act.put,List.setIfInBounds_toArray,List.set_cons_zero,List.set_cons_succ];try rfl) (hCont (vP,vQ,b7,b8) _ ⟨HS.out,HP.out,HQ.out,K7.out,K8.out,HNE.out⟩)
     ·skip
      refine box_step ?hg (N:=7) ?hd (cs:=#[.slice none 0 0]) (t:=25) ?hr ?_;(case hd=>rfl);(case hg=>rfl);(case hr=>first|(go_simp;done)|(go_simp;rfl))
      intro b7 hg w8 hbox hb
      have nz:=AK (show _∧_ from⟨hbox,show w.heap.size≤b7 by rw[hg];exact HS.out.b.size⟩)
      clear hbox hg
      have ns:=AK (HS.out.below hb)
      have nP:=AK (Kd.R_below HP.out hb)
      clear HP;have HP:=nP;clear nP
      clear HS;have HS:=ns;clear ns;have K7:=nz;clear nz hb
      refine hK.out _ _ ⟨box4 HS.out.xa,box4 HS.out.xb⟩ (fun hHeld=>?_)
      clear hK K
      refine nO (some 7) ?_
      refine two_ (i:=5) (j:=7) (Ni:=some 46) (Nj:=some 8) (bM 10 127) (bM 10 223) rfl rfl rfl rfl (two_of HT_.out (by kernel_rfl)) (by decide) (by decide) (fun K hK=>?_) (fun K hK=>?_)
      ·skip
       refine goes_ Try.func68 (by kernel_rfl) rfl #[.agg #[.slice B0 m0.length d0,.slice B1 m1.length d1,.slice B2 m2.length d2,.slice B3 m3.length d3],.slice Ay y.length cy] (by rfl) rfl rfl zI ?_
       refine(memPlaces_calls _ _ _ _ _ _ _ _ _ _ _ _ _ _ y _ (HJ0.out.below HS.out.b) (Kd.R_reads' HS.out.y).2.2 (Kd.R_reads' HS.out.y).2.1 HGY.out HKB.out.n).mono ?_
       rintro e w9 ⟨vQ,rfl,hr,hb⟩
       refine⟨_,rfl,?_⟩
       have nz:=AK (Kd.R_lower hr HS.out.b.size)
       have ns:=AK (HS.out.below hb)
       have nP:=AK (Kd.R_below HP.out hb)
       clear HP;have HP:=nP;clear nP
       have n7:=AK (show _∧_ from⟨bbl K7.out.1 hb,K7.out.2⟩)
       clear K7;have K7:=n7;clear n7
       clear HS;have HS:=ns;clear ns;have HQ:=nz;clear nz hb hr
       refine hK.out _ _ ⟨box4 HS.out.xa,box4 HS.out.xb⟩ (fun hHeld=>?_)
       clear hK K
       refine nO (some 46) ?_
       refine one_ (i:=7) (N:=some 8) (bM 10 255) rfl rfl (one_of HT_.out (by kernel_rfl)) (by decide) (fun K hK=>?_)
       refine box_step ?hg (N:=8) ?hd (cs:=#[.slice none 0 0]) (t:=25) ?hr ?_;(case hd=>rfl);(case hg=>rfl);(case hr=>first|(go_simp;done)|(go_simp;rfl))
       intro b8 hg w10 hbox hb
       have nz:=AK (show _∧_ from⟨hbox,show w.heap.size≤b8 by rw[hg];exact HS.out.b.size⟩)
       have HNE:=AK (show b7≠b8 by have h1:=blk_lt K7.out.1;intro h2;omega)
       clear hbox hg
       have ns:=AK (HS.out.below hb)
       have nP:=AK (Kd.R_below HP.out hb)
       clear HP;have HP:=nP;clear nP
       have nQ:=AK (Kd.R_below HQ.out hb)
       clear HQ;have HQ:=nQ;clear nQ
       have n7:=AK (show _∧_ from⟨bbl K7.out.1 hb,K7.out.2⟩)
       clear K7;have K7:=n7;clear n7
       clear HS;have HS:=ns;clear ns;have K8:=nz;clear nz hb
       refine hK.out _ _ ⟨box4 HS.out.xa,box4 HS.out.xb⟩ (fun hHeld=>?_)
       clear hK K
       refine nO (some 8) ?_
       exact norm_ (by simp only[putAll,Act.put,List.setIfInBounds_toArray,List.set_cons_zero,List.set_cons_succ];try rfl) (hCont (vP,vQ,b7,b8) _ ⟨HS.out,HP.out,HQ.out,K7.out,K8.out,HNE.out⟩)
      ·skip
       refine box_step ?hg (N:=8) ?hd (cs:=#[.slice none 0 0]) (t:=25) ?hr ?_;(case hd=>rfl);(case hg=>rfl);(case hr=>first|(go_simp;done)|(go_simp;rfl))
       intro b8 hg w9 hbox hb
       have nz:=AK (show _∧_ from⟨hbox,show w.heap.size≤b8 by rw[hg];exact HS.out.b.size⟩)
       have HNE:=AK (show b7≠b8 by have h1:=blk_lt K7.out.1;intro h2;omega)
       clear hbox hg
       have ns:=AK (HS.out.below hb)
       have nP:=AK (Kd.R_below HP.out hb)
       clear HP;have HP:=nP;clear nP
       have n7:=AK (show _∧_ from⟨bbl K7.out.1 hb,K7.out.2⟩)
       clear K7;have K7:=n7;clear n7
       clear HS;have HS:=ns;clear ns;have K8:=nz;clear nz hb
       refine hK.out _ _ ⟨box4 HS.out.xa,box4 HS.out.xb⟩ (fun hHeld=>?_)
       clear hK K
       refine nO (some 8) ?_
       refine one_ (i:=5) (N:=some 46) (bM 10 255) rfl rfl (one_of HT_.out (by kernel_rfl)) (by decide) (fun K hK=>?_)
       refine goes_ Try.func68 (by kernel_rfl) rfl #[.agg #[.slice B0 m0.length d0,.slice B1 m1.length d1,.slice B2 m2.length d2,.slice B3 m3.length d3],.slice Ay y.length cy] (by rfl) rfl rfl zI ?_
       refine(memPlaces_calls _ _ _ _ _ _ _ _ _ _ _ _ _ _ y _ (HJ0.out.below HS.out.b) (Kd.R_reads' HS.out.y).2.2 (Kd.R_reads' HS.out.y).2.1 HGY.out HKB.out.n).mono ?_
       rintro e w10 ⟨vQ,rfl,hr,hb⟩
       refine⟨_,rfl,?_⟩
       have nz:=AK (Kd.R_lower hr HS.out.b.size)
       have ns:=AK (HS.out.below hb)
       have nP:=AK (Kd.R_below HP.out hb)
       clear HP;have HP:=nP;clear nP
       have n7:=AK (show _∧_ from⟨bbl K7.out.1 hb,K7.out.2⟩)
       clear K7;have K7:=n7;clear n7
       have n8:=AK (show _∧_ from⟨bbl K8.out.1 hb,K8.out.2⟩)
       clear K8;have K8:=n8;clear n8
       clear HS;have HS:=ns;clear ns;have HQ:=nz;clear nz hb hr
       refine hK.out _ _ ⟨box4 HS.out.xa,box4 HS.out.xb⟩ (fun hHeld=>?_)
       clear hK K
       refine nO (some 46) ?_
       exact norm_ (by simp only[putAll,Act.put,List.setIfInBounds_toArray,List.set_cons_zero,List.set_cons_succ];try rfl) (hCont (vP,vQ,b7,b8) _ ⟨HS.out,HP.out,HQ.out,K7.out,K8.out,HNE.out⟩)
     ·skip
      refine box_step ?hg (N:=8) ?hd (cs:=#[.slice none 0 0]) (t:=25) ?hr ?_;(case hd=>rfl);(case hg=>rfl);(case hr=>first|(go_simp;done)|(go_simp;rfl))
      intro b8 hg w8 hbox hb
      have nz:=AK (show _∧_ from⟨hbox,show w.heap.size≤b8 by rw[hg];exact HS.out.b.size⟩)
      clear hbox hg
      have ns:=AK (HS.out.below hb)
      have nP:=AK (Kd.R_below HP.out hb)
      clear HP;have HP:=nP;clear nP
      clear HS;have HS:=ns;clear ns;have K8:=nz;clear nz hb
      refine hK.out _ _ ⟨box4 HS.out.xa,box4 HS.out.xb⟩ (fun hHeld=>?_)
      clear hK K
      refine nO (some 8) ?_
      refine two_ (i:=5) (j:=6) (Ni:=some 46) (Nj:=some 7) (bM 10 191) (bM 10 223) rfl rfl rfl rfl (two_of HT_.out (by kernel_rfl)) (by decide) (by decide) (fun K hK=>?_) (fun K hK=>?_)
      ·skip
       refine goes_ Try.func68 (by kernel_rfl) rfl #[.agg #[.slice B0 m0.length d0,.slice B1 m1.length d1,.slice B2 m2.length d2,.slice B3 m3.length d3],.slice Ay y.length cy] (by rfl) rfl rfl zI ?_
       refine(memPlaces_calls _ _ _ _ _ _ _ _ _ _ _ _ _ _ y _ (HJ0.out.below HS.out.b) (Kd.R_reads' HS.out.y).2.2 (Kd.R_reads' HS.out.y).2.1 HGY.out HKB.out.n).mono ?_
       rintro e w9 ⟨vQ,rfl,hr,hb⟩
       refine⟨_,rfl,?_⟩
       have nz:=AK (Kd.R_lower hr HS.out.b.size)
       have ns:=AK (HS.out.below hb)
       have nP:=AK (Kd.R_below HP.out hb)
       clear HP;have HP:=nP;clear nP
       have n8:=AK (show _∧_ from⟨bbl K8.out.1 hb,K8.out.2⟩)
       clear K8;have K8:=n8;clear n8
       clear HS;have HS:=ns;clear ns;have HQ:=nz;clear nz hb hr
       refine hK.out _ _ ⟨box4 HS.out.xa,box4 HS.out.xb⟩ (fun hHeld=>?_)
       clear hK K
       refine nO (some 46) ?_
       refine one_ (i:=6) (N:=some 7) (bM 10 255) rfl rfl (one_of HT_.out (by kernel_rfl)) (by decide) (fun K hK=>?_)
       refine box_step ?hg (N:=7) ?hd (cs:=#[.slice none 0 0]) (t:=25) ?hr ?_;(case hd=>rfl);(case hg=>rfl);(case hr=>first|(go_simp;done)|(go_simp;rfl))
       intro b7 hg w10 hbox hb
       have nz:=AK (show _∧_ from⟨hbox,show w.heap.size≤b7 by rw[hg];exact HS.out.b.size⟩)
       have HNE:=AK (show b7≠b8 by have h1:=blk_lt K8.out.1;intro h2;omega)
       clear hbox hg
       have ns:=AK (HS.out.below hb)
       have nP:=AK (Kd.R_below HP.out hb)
       clear HP;have HP:=nP;clear nP
       have nQ:=AK (Kd.R_below HQ.out hb)
       clear HQ;have HQ:=nQ;clear nQ
       have n8:=AK (show _∧_ from⟨bbl K8.out.1 hb,K8.out.2⟩)
       clear K8;have K8:=n8;clear n8
       clear HS;have HS:=ns;clear ns;have K7:=nz;clear nz hb
       refine hK.out _ _ ⟨box4 HS.out.xa,box4 HS.out.xb⟩ (fun hHeld=>?_)
       clear hK K
       refine nO (some 7) ?_
       exact norm_ (by simp only[putAll,Act.put,List.setIfInBounds_toArray,List.set_cons_zero,List.set_cons_succ];try rfl) (hCont (vP,vQ,b7,b8) _ ⟨HS.out,HP.out,HQ.out,K7.out,K8.out,HNE.out⟩)
      ·skip
       refine box_step ?hg (N:=7) ?hd (cs:=#[.slice none 0 0]) (t:=25) ?hr ?_;(case hd=>rfl);(case hg=>rfl);(case hr=>first|(go_simp;done)|(go_simp;rfl))
       intro b7 hg w9 hbox hb
       have nz:=AK (show _∧_ from⟨hbox,show w.heap.size≤b7 by rw[hg];exact HS.out.b.size⟩)
       have HNE:=AK (show b7≠b8 by have h1:=blk_lt K8.out.1;intro h2;omega)
       clear hbox hg
       have ns:=AK (HS.out.below hb)
       have nP:=AK (Kd.R_below HP.out hb)
       clear HP;have HP:=nP;clear nP
       have n8:=AK (show _∧_ from⟨bbl K8.out.1 hb,K8.out.2⟩)
       clear K8;have K8:=n8;clear n8
       clear HS;have HS:=ns;clear ns;have K7:=nz;clear nz hb
       refine hK.out _ _ ⟨box4 HS.out.xa,box4 HS.out.xb⟩ (fun hHeld=>?_)
       clear hK K
       refine nO (some 7) ?_
       refine one_ (i:=5) (N:=some 46) (bM 10 255) rfl rfl (one_of HT_.out (by kernel_rfl)) (by decide) (fun K hK=>?_)
       refine goes_ Try.func68 (by kernel_rfl) rfl #[.agg #[.slice B0 m0.length d0,.slice B1 m1.length d1,.slice B2 m2.length d2,.slice B3 m3.length d3],.slice Ay y.length cy] (by rfl) rfl rfl zI ?_
       refine(memPlaces_calls _ _ _ _ _ _ _ _ _ _ _ _ _ _ y _ (HJ0.out.below HS.out.b) (Kd.R_reads' HS.out.y).2.2 (Kd.R_reads' HS.out.y).2.1 HGY.out HKB.out.n).mono ?_
       rintro e w10 ⟨vQ,rfl,hr,hb⟩
       refine⟨_,rfl,?_⟩
       have nz:=AK (Kd.R_lower hr HS.out.b.size)
       have ns:=AK (HS.out.below hb)
       have nP:=AK (Kd.R_below HP.out hb)
       clear HP;have HP:=nP;clear nP
       have n7:=AK (show _∧_ from⟨bbl K7.out.1 hb,K7.out.2⟩)
       clear K7;have K7:=n7;clear n7
       have n8:=AK (show _∧_ from⟨bbl K8.out.1 hb,K8.out.2⟩)
       clear K8;have K8:=n8;clear n8
       clear HS;have HS:=ns;clear ns;have HQ:=nz;clear nz hb hr
       refine hK.out _ _ ⟨box4 HS.out.xa,box4 HS.out.xb⟩ (fun hHeld=>?_)
       clear hK K
       refine nO (some 46) ?_
       exact norm_ (by simp only[putAll,Act.put,List.setIfInBounds_toArray,List.set_cons_zero,List.set_cons_succ];try rfl) (hCont (vP,vQ,b7,b8) _ ⟨HS.out,HP.out,HQ.out,K7.out,K8.out,HNE.out⟩)
    ·skip
     refine box_step ?hg (N:=7) ?hd (cs:=#[.slice none 0 0]) (t:=25) ?hr ?_;(case hd=>rfl);(case hg=>rfl);(case hr=>first|(go_simp;done)|(go_simp;rfl))
     intro b7 hg w7 hbox hb
     have nz:=AK (show _∧_ from⟨hbox,show w.heap.size≤b7 by rw[hg];exact HS.out.b.size⟩)
     clear hbox hg
     have ns:=AK (HS.out.below hb)
     clear HS;have HS:=ns;clear ns;have K7:=nz;clear nz hb
     refine hK.out _ _ ⟨box4 HS.out.xa,box4 HS.out.xb⟩ (fun hHeld=>?_)
     clear hK K
     refine nO (some 7) ?_
     refine two_ (i:=2) (j:=7) (Ni:=some 43) (Nj:=some 8) (bM 10 95) (bM 10 219) rfl rfl rfl rfl (two_of HT_.out (by kernel_rfl)) (by decide) (by decide) (fun K hK=>?_) (fun K hK=>?_)
     ·skip
      refine goes_ Try.func68 (by kernel_rfl) rfl #[.agg #[.slice A0 l0.length c0,.slice A1 l1.length c1,.slice A2 l2.length c2,.slice A3 l3.length c3],.slice Ax x.length cx] (by rfl) rfl rfl zI ?_
      refine(memPlaces_calls _ _ _ _ _ _ _ _ _ _ _ _ _ _ x _ (HI0.out.below HS.out.b) (Kd.R_reads' HS.out.x).2.2 (Kd.R_reads' HS.out.x).2.1 HGX.out HKA.out.n).mono ?_
      rintro e w8 ⟨vP,rfl,hr,hb⟩
      refine⟨_,rfl,?_⟩
      have nz:=AK (Kd.R_lower hr HS.out.b.size)
      have ns:=AK (HS.out.below hb)
      have n7:=AK (show _∧_ from⟨bbl K7.out.1 hb,K7.out.2⟩)
      clear K7;have K7:=n7;clear n7
      clear HS;have HS:=ns;clear ns;have HP:=nz;clear nz hb hr
      refine hK.out _ _ ⟨box4 HS.out.xa,box4 HS.out.xb⟩ (fun hHeld=>?_)
      clear hK K
      refine nO (some 43) ?_
      refine two_ (i:=5) (j:=7) (Ni:=some 46) (Nj:=some 8) (bM 10 127) (bM 10 223) rfl rfl rfl rfl (two_of HT_.out (by kernel_rfl)) (by decide) (by decide) (fun K hK=>?_) (fun K hK=>?_)
      ·skip
       refine goes_ Try.func68 (by kernel_rfl) rfl #[.agg #[.slice B0 m0.length d0,.slice B1 m1.length d1,.slice B2 m2.length d2,.slice B3 m3.length d3],.slice Ay y.length cy] (by rfl) rfl rfl zI ?_
       refine(memPlaces_calls _ _ _ _ _ _ _ _ _ _ _ _ _ _ y _ (HJ0.out.below HS.out.b) (Kd.R_reads' HS.out.y).2.2 (Kd.R_reads' HS.out.y).2.1 HGY.out HKB.out.n).mono ?_
       rintro e w9 ⟨vQ,rfl,hr,hb⟩
       refine⟨_,rfl,?_⟩
       have nz:=AK (Kd.R_lower hr HS.out.b.size)
       have ns:=AK (HS.out.below hb)
       have nP:=AK (Kd.R_below HP.out hb)
       clear HP;have HP:=nP;clear nP
       have n7:=AK (show _∧_ from⟨bbl K7.out.1 hb,K7.out.2⟩)
       clear K7;have K7:=n7;clear n7
       clear HS;have HS:=ns;clear ns;have HQ:=nz;clear nz hb hr
       refine hK.out _ _ ⟨box4 HS.out.xa,box4 HS.out.xb⟩ (fun hHeld=>?_)
       clear hK K
       refine nO (some 46) ?_
       refine one_ (i:=7) (N:=some 8) (bM 10 255) rfl rfl (one_of HT_.out (by kernel_rfl)) (by decide) (fun K hK=>?_)
       refine box_step ?hg (N:=8) ?hd (cs:=#[.slice none 0 0]) (t:=25) ?hr ?_;(case hd=>rfl);(case hg=>rfl);(case hr=>first|(go_simp;done)|(go_simp;rfl))
       intro b8 hg w10 hbox hb
       have nz:=AK (show _∧_ from⟨hbox,show w.heap.size≤b8 by rw[hg];exact HS.out.b.size⟩)
       have HNE:=AK (show b7≠b8 by have h1:=blk_lt K7.out.1;intro h2;omega)
       clear hbox hg
       have ns:=AK (HS.out.below hb)
       have nP:=AK (Kd.R_below HP.out hb)
       clear HP;have HP:=nP;clear nP
       have nQ:=AK (Kd.R_below HQ.out hb)
       clear HQ;have HQ:=nQ;clear nQ
       have n7:=AK (show _∧_ from⟨bbl K7.out.1 hb,K7.out.2⟩)
       clear K7;have K7:=n7;clear n7
       clear HS;have HS:=ns;clear ns;have K8:=nz;clear nz hb
       refine hK.out _ _ ⟨box4 HS.out.xa,box4 HS.out.xb⟩ (fun hHeld=>?_)
       clear hK K
       refine nO (some 8) ?_
       exact norm_ (by simp only[putAll,Act.put,List.setIfInBounds_toArray,List.set_cons_zero,List.set_cons_succ];try rfl) (hCont (vP,vQ,b7,b8) _ ⟨HS.out,HP.out,HQ.out,K7.out,K8.out,HNE.out⟩)
      ·skip
       refine box_step ?hg (N:=8) ?hd (cs:=#[.slice none 0 0]) (t:=25) ?hr ?_;(case hd=>rfl);(case hg=>rfl);(case hr=>first|(go_simp;done)|(go_simp;rfl))
       intro b8 hg w9 hbox hb
       have nz:=AK (show _∧_ from⟨hbox,show w.heap.size≤b8 by rw[hg];exact HS.out.b.size⟩)
       have HNE:=AK (show b7≠b8 by have h1:=blk_lt K7.out.1;intro h2;omega)
       clear hbox hg
       have ns:=AK (HS.out.below hb)
       have nP:=AK (Kd.R_below HP.out hb)
       clear HP;have HP:=nP;clear nP
       have n7:=AK (show _∧_ from⟨bbl K7.out.1 hb,K7.out.2⟩)
       clear K7;have K7:=n7;clear n7
       clear HS;have HS:=ns;clear ns;have K8:=nz;clear nz hb
       refine hK.out _ _ ⟨box4 HS.out.xa,box4 HS.out.xb⟩ (fun hHeld=>?_)
       clear hK K
       refine nO (some 8) ?_
       refine one_ (i:=5) (N:=some 46) (bM 10 255) rfl rfl (one_of HT_.out (by kernel_rfl)) (by decide) (fun K hK=>?_)
       refine goes_ Try.func68 (by kernel_rfl) rfl #[.agg #[.slice B0 m0.length d0,.slice B1 m1.length d1,.slice B2 m2.length d2,.slice B3 m3.length d3],.slice Ay y.length cy] (by rfl) rfl rfl zI ?_
       refine(memPlaces_calls _ _ _ _ _ _ _ _ _ _ _ _ _ _ y _ (HJ0.out.below HS.out.b) (Kd.R_reads' HS.out.y).2.2 (Kd.R_reads' HS.out.y).2.1 HGY.out HKB.out.n).mono ?_
       rintro e w10 ⟨vQ,rfl,hr,hb⟩
       refine⟨_,rfl,?_⟩
       have nz:=AK (Kd.R_lower hr HS.out.b.size)
       have ns:=AK (HS.out.below hb)
       have nP:=AK (Kd.R_below HP.out hb)
       clear HP;have HP:=nP;clear nP
       have n7:=AK (show _∧_ from⟨bbl K7.out.1 hb,K7.out.2⟩)
       clear K7;have K7:=n7;clear n7
       have n8:=AK (show _∧_ from⟨bbl K8.out.1 hb,K8.out.2⟩)
       clear K8;have K8:=n8;clear n8
       clear HS;have HS:=ns;clear ns;have HQ:=nz;clear nz hb hr
       refine hK.out _ _ ⟨box4 HS.out.xa,box4 HS.out.xb⟩ (fun hHeld=>?_)
       clear hK K
       refine nO (some 46) ?_
       exact norm_ (by simp only[putAll,Act.put,List.setIfInBounds_toArray,List.set_cons_zero,List.set_cons_succ];try rfl) (hCont (vP,vQ,b7,b8) _ ⟨HS.out,HP.out,HQ.out,K7.out,K8.out,HNE.out⟩)
     ·skip
      refine box_step ?hg (N:=8) ?hd (cs:=#[.slice none 0 0]) (t:=25) ?hr ?_;(case hd=>rfl);(case hg=>rfl);(case hr=>first|(go_simp;done)|(go_simp;rfl))
      intro b8 hg w8 hbox hb
      have nz:=AK (show _∧_ from⟨hbox,show w.heap.size≤b8 by rw[hg];exact HS.out.b.size⟩)
      have HNE:=AK (show b7≠b8 by have h1:=blk_lt K7.out.1;intro h2;omega)
      clear hbox hg
      have ns:=AK (HS.out.below hb)
      have n7:=AK (show _∧_ from⟨bbl K7.out.1 hb,K7.out.2⟩)
      clear K7;have K7:=n7;clear n7
      clear HS;have HS:=ns;clear ns;have K8:=nz;clear nz hb
      refine hK.out _ _ ⟨box4 HS.out.xa,box4 HS.out.xb⟩ (fun hHeld=>?_)
      clear hK K
      refine nO (some 8) ?_
      refine one_ (i:=2) (N:=some 43) (bM 10 223) rfl rfl (one_of HT_.out (by kernel_rfl)) (by decide) (fun K hK=>?_)
      refine goes_ Try.func68 (by kernel_rfl) rfl #[.agg #[.slice A0 l0.length c0,.slice A1 l1.length c1,.slice A2 l2.length c2,.slice A3 l3.length c3],.slice Ax x.length cx] (by rfl) rfl rfl zI ?_
      refine(memPlaces_calls _ _ _ _ _ _ _ _ _ _ _ _ _ _ x _ (HI0.out.below HS.out.b) (Kd.R_reads' HS.out.x).2.2 (Kd.R_reads' HS.out.x).2.1 HGX.out HKA.out.n).mono ?_
      rintro e w9 ⟨vP,rfl,hr,hb⟩
      refine⟨_,rfl,?_⟩
      have nz:=AK (Kd.R_lower hr HS.out.b.size)
      have ns:=AK (HS.out.below hb)
      have n7:=AK (show _∧_ from⟨bbl K7.out.1 hb,K7.out.2⟩)
      clear K7;have K7:=n7;clear n7
      have n8:=AK (show _∧_ from⟨bbl K8.out.1 hb,K8.out.2⟩)
      clear K8;have K8:=n8;clear n8
      clear HS;have HS:=ns;clear ns;have HP:=nz;clear nz hb hr
      refine hK.out _ _ ⟨box4 HS.out.xa,box4 HS.out.xb⟩ (fun hHeld=>?_)
      clear hK K
      refine nO (some 43) ?_
      refine one_ (i:=5) (N:=some 46) (bM 10 255) rfl rfl (one_of HT_.out (by kernel_rfl)) (by decide) (fun K hK=>?_)
      refine goes_ Try.func68 (by kernel_rfl) rfl #[.agg #[.slice B0 m0.length d0,.slice B1 m1.length d1,.slice B2 m2.length d2,.slice B3 m3.length d3],.slice Ay y.length cy] (by rfl) rfl rfl zI ?_
      refine(memPlaces_calls _ _ _ _ _ _ _ _ _ _ _ _ _ _ y _ (HJ0.out.below HS.out.b) (Kd.R_reads' HS.out.y).2.2 (Kd.R_reads' HS.out.y).2.1 HGY.out HKB.out.n).mono ?_
      rintro e w10 ⟨vQ,rfl,hr,hb⟩
      refine⟨_,rfl,?_⟩
      have nz:=AK (Kd.R_lower hr HS.out.b.size)
      have ns:=AK (HS.out.below hb)
      have nP:=AK (Kd.R_below HP.out hb)
      clear HP;have HP:=nP;clear nP
      have n7:=AK (show _∧_ from⟨bbl K7.out.1 hb,K7.out.2⟩)
      clear K7;have K7:=n7;clear n7
      have n8:=AK (show _∧_ from⟨bbl K8.out.1 hb,K8.out.2⟩)
      clear K8;have K8:=n8;clear n8
      clear HS;have HS:=ns;clear ns;have HQ:=nz;clear nz hb hr
      refine hK.out _ _ ⟨box4 HS.out.xa,box4 HS.out.xb⟩ (fun hHeld=>?_)
      clear hK K
      refine nO (some 46) ?_
      exact norm_ (by simp only[putAll,Act.put,List.setIfInBounds_toArray,List.set_cons_zero,List.set_cons_succ];try rfl) (hCont (vP,vQ,b7,b8) _ ⟨HS.out,HP.out,HQ.out,K7.out,K8.out,HNE.out⟩)
    ·skip
     refine box_step ?hg (N:=8) ?hd (cs:=#[.slice none 0 0]) (t:=25) ?hr ?_;(case hd=>rfl);(case hg=>rfl);(case hr=>first|(go_simp;done)|(go_simp;rfl))
     intro b8 hg w7 hbox hb
     have nz:=AK (show _∧_ from⟨hbox,show w.heap.size≤b8 by rw[hg];exact HS.out.b.size⟩)
     clear hbox hg
     have ns:=AK (HS.out.below hb)
     clear HS;have HS:=ns;clear ns;have K8:=nz;clear nz hb
     refine hK.out _ _ ⟨box4 HS.out.xa,box4 HS.out.xb⟩ (fun hHeld=>?_)
     clear hK K
     refine nO (some 8) ?_
     refine two_ (i:=2) (j:=6) (Ni:=some 43) (Nj:=some 7) (bM 10 159) (bM 10 219) rfl rfl rfl rfl (two_of HT_.out (by kernel_rfl)) (by decide) (by decide) (fun K hK=>?_) (fun K hK=>?_)
     ·skip
      refine goes_ Try.func68 (by kernel_rfl) rfl #[.agg #[.slice A0 l0.length c0,.slice A1 l1.length c1,.slice A2 l2.length c2,.slice A3 l3.length c3],.slice Ax x.length cx] (by rfl) rfl rfl zI ?_
      refine(memPlaces_calls _ _ _ _ _ _ _ _ _ _ _ _ _ _ x _ (HI0.out.below HS.out.b) (Kd.R_reads' HS.out.x).2.2 (Kd.R_reads' HS.out.x).2.1 HGX.out HKA.out.n).mono ?_
      rintro e w8 ⟨vP,rfl,hr,hb⟩
      refine⟨_,rfl,?_⟩
      have nz:=AK (Kd.R_lower hr HS.out.b.size)
      have ns:=AK (HS.out.below hb)
      have n8:=AK (show _∧_ from⟨bbl K8.out.1 hb,K8.out.2⟩)
      clear K8;have K8:=n8;clear n8
      clear HS;have HS:=ns;clear ns;have HP:=nz;clear nz hb hr
      refine hK.out _ _ ⟨box4 HS.out.xa,box4 HS.out.xb⟩ (fun hHeld=>?_)
      clear hK K
      refine nO (some 43) ?_
      refine two_ (i:=5) (j:=6) (Ni:=some 46) (Nj:=some 7) (bM 10 191) (bM 10 223) rfl rfl rfl rfl (two_of HT_.out (by kernel_rfl)) (by decide) (by decide) (fun K hK=>?_) (fun K hK=>?_)
      ·skip
       refine goes_ Try.func68 (by kernel_rfl) rfl #[.agg #[.slice B0 m0.length d0,.slice B1 m1.length d1,.slice B2 m2.length d2,.slice B3 m3.length d3],.slice Ay y.length cy] (by rfl) rfl rfl zI ?_
       refine(memPlaces_calls _ _ _ _ _ _ _ _ _ _ _ _ _ _ y _ (HJ0.out.below HS.out.b) (Kd.R_reads' HS.out.y).2.2 (Kd.R_reads' HS.out.y).2.1 HGY.out HKB.out.n).mono ?_
       rintro e w9 ⟨vQ,rfl,hr,hb⟩
       refine⟨_,rfl,?_⟩
       have nz:=AK (Kd.R_lower hr HS.out.b.size)
       have ns:=AK (HS.out.below hb)
       have nP:=AK (Kd.R_below HP.out hb)
       clear HP;have HP:=nP;clear nP
       have n8:=AK (show _∧_ from⟨bbl K8.out.1 hb,K8.out.2⟩)
       clear K8;have K8:=n8;clear n8
       clear HS;have HS:=ns;clear ns;have HQ:=nz;clear nz hb hr
       refine hK.out _ _ ⟨box4 HS.out.xa,box4 HS.out.xb⟩ (fun hHeld=>?_)
       clear hK K
       refine nO (some 46) ?_
       refine one_ (i:=6) (N:=some 7) (bM 10 255) rfl rfl (one_of HT_.out (by kernel_rfl)) (by decide) (fun K hK=>?_)
       refine box_step ?hg (N:=7) ?hd (cs:=#[.slice none 0 0]) (t:=25) ?hr ?_;(case hd=>rfl);(case hg=>rfl);(case hr=>first|(go_simp;done)|(go_simp;rfl))
       intro b7 hg w10 hbox hb
       have nz:=AK (show _∧_ from⟨hbox,show w.heap.size≤b7 by rw[hg];exact HS.out.b.size⟩)
       have HNE:=AK (show b7≠b8 by have h1:=blk_lt K8.out.1;intro h2;omega)
       clear hbox hg
       have ns:=AK (HS.out.below hb)
       have nP:=AK (Kd.R_below HP.out hb)
       clear HP;have HP:=nP;clear nP
       have nQ:=AK (Kd.R_below HQ.out hb)
       clear HQ;have HQ:=nQ;clear nQ
       have n8:=AK (show _∧_ from⟨bbl K8.out.1 hb,K8.out.2⟩)
       clear K8;have K8:=n8;clear n8
       clear HS;have HS:=ns;clear ns;have K7:=nz;clear nz hb
       refine hK.out _ _ ⟨box4 HS.out.xa,box4 HS.out.xb⟩ (fun hHeld=>?_)
       clear hK K
       refine nO (some 7) ?_
       exact norm_ (by simp only[putAll,Act.put,List.setIfInBounds_toArray,List.set_cons_zero,List.set_cons_succ];try rfl) (hCont (vP,vQ,b7,b8) _ ⟨HS.out,HP.out,HQ.out,K7.out,K8.out,HNE.out⟩)
      ·skip
       refine box_step ?hg (N:=7) ?hd (cs:=#[.slice none 0 0]) (t:=25) ?hr ?_;(case hd=>rfl);(case hg=>rfl);(case hr=>first|(go_simp;done)|(go_simp;rfl))
       intro b7 hg w9 hbox hb
       have nz:=AK (show _∧_ from⟨hbox,show w.heap.size≤b7 by rw[hg];exact HS.out.b.size⟩)
       have HNE:=AK (show b7≠b8 by have h1:=blk_lt K8.out.1;intro h2;omega)
       clear hbox hg
       have ns:=AK (HS.out.below hb)
       have nP:=AK (Kd.R_below HP.out hb)
       clear HP;have HP:=nP;clear nP
       have n8:=AK (show _∧_ from⟨bbl K8.out.1 hb,K8.out.2⟩)
       clear K8;have K8:=n8;clear n8
       clear HS;have HS:=ns;clear ns;have K7:=nz;clear nz hb
       refine hK.out _ _ ⟨box4 HS.out.xa,box4 HS.out.xb⟩ (fun hHeld=>?_)
       clear hK K
       refine nO (some 7) ?_
       refine one_ (i:=5) (N:=some 46) (bM 10 255) rfl rfl (one_of HT_.out (by kernel_rfl)) (by decide) (fun K hK=>?_)
       refine goes_ Try.func68 (by kernel_rfl) rfl #[.agg #[.slice B0 m0.length d0,.slice B1 m1.length d1,.slice B2 m2.length d2,.slice B3 m3.length d3],.slice Ay y.length cy] (by rfl) rfl rfl zI ?_
       refine(memPlaces_calls _ _ _ _ _ _ _ _ _ _ _ _ _ _ y _ (HJ0.out.below HS.out.b) (Kd.R_reads' HS.out.y).2.2 (Kd.R_reads' HS.out.y).2.1 HGY.out HKB.out.n).mono ?_
       rintro e w10 ⟨vQ,rfl,hr,hb⟩
       refine⟨_,rfl,?_⟩
       have nz:=AK (Kd.R_lower hr HS.out.b.size)
       have ns:=AK (HS.out.below hb)
       have nP:=AK (Kd.R_below HP.out hb)
       clear HP;have HP:=nP;clear nP
       have n7:=AK (show _∧_ from⟨bbl K7.out.1 hb,K7.out.2⟩)
       clear K7;have K7:=n7;clear n7
       have n8:=AK (show _∧_ from⟨bbl K8.out.1 hb,K8.out.2⟩)
       clear K8;have K8:=n8;clear n8
       clear HS;have HS:=ns;clear ns;have HQ:=nz;clear nz hb hr
       refine hK.out _ _ ⟨box4 HS.out.xa,box4 HS.out.xb⟩ (fun hHeld=>?_)
       clear hK K
       refine nO (some 46) ?_
       exact norm_ (by simp only[putAll,Act.put,List.setIfInBounds_toArray,List.set_cons_zero,List.set_cons_succ];try rfl) (hCont (vP,vQ,b7,b8) _ ⟨HS.out,HP.out,HQ.out,K7.out,K8.out,HNE.out⟩)
     ·skip
      refine box_step ?hg (N:=7) ?hd (cs:=#[.slice none 0 0]) (t:=25) ?hr ?_;(case hd=>rfl);(case hg=>rfl);(case hr=>first|(go_simp;done)|(go_simp;rfl))
      intro b7 hg w8 hbox hb
      have nz:=AK (show _∧_ from⟨hbox,show w.heap.size≤b7 by rw[hg];exact HS.out.b.size⟩)
      have HNE:=AK (show b7≠b8 by have h1:=blk_lt K8.out.1;intro h2;omega)
      clear hbox hg
      have ns:=AK (HS.out.below hb)
      have n8:=AK (show _∧_ from⟨bbl K8.out.1 hb,K8.out.2⟩)
      clear K8;have K8:=n8;clear n8
      clear HS;have HS:=ns;clear ns;have K7:=nz;clear nz hb
      refine hK.out _ _ ⟨box4 HS.out.xa,box4 HS.out.xb⟩ (fun hHeld=>?_)
      clear hK K
      refine nO (some 7) ?_
      refine one_ (i:=2) (N:=some 43) (bM 10 223) rfl rfl (one_of HT_.out (by kernel_rfl)) (by decide) (fun K hK=>?_)
      refine goes_ Try.func68 (by kernel_rfl) rfl #[.agg #[.slice A0 l0.length c0,.slice A1 l1.length c1,.slice A2 l2.length c2,.slice A3 l3.length c3],.slice Ax x.length cx] (by rfl) rfl rfl zI ?_
      refine(memPlaces_calls _ _ _ _ _ _ _ _ _ _ _ _ _ _ x _ (HI0.out.below HS.out.b) (Kd.R_reads' HS.out.x).2.2 (Kd.R_reads' HS.out.x).2.1 HGX.out HKA.out.n).mono ?_
      rintro e w9 ⟨vP,rfl,hr,hb⟩
      refine⟨_,rfl,?_⟩
      have nz:=AK (Kd.R_lower hr HS.out.b.size)
      have ns:=AK (HS.out.below hb)
      have n7:=AK (show _∧_ from⟨bbl K7.out.1 hb,K7.out.2⟩)
      clear K7;have K7:=n7;clear n7
      have n8:=AK (show _∧_ from⟨bbl K8.out.1 hb,K8.out.2⟩)
      clear K8;have K8:=n8;clear n8
      clear HS;have HS:=ns;clear ns;have HP:=nz;clear nz hb hr
      refine hK.out _ _ ⟨box4 HS.out.xa,box4 HS.out.xb⟩ (fun hHeld=>?_)
      clear hK K
      refine nO (some 43) ?_
      refine one_ (i:=5) (N:=some 46) (bM 10 255) rfl rfl (one_of HT_.out (by kernel_rfl)) (by decide) (fun K hK=>?_)
      refine goes_ Try.func68 (by kernel_rfl) rfl #[.agg #[.slice B0 m0.length d0,.slice B1 m1.length d1,.slice B2 m2.length d2,.slice B3 m3.length d3],.slice Ay y.length cy] (by rfl) rfl rfl zI ?_
      refine(memPlaces_calls _ _ _ _ _ _ _ _ _ _ _ _ _ _ y _ (HJ0.out.below HS.out.b) (Kd.R_reads' HS.out.y).2.2 (Kd.R_reads' HS.out.y).2.1 HGY.out HKB.out.n).mono ?_
      rintro e w10 ⟨vQ,rfl,hr,hb⟩
      refine⟨_,rfl,?_⟩
      have nz:=AK (Kd.R_lower hr HS.out.b.size)
      have ns:=AK (HS.out.below hb)
      have nP:=AK (Kd.R_below HP.out hb)
      clear HP;have HP:=nP;clear nP
      have n7:=AK (show _∧_ from⟨bbl K7.out.1 hb,K7.out.2⟩)
      clear K7;have K7:=n7;clear n7
      have n8:=AK (show _∧_ from⟨bbl K8.out.1 hb,K8.out.2⟩)
      clear K8;have K8:=n8;clear n8
      clear HS;have HS:=ns;clear ns;have HQ:=nz;clear nz hb hr
      refine hK.out _ _ ⟨box4 HS.out.xa,box4 HS.out.xb⟩ (fun hHeld=>?_)
      clear hK K
      refine nO (some 46) ?_
      exact norm_ (by simp only[putAll,Act.put,List.setIfInBounds_toArray,List.set_cons_zero,List.set_cons_succ];try rfl) (hCont (vP,vQ,b7,b8) _ ⟨HS.out,HP.out,HQ.out,K7.out,K8.out,HNE.out⟩)
   clear HS
   rintro⟨vP,vQ,b7,b8⟩ w8 ⟨hs,hp,hq,hk7,hk8,hne⟩
   replace hp:Kd.R (Kd.int .i64) 3 w8 w.heap.size (fun _=>True) vP (plL l0.length x):=hp
   replace hq:Kd.R (Kd.int .i64) 3 w8 w.heap.size (fun _=>True) vQ (plL m0.length y):=hq
   replace hk7:w8.heap[b7]?=some (.cells #[.slice none 0 0] 25 (0,0))∧w.heap.size≤b7:=hk7
   replace hk8:w8.heap[b8]?=some (.cells #[.slice none 0 0] 25 (0,0))∧w.heap.size≤b8:=hk8
   replace hne:b7≠b8:=hne
   obtain⟨AP,cP,e⟩:=Kd.R_slice hp
   subst e
   obtain⟨AQ,cQ,e⟩:=Kd.R_slice hq
   subst e
   have PL:=AK (And.intro (plL_length l0.length x) (fun p h0 (h1:p<((plL l0.length x).length:Int))=>plL_rd l0.length x p h0 (by rw[plL_length]at h1;exact h1)))
   have QL:=AK (And.intro (plL_length m0.length y) (fun p h0 (h1:p<((plL m0.length y).length:Int))=>plL_rd m0.length y p h0 (by rw[plL_length]at h1;exact h1)))
   generalize plL l0.length x=pl at hp PL ⊢
   generalize plL m0.length y=ql at hq QL ⊢
   have hs8:=hs.set hk7.1 hk7.2 0 (.slice AP pl.length cP)
   have hp8:=Kd.R_set hp hk7.1 (int_apart 25 (by decide)) 0 (.slice AP pl.length cP)
   have hq8:=Kd.R_set hq hk7.1 (int_apart 25 (by decide)) 0 (.slice AP pl.length cP)
   have hk78:=box_set (u:=.slice AP pl.length cP) hk7.1
   have hk88:=blk_far hk8.1 (p:=⟨b7,0,none⟩) (fun h=>hne h.symm) (.slice AP pl.length cP)
   have hs9:=hs8.set hk88 hk8.2 0 (.slice AQ ql.length cQ)
   have hp9:=Kd.R_set hp8 hk88 (int_apart 25 (by decide)) 0 (.slice AQ ql.length cQ)
   have hq9:=Kd.R_set hq8 hk88 (int_apart 25 (by decide)) 0 (.slice AQ ql.length cQ)
   have hk89:=box_set (u:=.slice AQ ql.length cQ) hk88
   have hk79:=blk_far hk78 (p:=⟨b8,0,none⟩) hne (.slice AQ ql.length cQ)
   have HS8:=AK hs8
   have HF9:=AK (And.intro hs9 (And.intro hp9 (And.intro hq9 (And.intro hk79 hk89))))
   obtain⟨z7,y7⟩:=box1 hk7.1
   have z8:=(box1 hk88).1
   have y8:=(box1 hk88).2
   clear hs hp hq hk7 hk8 hne hs8 hp8 hq8 hk78 hk88 hs9 hp9 hq9 hk79 hk89
   refine norm_ (a':=?_) ?_ ?_
   rotate_left
   ·show (Act.put (Act.put (Act.put (Act.put _ (some 43) _) (some 46) _) (some 7) _) (some 8) _)=_
    exact zP
   refine one_ (i:=8) (N:=none) (bM 10 511) rfl rfl (one_of HT_.out (by kernel_rfl)) (by decide) (fun K hK=>?_)
   refine skip_ (w1:=?_) (by rfl) rfl ?_ ?_
   rotate_left
   ·go_simp
    rfl
   refine hK.out _ _ ⟨box4 HS8.out.xa,box4 HS8.out.xb⟩ (fun hHeld=>?_)
   clear hK K
   refine one_ (i:=9) (N:=none) (bM 10 1023) rfl rfl (one_of HT_.out (by kernel_rfl)) (by decide) (fun K hK=>?_)
   refine skip_ (w1:=?_) (by rfl) rfl ?_ ?_
   rotate_left
   ·go_simp
    rfl
   refine hK.out _ _ ⟨box4 HF9.out.1.xa,box4 HF9.out.1.xb⟩ (fun hHeld=>?_)
   clear hK K hHeld
   refine done_ (done_of HT_.out (by kernel_rfl)) ?_
   clear HT_ HW_ z7 y7 z8 y8 HS8
   generalize (w8.setCell ⟨b7,0,none⟩ (.slice AP pl.length cP)).setCell ⟨b8,0,none⟩ (.slice AQ ql.length cQ)=w9 at HF9 ⊢
   have HS9:=AK HF9.out.1
   have HP9:=AK HF9.out.2.1
   have HQ9:=AK HF9.out.2.2.1
   have K7:=AK HF9.out.2.2.2.1
   have K8:=AK HF9.out.2.2.2.2
   clear HF9
   obtain⟨b1,eb1⟩:∃b,b=rowsB x y l1 m1:=⟨_,rfl⟩
   obtain⟨s2,es2⟩:∃b,b=sameW (seenW x l2) (seenW y m2):=⟨_,rfl⟩
   obtain⟨s3,es3⟩:∃b,b=sameW (seenW x l3) (seenW y m3):=⟨_,rfl⟩
   have ER2:=AK (show r=(b1 && (cmp2 (fun p q=>alikeB x y (rd_T38 l0 p) (rd_T38 m0 q)) x y && (s2 && s3)))by
    rw[ER.out,eb1,es2,es3];unfold sameC rowsB objsB;rw[deT HXY.out,deT HRL.out];simp)
   have EB1:=AK eb1
   have ES2:=AK es2
   have ES3:=AK es3
   clear eb1 es2 es3
   obtain⟨q0,q1,q2,q3⟩:=box4 HS9.out.xa
   obtain⟨p0,p1,p2,p3⟩:=box4 HS9.out.xb
   go_wp2_with fail
   clear q0 q1 q2 q3 p0 p1 p2 p3
   refine(sameRows_calls _ _ _ _ _ _ _ _ _ _ l1 m1 _ _ x y w9 (HI0.out.below HS9.out.b).r1 (HJ0.out.below HS9.out.b).r1 (Kd.R_reads' HP9.out).2.2 (Kd.R_reads' HP9.out).2.1 (Kd.R_reads' HQ9.out).2.2 (Kd.R_reads' HQ9.out).2.1 K7.out K8.out PL.out.2 QL.out.2 (fun p hp=>by have:=(HKA.out.rs p hp).2;rw[PL.out.1];exact this) (fun p hp=>by have:=(HKB.out.rs p hp).2;rw[QL.out.1];exact this) (by have:=HKA.out.r;omega)).mono ?_
   rintro e w10 ⟨rfl,hb⟩
   rw[←EB1.out]
   have HB:=AK hb
   clear hb
   cases b1 with
   | false=>
    have e0:r=false:=by rw[ER2.out];rfl
    subst e0
    go_wp2
    go_ret
    exact⟨rfl,bst HS9.out.b HB.out⟩
   | true=>
   have ER3:=AK (show r=(cmp2 (fun p q=>alikeB x y (rd_T38 l0 p) (rd_T38 m0 q)) (x.drop (0:Int).toNat) (y.drop (0:Int).toNat) && (s2 && s3))by rw[ER2.out];rfl)
   clear ER2
   go_wp2
   go_loopg [57] x.length (fun kq v57 w'=>∃i:Int,v57=.int .i64 i∧Aside0 (0≤i∧i+kq=x.length)∧Aside0 (r=(cmp2 (fun p q=>alikeB x y (rd_T38 l0 p) (rd_T38 m0 q)) (x.drop i.toNat) (y.drop i.toNat) && (s2 && s3)))∧Aside0 (Below w9.heap.size w9 w'))
   case atStart=>exact⟨0,rfl,⟨by omega,by omega⟩,ER3,HB⟩
   case round=>
    clear HB ER3
    obtain⟨i,rfl,HI,ER4,HB⟩:=hrel
    cases gk with
    | succ k1=>
     have c58:decide (i<(x.length:Int))=true:=deT (by have:=HI.out;omega)
     have hi0:=eq_true (show 0≤i by have:=HI.out;omega)
     have hi1:=eq_true (show i<(x.length:Int)by have:=HI.out;omega)
     have hi2:=eq_true (show i<(y.length:Int)by have:=HI.out;have:=HXY.out;omega)
     have hr:=ER4.out
     rw[cmp2_at _ x y 0 0 i (by have:=HI.out;omega) (by have:=HI.out;omega) (by have:=HI.out;have:=HXY.out;omega)]at hr
     have hgp:=HGX.out.2 _ (getD_mem x 0 i (by have:=HI.out;omega) (by have:=HI.out;omega))
     have hgq:=HGY.out.2 _ (getD_mem y 0 i (by have:=HI.out;omega) (by have:=HI.out;have:=HXY.out;omega))
     obtain⟨adx,ex,hx0⟩:=Kd.at_int (Kd.R_reads' HS9.out.x).2.2 i (by have:=HI.out;omega) (by have:=HI.out;omega)
     obtain⟨ady,ey,hy0⟩:=Kd.at_int (Kd.R_reads' HS9.out.y).2.2 i (by have:=HI.out;omega) (by have:=HI.out;have:=HXY.out;omega)
     subst ex
     subst ey
     obtain⟨p,ep⟩:∃p,p=rd x i:=⟨_,rfl⟩
     obtain⟨q,eq⟩:∃q,q=rd y i:=⟨_,rfl⟩
     replace hgp:0≤p∧p<l0.length:=by rw[ep];exact hgp
     replace hgq:0≤q∧q<m0.length:=by rw[eq];exact hgq
     rw[←ep]at hx0
     rw[←eq]at hy0
     obtain⟨o,eo⟩:∃o,o=rd_T38 l0 p:=⟨_,rfl⟩
     obtain⟨u,eu⟩:∃u,u=rd_T38 m0 q:=⟨_,rfl⟩
     have ER5:=AK (show r=((alikeB x y o u && cmp2 (fun p q=>alikeB x y (rd_T38 l0 p) (rd_T38 m0 q)) (x.drop (i+1).toNat) (y.drop (i+1).toNat)) && (s2 && s3))by rw[hr,eo,eu,ep,eq];rfl)
     obtain⟨ad0,Ao,co,e,ha0,ha1,ha2,hal,hag⟩:=at_T38 (HI0.out.below HS9.out.b).r0 p hgp.1 hgp.2
     subst e
     obtain⟨bd0,Au,cu,e,hb0,hb1,hb2,hbl,hbg⟩:=at_T38 (HJ0.out.below HS9.out.b).r0 q hgq.1 hgq.2
     subst e
     rw[←eo]at ha0 ha1 ha2 hal hag
     rw[←eu]at hb0 hb1 hb2 hbl hbg
     have HO:=AK (And.intro hag (And.intro hal (show (∀z∈o.f2,z<(l0.length:Int))∧o.f2.length≤6 by rw[eo];exact ob_small (ob_at HKA.out hgp.1 hgp.2))))
     have HU:=AK (And.intro hbg (And.intro hbl (show (∀z∈u.f2,z<(m0.length:Int))∧u.f2.length≤6 by rw[eu];exact ob_small (ob_at HKB.out hgq.1 hgq.2))))
     have hp0:=eq_true hgp.1
     have hp1:=eq_true hgp.2
     have hq0:=eq_true hgq.1
     have hq1:=eq_true hgq.2
     have CS:=AK (And.intro (box4 HS9.out.xa).1 (And.intro (box4 HS9.out.xb).1 (And.intro hx0 (And.intro hy0 (And.intro ha0 (And.intro ha1 (And.intro ha2 (And.intro hb0 (And.intro hb1 hb2)))))))))
     clear ER4 hr hgp hgq ep eq eo eu hx0 hy0 ha0 ha1 ha2 hal hag hb0 hb1 hb2 hbl hbg
     go_wp2_with fail
     replace HB:=AK (below_drew HB.out)
     refine start_ (n:=20) (S:=(fun w'=>w'.cell? ⟨w.heap.size,0,none⟩=some (.slice (some ad0) l0.length c0)∧w'.cell? ⟨w.heap.size+1,0,none⟩=some (.slice (some bd0) m0.length d0)∧w'.cell? (adx.add i.toNat)=some (.int .i64 p)∧w'.cell? (ady.add i.toNat)=some (.int .i64 q)∧w'.cell? (ad0.add (p.toNat*3))=some (.int .i64 o.f0)∧w'.cell? ⟨(ad0.add (p.toNat*3)).block,(ad0.add (p.toNat*3)).off+1,none⟩=some (.string o.f1)∧w'.cell? ⟨(ad0.add (p.toNat*3)).block,(ad0.add (p.toNat*3)).off+2,none⟩=some (.slice Ao o.f2.length co)∧w'.cell? (bd0.add (q.toNat*3))=some (.int .i64 u.f0)∧w'.cell? ⟨(bd0.add (q.toNat*3)).block,(bd0.add (q.toNat*3)).off+1,none⟩=some (.string u.f1)∧w'.cell? ⟨(bd0.add (q.toNat*3)).block,(bd0.add (q.toNat*3)).off+2,none⟩=some (.slice Au u.f2.length cu))) (ds:=[]) #[fF,fF,fF,fF,fF,fF,fF,fF,fF,fF,fF,fF,fF,fF,fF,fF,fF,fF,fF,fF] (by kernel_rfl) rfl rfl ⟨pcb HB.out CS.out.1,pcb HB.out CS.out.2.1,pcb HB.out CS.out.2.2.1,pcb HB.out CS.out.2.2.2.1,pcb HB.out CS.out.2.2.2.2.1,pcb HB.out CS.out.2.2.2.2.2.1,pcb HB.out CS.out.2.2.2.2.2.2.1,pcb HB.out CS.out.2.2.2.2.2.2.2.1,pcb HB.out CS.out.2.2.2.2.2.2.2.2.1,pcb HB.out CS.out.2.2.2.2.2.2.2.2.2⟩ (fun hHeld=>?_);refine with_tabW same13_tab same13_bits (fun HT_ HW_=>?_)
     generalize wr.drew=w10' at HB hHeld ⊢
     refine pU HT_ 0 (some 60) (bM 20 1) ?_
     refine tU HT_ HW_ 1 (some 61) (bM 20 3) hHeld rfl (by refine Or.inl ⟨by rfl,?_⟩;rintro w' ⟨s0,s1,s2,s3,s4,s5,s6,s7,s8,s9⟩;go_simp;with_reducible rfl) ?_
     refine pU HT_ 2 (some 62) (bM 20 7) ?_
     refine pU HT_ 3 (some 63) (bM 20 15) ?_
     refine pU HT_ 4 (some 64) (bM 20 31) ?_
     refine tU HT_ HW_ 5 (some 65) (bM 20 63) hHeld rfl (by refine Or.inl ⟨by rfl,?_⟩;rintro w' ⟨s0,s1,s2,s3,s4,s5,s6,s7,s8,s9⟩;go_simp;with_reducible rfl) ?_
     refine pU HT_ 6 (some 66) (bM 20 127) ?_
     refine tU HT_ HW_ 7 (some 67) (bM 20 255) hHeld rfl (by refine Or.inl ⟨by rfl,?_⟩;rintro w' ⟨s0,s1,s2,s3,s4,s5,s6,s7,s8,s9⟩;go_simp;with_reducible rfl) ?_
     refine pU HT_ 8 (some 68) (bM 20 511) ?_
     refine tU HT_ HW_ 9 (some 69) (bM 20 1023) hHeld rfl (by refine Or.inl ⟨by rfl,?_⟩;rintro w' ⟨s0,s1,s2,s3,s4,s5,s6,s7,s8,s9⟩;go_simp;with_reducible rfl) ?_
     refine pU HT_ 10 (some 70) (bM 20 2047) ?_
     refine pU HT_ 11 (some 71) (bM 20 4095) ?_
     refine pU HT_ 12 (some 72) (bM 20 8191) ?_
     refine tU HT_ HW_ 13 (some 73) (bM 20 16383) hHeld rfl (by refine Or.inl ⟨by rfl,?_⟩;rintro w' ⟨s0,s1,s2,s3,s4,s5,s6,s7,s8,s9⟩;go_simp;with_reducible rfl) ?_
     refine pU HT_ 14 (some 74) (bM 20 32767) ?_
     refine tU HT_ HW_ 15 (some 75) (bM 20 65535) hHeld rfl (by refine Or.inl ⟨by rfl,?_⟩;rintro w' ⟨s0,s1,s2,s3,s4,s5,s6,s7,s8,s9⟩;go_simp;with_reducible rfl) ?_
     refine join_ (σ:=Nat × Nat) 2 #[tT,tT,tT,tT,tT,tT,tT,tT,tT,tT,tT,tT,tT,tT,tT,tT,tT,tT,fF,fF] (fun s=>[(11,.pointer (some ⟨s.1,0,none⟩)),(12,.pointer (some ⟨s.2,0,none⟩))]) (fun s w'=>Below w9.heap.size w9 w'∧(w'.heap[s.1]?=some (.cells #[.int .i64 0,.string ⟨#[]⟩,.slice none 0 0] 38 (0,0))∧w9.heap.size≤s.1)∧(w'.heap[s.2]?=some (.cells #[.int .i64 0,.string ⟨#[]⟩,.slice none 0 0] 38 (0,0))∧w9.heap.size≤s.2)∧s.1≠s.2) ?_ ?_
     rotate_left
     ·intro hCont
      refine two_ (i:=16) (j:=17) (Ni:=some 11) (Nj:=some 12) (bM 20 131071) (bM 20 196607) rfl rfl rfl rfl (two_of HT_.out (by kernel_rfl)) (by decide) (by decide) (fun K hK=>?_) (fun K hK=>?_)
      ·skip
       refine box_step ?hg (N:=11) ?hd (cs:=#[.int .i64 0,.string ⟨#[]⟩,.slice none 0 0]) (t:=38) ?hr ?_;(case hd=>rfl);(case hg=>rfl);(case hr=>first|(go_simp;done)|(go_simp;rfl))
       intro b11 hg v11 hbox hb
       have G11:=AK (show _∧_ from⟨hbox,show w9.heap.size≤b11 by rw[hg];exact HB.out.size⟩)
       replace HB:=AK (bst HB.out hb)
       clear hbox hg hb
       refine hK.out _ _ ⟨pcb HB.out CS.out.1,pcb HB.out CS.out.2.1,pcb HB.out CS.out.2.2.1,pcb HB.out CS.out.2.2.2.1,pcb HB.out CS.out.2.2.2.2.1,pcb HB.out CS.out.2.2.2.2.2.1,pcb HB.out CS.out.2.2.2.2.2.2.1,pcb HB.out CS.out.2.2.2.2.2.2.2.1,pcb HB.out CS.out.2.2.2.2.2.2.2.2.1,pcb HB.out CS.out.2.2.2.2.2.2.2.2.2⟩ (fun hHeld=>?_)
       clear hK K
       refine nO (some 11) ?_
       refine one_ (i:=17) (N:=some 12) (bM 20 262143) rfl rfl (one_of HT_.out (by kernel_rfl)) (by decide) (fun K hK=>?_)
       refine box_step ?hg (N:=12) ?hd (cs:=#[.int .i64 0,.string ⟨#[]⟩,.slice none 0 0]) (t:=38) ?hr ?_;(case hd=>rfl);(case hg=>rfl);(case hr=>first|(go_simp;done)|(go_simp;rfl))
       intro b12 hg v12 hbox hb
       have G12:=AK (show _∧_ from⟨hbox,show w9.heap.size≤b12 by rw[hg];exact HB.out.size⟩)
       have HNE:=AK (show b11≠b12 by have h1:=blk_lt G11.out.1;intro h2;omega)
       replace G11:=AK (show _∧_ from⟨bbl G11.out.1 hb,G11.out.2⟩)
       replace HB:=AK (bst HB.out hb)
       clear hbox hg hb
       refine hK.out _ _ ⟨pcb HB.out CS.out.1,pcb HB.out CS.out.2.1,pcb HB.out CS.out.2.2.1,pcb HB.out CS.out.2.2.2.1,pcb HB.out CS.out.2.2.2.2.1,pcb HB.out CS.out.2.2.2.2.2.1,pcb HB.out CS.out.2.2.2.2.2.2.1,pcb HB.out CS.out.2.2.2.2.2.2.2.1,pcb HB.out CS.out.2.2.2.2.2.2.2.2.1,pcb HB.out CS.out.2.2.2.2.2.2.2.2.2⟩ (fun hHeld=>?_)
       clear hK K
       refine nO (some 12) ?_
       exact norm_ (by simp only[putAll,Act.put,List.setIfInBounds_toArray,List.set_cons_zero,List.set_cons_succ];try rfl) (hCont (b11,b12) _ ⟨HB.out,G11.out,G12.out,HNE.out⟩)
      ·skip
       refine box_step ?hg (N:=12) ?hd (cs:=#[.int .i64 0,.string ⟨#[]⟩,.slice none 0 0]) (t:=38) ?hr ?_;(case hd=>rfl);(case hg=>rfl);(case hr=>first|(go_simp;done)|(go_simp;rfl))
       intro b12 hg v12 hbox hb
       have G12:=AK (show _∧_ from⟨hbox,show w9.heap.size≤b12 by rw[hg];exact HB.out.size⟩)
       replace HB:=AK (bst HB.out hb)
       clear hbox hg hb
       refine hK.out _ _ ⟨pcb HB.out CS.out.1,pcb HB.out CS.out.2.1,pcb HB.out CS.out.2.2.1,pcb HB.out CS.out.2.2.2.1,pcb HB.out CS.out.2.2.2.2.1,pcb HB.out CS.out.2.2.2.2.2.1,pcb HB.out CS.out.2.2.2.2.2.2.1,pcb HB.out CS.out.2.2.2.2.2.2.2.1,pcb HB.out CS.out.2.2.2.2.2.2.2.2.1,pcb HB.out CS.out.2.2.2.2.2.2.2.2.2⟩ (fun hHeld=>?_)
       clear hK K
       refine nO (some 12) ?_
       refine one_ (i:=16) (N:=some 11) (bM 20 262143) rfl rfl (one_of HT_.out (by kernel_rfl)) (by decide) (fun K hK=>?_)
       refine box_step ?hg (N:=11) ?hd (cs:=#[.int .i64 0,.string ⟨#[]⟩,.slice none 0 0]) (t:=38) ?hr ?_;(case hd=>rfl);(case hg=>rfl);(case hr=>first|(go_simp;done)|(go_simp;rfl))
       intro b11 hg v11 hbox hb
       have G11:=AK (show _∧_ from⟨hbox,show w9.heap.size≤b11 by rw[hg];exact HB.out.size⟩)
       have HNE:=AK (show b11≠b12 by have h1:=blk_lt G12.out.1;intro h2;omega)
       replace G12:=AK (show _∧_ from⟨bbl G12.out.1 hb,G12.out.2⟩)
       replace HB:=AK (bst HB.out hb)
       clear hbox hg hb
       refine hK.out _ _ ⟨pcb HB.out CS.out.1,pcb HB.out CS.out.2.1,pcb HB.out CS.out.2.2.1,pcb HB.out CS.out.2.2.2.1,pcb HB.out CS.out.2.2.2.2.1,pcb HB.out CS.out.2.2.2.2.2.1,pcb HB.out CS.out.2.2.2.2.2.2.1,pcb HB.out CS.out.2.2.2.2.2.2.2.1,pcb HB.out CS.out.2.2.2.2.2.2.2.2.1,pcb HB.out CS.out.2.2.2.2.2.2.2.2.2⟩ (fun hHeld=>?_)
       clear hK K
       refine nO (some 11) ?_
       exact norm_ (by simp only[putAll,Act.put,List.setIfInBounds_toArray,List.set_cons_zero,List.set_cons_succ];try rfl) (hCont (b11,b12) _ ⟨HB.out,G11.out,G12.out,HNE.out⟩)
     clear HB hHeld
     rintro⟨b11,b12⟩ w11 ⟨hb,hg1,hg2,hne⟩
     have HB:=AK (show Below w9.heap.size w9 w11 from hb)
     have G11:=AK (show w11.heap[b11]?=some (.cells #[.int .i64 0,.string ⟨#[]⟩,.slice none 0 0] 38 (0,0))∧w9.heap.size≤b11 from hg1)
     have G12:=AK (show w11.heap[b12]?=some (.cells #[.int .i64 0,.string ⟨#[]⟩,.slice none 0 0] 38 (0,0))∧w9.heap.size≤b12 from hg2)
     have HNE:=AK (show b11≠b12 from hne)
     clear hb hg1 hg2 hne
     refine norm_ (a':=?_) ?_ ?_
     rotate_left
     ·show (Act.put (Act.put _ (some 11) _) (some 12) _)=_
      exact zP
     refine one_ (i:=18) (N:=none) (bM 20 524287) rfl rfl (one_of HT_.out (by kernel_rfl)) (by decide) (fun K hK=>?_)
     obtain⟨z0,z1,z2⟩:=box3 G11.out.1
     have y0:=bfz G11.out.1 0
     have y1:=bfz G11.out.1 1
     have y2:=bfz G11.out.1 2
     refine skip_ (w1:=?_) (by rfl) rfl ?_ ?_
     rotate_left
     ·go_simp
      rfl
     have N1:=AK (show (((w11.setCell ⟨b11,0,none⟩ (.int .i64 o.f0)).setCell ⟨b11,1,none⟩ (.string o.f1)).setCell ⟨b11,2,none⟩ (.slice Ao o.f2.length co)).heap[b11]?=some (.cells #[(.int .i64 o.f0),(.string o.f1),(.slice Ao o.f2.length co)] 38 (0,0))from blk_set (blk_set (blk_set G11.out.1 0 _) 1 _) 2 _)
     have N2:=AK (show (((w11.setCell ⟨b11,0,none⟩ (.int .i64 o.f0)).setCell ⟨b11,1,none⟩ (.string o.f1)).setCell ⟨b11,2,none⟩ (.slice Ao o.f2.length co)).heap[b12]?=some (.cells #[.int .i64 0,.string ⟨#[]⟩,.slice none 0 0] 38 (0,0))from blk_far (p:=⟨b11,2,none⟩) (blk_far (p:=⟨b11,1,none⟩) (blk_far (p:=⟨b11,0,none⟩) G12.out.1 (fun h=>HNE.out h.symm) _) (fun h=>HNE.out h.symm) _) (fun h=>HNE.out h.symm) _)
     replace HB:=AK (show Below w9.heap.size w9 (((w11.setCell ⟨b11,0,none⟩ (.int .i64 o.f0)).setCell ⟨b11,1,none⟩ (.string o.f1)).setCell ⟨b11,2,none⟩ (.slice Ao o.f2.length co))from below_set (below_set (below_set HB.out G11.out.2) G11.out.2) G11.out.2)
     have N3:=AK G11.out.2
     have N4:=AK G12.out.2
     clear G11 G12 z0 z1 z2 y0 y1 y2
     generalize (((w11.setCell ⟨b11,0,none⟩ (.int .i64 o.f0)).setCell ⟨b11,1,none⟩ (.string o.f1)).setCell ⟨b11,2,none⟩ (.slice Ao o.f2.length co))=w12 at N1 N2 HB ⊢
     have G11:=AK (show _∧_ from⟨N1.out,N3.out⟩)
     have G12:=AK (show _∧_ from⟨N2.out,N4.out⟩)
     clear N1 N2 N3 N4
     refine hK.out _ _ ⟨pcb HB.out CS.out.1,pcb HB.out CS.out.2.1,pcb HB.out CS.out.2.2.1,pcb HB.out CS.out.2.2.2.1,pcb HB.out CS.out.2.2.2.2.1,pcb HB.out CS.out.2.2.2.2.2.1,pcb HB.out CS.out.2.2.2.2.2.2.1,pcb HB.out CS.out.2.2.2.2.2.2.2.1,pcb HB.out CS.out.2.2.2.2.2.2.2.2.1,pcb HB.out CS.out.2.2.2.2.2.2.2.2.2⟩ (fun hHeld=>?_)
     clear hK K
     refine one_ (i:=19) (N:=none) (bM 20 1048575) rfl rfl (one_of HT_.out (by kernel_rfl)) (by decide) (fun K hK=>?_)
     obtain⟨z0,z1,z2⟩:=box3 G12.out.1
     have y0:=bfz G12.out.1 0
     have y1:=bfz G12.out.1 1
     have y2:=bfz G12.out.1 2
     refine skip_ (w1:=?_) (by rfl) rfl ?_ ?_
     rotate_left
     ·go_simp
      rfl
     have N1:=AK (show (((w12.setCell ⟨b12,0,none⟩ (.int .i64 u.f0)).setCell ⟨b12,1,none⟩ (.string u.f1)).setCell ⟨b12,2,none⟩ (.slice Au u.f2.length cu)).heap[b12]?=some (.cells #[(.int .i64 u.f0),(.string u.f1),(.slice Au u.f2.length cu)] 38 (0,0))from blk_set (blk_set (blk_set G12.out.1 0 _) 1 _) 2 _)
     have N2:=AK (show (((w12.setCell ⟨b12,0,none⟩ (.int .i64 u.f0)).setCell ⟨b12,1,none⟩ (.string u.f1)).setCell ⟨b12,2,none⟩ (.slice Au u.f2.length cu)).heap[b11]?=some (.cells #[(.int .i64 o.f0),(.string o.f1),(.slice Ao o.f2.length co)] 38 (0,0))from blk_far (p:=⟨b12,2,none⟩) (blk_far (p:=⟨b12,1,none⟩) (blk_far (p:=⟨b12,0,none⟩) G11.out.1 HNE.out _) HNE.out _) HNE.out _)
     replace HB:=AK (show Below w9.heap.size w9 (((w12.setCell ⟨b12,0,none⟩ (.int .i64 u.f0)).setCell ⟨b12,1,none⟩ (.string u.f1)).setCell ⟨b12,2,none⟩ (.slice Au u.f2.length cu))from below_set (below_set (below_set HB.out G12.out.2) G12.out.2) G12.out.2)
     have N3:=AK G12.out.2
     have N4:=AK G11.out.2
     clear G12 G11 z0 z1 z2 y0 y1 y2
     generalize (((w12.setCell ⟨b12,0,none⟩ (.int .i64 u.f0)).setCell ⟨b12,1,none⟩ (.string u.f1)).setCell ⟨b12,2,none⟩ (.slice Au u.f2.length cu))=w13 at N1 N2 HB ⊢
     have G12:=AK (show _∧_ from⟨N1.out,N3.out⟩)
     have G11:=AK (show _∧_ from⟨N2.out,N4.out⟩)
     clear N1 N2 N3 N4
     refine hK.out _ _ ⟨pcb HB.out CS.out.1,pcb HB.out CS.out.2.1,pcb HB.out CS.out.2.2.1,pcb HB.out CS.out.2.2.2.1,pcb HB.out CS.out.2.2.2.2.1,pcb HB.out CS.out.2.2.2.2.2.1,pcb HB.out CS.out.2.2.2.2.2.2.1,pcb HB.out CS.out.2.2.2.2.2.2.2.1,pcb HB.out CS.out.2.2.2.2.2.2.2.2.1,pcb HB.out CS.out.2.2.2.2.2.2.2.2.2⟩ (fun hHeld=>?_)
     clear hK K
     refine done_ (done_of HT_.out (by kernel_rfl)) ?_
     clear HT_ HW_ hHeld
     have hbx:=G11.out.1
     obtain⟨z0,z1,z2⟩:=box3 G11.out.1
     obtain⟨y0,y1,y2⟩:=box3 G12.out.1
     have HBW:=AK (bst HS9.out.b HB.out)
     by_cases hk:o.f0=u.f0
     ·have ck:(o.f0 != u.f0)=false:=by simp[hk]
      have HK:=AK hk
      clear hk
      by_cases ht:o.f1.toList=u.f1.toList
      ·have HT:=AK ht
       have ct:decide (o.f1.toList=u.f1.toList)=true:=deT ht
       have ct2:(o.f1.toList == u.f1.toList)=true:=by simp[ht]
       have ct3:(o.f1.toList != u.f1.toList)=false:=by simp[ht]
       clear ht
       obtain⟨b2,eb2⟩:∃b,b=rowsB x y o.f2 u.f2:=⟨_,rfl⟩
       have EB2:=AK eb2
       clear eb2
       have ER6:=AK (show r=((b2 && cmp2 (fun p q=>alikeB x y (rd_T38 l0 p) (rd_T38 m0 q)) (x.drop (i+1).toNat) (y.drop (i+1).toNat)) && (s2 && s3))by rw[ER5.out,EB2.out];unfold alikeB;rw[deT HK.out,deT HT.out];rfl)
       go_wp2_with fail
       refine(sameRows_calls _ _ _ _ _ _ _ _ _ _ o.f2 u.f2 _ _ x y w13 (Kd.C_below HO.out.1 HB.out) (Kd.C_below HU.out.1 HB.out) (Kd.R_reads' (Kd.R_below HP9.out HB.out)).2.2 (Kd.R_reads' HP9.out).2.1 (Kd.R_reads' (Kd.R_below HQ9.out HB.out)).2.2 (Kd.R_reads' HQ9.out).2.1 (bbl K7.out HB.out) (bbl K8.out HB.out) PL.out.2 QL.out.2 (fun p hp=>by have:=HO.out.2.2.1 p hp;rw[PL.out.1];exact this) (fun p hp=>by have:=HU.out.2.2.1 p hp;rw[QL.out.1];exact this) (by have:=HO.out.2.2.2;omega)).mono ?_
       rintro e w14 ⟨rfl,hb⟩
       rw[←EB2.out]
       have HB4:=AK (bst HB.out hb)
       clear hb
       cases b2 with
       | false=>
        have e0:r=false:=by rw[ER6.out];rfl
        subst e0
        go_wp2
        go_ret
        exact⟨rfl,bst HS9.out.b HB4.out⟩
       | true=>
        go_wp2
        go_roundg k1
        case measure=>omega
        case rel=>
         have h1:=HI.out
         have h2:=nodup_len _ _ HGX.out
         have h3:=HKA.out.n
         rw[wrap_succ i (by omega) (by omega)]
         exact⟨i+1,rfl,⟨by omega,by omega⟩,⟨by rw[ER6.out];rfl⟩,HB4⟩
      ·have ct:decide (o.f1.toList=u.f1.toList)=false:=deF ht
       have ct2:(o.f1.toList == u.f1.toList)=false:=by simp[ht]
       have ct3:(o.f1.toList != u.f1.toList)=true:=by simp[ht]
       have e0:r=false:=by rw[ER5.out];unfold alikeB;rw[deF ht];simp
       subst e0
       clear ht
       go_wp2
       go_ret
       exact⟨rfl,HBW.out⟩
     ·have ck:(o.f0 != u.f0)=true:=by simp[hk]
      have e0:r=false:=by rw[ER5.out];unfold alikeB;rw[deF hk];rfl
      subst e0
      clear hk
      go_wp2
      go_ret
      exact⟨rfl,HBW.out⟩
    | zero=>
     have c58:decide (i<(x.length:Int))=false:=deF (by have:=HI.out;omega)
     have ER7:=AK (show r=(s2 && s3)by rw[ER4.out,cmp2_end _ _ _ _ (by have:=HI.out;omega)];rfl)
     have CS:=AK (And.intro (box4 HS9.out.xa).2.2.1 (And.intro (box4 HS9.out.xa).2.2.2 (And.intro (box4 HS9.out.xb).2.2.1 (And.intro (box4 HS9.out.xb).2.2.2 (And.intro (box1 K7.out).1 (box1 K8.out).1)))))
     clear ER4 HI
     go_wp2_with fail
     replace HB:=AK (below_drew HB.out)
     cases s2 with
     | false=>
      have e0:r=false:=by rw[ER7.out];rfl
      subst e0
      refine start_ (n:=27) (S:=(fun w'=>w'.cell? ⟨w.heap.size,2,none⟩=some (.slice A2 l2.length c2)∧w'.cell? ⟨w.heap.size,3,none⟩=some (.slice A3 l3.length c3)∧w'.cell? ⟨w.heap.size+1,2,none⟩=some (.slice B2 m2.length d2)∧w'.cell? ⟨w.heap.size+1,3,none⟩=some (.slice B3 m3.length d3)∧w'.cell? ⟨b7,0,none⟩=some (.slice AP pl.length cP)∧w'.cell? ⟨b8,0,none⟩=some (.slice AQ ql.length cQ))) (ds:=[]) #[fF,fF,fF,fF,fF,fF,fF,fF,fF,fF,fF,fF,fF,fF,fF,fF,fF,fF,fF,fF,fF,fF,fF,fF,fF,fF,fF] (by kernel_rfl) rfl rfl ⟨pcb HB.out CS.out.1,pcb HB.out CS.out.2.1,pcb HB.out CS.out.2.2.1,pcb HB.out CS.out.2.2.2.1,pcb HB.out CS.out.2.2.2.2.1,pcb HB.out CS.out.2.2.2.2.2⟩ (fun hHeld=>?_);refine with_tabW same19_tab same19_bits (fun HT_ HW_=>?_)
      generalize wr.drew=w10' at HB hHeld ⊢
      refine pU HT_ 0 (some 98) (bM 27 1) ?_
      refine pU HT_ 1 (some 99) (bM 27 3) ?_
      refine pU HT_ 2 (some 100) (bM 27 7) ?_
      refine tU HT_ HW_ 3 (some 101) (bM 27 15) hHeld rfl (by refine Or.inl ⟨by rfl,?_⟩;rintro w' ⟨s0,s1,s2',s3',s4,s5⟩;go_simp;with_reducible rfl) ?_
      refine tU HT_ HW_ 4 (some 102) (bM 27 31) hHeld rfl (by refine Or.inl ⟨by rfl,?_⟩;rintro w' ⟨s0,s1,s2',s3',s4,s5⟩;go_simp;with_reducible rfl) ?_
      refine pU HT_ 6 (some 104) (bM 27 95) ?_
      refine pU HT_ 7 (some 105) (bM 27 223) ?_
      refine tU HT_ HW_ 8 (some 106) (bM 27 479) hHeld rfl (by refine Or.inl ⟨by rfl,?_⟩;rintro w' ⟨s0,s1,s2',s3',s4,s5⟩;go_simp;with_reducible rfl) ?_
      refine tU HT_ HW_ 9 (some 107) (bM 27 991) hHeld rfl (by refine Or.inl ⟨by rfl,?_⟩;rintro w' ⟨s0,s1,s2',s3',s4,s5⟩;go_simp;with_reducible rfl) ?_
      refine one_ (i:=5) (N:=some 103) (bM 27 1023) rfl rfl (one_of HT_.out (by kernel_rfl)) (by decide) (fun K hK=>?_)
      refine call_ 71 #[.slice A2 l2.length c2,.slice AP pl.length cP] (by rfl) rfl ?hr ?_;(case hr=>first|(go_simp;done)|(go_simp;rfl))
      refine(seen_calls _ _ _ _ l2 pl x _ (HI0.out.below (bst HS9.out.b HB.out)).r2 HI0.out.k2 (Kd.R_reads' (Kd.R_below HP9.out HB.out)).2.2 (Kd.R_reads' HP9.out).2.1 (fun z hz=>by have:=wt_parts (HKA.out.ws z hz);have:=PL.out.1;omega) PL.out.2 (by have:=HKA.out.w;omega)).mono ?_
      rintro e v5 ⟨t5,rfl,hr,hb⟩
      obtain⟨S5,e5,e⟩:=Kd.R_slice hr
      subst e
      refine⟨_,rfl,?_⟩
      have V5:=AK hr
      replace HB:=AK (bst HB.out hb)
      clear hr hb
      refine hK.out _ _ ⟨pcb HB.out CS.out.1,pcb HB.out CS.out.2.1,pcb HB.out CS.out.2.2.1,pcb HB.out CS.out.2.2.2.1,pcb HB.out CS.out.2.2.2.2.1,pcb HB.out CS.out.2.2.2.2.2⟩ (fun hHeld=>?_)
      clear hK K
      refine nO (some 103) ?_
      refine one_ (i:=10) (N:=some 108) (bM 27 2047) rfl rfl (one_of HT_.out (by kernel_rfl)) (by decide) (fun K hK=>?_)
      refine call_ 71 #[.slice B2 m2.length d2,.slice AQ ql.length cQ] (by rfl) rfl ?hr ?_;(case hr=>first|(go_simp;done)|(go_simp;rfl))
      refine(seen_calls _ _ _ _ m2 ql y _ (HJ0.out.below (bst HS9.out.b HB.out)).r2 HJ0.out.k2 (Kd.R_reads' (Kd.R_below HQ9.out HB.out)).2.2 (Kd.R_reads' HQ9.out).2.1 (fun z hz=>by have:=wt_parts (HKB.out.ws z hz);have:=QL.out.1;omega) QL.out.2 (by have:=HKB.out.w;omega)).mono ?_
      rintro e v10 ⟨t10,rfl,hr,hb⟩
      obtain⟨S10,e10,e⟩:=Kd.R_slice hr
      subst e
      refine⟨_,rfl,?_⟩
      replace V5:=AK (Kd.R_below V5.out hb)
      have V10:=AK hr
      replace HB:=AK (bst HB.out hb)
      clear hr hb
      refine hK.out _ _ ⟨pcb HB.out CS.out.1,pcb HB.out CS.out.2.1,pcb HB.out CS.out.2.2.1,pcb HB.out CS.out.2.2.2.1,pcb HB.out CS.out.2.2.2.2.1,pcb HB.out CS.out.2.2.2.2.2⟩ (fun hHeld=>?_)
      clear hK K
      refine nO (some 108) ?_
      refine one_ (i:=11) (N:=some 109) (bM 27 4095) rfl rfl (one_of HT_.out (by kernel_rfl)) (by decide) (fun K hK=>?_)
      refine call_ 72 #[.slice S5 (seenW x l2).length e5,.slice S10 (seenW y m2).length e10] (by rfl) rfl ?hr ?_;(case hr=>first|(go_simp;done)|(go_simp;rfl))
      refine(sameWs_calls _ _ _ _ _ _ _ (Kd.R_reads' V5.out).2.2 (Kd.R_reads' V10.out).2.2 (by have:=seenW_len x l2;have:=HKA.out.w;omega)).mono ?_
      rintro e v11 ⟨rfl,hb⟩
      rw[←ES2.out]
      refine⟨_,rfl,?_⟩
      replace HB:=AK (bst HB.out hb)
      clear hb
      refine hK.out _ _ ⟨pcb HB.out CS.out.1,pcb HB.out CS.out.2.1,pcb HB.out CS.out.2.2.1,pcb HB.out CS.out.2.2.2.1,pcb HB.out CS.out.2.2.2.2.1,pcb HB.out CS.out.2.2.2.2.2⟩ (fun hHeld=>?_)
      clear hK K
      refine nO (some 109) ?_
      refine pU HT_ 12 (some 110) (bM 27 8191) ?_
      refine pure_ (i:=13) (N:=some 111) (v:=undef) (a':=?_) #[tT,tT,tT,tT,tT,tT,tT,tT,tT,tT,tT,tT,tT,tT,fF,fF,fF,fF,fF,fF,fF,fF,fF,fF,fF,fF,fF] rfl rfl (any_of HT_.out (by kernel_rfl)) (fun _ _ _ h=>h) (Or.inr ⟨by rfl,rfl⟩) ?_ ?_
      rotate_left
      ·exact zP
      refine pure_ (i:=14) (N:=some 112) (v:=undef) (a':=?_) #[tT,tT,tT,tT,tT,tT,tT,tT,tT,tT,tT,tT,tT,tT,tT,fF,fF,fF,fF,fF,fF,fF,fF,fF,fF,fF,fF] rfl rfl (any_of HT_.out (by kernel_rfl)) (fun _ _ _ h=>h) (Or.inr ⟨by rfl,rfl⟩) ?_ ?_
      rotate_left
      ·exact zP
      refine pure_ (i:=15) (N:=some 113) (v:=undef) (a':=?_) #[tT,tT,tT,tT,tT,tT,tT,tT,tT,tT,tT,tT,tT,tT,tT,tT,fF,fF,fF,fF,fF,fF,fF,fF,fF,fF,fF] rfl rfl (any_of HT_.out (by kernel_rfl)) (fun _ _ _ h=>h) (Or.inr ⟨by rfl,rfl⟩) ?_ ?_
      rotate_left
      ·exact zP
      refine pure_ (i:=16) (N:=some 114) (v:=undef) (a':=?_) #[tT,tT,tT,tT,tT,tT,tT,tT,tT,tT,tT,tT,tT,tT,tT,tT,tT,fF,fF,fF,fF,fF,fF,fF,fF,fF,fF] rfl rfl (any_of HT_.out (by kernel_rfl)) (fun _ _ _ h=>h) (Or.inr ⟨by rfl,rfl⟩) ?_ ?_
      rotate_left
      ·exact zP
      refine pure_ (i:=17) (N:=some 115) (v:=undef) (a':=?_) #[tT,tT,tT,tT,tT,tT,tT,tT,tT,tT,tT,tT,tT,tT,tT,tT,tT,tT,fF,fF,fF,fF,fF,fF,fF,fF,fF] rfl rfl (any_of HT_.out (by kernel_rfl)) (fun _ _ _ h=>h) (Or.inr ⟨by rfl,rfl⟩) ?_ ?_
      rotate_left
      ·exact zP
      refine pure_ (i:=18) (N:=some 116) (v:=undef) (a':=?_) #[tT,tT,tT,tT,tT,tT,tT,tT,tT,tT,tT,tT,tT,tT,tT,tT,tT,tT,tT,fF,fF,fF,fF,fF,fF,fF,fF] rfl rfl (any_of HT_.out (by kernel_rfl)) (fun _ _ _ h=>h) (Or.inr ⟨by rfl,rfl⟩) ?_ ?_
      rotate_left
      ·exact zP
      refine pure_ (i:=19) (N:=some 117) (v:=undef) (a':=?_) #[tT,tT,tT,tT,tT,tT,tT,tT,tT,tT,tT,tT,tT,tT,tT,tT,tT,tT,tT,tT,fF,fF,fF,fF,fF,fF,fF] rfl rfl (any_of HT_.out (by kernel_rfl)) (fun _ _ _ h=>h) (Or.inr ⟨by rfl,rfl⟩) ?_ ?_
      rotate_left
      ·exact zP
      refine pure_ (i:=20) (N:=some 118) (v:=undef) (a':=?_) #[tT,tT,tT,tT,tT,tT,tT,tT,tT,tT,tT,tT,tT,tT,tT,tT,tT,tT,tT,tT,tT,fF,fF,fF,fF,fF,fF] rfl rfl (any_of HT_.out (by kernel_rfl)) (fun _ _ _ h=>h) (Or.inr ⟨by rfl,rfl⟩) ?_ ?_
      rotate_left
      ·exact zP
      refine pure_ (i:=21) (N:=some 119) (v:=undef) (a':=?_) #[tT,tT,tT,tT,tT,tT,tT,tT,tT,tT,tT,tT,tT,tT,tT,tT,tT,tT,tT,tT,tT,tT,fF,fF,fF,fF,fF] rfl rfl (any_of HT_.out (by kernel_rfl)) (fun _ _ _ h=>h) (Or.inr ⟨by rfl,rfl⟩) ?_ ?_
      rotate_left
      ·exact zP
      refine pure_ (i:=22) (N:=some 120) (v:=undef) (a':=?_) #[tT,tT,tT,tT,tT,tT,tT,tT,tT,tT,tT,tT,tT,tT,tT,tT,tT,tT,tT,tT,tT,tT,tT,fF,fF,fF,fF] rfl rfl (any_of HT_.out (by kernel_rfl)) (fun _ _ _ h=>h) (Or.inr ⟨by rfl,rfl⟩) ?_ ?_
      rotate_left
      ·exact zP
      refine pure_ (i:=23) (N:=some 121) (v:=undef) (a':=?_) #[tT,tT,tT,tT,tT,tT,tT,tT,tT,tT,tT,tT,tT,tT,tT,tT,tT,tT,tT,tT,tT,tT,tT,tT,fF,fF,fF] rfl rfl (any_of HT_.out (by kernel_rfl)) (fun _ _ _ h=>h) (Or.inr ⟨by rfl,rfl⟩) ?_ ?_
      rotate_left
      ·exact zP
      refine pure_ (i:=24) (N:=some 122) (v:=undef) (a':=?_) #[tT,tT,tT,tT,tT,tT,tT,tT,tT,tT,tT,tT,tT,tT,tT,tT,tT,tT,tT,tT,tT,tT,tT,tT,tT,fF,fF] rfl rfl (any_of HT_.out (by kernel_rfl)) (fun _ _ _ h=>h) (Or.inr ⟨by rfl,rfl⟩) ?_ ?_
      rotate_left
      ·exact zP
      refine pU HT_ 25 (some 123) (bM 27 67108863) ?_
      refine pU HT_ 26 (some 4) (bM 27 134217727) ?_
      refine done_ (done_of HT_.out (by kernel_rfl)) ?_
      clear HT_ HW_ hHeld
      go_wp2
      go_ret
      exact⟨rfl,bst HS9.out.b HB.out⟩
     | true=>
      have e0:r=s3:=by rw[ER7.out];rfl
      subst e0
      refine start_ (n:=27) (S:=(fun w'=>w'.cell? ⟨w.heap.size,2,none⟩=some (.slice A2 l2.length c2)∧w'.cell? ⟨w.heap.size,3,none⟩=some (.slice A3 l3.length c3)∧w'.cell? ⟨w.heap.size+1,2,none⟩=some (.slice B2 m2.length d2)∧w'.cell? ⟨w.heap.size+1,3,none⟩=some (.slice B3 m3.length d3)∧w'.cell? ⟨b7,0,none⟩=some (.slice AP pl.length cP)∧w'.cell? ⟨b8,0,none⟩=some (.slice AQ ql.length cQ))) (ds:=[]) #[fF,fF,fF,fF,fF,fF,fF,fF,fF,fF,fF,fF,fF,fF,fF,fF,fF,fF,fF,fF,fF,fF,fF,fF,fF,fF,fF] (by kernel_rfl) rfl rfl ⟨pcb HB.out CS.out.1,pcb HB.out CS.out.2.1,pcb HB.out CS.out.2.2.1,pcb HB.out CS.out.2.2.2.1,pcb HB.out CS.out.2.2.2.2.1,pcb HB.out CS.out.2.2.2.2.2⟩ (fun hHeld=>?_);refine with_tabW same19_tab same19_bits (fun HT_ HW_=>?_)
      generalize wr.drew=w10' at HB hHeld ⊢
      refine pU HT_ 0 (some 98) (bM 27 1) ?_
      refine pU HT_ 1 (some 99) (bM 27 3) ?_
      refine pU HT_ 2 (some 100) (bM 27 7) ?_
      refine tU HT_ HW_ 3 (some 101) (bM 27 15) hHeld rfl (by refine Or.inl ⟨by rfl,?_⟩;rintro w' ⟨s0,s1,s2',s3',s4,s5⟩;go_simp;with_reducible rfl) ?_
      refine tU HT_ HW_ 4 (some 102) (bM 27 31) hHeld rfl (by refine Or.inl ⟨by rfl,?_⟩;rintro w' ⟨s0,s1,s2',s3',s4,s5⟩;go_simp;with_reducible rfl) ?_
      refine pU HT_ 6 (some 104) (bM 27 95) ?_
      refine pU HT_ 7 (some 105) (bM 27 223) ?_
      refine tU HT_ HW_ 8 (some 106) (bM 27 479) hHeld rfl (by refine Or.inl ⟨by rfl,?_⟩;rintro w' ⟨s0,s1,s2',s3',s4,s5⟩;go_simp;with_reducible rfl) ?_
      refine tU HT_ HW_ 9 (some 107) (bM 27 991) hHeld rfl (by refine Or.inl ⟨by rfl,?_⟩;rintro w' ⟨s0,s1,s2',s3',s4,s5⟩;go_simp;with_reducible rfl) ?_
      refine one_ (i:=5) (N:=some 103) (bM 27 1023) rfl rfl (one_of HT_.out (by kernel_rfl)) (by decide) (fun K hK=>?_)
      refine call_ 71 #[.slice A2 l2.length c2,.slice AP pl.length cP] (by rfl) rfl ?hr ?_;(case hr=>first|(go_simp;done)|(go_simp;rfl))
      refine(seen_calls _ _ _ _ l2 pl x _ (HI0.out.below (bst HS9.out.b HB.out)).r2 HI0.out.k2 (Kd.R_reads' (Kd.R_below HP9.out HB.out)).2.2 (Kd.R_reads' HP9.out).2.1 (fun z hz=>by have:=wt_parts (HKA.out.ws z hz);have:=PL.out.1;omega) PL.out.2 (by have:=HKA.out.w;omega)).mono ?_
      rintro e v5 ⟨t5,rfl,hr,hb⟩
      obtain⟨S5,e5,e⟩:=Kd.R_slice hr
      subst e
      refine⟨_,rfl,?_⟩
      have V5:=AK hr
      replace HB:=AK (bst HB.out hb)
      clear hr hb
      refine hK.out _ _ ⟨pcb HB.out CS.out.1,pcb HB.out CS.out.2.1,pcb HB.out CS.out.2.2.1,pcb HB.out CS.out.2.2.2.1,pcb HB.out CS.out.2.2.2.2.1,pcb HB.out CS.out.2.2.2.2.2⟩ (fun hHeld=>?_)
      clear hK K
      refine nO (some 103) ?_
      refine one_ (i:=10) (N:=some 108) (bM 27 2047) rfl rfl (one_of HT_.out (by kernel_rfl)) (by decide) (fun K hK=>?_)
      refine call_ 71 #[.slice B2 m2.length d2,.slice AQ ql.length cQ] (by rfl) rfl ?hr ?_;(case hr=>first|(go_simp;done)|(go_simp;rfl))
      refine(seen_calls _ _ _ _ m2 ql y _ (HJ0.out.below (bst HS9.out.b HB.out)).r2 HJ0.out.k2 (Kd.R_reads' (Kd.R_below HQ9.out HB.out)).2.2 (Kd.R_reads' HQ9.out).2.1 (fun z hz=>by have:=wt_parts (HKB.out.ws z hz);have:=QL.out.1;omega) QL.out.2 (by have:=HKB.out.w;omega)).mono ?_
      rintro e v10 ⟨t10,rfl,hr,hb⟩
      obtain⟨S10,e10,e⟩:=Kd.R_slice hr
      subst e
      refine⟨_,rfl,?_⟩
      replace V5:=AK (Kd.R_below V5.out hb)
      have V10:=AK hr
      replace HB:=AK (bst HB.out hb)
      clear hr hb
      refine hK.out _ _ ⟨pcb HB.out CS.out.1,pcb HB.out CS.out.2.1,pcb HB.out CS.out.2.2.1,pcb HB.out CS.out.2.2.2.1,pcb HB.out CS.out.2.2.2.2.1,pcb HB.out CS.out.2.2.2.2.2⟩ (fun hHeld=>?_)
      clear hK K
      refine nO (some 108) ?_
      refine one_ (i:=11) (N:=some 109) (bM 27 4095) rfl rfl (one_of HT_.out (by kernel_rfl)) (by decide) (fun K hK=>?_)
      refine call_ 72 #[.slice S5 (seenW x l2).length e5,.slice S10 (seenW y m2).length e10] (by rfl) rfl ?hr ?_;(case hr=>first|(go_simp;done)|(go_simp;rfl))
      refine(sameWs_calls _ _ _ _ _ _ _ (Kd.R_reads' V5.out).2.2 (Kd.R_reads' V10.out).2.2 (by have:=seenW_len x l2;have:=HKA.out.w;omega)).mono ?_
      rintro e v11 ⟨rfl,hb⟩
      rw[←ES2.out]
      refine⟨_,rfl,?_⟩
      replace HB:=AK (bst HB.out hb)
      clear hb
      refine hK.out _ _ ⟨pcb HB.out CS.out.1,pcb HB.out CS.out.2.1,pcb HB.out CS.out.2.2.1,pcb HB.out CS.out.2.2.2.1,pcb HB.out CS.out.2.2.2.2.1,pcb HB.out CS.out.2.2.2.2.2⟩ (fun hHeld=>?_)
      clear hK K
      refine nO (some 109) ?_
      refine pU HT_ 12 (some 110) (bM 27 8191) ?_
      refine pU HT_ 13 (some 111) (bM 27 16383) ?_
      refine pU HT_ 14 (some 112) (bM 27 32767) ?_
      refine pU HT_ 15 (some 113) (bM 27 65535) ?_
      refine tU HT_ HW_ 16 (some 114) (bM 27 131071) hHeld rfl (by refine Or.inl ⟨by rfl,?_⟩;rintro w' ⟨s0,s1,s2',s3',s4,s5⟩;go_simp;with_reducible rfl) ?_
      refine tU HT_ HW_ 17 (some 115) (bM 27 262143) hHeld rfl (by refine Or.inl ⟨by rfl,?_⟩;rintro w' ⟨s0,s1,s2',s3',s4,s5⟩;go_simp;with_reducible rfl) ?_
      refine pU HT_ 19 (some 117) (bM 27 786431) ?_
      refine pU HT_ 20 (some 118) (bM 27 1835007) ?_
      refine tU HT_ HW_ 21 (some 119) (bM 27 3932159) hHeld rfl (by refine Or.inl ⟨by rfl,?_⟩;rintro w' ⟨s0,s1,s2',s3',s4,s5⟩;go_simp;with_reducible rfl) ?_
      refine tU HT_ HW_ 22 (some 120) (bM 27 8126463) hHeld rfl (by refine Or.inl ⟨by rfl,?_⟩;rintro w' ⟨s0,s1,s2',s3',s4,s5⟩;go_simp;with_reducible rfl) ?_
      refine one_ (i:=18) (N:=some 116) (bM 27 8388607) rfl rfl (one_of HT_.out (by kernel_rfl)) (by decide) (fun K hK=>?_)
      refine call_ 71 #[.slice A3 l3.length c3,.slice AP pl.length cP] (by rfl) rfl ?hr ?_;(case hr=>first|(go_simp;done)|(go_simp;rfl))
      refine(seen_calls _ _ _ _ l3 pl x _ (HI0.out.below (bst HS9.out.b HB.out)).r3 HI0.out.k3 (Kd.R_reads' (Kd.R_below HP9.out HB.out)).2.2 (Kd.R_reads' HP9.out).2.1 (fun z hz=>by have:=wt_parts (HKA.out.ds z hz);have:=PL.out.1;omega) PL.out.2 (by have:=HKA.out.w;omega)).mono ?_
      rintro e v18 ⟨t18,rfl,hr,hb⟩
      obtain⟨S18,e18,e⟩:=Kd.R_slice hr
      subst e
      refine⟨_,rfl,?_⟩
      have V18:=AK hr
      replace HB:=AK (bst HB.out hb)
      clear hr hb
      refine hK.out _ _ ⟨pcb HB.out CS.out.1,pcb HB.out CS.out.2.1,pcb HB.out CS.out.2.2.1,pcb HB.out CS.out.2.2.2.1,pcb HB.out CS.out.2.2.2.2.1,pcb HB.out CS.out.2.2.2.2.2⟩ (fun hHeld=>?_)
      clear hK K
      refine nO (some 116) ?_
      refine one_ (i:=23) (N:=some 121) (bM 27 16777215) rfl rfl (one_of HT_.out (by kernel_rfl)) (by decide) (fun K hK=>?_)
      refine call_ 71 #[.slice B3 m3.length d3,.slice AQ ql.length cQ] (by rfl) rfl ?hr ?_;(case hr=>first|(go_simp;done)|(go_simp;rfl))
      refine(seen_calls _ _ _ _ m3 ql y _ (HJ0.out.below (bst HS9.out.b HB.out)).r3 HJ0.out.k3 (Kd.R_reads' (Kd.R_below HQ9.out HB.out)).2.2 (Kd.R_reads' HQ9.out).2.1 (fun z hz=>by have:=wt_parts (HKB.out.ds z hz);have:=QL.out.1;omega) QL.out.2 (by have:=HKB.out.w;omega)).mono ?_
      rintro e v23 ⟨t23,rfl,hr,hb⟩
      obtain⟨S23,e23,e⟩:=Kd.R_slice hr
      subst e
      refine⟨_,rfl,?_⟩
      replace V18:=AK (Kd.R_below V18.out hb)
      have V23:=AK hr
      replace HB:=AK (bst HB.out hb)
      clear hr hb
      refine hK.out _ _ ⟨pcb HB.out CS.out.1,pcb HB.out CS.out.2.1,pcb HB.out CS.out.2.2.1,pcb HB.out CS.out.2.2.2.1,pcb HB.out CS.out.2.2.2.2.1,pcb HB.out CS.out.2.2.2.2.2⟩ (fun hHeld=>?_)
      clear hK K
      refine nO (some 121) ?_
      refine one_ (i:=24) (N:=some 122) (bM 27 33554431) rfl rfl (one_of HT_.out (by kernel_rfl)) (by decide) (fun K hK=>?_)
      refine call_ 72 #[.slice S18 (seenW x l3).length e18,.slice S23 (seenW y m3).length e23] (by rfl) rfl ?hr ?_;(case hr=>first|(go_simp;done)|(go_simp;rfl))
      refine(sameWs_calls _ _ _ _ _ _ _ (Kd.R_reads' V18.out).2.2 (Kd.R_reads' V23.out).2.2 (by have:=seenW_len x l3;have:=HKA.out.w;omega)).mono ?_
      rintro e v24 ⟨rfl,hb⟩
      rw[←ES3.out]
      refine⟨_,rfl,?_⟩
      replace HB:=AK (bst HB.out hb)
      clear hb
      refine hK.out _ _ ⟨pcb HB.out CS.out.1,pcb HB.out CS.out.2.1,pcb HB.out CS.out.2.2.1,pcb HB.out CS.out.2.2.2.1,pcb HB.out CS.out.2.2.2.2.1,pcb HB.out CS.out.2.2.2.2.2⟩ (fun hHeld=>?_)
      clear hK K
      refine nO (some 122) ?_
      refine pU HT_ 25 (some 123) (bM 27 67108863) ?_
      refine pU HT_ 26 (some 4) (bM 27 134217727) ?_
      refine done_ (done_of HT_.out (by kernel_rfl)) ?_
      clear HT_ HW_ hHeld
      go_wp2
      go_ret
      exact⟨rfl,bst HS9.out.b HB.out⟩
  ·have cxy:((x.length:Int) != y.length)=true:=by simp;omega
   have e0:r=false:=by rw[ER.out];unfold sameC;rw[deF hxy];rfl
   subst e0
   clear hxy
   go_wp2
   go_ret
   exact⟨rfl,HB5.out⟩
 ·have ccl:((l1.length:Int) != m1.length)=true:=by simp;omega
  have e0:sameB l0 l1 l2 l3 m0 m1 m2 m3=false:=by unfold sameB;rw[hokA,hokB,deF hrl];rfl
  rw[e0]
  clear e0 hokA hokB hrl
  go_enter Try.func21,Try.ntmps21
  go_wp2_with fail
  refine(MemOk_calls _ _ _ _ _ _ _ _ _ _ _ _ _ HI.out.r0 HI.out.r1 HI.out.r2 HI.out.r3 HF.out.w HF.out.f).mono ?_
  rintro e w2 ⟨rfl,hb⟩
  rw[HOA.out]
  have HB2:=AK (bst HB.out hb)
  have HI2:=AK (HI.out.below hb)
  have HJ2:=AK (HJ.out.below hb)
  have HXA2:=AK (bbl HXA.out hb)
  have HXB2:=AK (bbl HXB.out hb)
  obtain⟨q0,q1,q2,q3⟩:=box4 HXB2.out
  clear hb HI HJ HB HXA HXB
  go_wp2_with fail
  refine(MemOk_calls _ _ _ _ _ _ _ _ _ _ _ _ _ HJ2.out.r0 HJ2.out.r1 HJ2.out.r2 HJ2.out.r3 HG.out.w HG.out.f).mono ?_
  rintro e w3 ⟨rfl,hb⟩
  rw[HOB.out]
  have HB3:=AK (bst HB2.out hb)
  obtain⟨p0,p1,p2,p3⟩:=box4 (bbl HXA2.out hb)
  clear q0 q1 q2 q3
  obtain⟨q0,q1,q2,q3⟩:=box4 (bbl HXB2.out hb)
  clear hb HB2 HI2 HJ2 HXA2 HXB2
  go_wp2
  go_ret
  exact⟨rfl,HB3.out⟩
end Go.Proofs.Ytigjhfijkdlldaa.H
