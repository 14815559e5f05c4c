import Derived.Test.YtigjhfijkdlldaaSfsHsm
import Derived.Test.YtigjhfijkdlldaaSfsCa
import Derived.Test.YtigjhfijkdlldaaSfsYrf
import Derived.Test.YtigjhfijkdlldaaSfsYsa
namespace Go.Proofs.Ytigjhfijkdlldaa.H
open Go.RowKit Go.Proofs.YtigjhfijkdlldaaW.PrintWords Go.Proofs.YtigjhfijkdlldaaW.PrintLast Go.Proofs.YtigjhfijkdlldaaW.PrintMore Go.Proofs.Ytigjhfijkdlldaa.Q
set_option linter.unusedVariables false
set_option linter.unusedSimpArgs false
theorem ssame10_tab:rtab .any (opsOf Try.f33 10)=(true,[([],[]),([],[]),([1],[1]),([],[]),([2,3],[2,3]),([4],[4]),([0,5],[0,5]),([],[]),([],[]),([8],[8]),([],[]),([9,10],[9,10]),([11],[11]),([7,12,6],[7,12]),([6,13],[6,13])]):=by kernel_rfl
theorem ssame10_bits:waitsOk [([],[]),([],[]),([1],[1]),([],[]),([2,3],[2,3]),([4],[4]),([0,5],[0,5]),([],[]),([],[]),([8],[8]),([],[]),([9,10],[9,10]),([11],[11]),([7,12,6],[7,12]),([6,13],[6,13])] [0,0,2,0,14,30,63,0,0,256,0,1792,3840,8191,16383]=true:=by kernel_rfl
theorem ssame15_tab:rtab .any (opsOf Try.f33 15)=(true,[([],[]),([0],[0]),([],[]),([],[]),([2,3],[2,3]),([4],[4]),([1,5],[1,5]),([6],[6]),([],[]),([8],[8]),([],[]),([],[]),([10,11],[10,11]),([12],[12]),([9,13],[9,13]),([14],[14]),([],[]),([],[]),([7,15,16,17],[7,15,16,17]),([18],[18])]):=by kernel_rfl
theorem ssame15_bits:waitsOk [([],[]),([0],[0]),([],[]),([],[]),([2,3],[2,3]),([4],[4]),([1,5],[1,5]),([6],[6]),([],[]),([8],[8]),([],[]),([],[]),([10,11],[10,11]),([12],[12]),([9,13],[9,13]),([14],[14]),([],[]),([],[]),([7,15,16,17],[7,15,16,17]),([18],[18])] [0,1,0,0,12,28,63,127,0,256,0,0,3072,7168,16128,32512,0,0,262143,524287]=true:=by kernel_rfl
theorem ssame17_tab:rtab .any (opsOf Try.f33 17)=(true,[([],[]),([0],[0]),([],[]),([1,2],[1,2]),([],[]),([4],[4]),([],[]),([5,6,3],[5,6]),([3,7,7],[3,7]),([8,8],[8]),([9],[9]),([10,9],[9,10]),([9],[9]),([11,12,9,9],[9,11,12]),([9],[9]),([14,9],[9,14]),([9],[9]),([15,16,13,9],[9,15,16]),([13,17,17,9],[9,13,17]),([9,18],[9,18]),([19,18,0,1,2,3,4,5,6,7,8,9,10,11,12,13,14,15,16,17,18,19],[19])]):=by kernel_rfl
theorem ssame17_bits:waitsOk [([],[]),([0],[0]),([],[]),([1,2],[1,2]),([],[]),([4],[4]),([],[]),([5,6,3],[5,6]),([3,7,7],[3,7]),([8,8],[8]),([9],[9]),([10,9],[9,10]),([9],[9]),([11,12,9,9],[9,11,12]),([9],[9]),([14,9],[9,14]),([9],[9]),([15,16,13,9],[9,15,16]),([13,17,17,9],[9,13,17]),([9,18],[9,18]),([19,18,0,1,2,3,4,5,6,7,8,9,10,11,12,13,14,15,16,17,18,19],[19])] [0,1,0,7,0,16,0,127,255,511,1023,2047,1023,8191,1023,17407,1023,131071,262143,524287,1048575]=true:=by kernel_rfl
set_option maxHeartbeats 4000000 in
set_option maxRecDepth 100000 in
theorem specSame_calls (A0 A1 A2 A3 B0 B1 B2 B3:Option Addr) (c0 c1 c2 c3 d0 d1 d2 d3:Nat) (l0:List S38) (l1:List Int) (l2 l3:List S60) (m0:List S38) (m1:List Int) (m2 m3:List S60) (w:World)
  (h:InH w A0 c0 A1 c1 A2 c2 A3 c3 l0 l1 l2 l3) (h':InH w B0 d0 B1 d1 B2 d2 B3 d3 m0 m1 m2 m3) (hf:Fine l0 l1 l2 l3) (hf':Fine m0 m1 m2 m3) :
  Calls Try.prog 33 #[.agg #[.slice A0 l0.length c0,.slice A1 l1.length c1,.slice A2 l2.length c2,.slice A3 l3.length c3],.agg #[.slice B0 m0.length d0,.slice B1 m1.length d1,.slice B2 m2.length d2,.slice B3 m3.length d3]] w
   fun e w'=>e=.returned (.bool (sameB l0 l1 l2 l3 m0 m1 m2 m3))∧Below w.heap.size w w':=by
 have HI0:=AK h
 have HJ0:=AK h'
 have HW1:=AK (show Below w.heap.size w ((w.alloc (.cells #[.slice A0 l0.length c0,.slice A1 l1.length c1,.slice A2 l2.length c2,.slice A3 l3.length c3] 28 (0,0))).alloc (.cells #[.slice B0 m0.length d0,.slice B1 m1.length d1,.slice B2 m2.length d2,.slice B3 m3.length d3] 28 (0,0)))∧((w.alloc (.cells #[.slice A0 l0.length c0,.slice A1 l1.length c1,.slice A2 l2.length c2,.slice A3 l3.length c3] 28 (0,0))).alloc (.cells #[.slice B0 m0.length d0,.slice B1 m1.length d1,.slice B2 m2.length d2,.slice B3 m3.length d3] 28 (0,0))).heap[w.heap.size]?=some (.cells #[.slice A0 l0.length c0,.slice A1 l1.length c1,.slice A2 l2.length c2,.slice A3 l3.length c3] 28 (0,0))∧((w.alloc (.cells #[.slice A0 l0.length c0,.slice A1 l1.length c1,.slice A2 l2.length c2,.slice A3 l3.length c3] 28 (0,0))).alloc (.cells #[.slice B0 m0.length d0,.slice B1 m1.length d1,.slice B2 m2.length d2,.slice B3 m3.length d3] 28 (0,0))).heap[w.heap.size+1]?=some (.cells #[.slice B0 m0.length d0,.slice B1 m1.length d1,.slice B2 m2.length d2,.slice B3 m3.length d3] 28 (0,0))from⟨below_alloc (below_alloc (Below.refl w.heap.size w) _) _,blk_alloc (blk_new w _) _,blk_new2 w _ _⟩)
 have HF:=AK hf
 have HG:=AK hf'
 obtain⟨r,er⟩:∃r,r=sameB l0 l1 l2 l3 m0 m1 m2 m3:=⟨_,rfl⟩
 obtain⟨bA,ea⟩:∃b,b=okB l0 l1 l2 l3:=⟨_,rfl⟩
 obtain⟨bB,eb⟩:∃b,b=okB m0 m1 m2 m3:=⟨_,rfl⟩
 rw[←er]
 have ER:=AK er
 have EA:=AK ea
 have EB:=AK eb
 clear h h' hf hf' er ea eb
 go_enter Try.func33,Try.ntmps33
 go_wp2_with fail
 generalize ((w.alloc (.cells #[.slice A0 l0.length c0,.slice A1 l1.length c1,.slice A2 l2.length c2,.slice A3 l3.length c3] 28 (0,0))).alloc (.cells #[.slice B0 m0.length d0,.slice B1 m1.length d1,.slice B2 m2.length d2,.slice B3 m3.length d3] 28 (0,0)))=w1 at HW1 ⊢
 have HB:=AK (Below.refl w1.heap.size w1)
 refine(specOk_c (HI0.out.below HW1.out.1) (by have:=HF.out.o;omega) HF.out.f (by have:=HF.out.r;omega) (by have:=HF.out.w;omega)).mono ?_
 rintro e w2 ⟨rfl,hb⟩
 rw[←EA.out]
 replace HB:=AK (bst HB.out hb)
 clear hb
 cases bA with
 | false=>
  have e0:r=false:=by rw[ER.out];unfold sameB;rw[←EA.out];rfl
  subst e0
  go_wp2
  go_ret
  exact⟨rfl,bst HW1.out.1 HB.out⟩
 | true=>
 obtain⟨p0,p1,p2,p3⟩:=box4 (bbl HW1.out.2.2 HB.out)
 go_wp2_with fail
 clear p0 p1 p2 p3
 refine(specOk_c (HJ0.out.below (bst HW1.out.1 HB.out)) (by have:=HG.out.o;omega) HG.out.f (by have:=HG.out.r;omega) (by have:=HG.out.w;omega)).mono ?_
 rintro e w3 ⟨rfl,hb⟩
 rw[←EB.out]
 replace HB:=AK (bst HB.out hb)
 clear hb
 obtain⟨p0,p1,p2,p3⟩:=box4 (bbl HW1.out.2.1 HB.out)
 obtain⟨q0,q1,q2,q3⟩:=box4 (bbl HW1.out.2.2 HB.out)
 cases bB with
 | false=>
  have e0:r=false:=by rw[ER.out];unfold sameB;rw[←EA.out,←EB.out];rfl
  subst e0
  clear p0 p1 p2 p3 q0 q1 q2 q3
  go_wp2
  go_ret
  exact⟨rfl,bst HW1.out.1 HB.out⟩
 | true=>
 by_cases hrl:l1.length=m1.length
 case neg=>
  have ccl:((l1.length:Int) != m1.length)=true:=by simp;omega
  have e0:r=false:=by rw[ER.out];unfold sameB;rw[←EA.out,←EB.out,deF hrl];rfl
  subst e0
  clear hrl
  go_wp2
  go_ret
  exact⟨rfl,bst HW1.out.1 HB.out⟩
 have ccl:((l1.length:Int) != m1.length)=false:=by simp[hrl]
 have HRL:=AK hrl
 have HKA:=AK (ok_parts EA.out.symm)
 have HKB:=AK (ok_parts EB.out.symm)
 obtain⟨x,ex⟩:∃x,x=reachL l0 l1 l3:=⟨_,rfl⟩
 obtain⟨y,ey⟩:∃y,y=reachL m0 m1 m3:=⟨_,rfl⟩
 have ER1:=AK (show r=sameC l0 l1 l2 l3 m0 m1 m2 m3 x y by rw[ER.out,ex,ey];unfold sameB;rw[←EA.out,←EB.out,deT hrl];rfl)
 have HGX:=AK (show GoodL l0.length x by rw[ex];exact reach_good HKA.out)
 have HGY:=AK (show GoodL m0.length y by rw[ey];exact reach_good HKB.out)
 have EX:=AK ex
 have EY:=AK ey
 clear hrl ex ey
 go_wp2_with fail
 clear p0 p1 p2 p3 q0 q1 q2 q3
 refine(l2Reach_c2 (HI0.out.below (bst HW1.out.1 HB.out)) HKA.out).mono ?_
 rintro e w4 ⟨v,rfl,hr,hb⟩
 rw[←EX.out]at hr
 obtain⟨Ax,cx,ev⟩:=Kd.R_slice hr
 subst ev
 have HX:=AK (Kd.R_lower hr (bst HW1.out.1 HB.out).size)
 replace HB:=AK (bst HB.out hb)
 clear hr hb
 obtain⟨q0,q1,q2,q3⟩:=box4 (bbl HW1.out.2.2 HB.out)
 go_wp2_with fail
 clear q0 q1 q2 q3
 refine(l2Reach_c2 (HJ0.out.below (bst HW1.out.1 HB.out)) HKB.out).mono ?_
 rintro e w5 ⟨v,rfl,hr,hb⟩
 rw[←EY.out]at hr
 obtain⟨Ay,cy,ev⟩:=Kd.R_slice hr
 subst ev
 have HS9:=AK (SF.mk (bst HW1.out.1 (bst HB.out hb)) (bbl HW1.out.2.1 (bst HB.out hb)) (bbl HW1.out.2.2 (bst HB.out hb)) (Kd.R_below HX.out hb) (Kd.R_lower hr (bst HW1.out.1 HB.out).size))
 clear hr hb HX HB HW1
 by_cases hxy:x.length=y.length
 case neg=>
  have cxy:((x.length:Int) != y.length)=true:=by simp;omega
  have e0:r=false:=by rw[ER1.out];unfold sameC;rw[deF hxy];rfl
  subst e0
  clear hxy
  go_wp2
  go_ret
  exact⟨rfl,HS9.out.b⟩
 have cxy:((x.length:Int) != y.length)=false:=by simp[hxy]
 have HXY:=AK hxy
 clear hxy
 obtain⟨s2,es2⟩:∃b,b=sameW (seenW x l2) (seenW y m2):=⟨_,rfl⟩
 obtain⟨s3,es3⟩:∃b,b=sameW (seenW x l3) (seenW y m3):=⟨_,rfl⟩
 obtain⟨ob,eob⟩:∃b,b=objsB l0 m0 x y:=⟨_,rfl⟩
 have ER2:=AK (show r=(cmp2 (whB x y) (l1.drop (0:Int).toNat) (m1.drop (0:Int).toNat) && (ob && (s2 && s3)))by
  rw[ER1.out,eob,es2,es3];unfold sameC;rw[deT HXY.out];rfl)
 have EOB:=AK eob
 have ES2:=AK es2
 have ES3:=AK es3
 clear es2 es3 eob
 go_wp2
 have HB:=AK (Below.refl w5.heap.size w5)
 go_loopg [7] l1.length (fun kq v7 w'=>∃i:Int,v7=.int .i64 i∧Aside0 (0≤i∧i+kq=l1.length)∧Aside0 (r=(cmp2 (whB x y) (l1.drop i.toNat) (m1.drop i.toNat) && (ob && (s2 && s3))))∧Aside0 (Below w5.heap.size w5 w'))
 case atStart=>exact⟨0,rfl,⟨by omega,by omega⟩,ER2,HB⟩
 case round=>
  clear HB ER2
  obtain⟨i,rfl,HI,ER4,HB⟩:=hrel
  obtain⟨p0,p1,p2,p3⟩:=box4 (bbl HS9.out.xa HB.out)
  cases gk with
  | succ k1=>
   have c58:decide (i<(l1.length:Int))=true:=deT (by have:=HI.out;omega)
   have hi0:=eq_true (show 0≤i by have:=HI.out;omega)
   have hi1:=eq_true (show i<(l1.length:Int)by have:=HI.out;omega)
   have hi2:=eq_true (show i<(m1.length:Int)by have:=HI.out;have:=HRL.out;omega)
   have hr:=ER4.out
   rw[cmp2_at _ l1 m1 0 0 i (by have:=HI.out;omega) (by have:=HI.out;omega) (by have:=HI.out;have:=HRL.out;omega)]at hr
   obtain⟨adx,ex,hx0⟩:=Kd.at_int (HI0.out.below HS9.out.b).r1 i (by have:=HI.out;omega) (by have:=HI.out;omega)
   obtain⟨ady,ey,hy0⟩:=Kd.at_int (HJ0.out.below HS9.out.b).r1 i (by have:=HI.out;omega) (by have:=HI.out;have:=HRL.out;omega)
   subst ex
   subst ey
   obtain⟨p,ep⟩:∃p,p=rd l1 i:=⟨_,rfl⟩
   obtain⟨q,eq⟩:∃q,q=rd m1 i:=⟨_,rfl⟩
   rw[←ep]at hx0
   rw[←eq]at hy0
   have ER5:=AK (show r=((whB x y p q && cmp2 (whB x y) (l1.drop (i+1).toNat) (m1.drop (i+1).toNat)) && (ob && (s2 && s3)))by rw[hr,ep,eq];rfl)
   have CS:=AK (And.intro (box4 HS9.out.xa).2.1 (And.intro (box4 HS9.out.xb).2.1 (And.intro hx0 hy0)))
   clear ER4 hr ep eq hx0 hy0
   go_wp2_with fail
   clear p0 p1 p2 p3
   replace HB:=AK (below_drew HB.out)
   refine start_ (n:=15) (S:=(fun w'=>w'.cell? ⟨w.heap.size,1,none⟩=some (.slice (some adx) l1.length c1)∧w'.cell? ⟨w.heap.size+1,1,none⟩=some (.slice (some ady) m1.length d1)∧w'.cell? (adx.add i.toNat)=some (.int .i64 p)∧w'.cell? (ady.add i.toNat)=some (.int .i64 q))) (ds:=[]) #[fF,fF,fF,fF,fF,fF,fF,fF,fF,fF,fF,fF,fF,fF,fF] (by kernel_rfl) rfl rfl ⟨pcb HB.out CS.out.1,pcb HB.out CS.out.2.1,pcb HB.out CS.out.2.2.1,pcb HB.out CS.out.2.2.2⟩ (fun hHeld=>?_);refine with_tabW ssame10_tab ssame10_bits (fun HT_ HW_=>?_)
   generalize wr.drew=w10 at HB hHeld ⊢
   refine pU HT_ 0 (some 42) (bM 15 1) ?_
   refine pU HT_ 1 (some 43) (bM 15 3) ?_
   refine tU HT_ HW_ 2 (some 44) (bM 15 7) hHeld rfl (by refine Or.inl ⟨by rfl,?_⟩;rintro w' ⟨s0,s1,s2',s3'⟩;go_simp;with_reducible rfl) ?_
   refine pU HT_ 3 (some 45) (bM 15 15) ?_
   refine pU HT_ 4 (some 46) (bM 15 31) ?_
   refine tU HT_ HW_ 5 (some 47) (bM 15 63) hHeld rfl (by refine Or.inl ⟨by rfl,?_⟩;rintro w' ⟨s0,s1,s2',s3'⟩;go_simp;with_reducible rfl) ?_
   refine pU HT_ 7 (some 49) (bM 15 191) ?_
   refine pU HT_ 8 (some 50) (bM 15 447) ?_
   refine tU HT_ HW_ 9 (some 51) (bM 15 959) hHeld rfl (by refine Or.inl ⟨by rfl,?_⟩;rintro w' ⟨s0,s1,s2',s3'⟩;go_simp;with_reducible rfl) ?_
   refine pU HT_ 10 (some 52) (bM 15 1983) ?_
   refine pU HT_ 11 (some 53) (bM 15 4031) ?_
   refine tU HT_ HW_ 12 (some 54) (bM 15 8127) hHeld rfl (by refine Or.inl ⟨by rfl,?_⟩;rintro w' ⟨s0,s1,s2',s3'⟩;go_simp;with_reducible rfl) ?_
   refine one_ (i:=6) (N:=some 48) (bM 15 8191) rfl rfl (one_of HT_.out (by kernel_rfl)) (by decide) (fun K hK=>?_)
   refine goes_ Try.func89 (by kernel_rfl) rfl #[.slice Ax x.length cx,.int .i64 p] (by rfl) rfl rfl zI ?_
   refine(l2Where_c (Kd.R_reads' (Kd.R_below HS9.out.x HB.out)).2.2 (Kd.R_reads' HS9.out.x).2.1 p).mono ?_
   rintro e v6 ⟨rfl,hd⟩
   refine⟨_,rfl,?_⟩
   replace HB:=AK (bst HB.out hd.below)
   clear hd
   refine hK.out _ _ ⟨pcb HB.out CS.out.1,pcb HB.out CS.out.2.1,pcb HB.out CS.out.2.2.1,pcb HB.out CS.out.2.2.2⟩ (fun hHeld=>?_)
   clear hK K
   refine nO (some 48) ?_
   refine one_ (i:=13) (N:=some 55) (bM 15 16383) rfl rfl (one_of HT_.out (by kernel_rfl)) (by decide) (fun K hK=>?_)
   refine goes_ Try.func89 (by kernel_rfl) rfl #[.slice Ay y.length cy,.int .i64 q] (by rfl) rfl rfl zI ?_
   refine(l2Where_c (Kd.R_reads' (Kd.R_below HS9.out.y HB.out)).2.2 (Kd.R_reads' HS9.out.y).2.1 q).mono ?_
   rintro e v13 ⟨rfl,hd⟩
   refine⟨_,rfl,?_⟩
   replace HB:=AK (bst HB.out hd.below)
   clear hd
   refine hK.out _ _ ⟨pcb HB.out CS.out.1,pcb HB.out CS.out.2.1,pcb HB.out CS.out.2.2.1,pcb HB.out CS.out.2.2.2⟩ (fun hHeld=>?_)
   clear hK K
   refine nO (some 55) ?_
   refine pU HT_ 14 (some 56) (bM 15 32767) ?_
   refine done_ (done_of HT_.out (by kernel_rfl)) ?_
   clear HT_ HW_ hHeld
   have HBW:=AK (bst HS9.out.b HB.out)
   by_cases hk:wh x p=wh y q
   ·have ck:(wh x p != wh y q)=false:=by simp[hk]
    have ER6:=AK (show r=(cmp2 (whB x y) (l1.drop (i+1).toNat) (m1.drop (i+1).toNat) && (ob && (s2 && s3)))by rw[ER5.out];unfold whB;rw[beq_iff_eq.2 hk];rfl)
    clear hk
    go_wp2
    go_roundg k1
    case measure=>omega
    case rel=>
     have h1:=HI.out
     have h3:=HKA.out.r
     rw[wrap_succ i (by omega) (by omega)]
     exact⟨i+1,rfl,⟨by omega,by omega⟩,ER6,HB⟩
   ·have ck:(wh x p != wh y q)=true:=by simp[hk]
    have e0:r=false:=by rw[ER5.out];unfold whB;rw[beq_eq_false_iff_ne.2 hk];rfl
    subst e0
    clear hk
    go_wp2
    go_ret
    exact⟨rfl,HBW.out⟩
  | zero=>
   have c58:decide (i<(l1.length:Int))=false:=deF (by have:=HI.out;omega)
   have ER3:=AK (show r=(cmp2 (fun p q=>alikeB x y (rd_T38 l0 p) (rd_T38 m0 q)) (x.drop (0:Int).toNat) (y.drop (0:Int).toNat) && (s2 && s3))by rw[ER4.out,cmp2_end _ _ _ _ (by have:=HI.out;omega),EOB.out];rfl)
   clear HI ER4
   go_wp2
   clear p0 p1 p2 p3
   go_loopg [8] x.length (fun kq v8 w'=>∃i:Int,v8=.int .i64 i∧Aside0 (0≤i∧i+kq=x.length)∧Aside0 (r=(cmp2 (fun p q=>alikeB x y (rd_T38 l0 p) (rd_T38 m0 q)) (x.drop i.toNat) (y.drop i.toNat) && (s2 && s3)))∧Aside0 (Below w5.heap.size w5 w'))
   case atStart=>exact⟨0,rfl,⟨by omega,by omega⟩,ER3,HB⟩
   case round=>
    clear HB ER3
    obtain⟨i,rfl,HI,ER4,HB⟩:=hrel
    cases gk with
    | succ k1=>
     have c58:decide (i<(x.length:Int))=true:=deT (by have:=HI.out;omega)
     have hi0:=eq_true (show 0≤i by have:=HI.out;omega)
     have hi1:=eq_true (show i<(x.length:Int)by have:=HI.out;omega)
     have hi2:=eq_true (show i<(y.length:Int)by have:=HI.out;have:=HXY.out;omega)
     have hr:=ER4.out
     rw[cmp2_at _ x y 0 0 i (by have:=HI.out;omega) (by have:=HI.out;omega) (by have:=HI.out;have:=HXY.out;omega)]at hr
     have hgp:=HGX.out.2 _ (getD_mem x 0 i (by have:=HI.out;omega) (by have:=HI.out;omega))
     have hgq:=HGY.out.2 _ (getD_mem y 0 i (by have:=HI.out;omega) (by have:=HI.out;have:=HXY.out;omega))
     obtain⟨adx,ex,hx0⟩:=Kd.at_int (Kd.R_reads' HS9.out.x).2.2 i (by have:=HI.out;omega) (by have:=HI.out;omega)
     obtain⟨ady,ey,hy0⟩:=Kd.at_int (Kd.R_reads' HS9.out.y).2.2 i (by have:=HI.out;omega) (by have:=HI.out;have:=HXY.out;omega)
     subst ex
     subst ey
     obtain⟨p,ep⟩:∃p,p=rd x i:=⟨_,rfl⟩
     obtain⟨q,eq⟩:∃q,q=rd y i:=⟨_,rfl⟩
     replace hgp:0≤p∧p<l0.length:=by rw[ep];exact hgp
     replace hgq:0≤q∧q<m0.length:=by rw[eq];exact hgq
     rw[←ep]at hx0
     rw[←eq]at hy0
     obtain⟨o,eo⟩:∃o,o=rd_T38 l0 p:=⟨_,rfl⟩
     obtain⟨u,eu⟩:∃u,u=rd_T38 m0 q:=⟨_,rfl⟩
     obtain⟨al,eal⟩:∃b,b=alikeB x y o u:=⟨_,rfl⟩
     have EAL:=AK eal
     have ER5:=AK (show r=((al && cmp2 (fun p q=>alikeB x y (rd_T38 l0 p) (rd_T38 m0 q)) (x.drop (i+1).toNat) (y.drop (i+1).toNat)) && (s2 && s3))by rw[hr,eal,eo,eu,ep,eq];rfl)
     obtain⟨ad0,Ao,co,e,ha0,ha1,ha2,hal,hag⟩:=at_T38 (HI0.out.below HS9.out.b).r0 p hgp.1 hgp.2
     subst e
     obtain⟨bd0,Au,cu,e,hb0,hb1,hb2,hbl,hbg⟩:=at_T38 (HJ0.out.below HS9.out.b).r0 q hgq.1 hgq.2
     subst e
     rw[←eo]at ha0 ha1 ha2 hal hag
     rw[←eu]at hb0 hb1 hb2 hbl hbg
     have HO:=AK (And.intro hag hal)
     have HU:=AK (And.intro hbg hbl)
     have hp0:=eq_true hgp.1
     have hp1:=eq_true hgp.2
     have hq0:=eq_true hgq.1
     have hq1:=eq_true hgq.2
     have CS:=AK (And.intro (box4 HS9.out.xa).1 (And.intro (box4 HS9.out.xb).1 (And.intro hx0 (And.intro hy0 (And.intro ha0 (And.intro ha1 (And.intro ha2 (And.intro hb0 (And.intro hb1 hb2)))))))))
     clear ER4 hr hgp hgq ep eq eo eu eal hx0 hy0 ha0 ha1 ha2 hal hag hb0 hb1 hb2 hbl hbg
     go_wp2_with fail
     replace HB:=AK (below_drew HB.out)
     refine start_ (n:=20) (S:=(fun w'=>w'.cell? ⟨w.heap.size,0,none⟩=some (.slice (some ad0) l0.length c0)∧w'.cell? ⟨w.heap.size+1,0,none⟩=some (.slice (some bd0) m0.length d0)∧w'.cell? (adx.add i.toNat)=some (.int .i64 p)∧w'.cell? (ady.add i.toNat)=some (.int .i64 q)∧w'.cell? (ad0.add (p.toNat*3))=some (.int .i64 o.f0)∧w'.cell? ⟨(ad0.add (p.toNat*3)).block,(ad0.add (p.toNat*3)).off+1,none⟩=some (.string o.f1)∧w'.cell? ⟨(ad0.add (p.toNat*3)).block,(ad0.add (p.toNat*3)).off+2,none⟩=some (.slice Ao o.f2.length co)∧w'.cell? (bd0.add (q.toNat*3))=some (.int .i64 u.f0)∧w'.cell? ⟨(bd0.add (q.toNat*3)).block,(bd0.add (q.toNat*3)).off+1,none⟩=some (.string u.f1)∧w'.cell? ⟨(bd0.add (q.toNat*3)).block,(bd0.add (q.toNat*3)).off+2,none⟩=some (.slice Au u.f2.length cu))) (ds:=[]) #[fF,fF,fF,fF,fF,fF,fF,fF,fF,fF,fF,fF,fF,fF,fF,fF,fF,fF,fF,fF] (by kernel_rfl) rfl rfl ⟨pcb HB.out CS.out.1,pcb HB.out CS.out.2.1,pcb HB.out CS.out.2.2.1,pcb HB.out CS.out.2.2.2.1,pcb HB.out CS.out.2.2.2.2.1,pcb HB.out CS.out.2.2.2.2.2.1,pcb HB.out CS.out.2.2.2.2.2.2.1,pcb HB.out CS.out.2.2.2.2.2.2.2.1,pcb HB.out CS.out.2.2.2.2.2.2.2.2.1,pcb HB.out CS.out.2.2.2.2.2.2.2.2.2⟩ (fun hHeld=>?_);refine with_tabW ssame15_tab ssame15_bits (fun HT_ HW_=>?_)
     generalize wr.drew=w10 at HB hHeld ⊢
     refine pU HT_ 0 (some 63) (bM 20 1) ?_
     refine tU HT_ HW_ 1 (some 64) (bM 20 3) hHeld rfl (by refine Or.inl ⟨by rfl,?_⟩;rintro w' ⟨s0,s1,s2',s3',s4,s5,s6,s7,s8,s9⟩;go_simp;with_reducible rfl) ?_
     refine pU HT_ 2 (some 65) (bM 20 7) ?_
     refine pU HT_ 3 (some 66) (bM 20 15) ?_
     refine pU HT_ 4 (some 67) (bM 20 31) ?_
     refine tU HT_ HW_ 5 (some 68) (bM 20 63) hHeld rfl (by refine Or.inl ⟨by rfl,?_⟩;rintro w' ⟨s0,s1,s2',s3',s4,s5,s6,s7,s8,s9⟩;go_simp;with_reducible rfl) ?_
     refine pU HT_ 6 (some 69) (bM 20 127) ?_
     refine tU HT_ HW_ 7 (some 70) (bM 20 255) hHeld rfl (by refine Or.inl ⟨by rfl,?_⟩;rintro w' ⟨s0,s1,s2',s3',s4,s5,s6,s7,s8,s9⟩;go_simp;with_reducible rfl) ?_
     refine pU HT_ 8 (some 71) (bM 20 511) ?_
     refine tU HT_ HW_ 9 (some 72) (bM 20 1023) hHeld rfl (by refine Or.inl ⟨by rfl,?_⟩;rintro w' ⟨s0,s1,s2',s3',s4,s5,s6,s7,s8,s9⟩;go_simp;with_reducible rfl) ?_
     refine pU HT_ 10 (some 73) (bM 20 2047) ?_
     refine pU HT_ 11 (some 74) (bM 20 4095) ?_
     refine pU HT_ 12 (some 75) (bM 20 8191) ?_
     refine tU HT_ HW_ 13 (some 76) (bM 20 16383) hHeld rfl (by refine Or.inl ⟨by rfl,?_⟩;rintro w' ⟨s0,s1,s2',s3',s4,s5,s6,s7,s8,s9⟩;go_simp;with_reducible rfl) ?_
     refine pU HT_ 14 (some 77) (bM 20 32767) ?_
     refine tU HT_ HW_ 15 (some 78) (bM 20 65535) hHeld rfl (by refine Or.inl ⟨by rfl,?_⟩;rintro w' ⟨s0,s1,s2',s3',s4,s5,s6,s7,s8,s9⟩;go_simp;with_reducible rfl) ?_
     refine pU HT_ 16 (some 79) (bM 20 131071) ?_
     refine pU HT_ 17 (some 80) (bM 20 262143) ?_
     refine one_ (i:=18) (N:=some 81) (bM 20 524287) rfl rfl (one_of HT_.out (by kernel_rfl)) (by decide) (fun K hK=>?_)
     refine goes_ Try.func90 (by kernel_rfl) rfl #[.agg #[.int .i64 o.f0,.string o.f1,.slice Ao o.f2.length co],.agg #[.int .i64 u.f0,.string u.f1,.slice Au u.f2.length cu],.slice (some adx) x.length cx,.slice (some ady) y.length cy] (by rfl) rfl rfl zI ?_
     refine(l2Alike_c (Kd.C_below HO.out.1 HB.out) HO.out.2 (Kd.C_below HU.out.1 HB.out) HU.out.2 (Kd.R_reads' (Kd.R_below HS9.out.x HB.out)).2.2 (Kd.R_reads' HS9.out.x).2.1 (Kd.R_reads' (Kd.R_below HS9.out.y HB.out)).2.2 (Kd.R_reads' HS9.out.y).2.1).mono ?_
     rintro e v18 ⟨rfl,hb⟩
     rw[←EAL.out]
     refine⟨_,rfl,?_⟩
     replace HB:=AK (bst HB.out hb)
     clear hb
     refine hK.out _ _ ⟨pcb HB.out CS.out.1,pcb HB.out CS.out.2.1,pcb HB.out CS.out.2.2.1,pcb HB.out CS.out.2.2.2.1,pcb HB.out CS.out.2.2.2.2.1,pcb HB.out CS.out.2.2.2.2.2.1,pcb HB.out CS.out.2.2.2.2.2.2.1,pcb HB.out CS.out.2.2.2.2.2.2.2.1,pcb HB.out CS.out.2.2.2.2.2.2.2.2.1,pcb HB.out CS.out.2.2.2.2.2.2.2.2.2⟩ (fun hHeld=>?_)
     clear hK K
     refine nO (some 81) ?_
     refine pU HT_ 19 (some 82) (bM 20 1048575) ?_
     refine done_ (done_of HT_.out (by kernel_rfl)) ?_
     clear HT_ HW_ hHeld
     have HBW:=AK (bst HS9.out.b HB.out)
     cases al with
     | true=>
      go_wp2
      go_roundg k1
      case measure=>omega
      case rel=>
       have h1:=HI.out
       have h2:=nodup_len _ _ HGX.out
       have h3:=HKA.out.n
       rw[wrap_succ i (by omega) (by omega)]
       exact⟨i+1,rfl,⟨by omega,by omega⟩,⟨by rw[ER5.out];rfl⟩,HB⟩
     | false=>
      have e0:r=false:=by rw[ER5.out];rfl
      subst e0
      go_wp2
      go_ret
      exact⟨rfl,HBW.out⟩
    | zero=>
     have c58:decide (i<(x.length:Int))=false:=deF (by have:=HI.out;omega)
     have ER7:=AK (show r=(s2 && s3)by rw[ER4.out,cmp2_end _ _ _ _ (by have:=HI.out;omega)];rfl)
     have CS:=AK (And.intro (box4 HS9.out.xa).2.2.1 (And.intro (box4 HS9.out.xa).2.2.2 (And.intro (box4 HS9.out.xb).2.2.1 (box4 HS9.out.xb).2.2.2)))
     clear ER4 HI
     go_wp2_with fail
     cases s2 with
     | false=>
      have e0:r=false:=by rw[ER7.out];rfl
      subst e0
      replace HB:=AK (below_drew HB.out)
      refine start_ (n:=21) (S:=(fun w'=>w'.cell? ⟨w.heap.size,2,none⟩=some (.slice A2 l2.length c2)∧w'.cell? ⟨w.heap.size,3,none⟩=some (.slice A3 l3.length c3)∧w'.cell? ⟨w.heap.size+1,2,none⟩=some (.slice B2 m2.length d2)∧w'.cell? ⟨w.heap.size+1,3,none⟩=some (.slice B3 m3.length d3))) (ds:=[]) #[fF,fF,fF,fF,fF,fF,fF,fF,fF,fF,fF,fF,fF,fF,fF,fF,fF,fF,fF,fF,fF] (by kernel_rfl) rfl rfl ⟨pcb HB.out CS.out.1,pcb HB.out CS.out.2.1,pcb HB.out CS.out.2.2.1,pcb HB.out CS.out.2.2.2⟩ (fun hHeld=>?_);refine with_tabW ssame17_tab ssame17_bits (fun HT_ HW_=>?_)
      generalize wr.drew=w10 at HB hHeld ⊢
      refine pU HT_ 0 (some 83) (bM 21 1) ?_
      refine tU HT_ HW_ 1 (some 84) (bM 21 3) hHeld rfl (by refine Or.inl ⟨by rfl,?_⟩;rintro w' ⟨s0,s1,s2',s3'⟩;go_simp;with_reducible rfl) ?_
      refine pU HT_ 2 (some 85) (bM 21 7) ?_
      refine pU HT_ 4 (some 87) (bM 21 23) ?_
      refine tU HT_ HW_ 5 (some 88) (bM 21 55) hHeld rfl (by refine Or.inl ⟨by rfl,?_⟩;rintro w' ⟨s0,s1,s2',s3'⟩;go_simp;with_reducible rfl) ?_
      refine pU HT_ 6 (some 89) (bM 21 119) ?_
      refine one_ (i:=3) (N:=some 86) (bM 21 127) rfl rfl (one_of HT_.out (by kernel_rfl)) (by decide) (fun K hK=>?_)
      refine goes_ Try.func92 (by kernel_rfl) rfl #[.slice A2 l2.length c2,.slice Ax x.length cx] (by rfl) rfl rfl zI ?_
      refine(l2Watches_c (HI0.out.below (bst HS9.out.b HB.out)).r2 HI0.out.k2 (Kd.R_reads' (Kd.R_below HS9.out.x HB.out)).2.2 (Kd.R_reads' HS9.out.x).2.1 (by have:=HF.out.w;omega)).mono ?_
      rintro e v3 ⟨t3,rfl,hr,hb⟩
      obtain⟨S3,e3,e⟩:=Kd.R_slice hr
      subst e
      refine⟨_,rfl,?_⟩
      have V3:=AK hr
      replace HB:=AK (bst HB.out hb)
      clear hr hb
      refine hK.out _ _ ⟨pcb HB.out CS.out.1,pcb HB.out CS.out.2.1,pcb HB.out CS.out.2.2.1,pcb HB.out CS.out.2.2.2⟩ (fun hHeld=>?_)
      clear hK K
      refine nO (some 86) ?_
      refine one_ (i:=7) (N:=some 90) (bM 21 255) rfl rfl (one_of HT_.out (by kernel_rfl)) (by decide) (fun K hK=>?_)
      refine goes_ Try.func92 (by kernel_rfl) rfl #[.slice B2 m2.length d2,.slice Ay y.length cy] (by rfl) rfl rfl zI ?_
      refine(l2Watches_c (HJ0.out.below (bst HS9.out.b HB.out)).r2 HJ0.out.k2 (Kd.R_reads' (Kd.R_below HS9.out.y HB.out)).2.2 (Kd.R_reads' HS9.out.y).2.1 (by have:=HG.out.w;omega)).mono ?_
      rintro e v7 ⟨t7,rfl,hr,hb⟩
      obtain⟨S7,e7,e⟩:=Kd.R_slice hr
      subst e
      refine⟨_,rfl,?_⟩
      replace V3:=AK (Kd.R_below V3.out hb)
      have V7:=AK hr
      replace HB:=AK (bst HB.out hb)
      clear hr hb
      refine hK.out _ _ ⟨pcb HB.out CS.out.1,pcb HB.out CS.out.2.1,pcb HB.out CS.out.2.2.1,pcb HB.out CS.out.2.2.2⟩ (fun hHeld=>?_)
      clear hK K
      refine nO (some 90) ?_
      refine one_ (i:=8) (N:=some 91) (bM 21 511) rfl rfl (one_of HT_.out (by kernel_rfl)) (by decide) (fun K hK=>?_)
      refine goes_ Try.func91 (by kernel_rfl) rfl #[.slice S3 (seenW x l2).length e3,.slice S7 (seenW y m2).length e7] (by rfl) rfl rfl zI ?_
      refine(l2SameWatches_c (Kd.R_reads' V3.out).2.2 (Kd.R_reads' V3.out).2.1 (Kd.R_reads' V7.out).2.2 (Kd.R_reads' V7.out).2.1).mono ?_
      rintro e v8 ⟨rfl,hd⟩
      rw[←ES2.out]
      refine⟨_,rfl,?_⟩
      replace HB:=AK (bst HB.out hd)
      clear hd
      refine hK.out _ _ ⟨pcb HB.out CS.out.1,pcb HB.out CS.out.2.1,pcb HB.out CS.out.2.2.1,pcb HB.out CS.out.2.2.2⟩ (fun hHeld=>?_)
      clear hK K
      refine nO (some 91) ?_
      refine pU HT_ 9 (some 92) (bM 21 1023) ?_
      refine pure_ (i:=10) (N:=some 93) (v:=undef) (a':=?_) #[tT,tT,tT,tT,tT,tT,tT,tT,tT,tT,tT,fF,fF,fF,fF,fF,fF,fF,fF,fF,fF] rfl rfl (any_of HT_.out (by kernel_rfl)) (fun _ _ _ h=>h) (Or.inr ⟨by rfl,rfl⟩) ?_ ?_
      rotate_left
      ·exact zP
      refine pure_ (i:=11) (N:=some 94) (v:=undef) (a':=?_) #[tT,tT,tT,tT,tT,tT,tT,tT,tT,tT,tT,tT,fF,fF,fF,fF,fF,fF,fF,fF,fF] rfl rfl (any_of HT_.out (by kernel_rfl)) (fun _ _ _ h=>h) (Or.inr ⟨by rfl,rfl⟩) ?_ ?_
      rotate_left
      ·exact zP
      refine pure_ (i:=12) (N:=some 95) (v:=undef) (a':=?_) #[tT,tT,tT,tT,tT,tT,tT,tT,tT,tT,tT,tT,tT,fF,fF,fF,fF,fF,fF,fF,fF] rfl rfl (any_of HT_.out (by kernel_rfl)) (fun _ _ _ h=>h) (Or.inr ⟨by rfl,rfl⟩) ?_ ?_
      rotate_left
      ·exact zP
      refine pure_ (i:=13) (N:=some 96) (v:=undef) (a':=?_) #[tT,tT,tT,tT,tT,tT,tT,tT,tT,tT,tT,tT,tT,tT,fF,fF,fF,fF,fF,fF,fF] rfl rfl (any_of HT_.out (by kernel_rfl)) (fun _ _ _ h=>h) (Or.inr ⟨by rfl,rfl⟩) ?_ ?_
      rotate_left
      ·exact zP
      refine pure_ (i:=14) (N:=some 97) (v:=undef) (a':=?_) #[tT,tT,tT,tT,tT,tT,tT,tT,tT,tT,tT,tT,tT,tT,tT,fF,fF,fF,fF,fF,fF] rfl rfl (any_of HT_.out (by kernel_rfl)) (fun _ _ _ h=>h) (Or.inr ⟨by rfl,rfl⟩) ?_ ?_
      rotate_left
      ·exact zP
      refine pure_ (i:=15) (N:=some 98) (v:=undef) (a':=?_) #[tT,tT,tT,tT,tT,tT,tT,tT,tT,tT,tT,tT,tT,tT,tT,tT,fF,fF,fF,fF,fF] rfl rfl (any_of HT_.out (by kernel_rfl)) (fun _ _ _ h=>h) (Or.inr ⟨by rfl,rfl⟩) ?_ ?_
      rotate_left
      ·exact zP
      refine pure_ (i:=16) (N:=some 99) (v:=undef) (a':=?_) #[tT,tT,tT,tT,tT,tT,tT,tT,tT,tT,tT,tT,tT,tT,tT,tT,tT,fF,fF,fF,fF] rfl rfl (any_of HT_.out (by kernel_rfl)) (fun _ _ _ h=>h) (Or.inr ⟨by rfl,rfl⟩) ?_ ?_
      rotate_left
      ·exact zP
      refine pure_ (i:=17) (N:=some 100) (v:=undef) (a':=?_) #[tT,tT,tT,tT,tT,tT,tT,tT,tT,tT,tT,tT,tT,tT,tT,tT,tT,tT,fF,fF,fF] rfl rfl (any_of HT_.out (by kernel_rfl)) (fun _ _ _ h=>h) (Or.inr ⟨by rfl,rfl⟩) ?_ ?_
      rotate_left
      ·exact zP
      refine pure_ (i:=18) (N:=some 101) (v:=undef) (a':=?_) #[tT,tT,tT,tT,tT,tT,tT,tT,tT,tT,tT,tT,tT,tT,tT,tT,tT,tT,tT,fF,fF] rfl rfl (any_of HT_.out (by kernel_rfl)) (fun _ _ _ h=>h) (Or.inr ⟨by rfl,rfl⟩) ?_ ?_
      rotate_left
      ·exact zP
      refine pU HT_ 19 (some 102) (bM 21 1048575) ?_
      refine pU HT_ 20 (some 4) (bM 21 2097151) ?_
      refine done_ (done_of HT_.out (by kernel_rfl)) ?_
      clear HT_ HW_ hHeld
      go_wp2
      go_ret
      exact⟨rfl,bst HS9.out.b HB.out⟩
     | true=>
      have e0:r=s3:=by rw[ER7.out];rfl
      subst e0
      replace HB:=AK (below_drew HB.out)
      refine start_ (n:=21) (S:=(fun w'=>w'.cell? ⟨w.heap.size,2,none⟩=some (.slice A2 l2.length c2)∧w'.cell? ⟨w.heap.size,3,none⟩=some (.slice A3 l3.length c3)∧w'.cell? ⟨w.heap.size+1,2,none⟩=some (.slice B2 m2.length d2)∧w'.cell? ⟨w.heap.size+1,3,none⟩=some (.slice B3 m3.length d3))) (ds:=[]) #[fF,fF,fF,fF,fF,fF,fF,fF,fF,fF,fF,fF,fF,fF,fF,fF,fF,fF,fF,fF,fF] (by kernel_rfl) rfl rfl ⟨pcb HB.out CS.out.1,pcb HB.out CS.out.2.1,pcb HB.out CS.out.2.2.1,pcb HB.out CS.out.2.2.2⟩ (fun hHeld=>?_);refine with_tabW ssame17_tab ssame17_bits (fun HT_ HW_=>?_)
      generalize wr.drew=w10 at HB hHeld ⊢
      refine pU HT_ 0 (some 83) (bM 21 1) ?_
      refine tU HT_ HW_ 1 (some 84) (bM 21 3) hHeld rfl (by refine Or.inl ⟨by rfl,?_⟩;rintro w' ⟨s0,s1,s2',s3'⟩;go_simp;with_reducible rfl) ?_
      refine pU HT_ 2 (some 85) (bM 21 7) ?_
      refine pU HT_ 4 (some 87) (bM 21 23) ?_
      refine tU HT_ HW_ 5 (some 88) (bM 21 55) hHeld rfl (by refine Or.inl ⟨by rfl,?_⟩;rintro w' ⟨s0,s1,s2',s3'⟩;go_simp;with_reducible rfl) ?_
      refine pU HT_ 6 (some 89) (bM 21 119) ?_
      refine one_ (i:=3) (N:=some 86) (bM 21 127) rfl rfl (one_of HT_.out (by kernel_rfl)) (by decide) (fun K hK=>?_)
      refine goes_ Try.func92 (by kernel_rfl) rfl #[.slice A2 l2.length c2,.slice Ax x.length cx] (by rfl) rfl rfl zI ?_
      refine(l2Watches_c (HI0.out.below (bst HS9.out.b HB.out)).r2 HI0.out.k2 (Kd.R_reads' (Kd.R_below HS9.out.x HB.out)).2.2 (Kd.R_reads' HS9.out.x).2.1 (by have:=HF.out.w;omega)).mono ?_
      rintro e v3 ⟨t3,rfl,hr,hb⟩
      obtain⟨S3,e3,e⟩:=Kd.R_slice hr
      subst e
      refine⟨_,rfl,?_⟩
      have V3:=AK hr
      replace HB:=AK (bst HB.out hb)
      clear hr hb
      refine hK.out _ _ ⟨pcb HB.out CS.out.1,pcb HB.out CS.out.2.1,pcb HB.out CS.out.2.2.1,pcb HB.out CS.out.2.2.2⟩ (fun hHeld=>?_)
      clear hK K
      refine nO (some 86) ?_
      refine one_ (i:=7) (N:=some 90) (bM 21 255) rfl rfl (one_of HT_.out (by kernel_rfl)) (by decide) (fun K hK=>?_)
      refine goes_ Try.func92 (by kernel_rfl) rfl #[.slice B2 m2.length d2,.slice Ay y.length cy] (by rfl) rfl rfl zI ?_
      refine(l2Watches_c (HJ0.out.below (bst HS9.out.b HB.out)).r2 HJ0.out.k2 (Kd.R_reads' (Kd.R_below HS9.out.y HB.out)).2.2 (Kd.R_reads' HS9.out.y).2.1 (by have:=HG.out.w;omega)).mono ?_
      rintro e v7 ⟨t7,rfl,hr,hb⟩
      obtain⟨S7,e7,e⟩:=Kd.R_slice hr
      subst e
      refine⟨_,rfl,?_⟩
      replace V3:=AK (Kd.R_below V3.out hb)
      have V7:=AK hr
      replace HB:=AK (bst HB.out hb)
      clear hr hb
      refine hK.out _ _ ⟨pcb HB.out CS.out.1,pcb HB.out CS.out.2.1,pcb HB.out CS.out.2.2.1,pcb HB.out CS.out.2.2.2⟩ (fun hHeld=>?_)
      clear hK K
      refine nO (some 90) ?_
      refine one_ (i:=8) (N:=some 91) (bM 21 511) rfl rfl (one_of HT_.out (by kernel_rfl)) (by decide) (fun K hK=>?_)
      refine goes_ Try.func91 (by kernel_rfl) rfl #[.slice S3 (seenW x l2).length e3,.slice S7 (seenW y m2).length e7] (by rfl) rfl rfl zI ?_
      refine(l2SameWatches_c (Kd.R_reads' V3.out).2.2 (Kd.R_reads' V3.out).2.1 (Kd.R_reads' V7.out).2.2 (Kd.R_reads' V7.out).2.1).mono ?_
      rintro e v8 ⟨rfl,hd⟩
      rw[←ES2.out]
      refine⟨_,rfl,?_⟩
      replace HB:=AK (bst HB.out hd)
      clear hd
      refine hK.out _ _ ⟨pcb HB.out CS.out.1,pcb HB.out CS.out.2.1,pcb HB.out CS.out.2.2.1,pcb HB.out CS.out.2.2.2⟩ (fun hHeld=>?_)
      clear hK K
      refine nO (some 91) ?_
      refine pU HT_ 9 (some 92) (bM 21 1023) ?_
      refine pU HT_ 10 (some 93) (bM 21 2047) ?_
      refine tU HT_ HW_ 11 (some 94) (bM 21 4095) hHeld rfl (by refine Or.inl ⟨by rfl,?_⟩;rintro w' ⟨s0,s1,s2',s3'⟩;go_simp;with_reducible rfl) ?_
      refine pU HT_ 12 (some 95) (bM 21 8191) ?_
      refine pU HT_ 14 (some 97) (bM 21 24575) ?_
      refine tU HT_ HW_ 15 (some 98) (bM 21 57343) hHeld rfl (by refine Or.inl ⟨by rfl,?_⟩;rintro w' ⟨s0,s1,s2',s3'⟩;go_simp;with_reducible rfl) ?_
      refine pU HT_ 16 (some 99) (bM 21 122879) ?_
      refine one_ (i:=13) (N:=some 96) (bM 21 131071) rfl rfl (one_of HT_.out (by kernel_rfl)) (by decide) (fun K hK=>?_)
      refine goes_ Try.func92 (by kernel_rfl) rfl #[.slice A3 l3.length c3,.slice Ax x.length cx] (by rfl) rfl rfl zI ?_
      refine(l2Watches_c (HI0.out.below (bst HS9.out.b HB.out)).r3 HI0.out.k3 (Kd.R_reads' (Kd.R_below HS9.out.x HB.out)).2.2 (Kd.R_reads' HS9.out.x).2.1 (by have:=HF.out.w;omega)).mono ?_
      rintro e v13 ⟨t13,rfl,hr,hb⟩
      obtain⟨S13,e13,e⟩:=Kd.R_slice hr
      subst e
      refine⟨_,rfl,?_⟩
      have V13:=AK hr
      replace HB:=AK (bst HB.out hb)
      clear hr hb
      refine hK.out _ _ ⟨pcb HB.out CS.out.1,pcb HB.out CS.out.2.1,pcb HB.out CS.out.2.2.1,pcb HB.out CS.out.2.2.2⟩ (fun hHeld=>?_)
      clear hK K
      refine nO (some 96) ?_
      refine one_ (i:=17) (N:=some 100) (bM 21 262143) rfl rfl (one_of HT_.out (by kernel_rfl)) (by decide) (fun K hK=>?_)
      refine goes_ Try.func92 (by kernel_rfl) rfl #[.slice B3 m3.length d3,.slice Ay y.length cy] (by rfl) rfl rfl zI ?_
      refine(l2Watches_c (HJ0.out.below (bst HS9.out.b HB.out)).r3 HJ0.out.k3 (Kd.R_reads' (Kd.R_below HS9.out.y HB.out)).2.2 (Kd.R_reads' HS9.out.y).2.1 (by have:=HG.out.w;omega)).mono ?_
      rintro e v17 ⟨t17,rfl,hr,hb⟩
      obtain⟨S17,e17,e⟩:=Kd.R_slice hr
      subst e
      refine⟨_,rfl,?_⟩
      replace V13:=AK (Kd.R_below V13.out hb)
      have V17:=AK hr
      replace HB:=AK (bst HB.out hb)
      clear hr hb
      refine hK.out _ _ ⟨pcb HB.out CS.out.1,pcb HB.out CS.out.2.1,pcb HB.out CS.out.2.2.1,pcb HB.out CS.out.2.2.2⟩ (fun hHeld=>?_)
      clear hK K
      refine nO (some 100) ?_
      refine one_ (i:=18) (N:=some 101) (bM 21 524287) rfl rfl (one_of HT_.out (by kernel_rfl)) (by decide) (fun K hK=>?_)
      refine goes_ Try.func91 (by kernel_rfl) rfl #[.slice S13 (seenW x l3).length e13,.slice S17 (seenW y m3).length e17] (by rfl) rfl rfl zI ?_
      refine(l2SameWatches_c (Kd.R_reads' V13.out).2.2 (Kd.R_reads' V13.out).2.1 (Kd.R_reads' V17.out).2.2 (Kd.R_reads' V17.out).2.1).mono ?_
      rintro e v18 ⟨rfl,hd⟩
      rw[←ES3.out]
      refine⟨_,rfl,?_⟩
      replace HB:=AK (bst HB.out hd)
      clear hd
      refine hK.out _ _ ⟨pcb HB.out CS.out.1,pcb HB.out CS.out.2.1,pcb HB.out CS.out.2.2.1,pcb HB.out CS.out.2.2.2⟩ (fun hHeld=>?_)
      clear hK K
      refine nO (some 101) ?_
      refine pU HT_ 19 (some 102) (bM 21 1048575) ?_
      refine pU HT_ 20 (some 4) (bM 21 2097151) ?_
      refine done_ (done_of HT_.out (by kernel_rfl)) ?_
      clear HT_ HW_ hHeld
      go_wp2
      go_ret
      exact⟨rfl,bst HS9.out.b HB.out⟩
end Go.Proofs.Ytigjhfijkdlldaa.H
