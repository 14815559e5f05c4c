import Derived.Test.YtigjhfijkdlldaaSfsYw
import Derived.Test.YtigjhfijkdlldaaSfsHsg
import Derived.Test.YtigjhfijkdlldaaSfsHmc
import Derived.Test.YtigjhfijkdlldaaSfsHss
namespace Go.Proofs.Ytigjhfijkdlldaa.H
open Go.RowKit Go.Proofs.YtigjhfijkdlldaaW.PrintWords Go.Proofs.YtigjhfijkdlldaaW.PrintLast Go.Proofs.YtigjhfijkdlldaaW.PrintMore Go.Proofs.Ytigjhfijkdlldaa.Q
set_option linter.unusedVariables false
set_option linter.unusedSimpArgs false
def Held (b:Bool) (R:Hp) (i:Int):Prop:=b=true→∀w∈R.w.take i.toNat,w.f1∈reachL R.o R.r R.d
theorem Held.zero (b:Bool) (R:Hp):Held b R 0:=fun _ w hw=>by simp at hw
theorem Held.off (R:Hp) (i:Int):Held false R i:=fun h=>by cases h
theorem Held.step {b:Bool} {R:Hp} {i:Int} (h0:0≤i) (h1:i<R.w.length) (h:Held b R i) (hz:(rd_T60 R.w i).f1∈reachL R.o R.r R.d):Held b R (i+1):=fun hb w hw=>by
  have h2:i.toNat<R.w.length:=by omega
  rw[show (i+1).toNat=i.toNat+1 by omega,List.take_add_one,List.getElem?_eq_getElem h2]at hw
  have e1:rd_T60 R.w i=R.w[i.toNat]:=by simp[rd_T60,List.getD_eq_getElem?_getD,h2]
  rcases List.mem_append.1 hw with hw|hw
  · exact h hb w hw
  · have:w=R.w[i.toNat]:=by simpa using hw
    rw[this,←e1];exact hz
theorem Held.all {b:Bool} {R:Hp} {i:Int} (h:Held b R i) (hi:(R.w.length:Int)≤i) (hb:b=okB R.o R.r R.w R.d):sameB R.o R.r R.w R.d (collectB R).1.o (collectB R).1.r (collectB R).1.w (collectB R).1.d=b:=by
  cases b
  · unfold sameB;rw[←hb];rfl
  · refine(same_collected fun w hw=>?_).trans hb.symm
    have:=h rfl
    rw[List.take_of_length_le (by omega)]at this
    exact this w hw
theorem sm5_tab:rtab .any (opsOf Try.f12 5)=(true,[([],[]),([],[]),([],[]),([1,2],[1,2]),([0,3],[0,3]),([4,3],[4]),([5],[5]),([5],[5]),([5],[5]),([7,8,5,5],[5,7,8]),([6,9,5],[5,6,9]),([5,10],[5,10]),([11,9],[11]),([12],[12]),([12],[12]),([13,14,12,12],[12,13,14]),([12],[12]),([16,15,12],[12,16]),([15,17,12],[12,15,17]),([12,18],[12,18])]):=by kernel_rfl
theorem sm5_bits:waitsOk [([],[]),([],[]),([],[]),([1,2],[1,2]),([0,3],[0,3]),([4,3],[4]),([5],[5]),([5],[5]),([5],[5]),([7,8,5,5],[5,7,8]),([6,9,5],[5,6,9]),([5,10],[5,10]),([11,9],[11]),([12],[12]),([12],[12]),([13,14,12,12],[12,13,14]),([12],[12]),([16,15,12],[12,16]),([15,17,12],[12,15,17]),([12,18],[12,18])] [0,0,0,6,15,31,63,63,63,447,1023,2047,4095,8191,8191,32767,8191,131071,262143,524287]=true:=by kernel_rfl
theorem sm11a_tab:rtab .any (opsOf Try.f12 11)=(true,[([],[]),([0],[0]),([1,1],[1]),([2],[2]),([3,2,2],[2,3]),([2],[2]),([5,2],[2,5]),([2],[2]),([6,7,2],[2,6,7]),([8,2],[2,8]),([9,2],[2,9]),([4,10,4,2],[2,4,10]),([11,2],[2,11]),([2,12],[2,12])]):=by kernel_rfl
theorem sm11a_bits:waitsOk [([],[]),([0],[0]),([1,1],[1]),([2],[2]),([3,2,2],[2,3]),([2],[2]),([5,2],[2,5]),([2],[2]),([6,7,2],[2,6,7]),([8,2],[2,8]),([9,2],[2,9]),([4,10,4,2],[2,4,10]),([11,2],[2,11]),([2,12],[2,12])] [0,1,3,7,15,7,39,7,231,487,999,2047,4095,8191]=true:=by kernel_rfl
theorem sm11b_tab:rtab .any (opsOf Try.f12 11)=(true,[([],[]),([0],[0]),([1,1],[1]),([2],[2]),([3,2,2],[2,3]),([2],[2]),([5,2],[2,5]),([2],[2]),([6,7,2],[2,6,7]),([8,2],[2,8]),([9,2],[2,9]),([4,10,4,2],[2,4,10]),([11,2],[2,11]),([2,12],[2,12])]):=by kernel_rfl
theorem sm11b_bits:waitsOk [([],[]),([0],[0]),([1,1],[1]),([2],[2]),([3,2,2],[2,3]),([2],[2]),([5,2],[2,5]),([2],[2]),([6,7,2],[2,6,7]),([8,2],[2,8]),([9,2],[2,9]),([4,10,4,2],[2,4,10]),([11,2],[2,11]),([2,12],[2,12])] [0,1,3,7,15,7,39,7,231,487,999,2047,4095,8191]=true:=by kernel_rfl
theorem sm13_tab:rtab .any (opsOf Try.f12 13)=(true,[([],[]),([],[]),([0,1],[0,1]),([],[]),([3,2],[3]),([2,4],[2,4]),([5,4,0,1,2,3,4,5],[5])]):=by kernel_rfl
theorem sm13_bits:waitsOk [([],[]),([],[]),([0,1],[0,1]),([],[]),([3,2],[3]),([2,4],[2,4]),([5,4,0,1,2,3,4,5],[5])] [0,0,3,0,15,31,63]=true:=by kernel_rfl
set_option maxHeartbeats 4000000 in
set_option maxRecDepth 100000 in
theorem FnSame_walk {A:Option Addr} {c:Nat} {code:List Int} (w:World) (hr:Kd.C (Kd.int .u8) w A code.length code) (hc:code.length≤c) (hb:∀b∈code,0≤b∧b<256) :
    Calls Try.prog 12 #[.slice A code.length c] w fun e w'=>e=.returned (.bool true)∧Below w.heap.size w w':=by
  have HC:=AK (And.intro hr (And.intro hc hb))
  clear hr hc hb
  by_cases h20:(1048576:Int)<(code.length:Int)
  · have c1:decide ((1048576:Int)<(code.length:Int))=true:=deT h20
    have c2:decide (1048576<code.length)=true:=deT (by omega)
    have c3:=eq_true (show 1048576<code.length by omega)
    clear h20
    go_enter Try.func12,Try.ntmps12
    go_wp2
    go_ret
    exact⟨rfl,Below.refl _ _⟩
  have c1:decide ((1048576:Int)<(code.length:Int))=false:=deF h20
  have c2:decide (1048576<code.length)=false:=deF (by omega)
  have c3:=eq_false (show ¬ 1048576<code.length by omega)
  clear h20
  go_enter Try.func12,Try.ntmps12
  go_wp2_with fail
  clear c1 c2 c3
  refine(drawSame_c _ HC.out.1 HC.out.2.1 HC.out.2.2).mono ?_
  rintro en w1 ⟨R,B0,d0,B1,d1,B2,d2,B3,d3,S,Q0,t0,Q1,t1,Q2,t2,Q3,t3,rfl,hg,hg2,hi,hj,hb⟩
  have HF:=AK hg.fine
  have HG:=AK hg2.fine
  have HBD:=AK hg
  have HB:=AK hb
  have HI:=AK hi
  have HJ:=AK hj
  clear hg hg2 hi hj hb
  go_upto_region 4 with fail
  have HXY:=And.intro (blk_alloc (blk_new w1 (.cells #[.slice B0 R.o.length d0,.slice B1 R.r.length d1,.slice B2 R.w.length d2,.slice B3 R.d.length d3] 28 (0,0))) (.cells #[.slice Q0 S.o.length t0,.slice Q1 S.r.length t1,.slice Q2 S.w.length t2,.slice Q3 S.d.length t3] 28 (0,0))) (blk_new1 w1 (.cells #[.slice B0 R.o.length d0,.slice B1 R.r.length d1,.slice B2 R.w.length d2,.slice B3 R.d.length d3] 28 (0,0)) (.cells #[.slice Q0 S.o.length t0,.slice Q1 S.r.length t1,.slice Q2 S.w.length t2,.slice Q3 S.d.length t3] 28 (0,0)))
  replace HB:=AK (bst HB.out (below_alloc (below_alloc (Below.refl _ _) (.cells #[.slice B0 R.o.length d0,.slice B1 R.r.length d1,.slice B2 R.w.length d2,.slice B3 R.d.length d3] 28 (0,0))) (.cells #[.slice Q0 S.o.length t0,.slice Q1 S.r.length t1,.slice Q2 S.w.length t2,.slice Q3 S.d.length t3] 28 (0,0))))
  replace HI:=AK (HI.out.below (below_alloc (below_alloc (Below.refl _ _) (.cells #[.slice B0 R.o.length d0,.slice B1 R.r.length d1,.slice B2 R.w.length d2,.slice B3 R.d.length d3] 28 (0,0))) (.cells #[.slice Q0 S.o.length t0,.slice Q1 S.r.length t1,.slice Q2 S.w.length t2,.slice Q3 S.d.length t3] 28 (0,0))))
  replace HJ:=AK (HJ.out.below (below_alloc (below_alloc (Below.refl _ _) (.cells #[.slice B0 R.o.length d0,.slice B1 R.r.length d1,.slice B2 R.w.length d2,.slice B3 R.d.length d3] 28 (0,0))) (.cells #[.slice Q0 S.o.length t0,.slice Q1 S.r.length t1,.slice Q2 S.w.length t2,.slice Q3 S.d.length t3] 28 (0,0))))
  have HX:=AK HXY.1
  have HY:=AK HXY.2
  clear HXY
  generalize ((w1.alloc (.cells #[.slice B0 R.o.length d0,.slice B1 R.r.length d1,.slice B2 R.w.length d2,.slice B3 R.d.length d3] 28 (0,0))).alloc (.cells #[.slice Q0 S.o.length t0,.slice Q1 S.r.length t1,.slice Q2 S.w.length t2,.slice Q3 S.d.length t3] 28 (0,0)))=w3 at HB HI HJ HX HY ⊢
  generalize w1.heap.size=n3 at HX HY ⊢
  obtain⟨p0,p1,p2,p3⟩:=box4 HX.out
  obtain⟨q0,q1,q2,q3⟩:=box4 HY.out
  go_wp2_with fail
  clear p0 p1 p2 p3
  clear q0 q1 q2 q3
  obtain⟨r,er⟩:∃r,r=sameB R.o R.r R.w R.d S.o S.r S.w S.d:=⟨_,rfl⟩
  obtain⟨bo,hbo⟩:∃b,b=okB R.o R.r R.w R.d:=⟨_,rfl⟩
  have ER:=AK er
  have HO:=AK hbo
  have HFR:=AK (show FitH R.o R.w R.d from⟨by have:=HF.out.w;omega,HF.out.f⟩)
  have HFS:=AK (show FitH S.o S.w S.d from⟨by have:=HG.out.w;omega,HG.out.f⟩)
  clear er hbo
  refine(MemSame_calls _ _ _ _ _ _ _ _ _ _ _ _ _ _ _ _ _ _ _ _ _ _ _ _ _ HI.out HJ.out HFR.out HFS.out).mono ?_
  rintro en w4 ⟨rfl,hb⟩
  rw[←ER.out]
  replace HB:=AK (bst HB.out hb)
  replace HI:=AK (HI.out.below hb)
  replace HJ:=AK (HJ.out.below hb)
  replace HX:=AK (bbl HX.out hb)
  replace HY:=AK (bbl HY.out hb)
  clear hb
  have hrr:(r != r)=false:=by cases r<;>rfl
  have hoo:(bo != bo)=false:=by cases bo<;>rfl
  go_upto_region 5 with fail
  replace HB:=AK (bst HB.out (below_drew1 (Below.refl _ _)))
  replace HI:=AK (HI.out.below (below_drew1 (Below.refl _ _)))
  replace HJ:=AK (HJ.out.below (below_drew1 (Below.refl _ _)))
  replace HX:=AK (bbl HX.out (below_drew1 (Below.refl _ _)))
  replace HY:=AK (bbl HY.out (below_drew1 (Below.refl _ _)))
  refine start_ (n:=20) (S:=(fun w'=>(w'.cell? ⟨n3,0,none⟩=some (.slice B0 R.o.length d0)∧w'.cell? ⟨n3,1,none⟩=some (.slice B1 R.r.length d1)∧w'.cell? ⟨n3,2,none⟩=some (.slice B2 R.w.length d2)∧w'.cell? ⟨n3,3,none⟩=some (.slice B3 R.d.length d3))∧w'.cell? ⟨n3+1,0,none⟩=some (.slice Q0 S.o.length t0)∧w'.cell? ⟨n3+1,1,none⟩=some (.slice Q1 S.r.length t1)∧w'.cell? ⟨n3+1,2,none⟩=some (.slice Q2 S.w.length t2)∧w'.cell? ⟨n3+1,3,none⟩=some (.slice Q3 S.d.length t3))) (ds:=[]) #[fF,fF,fF,fF,fF,fF,fF,fF,fF,fF,fF,fF,fF,fF,fF,fF,fF,fF,fF,fF] (by kernel_rfl) rfl rfl ⟨box4 HX.out,box4 HY.out⟩ (fun hHeld=>?_);refine with_tabW sm5_tab sm5_bits (fun HT_ HW_=>?_)
  generalize World.drew w4=v5 at HB HI HJ HX HY hHeld ⊢
  refine pU HT_ 0 (some 20) (bM 20 1) ?_
  refine tU HT_ HW_ 1 (some 21) (bM 20 3) hHeld rfl (by refine Or.inl ⟨by rfl,?_⟩;rintro w' ⟨⟨s_0,s_1,s_2,s_3⟩,s_4,s_5,s_6,s_7⟩;go_simp;with_reducible rfl) ?_
  refine tU HT_ HW_ 2 (some 22) (bM 20 7) hHeld rfl (by refine Or.inl ⟨by rfl,?_⟩;rintro w' ⟨⟨s_0,s_1,s_2,s_3⟩,s_4,s_5,s_6,s_7⟩;go_simp;with_reducible rfl) ?_
  refine one_ (i:=3) (N:=some 23) (bM 20 15) rfl rfl (one_of HT_.out (by kernel_rfl)) (by decide) (fun K hK=>?_)
  refine goes_ Try.func33 (by kernel_rfl) rfl #[.agg #[.slice B0 R.o.length d0,.slice B1 R.r.length d1,.slice B2 R.w.length d2,.slice B3 R.d.length d3],.agg #[.slice Q0 S.o.length t0,.slice Q1 S.r.length t1,.slice Q2 S.w.length t2,.slice Q3 S.d.length t3]] (by rfl) rfl rfl zI ?_
  refine(specSame_calls _ _ _ _ _ _ _ _ _ _ _ _ _ _ _ _ _ _ _ _ _ _ _ _ _ HI.out HJ.out HF.out HG.out).mono ?_
  rintro en v6 ⟨rfl,hb⟩
  rw[←ER.out]
  refine⟨_,rfl,?_⟩
  replace HB:=AK (bst HB.out hb)
  replace HI:=AK (HI.out.below hb)
  replace HJ:=AK (HJ.out.below hb)
  replace HX:=AK (bbl HX.out hb)
  replace HY:=AK (bbl HY.out hb)
  clear hb
  refine hK.out _ _ ⟨box4 HX.out,box4 HY.out⟩ (fun hHeld=>?_)
  clear hK K
  refine nO (some 23) ?_
  refine pU HT_ 4 (some 24) (bM 20 31) ?_
  refine pU HT_ 5 (some 25) (bM 20 63) ?_
  refine pU HT_ 6 (some 26) (bM 20 127) ?_
  refine tU HT_ HW_ 7 (some 27) (bM 20 255) hHeld rfl (by refine Or.inl ⟨by rfl,?_⟩;rintro w' ⟨⟨s_0,s_1,s_2,s_3⟩,s_4,s_5,s_6,s_7⟩;go_simp;with_reducible rfl) ?_
  refine tU HT_ HW_ 8 (some 28) (bM 20 511) hHeld rfl (by refine Or.inl ⟨by rfl,?_⟩;rintro w' ⟨⟨s_0,s_1,s_2,s_3⟩,s_4,s_5,s_6,s_7⟩;go_simp;with_reducible rfl) ?_
  refine one_ (i:=9) (N:=some 29) (bM 20 1023) rfl rfl (one_of HT_.out (by kernel_rfl)) (by decide) (fun K hK=>?_)
  refine goes_ Try.func21 (by kernel_rfl) rfl #[.agg #[.slice Q0 S.o.length t0,.slice Q1 S.r.length t1,.slice Q2 S.w.length t2,.slice Q3 S.d.length t3],.agg #[.slice B0 R.o.length d0,.slice B1 R.r.length d1,.slice B2 R.w.length d2,.slice B3 R.d.length d3]] (by rfl) rfl rfl zI ?_
  refine(MemSame_calls _ _ _ _ _ _ _ _ _ _ _ _ _ _ _ _ _ _ _ _ _ _ _ _ _ HJ.out HI.out HFS.out HFR.out).mono ?_
  rintro en v7 ⟨rfl,hb⟩
  rw[same_symm,←ER.out]
  refine⟨_,rfl,?_⟩
  replace HB:=AK (bst HB.out hb)
  replace HI:=AK (HI.out.below hb)
  replace HJ:=AK (HJ.out.below hb)
  replace HX:=AK (bbl HX.out hb)
  replace HY:=AK (bbl HY.out hb)
  clear hb
  refine hK.out _ _ ⟨box4 HX.out,box4 HY.out⟩ (fun hHeld=>?_)
  clear hK K
  refine nO (some 29) ?_
  refine pU HT_ 10 (some 30) (bM 20 2047) ?_
  refine pU HT_ 11 (some 31) (bM 20 4095) ?_
  refine pU HT_ 12 (some 32) (bM 20 8191) ?_
  refine tU HT_ HW_ 13 (some 33) (bM 20 16383) hHeld rfl (by refine Or.inl ⟨by rfl,?_⟩;rintro w' ⟨⟨s_0,s_1,s_2,s_3⟩,s_4,s_5,s_6,s_7⟩;go_simp;with_reducible rfl) ?_
  refine tU HT_ HW_ 14 (some 34) (bM 20 32767) hHeld rfl (by refine Or.inl ⟨by rfl,?_⟩;rintro w' ⟨⟨s_0,s_1,s_2,s_3⟩,s_4,s_5,s_6,s_7⟩;go_simp;with_reducible rfl) ?_
  refine tU HT_ HW_ 16 (some 36) (bM 20 98303) hHeld rfl (by refine Or.inl ⟨by rfl,?_⟩;rintro w' ⟨⟨s_0,s_1,s_2,s_3⟩,s_4,s_5,s_6,s_7⟩;go_simp;with_reducible rfl) ?_
  refine one_ (i:=15) (N:=some 35) (bM 20 131071) rfl rfl (one_of HT_.out (by kernel_rfl)) (by decide) (fun K hK=>?_)
  refine goes_ Try.func21 (by kernel_rfl) rfl #[.agg #[.slice B0 R.o.length d0,.slice B1 R.r.length d1,.slice B2 R.w.length d2,.slice B3 R.d.length d3],.agg #[.slice B0 R.o.length d0,.slice B1 R.r.length d1,.slice B2 R.w.length d2,.slice B3 R.d.length d3]] (by rfl) rfl rfl zI ?_
  refine(MemSame_calls _ _ _ _ _ _ _ _ _ _ _ _ _ _ _ _ _ _ _ _ _ _ _ _ _ HI.out HI.out HFR.out HFR.out).mono ?_
  rintro en v8 ⟨rfl,hb⟩
  rw[same_refl,←HO.out]
  refine⟨_,rfl,?_⟩
  replace HB:=AK (bst HB.out hb)
  replace HI:=AK (HI.out.below hb)
  replace HJ:=AK (HJ.out.below hb)
  replace HX:=AK (bbl HX.out hb)
  replace HY:=AK (bbl HY.out hb)
  clear hb
  refine hK.out _ _ ⟨box4 HX.out,box4 HY.out⟩ (fun hHeld=>?_)
  clear hK K
  refine nO (some 35) ?_
  refine one_ (i:=17) (N:=some 37) (bM 20 262143) rfl rfl (one_of HT_.out (by kernel_rfl)) (by decide) (fun K hK=>?_)
  refine goes_ Try.func23 (by kernel_rfl) rfl #[.agg #[.slice B0 R.o.length d0,.slice B1 R.r.length d1,.slice B2 R.w.length d2,.slice B3 R.d.length d3]] (by rfl) rfl rfl zI ?_
  refine(specOk_c HI.out (by have:=HF.out.o;omega) HF.out.f (by have:=HF.out.r;omega) (by have:=HF.out.w;omega)).mono ?_
  rintro en v9 ⟨rfl,hb⟩
  rw[←HO.out]
  refine⟨_,rfl,?_⟩
  replace HB:=AK (bst HB.out hb)
  replace HI:=AK (HI.out.below hb)
  replace HJ:=AK (HJ.out.below hb)
  replace HX:=AK (bbl HX.out hb)
  replace HY:=AK (bbl HY.out hb)
  clear hb
  refine hK.out _ _ ⟨box4 HX.out,box4 HY.out⟩ (fun hHeld=>?_)
  clear hK K
  refine nO (some 37) ?_
  refine pU HT_ 18 (some 38) (bM 20 524287) ?_
  refine pU HT_ 19 (some 39) (bM 20 1048575) ?_
  refine done_ (done_of HT_.out (by kernel_rfl)) ?_
  clear HT_ HW_ hHeld hrr hoo
  obtain⟨p0,p1,p2,p3⟩:=box4 HX.out
  go_wp2_with fail
  clear p0 p1 p2 p3
  clear HY HJ
  obtain⟨M,mv,eM⟩:∃M mv,(M,mv)=collectB R:=⟨_,_,rfl⟩
  refine(MemCollect_calls _ _ _ _ _ _ _ _ _ _ _ _ _ HI.out ⟨by have:=HF.out.w;omega,HF.out.f⟩ M mv eM).mono ?_
  rintro en w6 ⟨U0,s0,U1,s1,U2,s2,U3,s3,F,fc,rfl,hO,hb⟩
  have EM:=AK (show M=(collectB R).1 from congrArg Prod.fst eM)
  have HU:=AK hO.own.reads
  have HMB:=AK (show BdH M from by
    rw[EM.out];exact bd_ok (collect_ok R) (txh_collect HBD.out.t))
  replace HB:=AK (bst HB.out hb)
  replace HI:=AK (HI.out.below hb)
  replace HX:=AK (bbl HX.out hb)
  clear hO hb eM
  go_upto_region 8 with fail
  have HZ:=AK (blk_new w6 (.cells #[.slice U0 M.o.length s0,.slice U1 M.r.length s1,.slice U2 M.w.length s2,.slice U3 M.d.length s3] 28 (0,0)))
  replace HB:=AK (bst HB.out (below_alloc (Below.refl _ _) (.cells #[.slice U0 M.o.length s0,.slice U1 M.r.length s1,.slice U2 M.w.length s2,.slice U3 M.d.length s3] 28 (0,0))))
  replace HI:=AK (HI.out.below (below_alloc (Below.refl _ _) (.cells #[.slice U0 M.o.length s0,.slice U1 M.r.length s1,.slice U2 M.w.length s2,.slice U3 M.d.length s3] 28 (0,0))))
  replace HX:=AK (bbl HX.out (below_alloc (Below.refl _ _) (.cells #[.slice U0 M.o.length s0,.slice U1 M.r.length s1,.slice U2 M.w.length s2,.slice U3 M.d.length s3] 28 (0,0))))
  replace HU:=AK (HU.out.below (below_alloc (Below.refl _ _) (.cells #[.slice U0 M.o.length s0,.slice U1 M.r.length s1,.slice U2 M.w.length s2,.slice U3 M.d.length s3] 28 (0,0))))
  generalize w6.alloc (.cells #[.slice U0 M.o.length s0,.slice U1 M.r.length s1,.slice U2 M.w.length s2,.slice U3 M.d.length s3] 28 (0,0))=w7 at HB HI HX HU HZ ⊢
  generalize w6.heap.size=n6 at HZ ⊢
  have HD:=AK (Held.zero bo R)
  have HLW:=AK (show R.w.length≤21 by have:=HBD.out.w;omega)
  go_wp2_with fail
  go_loopg [8] R.w.length (fun kq v8 w'=>∃i:Int,v8=.int .i64 i∧Aside0 (0≤i∧i+kq=R.w.length)∧Aside0 (Held bo R i)∧Aside0 (Below w.heap.size w w')∧Aside0 (InH w' B0 d0 B1 d1 B2 d2 B3 d3 R.o R.r R.w R.d)∧Aside0 (w'.heap[n3]?=some (.cells #[.slice B0 R.o.length d0,.slice B1 R.r.length d1,.slice B2 R.w.length d2,.slice B3 R.d.length d3] 28 (0,0)))∧Aside0 (InH w' U0 s0 U1 s1 U2 s2 U3 s3 M.o M.r M.w M.d)∧Aside0 (w'.heap[n6]?=some (.cells #[.slice U0 M.o.length s0,.slice U1 M.r.length s1,.slice U2 M.w.length s2,.slice U3 M.d.length s3] 28 (0,0))))
  case atStart=>exact⟨0,rfl,⟨by omega,by omega⟩,HD,HB,HI,HX,HU,HZ⟩
  case round=>
    clear HD HB HI HX HU HZ
    obtain⟨i,rfl,HJ1,HD,HB,HI,HX,HU,HZ⟩:=hrel
    obtain⟨p0,p1,p2,p3⟩:=box4 HX.out
    cases gk with
    | succ k1=>
      have c9:decide (i<(R.w.length:Int))=true:=deT (by have:=HJ1.out;omega)
      have hi0:=eq_true (show 0≤i by have:=HJ1.out;omega)
      have hi1:=eq_true (show i<(R.w.length:Int)by have:=HJ1.out;omega)
      obtain⟨ad,e1,y0,y1⟩:=at_T60 HI.out.r2 i (by have:=HJ1.out;omega) (by have:=HJ1.out;omega)
      subst e1
      have hstep:=@Held.step bo R i (by have:=HJ1.out;omega) (by have:=HJ1.out;omega)
      obtain⟨z,ez⟩:∃z,z=rd_T60 R.w i:=⟨_,rfl⟩
      rw[←ez]at y0 y1 hstep
      have HST:=AK hstep
      have HY1:=AK y1
      clear ez hstep y0
      go_upto_region 11 with fail
      clear p0 p1 p2 p3 c9 y1
      cases bo
      · skip
        replace HB:=AK (bst HB.out (below_drew1 (Below.refl _ _)))
        replace HI:=AK (HI.out.below (below_drew1 (Below.refl _ _)))
        replace HX:=AK (bbl HX.out (below_drew1 (Below.refl _ _)))
        replace HU:=AK (HU.out.below (below_drew1 (Below.refl _ _)))
        replace HZ:=AK (bbl HZ.out (below_drew1 (Below.refl _ _)))
        replace HY1:=AK (pcb (below_drew1 (Below.refl _ _)) HY1.out)
        refine start_ (n:=14) (S:=(fun w'=>(w'.cell? ⟨n3,0,none⟩=some (.slice B0 R.o.length d0)∧w'.cell? ⟨n3,1,none⟩=some (.slice B1 R.r.length d1)∧w'.cell? ⟨n3,2,none⟩=some (.slice (some ad) R.w.length d2)∧w'.cell? ⟨n3,3,none⟩=some (.slice B3 R.d.length d3))∧w'.cell? ⟨(ad.add (i.toNat*2)).block,(ad.add (i.toNat*2)).off+1,none⟩=some (.int .i64 z.f1))) (ds:=[]) #[fF,fF,fF,fF,fF,fF,fF,fF,fF,fF,fF,fF,fF,fF] (by kernel_rfl) rfl rfl ⟨box4 HX.out,HY1.out⟩ (fun hHeld=>?_);refine with_tabW sm11a_tab sm11a_bits (fun HT_ HW_=>?_)
        generalize World.drew wr=v5 at HB HI HX HU HZ HY1 hHeld ⊢
        refine tU HT_ HW_ 0 (some 52) (bM 14 1) hHeld rfl (by refine Or.inl ⟨by rfl,?_⟩;rintro w' ⟨⟨s_0,s_1,s_2,s_3⟩,s_4⟩;go_simp;with_reducible rfl) ?_
        refine one_ (i:=1) (N:=some 53) (bM 14 3) rfl rfl (one_of HT_.out (by kernel_rfl)) (by decide) (fun K hK=>?_)
        refine goes_ Try.func23 (by kernel_rfl) rfl #[.agg #[.slice B0 R.o.length d0,.slice B1 R.r.length d1,.slice (some ad) R.w.length d2,.slice B3 R.d.length d3]] (by rfl) rfl rfl zI ?_
        refine(specOk_c HI.out (by have:=HF.out.o;omega) HF.out.f (by have:=HF.out.r;omega) (by have:=HF.out.w;omega)).mono ?_
        rintro en v6 ⟨rfl,hb⟩
        rw[←HO.out]
        refine⟨_,rfl,?_⟩
        replace HB:=AK (bst HB.out hb)
        replace HI:=AK (HI.out.below hb)
        replace HX:=AK (bbl HX.out hb)
        replace HU:=AK (HU.out.below hb)
        replace HZ:=AK (bbl HZ.out hb)
        replace HY1:=AK (pcb hb HY1.out)
        clear hb
        refine hK.out _ _ ⟨box4 HX.out,HY1.out⟩ (fun hHeld=>?_)
        clear hK K
        refine nO (some 53) ?_
        refine pU HT_ 2 (some 54) (bM 14 7) ?_
        refine pure_ (i:=3) (N:=some 55) (v:=undef) (a':=?_) #[tT,tT,tT,tT,fF,fF,fF,fF,fF,fF,fF,fF,fF,fF] rfl rfl (any_of HT_.out (by kernel_rfl)) (fun _ _ _ h=>h) (Or.inr ⟨by rfl,rfl⟩) ?_ ?_
        rotate_left
        · exact zP
        refine pure_ (i:=4) (N:=some 56) (v:=undef) (a':=?_) #[tT,tT,tT,tT,tT,fF,fF,fF,fF,fF,fF,fF,fF,fF] rfl rfl (any_of HT_.out (by kernel_rfl)) (fun _ _ _ h=>h) (Or.inr ⟨by rfl,rfl⟩) ?_ ?_
        rotate_left
        · exact zP
        refine pure_ (i:=5) (N:=some 57) (v:=undef) (a':=?_) #[tT,tT,tT,tT,tT,tT,fF,fF,fF,fF,fF,fF,fF,fF] rfl rfl (any_of HT_.out (by kernel_rfl)) (fun _ _ _ h=>h) (Or.inr ⟨by rfl,rfl⟩) ?_ ?_
        rotate_left
        · exact zP
        refine pure_ (i:=6) (N:=some 58) (v:=undef) (a':=?_) #[tT,tT,tT,tT,tT,tT,tT,fF,fF,fF,fF,fF,fF,fF] rfl rfl (any_of HT_.out (by kernel_rfl)) (fun _ _ _ h=>h) (Or.inr ⟨by rfl,rfl⟩) ?_ ?_
        rotate_left
        · exact zP
        refine pure_ (i:=7) (N:=some 59) (v:=undef) (a':=?_) #[tT,tT,tT,tT,tT,tT,tT,tT,fF,fF,fF,fF,fF,fF] rfl rfl (any_of HT_.out (by kernel_rfl)) (fun _ _ _ h=>h) (Or.inr ⟨by rfl,rfl⟩) ?_ ?_
        rotate_left
        · exact zP
        refine pure_ (i:=8) (N:=some 60) (v:=undef) (a':=?_) #[tT,tT,tT,tT,tT,tT,tT,tT,tT,fF,fF,fF,fF,fF] rfl rfl (any_of HT_.out (by kernel_rfl)) (fun _ _ _ h=>h) (Or.inr ⟨by rfl,rfl⟩) ?_ ?_
        rotate_left
        · exact zP
        refine pure_ (i:=9) (N:=some 61) (v:=undef) (a':=?_) #[tT,tT,tT,tT,tT,tT,tT,tT,tT,tT,fF,fF,fF,fF] rfl rfl (any_of HT_.out (by kernel_rfl)) (fun _ _ _ h=>h) (Or.inr ⟨by rfl,rfl⟩) ?_ ?_
        rotate_left
        · exact zP
        refine pure_ (i:=10) (N:=some 62) (v:=undef) (a':=?_) #[tT,tT,tT,tT,tT,tT,tT,tT,tT,tT,tT,fF,fF,fF] rfl rfl (any_of HT_.out (by kernel_rfl)) (fun _ _ _ h=>h) (Or.inr ⟨by rfl,rfl⟩) ?_ ?_
        rotate_left
        · exact zP
        refine pure_ (i:=11) (N:=some 63) (v:=undef) (a':=?_) #[tT,tT,tT,tT,tT,tT,tT,tT,tT,tT,tT,tT,fF,fF] rfl rfl (any_of HT_.out (by kernel_rfl)) (fun _ _ _ h=>h) (Or.inr ⟨by rfl,rfl⟩) ?_ ?_
        rotate_left
        · exact zP
        refine pure_ (i:=12) (N:=some 64) (v:=undef) (a':=?_) #[tT,tT,tT,tT,tT,tT,tT,tT,tT,tT,tT,tT,tT,fF] rfl rfl (any_of HT_.out (by kernel_rfl)) (fun _ _ _ h=>h) (Or.inr ⟨by rfl,rfl⟩) ?_ ?_
        rotate_left
        · exact zP
        refine pU HT_ 13 (some 65) (bM 14 16383) ?_
        refine done_ (done_of HT_.out (by kernel_rfl)) ?_
        clear HT_ HW_ hHeld
        go_wp2
        go_roundg k1
        case measure=>omega
        case rel=>
          rw[wrap_succ i (by have:=HJ1.out;omega) (by have:=HJ1.out;have:=HLW.out;omega)]
          exact⟨i+1,rfl,⟨by have:=HJ1.out;omega,by have:=HJ1.out;omega⟩,⟨Held.off R (i+1)⟩,HB,HI,HX,HU,HZ⟩
      · skip
        have HKO:=AK (show OkH R.o R.r R.w R.d from ok_parts HO.out.symm)
        replace HB:=AK (bst HB.out (below_drew1 (Below.refl _ _)))
        replace HI:=AK (HI.out.below (below_drew1 (Below.refl _ _)))
        replace HX:=AK (bbl HX.out (below_drew1 (Below.refl _ _)))
        replace HU:=AK (HU.out.below (below_drew1 (Below.refl _ _)))
        replace HZ:=AK (bbl HZ.out (below_drew1 (Below.refl _ _)))
        replace HY1:=AK (pcb (below_drew1 (Below.refl _ _)) HY1.out)
        refine start_ (n:=14) (S:=(fun w'=>(w'.cell? ⟨n3,0,none⟩=some (.slice B0 R.o.length d0)∧w'.cell? ⟨n3,1,none⟩=some (.slice B1 R.r.length d1)∧w'.cell? ⟨n3,2,none⟩=some (.slice (some ad) R.w.length d2)∧w'.cell? ⟨n3,3,none⟩=some (.slice B3 R.d.length d3))∧w'.cell? ⟨(ad.add (i.toNat*2)).block,(ad.add (i.toNat*2)).off+1,none⟩=some (.int .i64 z.f1))) (ds:=[]) #[fF,fF,fF,fF,fF,fF,fF,fF,fF,fF,fF,fF,fF,fF] (by kernel_rfl) rfl rfl ⟨box4 HX.out,HY1.out⟩ (fun hHeld=>?_);refine with_tabW sm11b_tab sm11b_bits (fun HT_ HW_=>?_)
        generalize World.drew wr=v5 at HB HI HX HU HZ HY1 hHeld ⊢
        refine tU HT_ HW_ 0 (some 52) (bM 14 1) hHeld rfl (by refine Or.inl ⟨by rfl,?_⟩;rintro w' ⟨⟨s_0,s_1,s_2,s_3⟩,s_4⟩;go_simp;with_reducible rfl) ?_
        refine one_ (i:=1) (N:=some 53) (bM 14 3) rfl rfl (one_of HT_.out (by kernel_rfl)) (by decide) (fun K hK=>?_)
        refine goes_ Try.func23 (by kernel_rfl) rfl #[.agg #[.slice B0 R.o.length d0,.slice B1 R.r.length d1,.slice (some ad) R.w.length d2,.slice B3 R.d.length d3]] (by rfl) rfl rfl zI ?_
        refine(specOk_c HI.out (by have:=HF.out.o;omega) HF.out.f (by have:=HF.out.r;omega) (by have:=HF.out.w;omega)).mono ?_
        rintro en v6 ⟨rfl,hb⟩
        rw[←HO.out]
        refine⟨_,rfl,?_⟩
        replace HB:=AK (bst HB.out hb)
        replace HI:=AK (HI.out.below hb)
        replace HX:=AK (bbl HX.out hb)
        replace HU:=AK (HU.out.below hb)
        replace HZ:=AK (bbl HZ.out hb)
        replace HY1:=AK (pcb hb HY1.out)
        clear hb
        refine hK.out _ _ ⟨box4 HX.out,HY1.out⟩ (fun hHeld=>?_)
        clear hK K
        refine nO (some 53) ?_
        refine pU HT_ 2 (some 54) (bM 14 7) ?_
        refine tU HT_ HW_ 3 (some 55) (bM 14 15) hHeld rfl (by refine Or.inl ⟨by rfl,?_⟩;rintro w' ⟨⟨s_0,s_1,s_2,s_3⟩,s_4⟩;go_simp;with_reducible rfl) ?_
        refine pU HT_ 5 (some 57) (bM 14 47) ?_
        refine tU HT_ HW_ 6 (some 58) (bM 14 111) hHeld rfl (by refine Or.inl ⟨by rfl,?_⟩;rintro w' ⟨⟨s_0,s_1,s_2,s_3⟩,s_4⟩;go_simp;with_reducible rfl) ?_
        refine pU HT_ 7 (some 59) (bM 14 239) ?_
        refine pU HT_ 8 (some 60) (bM 14 495) ?_
        refine pU HT_ 9 (some 61) (bM 14 1007) ?_
        refine tU HT_ HW_ 10 (some 62) (bM 14 2031) hHeld rfl (by refine Or.inl ⟨by rfl,?_⟩;rintro w' ⟨⟨s_0,s_1,s_2,s_3⟩,s_4⟩;go_simp;with_reducible rfl) ?_
        refine one_ (i:=4) (N:=some 56) (bM 14 2047) rfl rfl (one_of HT_.out (by kernel_rfl)) (by decide) (fun K hK=>?_)
        refine goes_ Try.func36 (by kernel_rfl) rfl #[.agg #[.slice B0 R.o.length d0,.slice B1 R.r.length d1,.slice (some ad) R.w.length d2,.slice B3 R.d.length d3]] (by rfl) rfl rfl zI ?_
        refine(wKnown_c HI.out HKO.out).mono ?_
        rintro en v7 ⟨X,xc,x,rfl,hx,hxl,hr,hb⟩
        have HXM:=AK (Kd.R_reads' hr).2.2
        have HXK:=AK hx
        obtain⟨b,hbb⟩:∃b,decide (z.f1∈x)=b:=⟨_,rfl⟩
        have HBB:=AK hbb
        refine⟨_,rfl,?_⟩
        replace HB:=AK (bst HB.out hb)
        replace HI:=AK (HI.out.below hb)
        replace HX:=AK (bbl HX.out hb)
        replace HU:=AK (HU.out.below hb)
        replace HZ:=AK (bbl HZ.out hb)
        replace HY1:=AK (pcb hb HY1.out)
        clear hr hb hx hxl hbb
        refine hK.out _ _ ⟨box4 HX.out,HY1.out⟩ (fun hHeld=>?_)
        clear hK K
        refine nO (some 56) ?_
        refine one_ (i:=11) (N:=some 63) (bM 14 4095) rfl rfl (one_of HT_.out (by kernel_rfl)) (by decide) (fun K hK=>?_)
        refine goes_ Try.func37 (by kernel_rfl) rfl #[.slice X x.length xc,.int .i64 z.f1] (by rfl) rfl rfl zI ?_
        refine(wHas_s HXM.out z.f1).mono ?_
        rintro en v8 ⟨rfl,rfl⟩
        rw[HBB.out]
        refine⟨_,rfl,?_⟩
        refine hK.out _ _ ⟨box4 HX.out,HY1.out⟩ (fun hHeld=>?_)
        clear hK K
        refine nO (some 63) ?_
        refine pU HT_ 12 (some 64) (bM 14 8191) ?_
        refine pU HT_ 13 (some 65) (bM 14 16383) ?_
        refine done_ (done_of HT_.out (by kernel_rfl)) ?_
        clear HT_ HW_ hHeld
        cases b
        · skip
          go_wp2
          go_ret
          exact⟨rfl,HB.out⟩
        · skip
          go_wp2
          go_roundg k1
          case measure=>omega
          case rel=>
            rw[wrap_succ i (by have:=HJ1.out;omega) (by have:=HJ1.out;have:=HLW.out;omega)]
            exact⟨i+1,rfl,⟨by have:=HJ1.out;omega,by have:=HJ1.out;omega⟩,⟨HST.out HD.out ((HXK.out z.f1).1 (of_decide_eq_true HBB.out))⟩,HB,HI,HX,HU,HZ⟩
    | zero=>
      have c9:decide (i<(R.w.length:Int))=false:=deF (by have:=HJ1.out;omega)
      have HSC:=AK (show sameB R.o R.r R.w R.d M.o M.r M.w M.d=bo from by
        rw[EM.out];exact Held.all HD.out (by have:=HJ1.out;omega) HO.out)
      have hoo:(bo == bo)=true:=by cases bo<;>rfl
      go_upto_region 13 with fail
      clear c9 p0 p1 p2 p3
      have HFM:=AK (show FitH M.o M.w M.d from⟨by have:=HMB.out.fine.w;omega,HMB.out.fine.f⟩)
      replace HB:=AK (bst HB.out (below_drew1 (Below.refl _ _)))
      replace HI:=AK (HI.out.below (below_drew1 (Below.refl _ _)))
      replace HX:=AK (bbl HX.out (below_drew1 (Below.refl _ _)))
      replace HU:=AK (HU.out.below (below_drew1 (Below.refl _ _)))
      replace HZ:=AK (bbl HZ.out (below_drew1 (Below.refl _ _)))
      refine start_ (n:=7) (S:=(fun w'=>(w'.cell? ⟨n3,0,none⟩=some (.slice B0 R.o.length d0)∧w'.cell? ⟨n3,1,none⟩=some (.slice B1 R.r.length d1)∧w'.cell? ⟨n3,2,none⟩=some (.slice B2 R.w.length d2)∧w'.cell? ⟨n3,3,none⟩=some (.slice B3 R.d.length d3))∧w'.cell? ⟨n6,0,none⟩=some (.slice U0 M.o.length s0)∧w'.cell? ⟨n6,1,none⟩=some (.slice U1 M.r.length s1)∧w'.cell? ⟨n6,2,none⟩=some (.slice U2 M.w.length s2)∧w'.cell? ⟨n6,3,none⟩=some (.slice U3 M.d.length s3))) (ds:=[]) #[fF,fF,fF,fF,fF,fF,fF] (by kernel_rfl) rfl rfl ⟨box4 HX.out,box4 HZ.out⟩ (fun hHeld=>?_);refine with_tabW sm13_tab sm13_bits (fun HT_ HW_=>?_)
      generalize World.drew wr=v5 at HB HI HX HU HZ hHeld ⊢
      refine tU HT_ HW_ 0 (some 66) (bM 7 1) hHeld rfl (by refine Or.inl ⟨by rfl,?_⟩;rintro w' ⟨⟨s_0,s_1,s_2,s_3⟩,s_4,s_5,s_6,s_7⟩;go_simp;with_reducible rfl) ?_
      refine tU HT_ HW_ 1 (some 67) (bM 7 3) hHeld rfl (by refine Or.inl ⟨by rfl,?_⟩;rintro w' ⟨⟨s_0,s_1,s_2,s_3⟩,s_4,s_5,s_6,s_7⟩;go_simp;with_reducible rfl) ?_
      refine tU HT_ HW_ 3 (some 69) (bM 7 11) hHeld rfl (by refine Or.inl ⟨by rfl,?_⟩;rintro w' ⟨⟨s_0,s_1,s_2,s_3⟩,s_4,s_5,s_6,s_7⟩;go_simp;with_reducible rfl) ?_
      refine one_ (i:=2) (N:=some 68) (bM 7 15) rfl rfl (one_of HT_.out (by kernel_rfl)) (by decide) (fun K hK=>?_)
      refine goes_ Try.func21 (by kernel_rfl) rfl #[.agg #[.slice B0 R.o.length d0,.slice B1 R.r.length d1,.slice B2 R.w.length d2,.slice B3 R.d.length d3],.agg #[.slice U0 M.o.length s0,.slice U1 M.r.length s1,.slice U2 M.w.length s2,.slice U3 M.d.length s3]] (by rfl) rfl rfl zI ?_
      refine(MemSame_calls _ _ _ _ _ _ _ _ _ _ _ _ _ _ _ _ _ _ _ _ _ _ _ _ _ HI.out HU.out HFR.out HFM.out).mono ?_
      rintro en v6 ⟨rfl,hb⟩
      rw[HSC.out]
      refine⟨_,rfl,?_⟩
      replace HB:=AK (bst HB.out hb)
      replace HI:=AK (HI.out.below hb)
      replace HX:=AK (bbl HX.out hb)
      replace HU:=AK (HU.out.below hb)
      replace HZ:=AK (bbl HZ.out hb)
      clear hb
      refine hK.out _ _ ⟨box4 HX.out,box4 HZ.out⟩ (fun hHeld=>?_)
      clear hK K
      refine nO (some 68) ?_
      refine one_ (i:=4) (N:=some 70) (bM 7 31) rfl rfl (one_of HT_.out (by kernel_rfl)) (by decide) (fun K hK=>?_)
      refine goes_ Try.func23 (by kernel_rfl) rfl #[.agg #[.slice B0 R.o.length d0,.slice B1 R.r.length d1,.slice B2 R.w.length d2,.slice B3 R.d.length d3]] (by rfl) rfl rfl zI ?_
      refine(specOk_c HI.out (by have:=HF.out.o;omega) HF.out.f (by have:=HF.out.r;omega) (by have:=HF.out.w;omega)).mono ?_
      rintro en v7 ⟨rfl,hb⟩
      rw[←HO.out]
      refine⟨_,rfl,?_⟩
      replace HB:=AK (bst HB.out hb)
      replace HI:=AK (HI.out.below hb)
      replace HX:=AK (bbl HX.out hb)
      replace HU:=AK (HU.out.below hb)
      replace HZ:=AK (bbl HZ.out hb)
      clear hb
      refine hK.out _ _ ⟨box4 HX.out,box4 HZ.out⟩ (fun hHeld=>?_)
      clear hK K
      refine nO (some 70) ?_
      refine pU HT_ 5 (some 71) (bM 7 63) ?_
      refine pU HT_ 6 (some 2) (bM 7 127) ?_
      refine done_ (done_of HT_.out (by kernel_rfl)) ?_
      clear HT_ HW_ hHeld
      go_wp2
      go_ret
      exact⟨rfl,HB.out⟩
end Go.Proofs.Ytigjhfijkdlldaa.H
