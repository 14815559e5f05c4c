import Derived.Test.YtigjhfijkdlldaaSfpDs
import Derived.Test.YtigjhfijkdlldaaSfpHik
import Derived.Test.YtigjhfijkdlldaaSfpYw
import Derived.Test.YtigjhfijkdlldaaSfpDh
import Derived.Lib.Strings
namespace Go.Proofs.Ytigjhfijkdlldaa.H
open Go.RowKit Go.Proofs.YtigjhfijkdlldaaW.PrintWords Go.Proofs.YtigjhfijkdlldaaW.PrintLast Go.Proofs.YtigjhfijkdlldaaW.PrintMore Go.Proofs.Ytigjhfijkdlldaa.Q
set_option linter.unusedVariables false
set_option linter.unusedSimpArgs false
theorem OwnX.reads {w:World} {base:Nat} {A0 A1 A2 A3:Option Addr} {c0 c1 c2 c3:Nat} {G:Hp} (h:OwnX w base A0 c0 A1 c1 A2 c2 A3 c3 G):InH w A0 c0 A1 c1 A2 c2 A3 c3 G.o G.r G.w G.d:=by
  obtain⟨⟨x,ho⟩,hk⟩:=h
  have r:=ho.reads
  exact⟨r.r0,r.r1,r.r2,r.r3,r.k0,r.k1,r.k2,hk⟩
theorem OwnX.below {w w1:World} {base:Nat} {A0 A1 A2 A3:Option Addr} {c0 c1 c2 c3:Nat} {G:Hp} (h:OwnX w base A0 c0 A1 c1 A2 c2 A3 c3 G) (hb:Below w.heap.size w w1):OwnX w1 base A0 c0 A1 c1 A2 c2 A3 c3 G:=by
  obtain⟨⟨x,ho⟩,hk⟩:=h
  exact⟨⟨x,ho.below hb⟩,hk⟩
theorem OwnX.lower {w:World} {base lo:Nat} {A0 A1 A2 A3:Option Addr} {c0 c1 c2 c3:Nat} {G:Hp} (h:OwnX w base A0 c0 A1 c1 A2 c2 A3 c3 G) (hb:lo≤base):OwnX w lo A0 c0 A1 c1 A2 c2 A3 c3 G:=by
  obtain⟨⟨x,ho⟩,hk⟩:=h
  exact⟨⟨x,OwnH.lower ho hb⟩,hk⟩
theorem OwnX.set4 {w:World} {base g:Nat} {A0 A1 A2 A3:Option Addr} {c0 c1 c2 c3:Nat} {G:Hp} {cs:Array Value} {p q r s:Value} (h:OwnX w base A0 c0 A1 c1 A2 c2 A3 c3 G) (hb:w.heap[g]?=some (.cells cs 28 (0,0))):OwnX (H.set4 w g p q r s) base A0 c0 A1 c1 A2 c2 A3 c3 G:=by
  obtain⟨⟨x,ho⟩,hk⟩:=h
  exact⟨⟨x,OwnH.set4 ho hb⟩,hk⟩
theorem cut29_to {K:Option Addr} {n c k:Nat} {j:Int} (h0:0≤j) (hm:j≤n) (hc:n≤c) (hk:k=j.toNat):∀W:World,(Instr.slice 29 (.slice K n c) none (some (.int .i64 j)) none).run Try.prog W=.ok (.slice K k c) W:=by
  subst hk
  obtain⟨i0,hinf,_⟩:=info_parts info40
  exact cut_to 29 40 .i64 Try.underlying29 hinf K n c j h0 hm hc
theorem cut29_from {w:World} {K:Option Addr} {c:Nat} {j:Int} {es eb:List S40} (h:Kd.C k40 w K es.length es) (hc:es.length≤c) (h0:0≤j) (hm:j≤es.length) (he:eb=es.drop j.toNat):∃(K2:Option Addr) (c2:Nat),(∀W:World,(Instr.slice 29 (.slice K es.length c) (some (.int .i64 j)) none none).run Try.prog W=.ok (.slice K2 eb.length c2) W)∧Kd.C k40 w K2 eb.length eb:=by
  subst he
  obtain⟨i0,hinf,_,hsz,_⟩:=info_parts info40
  have h1:=Kd.C_drop (m:=j.toNat) h (by omega) hc
  refine⟨_,c - j.toNat,?_,h1⟩
  rw[List.length_drop]
  exact cut_from 29 40 .i64 Try.underlying29 hinf _ hsz K es.length c j h0 hm
theorem tell_no {t:ByteArray} (h:Tell t):(t.toList == ([110,111]:List UInt8))=false∧(t.toList == ([102,117,108,108]:List UInt8))=false:=by
  refine⟨beq_eq_false_iff_ne.2 fun e=>h.1 (WideShapes.bytes_inj ?_),beq_eq_false_iff_ne.2 fun e=>h.2 (WideShapes.bytes_inj ?_)⟩
  · rw[←Lib.toList_data,e];rfl
  · rw[←Lib.toList_data,e];rfl
theorem same_text {S R:Hp} {t:ByteArray} (h:S=R∨Tell t) (ht:((t.toList == ([110,111]:List UInt8)) || (t.toList == ([102,117,108,108]:List UInt8)))=true):S=R:=by
  rcases h with h|h
  · exact h
  · rw[(tell_no h).1,(tell_no h).2]at ht;cases ht
theorem fs16_tab:rtab .any (opsOf Try.f13 16)=(true,[([],[]),([],[]),([],[]),([1,2],[1,2]),([0,3],[0,3]),([4],[4]),([5],[5]),([5],[5]),([],[]),([8,6,4,0,1,2,3,4,5,6,8],[6,8]),([7,9,0,1,2,3,4,5,6,7,8,9],[7])]):=by kernel_rfl
theorem fs16_bits:waitsOk [([],[]),([],[]),([],[]),([1,2],[1,2]),([0,3],[0,3]),([4],[4]),([5],[5]),([5],[5]),([],[]),([8,6,4,0,1,2,3,4,5,6,8],[6,8]),([7,9,0,1,2,3,4,5,6,7,8,9],[7])] [0,0,0,6,15,31,63,63,0,383,1023]=true:=by kernel_rfl
theorem fs17_tab:rtab .any (opsOf Try.f13 17)=(true,[([],[]),([],[]),([],[]),([1,2],[1,2]),([0,3],[0,3]),([4],[4]),([5],[5]),([5],[5]),([],[]),([8,6,4,0,1,2,3,4,5,6,8],[6,8]),([7,9,0,1,2,3,4,5,6,7,8,9],[7])]):=by kernel_rfl
theorem fs17_bits:waitsOk [([],[]),([],[]),([],[]),([1,2],[1,2]),([0,3],[0,3]),([4],[4]),([5],[5]),([5],[5]),([],[]),([8,6,4,0,1,2,3,4,5,6,8],[6,8]),([7,9,0,1,2,3,4,5,6,7,8,9],[7])] [0,0,0,6,15,31,63,63,0,383,1023]=true:=by kernel_rfl
set_option maxHeartbeats 4000000 in
set_option maxRecDepth 100000 in
theorem FnStep_walk {A Z:Option Addr} {c z:Nat} {code more:List Int} (w:World) (hr:Kd.C (Kd.int .u8) w A code.length code) (hc:code.length≤c) (hb:∀b∈code,0≤b∧b<256) (hr2:Kd.C (Kd.int .u8) w Z more.length more) (hc2:more.length≤z) (hb2:∀b∈more,0≤b∧b<256) :
    Calls Try.prog 13 #[.slice A code.length c,.slice Z more.length z] w fun e w'=>e=.returned (.bool true)∧Below w.heap.size w w':=by
  have HC:=AK (And.intro hr (And.intro hc hb))
  have HC2:=AK (And.intro hr2 (And.intro hc2 hb2))
  clear hr hc hb hr2 hc2 hb2
  by_cases g20:(1048576:Int)<(code.length:Int)
  · have c1:decide ((1048576:Int)<(code.length:Int))=true:=deT g20
    have c2:decide (1048576<code.length)=true:=deT (by omega)
    have c3:=eq_true (show 1048576<code.length by omega)
    clear g20
    go_enter Try.func13,Try.ntmps13
    go_wp2
    go_ret
    exact⟨rfl,Below.refl _ _⟩
  have c1g20:decide ((1048576:Int)<(code.length:Int))=false:=deF g20
  have c2g20:decide (1048576<code.length)=false:=deF (by omega)
  have c3g20:=eq_false (show ¬ 1048576<code.length by omega)
  clear g20
  by_cases g21:(1048576:Int)<(more.length:Int)
  · have c1:decide ((1048576:Int)<(more.length:Int))=true:=deT g21
    have c2:decide (1048576<more.length)=true:=deT (by omega)
    have c3:=eq_true (show 1048576<more.length by omega)
    clear g21
    go_enter Try.func13,Try.ntmps13
    go_wp2
    go_ret
    exact⟨rfl,Below.refl _ _⟩
  have c1g21:decide ((1048576:Int)<(more.length:Int))=false:=deF g21
  have c2g21:decide (1048576<more.length)=false:=deF (by omega)
  have c3g21:=eq_false (show ¬ 1048576<more.length by omega)
  clear g21
  go_enter Try.func13,Try.ntmps13
  go_wp2_with fail
  clear c1g20 c2g20 c3g20 c1g21 c2g21 c3g21
  refine(drawStep_c _ HC.out.1 HC.out.2.1 HC.out.2.2).mono ?_
  rintro en w1 ⟨R,B0,d0,B1,d1,B2,d2,B3,d3,e,F,f,rfl,hg,he,hi,hm,hb⟩
  have HF:=AK hg
  have HE:=AK (show e.f4.f2.length≤8∧TxA e.f4.f1 from⟨he.1,he.2.1⟩)
  have HB:=AK hb
  have HI:=AK hi
  have HM:=AK hm.2
  have HML:=AK hm.1
  clear hg he hi hm hb HC
  go_upto_region 4 with fail
  have HXY:=And.intro (blk_alloc (blk_new w1 (.cells #[.slice B0 R.o.length d0,.slice B1 R.r.length d1,.slice B2 R.w.length d2,.slice B3 R.d.length d3] 28 (0,0))) (.cells #[.int .i64 e.f0,.int .i64 e.f1,.int .i64 e.f2,.int .i64 e.f3,.int .i64 e.f4.f0,.string e.f4.f1,.slice F e.f4.f2.length f] 40 (0,0))) (blk_new1 w1 (.cells #[.slice B0 R.o.length d0,.slice B1 R.r.length d1,.slice B2 R.w.length d2,.slice B3 R.d.length d3] 28 (0,0)) (.cells #[.int .i64 e.f0,.int .i64 e.f1,.int .i64 e.f2,.int .i64 e.f3,.int .i64 e.f4.f0,.string e.f4.f1,.slice F e.f4.f2.length f] 40 (0,0)))
  replace HB:=AK (bst HB.out (below_alloc (below_alloc (Below.refl _ _) (.cells #[.slice B0 R.o.length d0,.slice B1 R.r.length d1,.slice B2 R.w.length d2,.slice B3 R.d.length d3] 28 (0,0))) (.cells #[.int .i64 e.f0,.int .i64 e.f1,.int .i64 e.f2,.int .i64 e.f3,.int .i64 e.f4.f0,.string e.f4.f1,.slice F e.f4.f2.length f] 40 (0,0))))
  replace HI:=AK (HI.out.below (below_alloc (below_alloc (Below.refl _ _) (.cells #[.slice B0 R.o.length d0,.slice B1 R.r.length d1,.slice B2 R.w.length d2,.slice B3 R.d.length d3] 28 (0,0))) (.cells #[.int .i64 e.f0,.int .i64 e.f1,.int .i64 e.f2,.int .i64 e.f3,.int .i64 e.f4.f0,.string e.f4.f1,.slice F e.f4.f2.length f] 40 (0,0))))
  replace HM:=AK (Kd.C_below HM.out (below_alloc (below_alloc (Below.refl _ _) (.cells #[.slice B0 R.o.length d0,.slice B1 R.r.length d1,.slice B2 R.w.length d2,.slice B3 R.d.length d3] 28 (0,0))) (.cells #[.int .i64 e.f0,.int .i64 e.f1,.int .i64 e.f2,.int .i64 e.f3,.int .i64 e.f4.f0,.string e.f4.f1,.slice F e.f4.f2.length f] 40 (0,0))))
  have HX:=AK HXY.1
  have HY:=AK HXY.2
  clear HXY
  generalize ((w1.alloc (.cells #[.slice B0 R.o.length d0,.slice B1 R.r.length d1,.slice B2 R.w.length d2,.slice B3 R.d.length d3] 28 (0,0))).alloc (.cells #[.int .i64 e.f0,.int .i64 e.f1,.int .i64 e.f2,.int .i64 e.f3,.int .i64 e.f4.f0,.string e.f4.f1,.slice F e.f4.f2.length f] 40 (0,0)))=w3 at HB HI HM HX HY ⊢
  generalize w1.heap.size=n3 at HX HY ⊢
  obtain⟨S,tx,hS⟩:∃S s,(S,s)=stepB R e:=⟨_,_,rfl⟩
  have HS:=AK hS
  clear hS
  obtain⟨p0,p1,p2,p3⟩:=box4 HX.out
  obtain⟨q0,q1,q2,q3,q4,q5,q6⟩:=box7 HY.out
  go_wp2_with fail
  clear p0 p1 p2 p3
  clear q0 q1 q2 q3 q4 q5 q6
  refine(MemStep_calls w3 w3 _ _ _ _ _ _ _ _ R e F f (Below.refl _ _) HI.out HF.out.1 HM.out HML.out (by have:=HE.out.1;omega) (by have:=HE.out.2.1;omega) S tx HS.out).mono ?_
  rintro en w4 ⟨U0,s0,U1,s1,U2,s2,U3,s3,rfl,hO,hb⟩
  have HU:=AK hO.reads
  replace HB:=AK (bst HB.out hb)
  replace HI:=AK (HI.out.below hb)
  replace HM:=AK (Kd.C_below HM.out hb)
  replace HX:=AK (bbl HX.out hb)
  replace HY:=AK (bbl HY.out hb)
  clear hO hb
  go_upto_region 5 with fail
  have HP:=AK (blk_new w4 (.cells #[.slice U0 S.o.length s0,.slice U1 S.r.length s1,.slice U2 S.w.length s2,.slice U3 S.d.length s3] 28 (0,0)))
  replace HB:=AK (bst HB.out (below_alloc (Below.refl _ _) (.cells #[.slice U0 S.o.length s0,.slice U1 S.r.length s1,.slice U2 S.w.length s2,.slice U3 S.d.length s3] 28 (0,0))))
  replace HI:=AK (HI.out.below (below_alloc (Below.refl _ _) (.cells #[.slice U0 S.o.length s0,.slice U1 S.r.length s1,.slice U2 S.w.length s2,.slice U3 S.d.length s3] 28 (0,0))))
  replace HM:=AK (Kd.C_below HM.out (below_alloc (Below.refl _ _) (.cells #[.slice U0 S.o.length s0,.slice U1 S.r.length s1,.slice U2 S.w.length s2,.slice U3 S.d.length s3] 28 (0,0))))
  replace HX:=AK (bbl HX.out (below_alloc (Below.refl _ _) (.cells #[.slice U0 S.o.length s0,.slice U1 S.r.length s1,.slice U2 S.w.length s2,.slice U3 S.d.length s3] 28 (0,0))))
  replace HY:=AK (bbl HY.out (below_alloc (Below.refl _ _) (.cells #[.slice U0 S.o.length s0,.slice U1 S.r.length s1,.slice U2 S.w.length s2,.slice U3 S.d.length s3] 28 (0,0))))
  replace HU:=AK (HU.out.below (below_alloc (Below.refl _ _) (.cells #[.slice U0 S.o.length s0,.slice U1 S.r.length s1,.slice U2 S.w.length s2,.slice U3 S.d.length s3] 28 (0,0))))
  generalize w4.alloc (.cells #[.slice U0 S.o.length s0,.slice U1 S.r.length s1,.slice U2 S.w.length s2,.slice U3 S.d.length s3] 28 (0,0))=w5 at HB HI HM HX HY HU HP ⊢
  generalize w4.heap.size=n7 at HP ⊢
  obtain⟨p0,p1,p2,p3⟩:=box4 HX.out
  obtain⟨q0,q1,q2,q3,q4,q5,q6⟩:=box7 HY.out
  go_wp2_with fail
  clear p0 p1 p2 p3
  clear q0 q1 q2 q3 q4 q5 q6
  refine(specStep_calls w5 w5 _ _ _ _ _ _ _ _ R e F f (Below.refl _ _) HI.out HF.out.1 HM.out HML.out (by have:=HE.out.1;omega) (by have:=HE.out.2.1;omega) S tx HS.out).mono ?_
  rintro en w6 ⟨V0,u0,V1,u1,V2,u2,V3,u3,rfl,hO,hb⟩
  have HV:=AK hO.reads
  replace HB:=AK (bst HB.out hb)
  replace HI:=AK (HI.out.below hb)
  replace HM:=AK (Kd.C_below HM.out hb)
  replace HX:=AK (bbl HX.out hb)
  replace HY:=AK (bbl HY.out hb)
  replace HU:=AK (HU.out.below hb)
  replace HP:=AK (bbl HP.out hb)
  clear hO hb
  go_upto_region 6 with fail
  have HQ:=AK (blk_new w6 (.cells #[.slice V0 S.o.length u0,.slice V1 S.r.length u1,.slice V2 S.w.length u2,.slice V3 S.d.length u3] 28 (0,0)))
  replace HB:=AK (bst HB.out (below_alloc (Below.refl _ _) (.cells #[.slice V0 S.o.length u0,.slice V1 S.r.length u1,.slice V2 S.w.length u2,.slice V3 S.d.length u3] 28 (0,0))))
  replace HI:=AK (HI.out.below (below_alloc (Below.refl _ _) (.cells #[.slice V0 S.o.length u0,.slice V1 S.r.length u1,.slice V2 S.w.length u2,.slice V3 S.d.length u3] 28 (0,0))))
  replace HM:=AK (Kd.C_below HM.out (below_alloc (Below.refl _ _) (.cells #[.slice V0 S.o.length u0,.slice V1 S.r.length u1,.slice V2 S.w.length u2,.slice V3 S.d.length u3] 28 (0,0))))
  replace HX:=AK (bbl HX.out (below_alloc (Below.refl _ _) (.cells #[.slice V0 S.o.length u0,.slice V1 S.r.length u1,.slice V2 S.w.length u2,.slice V3 S.d.length u3] 28 (0,0))))
  replace HY:=AK (bbl HY.out (below_alloc (Below.refl _ _) (.cells #[.slice V0 S.o.length u0,.slice V1 S.r.length u1,.slice V2 S.w.length u2,.slice V3 S.d.length u3] 28 (0,0))))
  replace HU:=AK (HU.out.below (below_alloc (Below.refl _ _) (.cells #[.slice V0 S.o.length u0,.slice V1 S.r.length u1,.slice V2 S.w.length u2,.slice V3 S.d.length u3] 28 (0,0))))
  replace HP:=AK (bbl HP.out (below_alloc (Below.refl _ _) (.cells #[.slice V0 S.o.length u0,.slice V1 S.r.length u1,.slice V2 S.w.length u2,.slice V3 S.d.length u3] 28 (0,0))))
  replace HV:=AK (HV.out.below (below_alloc (Below.refl _ _) (.cells #[.slice V0 S.o.length u0,.slice V1 S.r.length u1,.slice V2 S.w.length u2,.slice V3 S.d.length u3] 28 (0,0))))
  generalize w6.alloc (.cells #[.slice V0 S.o.length u0,.slice V1 S.r.length u1,.slice V2 S.w.length u2,.slice V3 S.d.length u3] 28 (0,0))=w7 at HB HI HM HX HY HU HP HV HQ ⊢
  generalize w6.heap.size=n9 at HQ ⊢
  obtain⟨p0,p1,p2,p3⟩:=box4 HP.out
  obtain⟨q0,q1,q2,q3⟩:=box4 HQ.out
  have hss:(tx.toList != tx.toList)=false:=by simp
  go_wp2_with fail
  clear p0 p1 p2 p3
  clear q0 q1 q2 q3
  refine(wHeap_c HU.out HV.out).mono ?_
  rintro en w8 ⟨rfl,hb⟩
  replace HB:=AK (bst HB.out hb)
  replace HI:=AK (HI.out.below hb)
  replace HM:=AK (Kd.C_below HM.out hb)
  replace HX:=AK (bbl HX.out hb)
  replace HY:=AK (bbl HY.out hb)
  replace HU:=AK (HU.out.below hb)
  replace HP:=AK (bbl HP.out hb)
  replace HV:=AK (HV.out.below hb)
  replace HQ:=AK (bbl HQ.out hb)
  clear HQ HV
  clear hb
  go_upto_region 8 with fail
  clear hss
  go_cut [90] (fun v90 wc=>v90=.bool false∧Aside0 (Below w.heap.size w wc))
  case first=>
    as_aux_lemma=>
      obtain⟨bo,hbo⟩:∃b,b=okB R.o R.r R.w R.d:=⟨_,rfl⟩
      have HO:=AK hbo
      clear hbo
      obtain⟨p0,p1,p2,p3⟩:=box4 HX.out
      go_wp2_with fail
      clear p0 p1 p2 p3
      refine(specOk_c HI.out (by have:=HF.out.1.o;omega) HF.out.1.f (by have:=HF.out.1.r;omega) (by have:=HF.out.1.w;omega)).mono ?_
      rintro en w9 ⟨rfl,hb⟩
      rw[←HO.out]
      replace HB:=AK (bst HB.out hb)
      replace HI:=AK (HI.out.below hb)
      replace HM:=AK (Kd.C_below HM.out hb)
      replace HX:=AK (bbl HX.out hb)
      replace HY:=AK (bbl HY.out hb)
      replace HU:=AK (HU.out.below hb)
      replace HP:=AK (bbl HP.out hb)
      clear hb
      cases bo
      · go_wp2
        go_meet
        case rel=>exact⟨rfl,HB⟩
      · skip
        have HSB:=AK (show BdH S from by
          have h1:S=(stepB R e).1:=congrArg Prod.fst HS.out
          rw[h1];exact bd_ok (step_ok R e) (txh_step HF.out.2 HE.out.2))
        have HSO:=AK (show okB S.o S.r S.w S.d=true from by
          have h1:S=(stepB R e).1:=congrArg Prod.fst HS.out
          rw[h1];exact step_ok R e)
        obtain⟨p0,p1,p2,p3⟩:=box4 HP.out
        go_wp2_with fail
        clear p0 p1 p2 p3
        refine(MemOk_calls _ _ _ _ _ _ _ _ _ _ _ _ _ HU.out.r0 HU.out.r1 HU.out.r2 HU.out.r3 (by have:=HSB.out.fine.w;omega) HSB.out.fine.f).mono ?_
        rintro en w10 ⟨rfl,hb⟩
        rw[HSO.out]
        replace HB:=AK (bst HB.out hb)
        replace HI:=AK (HI.out.below hb)
        replace HM:=AK (Kd.C_below HM.out hb)
        replace HX:=AK (bbl HX.out hb)
        replace HY:=AK (bbl HY.out hb)
        replace HU:=AK (HU.out.below hb)
        replace HP:=AK (bbl HP.out hb)
        clear hb
        have HLN:=AK (show e.f0≠7→decide (S.o.length<R.o.length)=false from fun h7=>by
          have h1:S=(stepB R e).1:=congrArg Prod.fst HS.out
          have h2:=step_len (h:=R) (e:=e) HO.out.symm h7
          rw[←h1]at h2
          exact deF (by omega))
        have HTX:=AK (show S=R∨Tell tx from by
          have h1:S=(stepB R e).1:=congrArg Prod.fst HS.out
          have h2:tx=(stepB R e).2:=congrArg Prod.snd HS.out
          rw[h1,h2];exact step_text HO.out.symm HF.out.2 HE.out.2)
        obtain⟨b7,hb7⟩:∃b,(e.f0 != 7)=b:=⟨_,rfl⟩
        have HB7:=AK hb7
        obtain⟨t1,ht1⟩:∃b,(tx.toList == ([110,111]:List UInt8))=b:=⟨_,rfl⟩
        have HT1:=AK ht1
        obtain⟨t2,ht2⟩:∃b,(tx.toList == ([102,117,108,108]:List UInt8))=b:=⟨_,rfl⟩
        have HT2:=AK ht2
        obtain⟨p0,p1,p2,p3⟩:=box4 HX.out
        obtain⟨r0,r1,r2,r3⟩:=box4 HP.out
        obtain⟨q0,q1,q2,q3,q4,q5,q6⟩:=box7 HY.out
        cases b7
        · skip
          cases t1
          · skip
            cases t2
            · go_wp2
              go_meet
              case rel=>exact⟨rfl,HB⟩
            · skip
              have hSR:S=R:=same_text HTX.out (by rw[HT1.out,HT2.out];rfl)
              go_wp2_with fail
              have HU2:=AK (hSR ▸ HU.out)
              subst hSR
              refine(wHeap_c HU.out HI.out).mono ?_
              rintro en w11 ⟨rfl,hb⟩
              replace HB:=AK (bst HB.out hb)
              clear hb
              go_wp2
              go_meet
              case rel=>exact⟨rfl,HB⟩
          · skip
            have hSR:S=R:=same_text HTX.out (by rw[HT1.out,HT2.out];rfl)
            go_wp2_with fail
            have HU2:=AK (hSR ▸ HU.out)
            subst hSR
            refine(wHeap_c HU.out HI.out).mono ?_
            rintro en w11 ⟨rfl,hb⟩
            replace HB:=AK (bst HB.out hb)
            clear hb
            go_wp2
            go_meet
            case rel=>exact⟨rfl,HB⟩
        · skip
          have hln:=HLN.out (by have:=HB7.out;simpa using this)
          cases t1
          · skip
            cases t2
            · go_wp2
              go_meet
              case rel=>exact⟨rfl,HB⟩
            · skip
              have hSR:S=R:=same_text HTX.out (by rw[HT1.out,HT2.out];rfl)
              go_wp2_with fail
              have HU2:=AK (hSR ▸ HU.out)
              subst hSR
              refine(wHeap_c HU.out HI.out).mono ?_
              rintro en w11 ⟨rfl,hb⟩
              replace HB:=AK (bst HB.out hb)
              clear hb
              go_wp2
              go_meet
              case rel=>exact⟨rfl,HB⟩
          · skip
            have hSR:S=R:=same_text HTX.out (by rw[HT1.out,HT2.out];rfl)
            go_wp2_with fail
            have HU2:=AK (hSR ▸ HU.out)
            subst hSR
            refine(wHeap_c HU.out HI.out).mono ?_
            rintro en w11 ⟨rfl,hb⟩
            replace HB:=AK (bst HB.out hb)
            clear hb
            go_wp2
            go_meet
            case rel=>exact⟨rfl,HB⟩
  case rest=>
    as_aux_lemma=>
      clear HB HI HM HX HY HU HP HML HE HF HS
      obtain⟨rfl,HB⟩:=hcut
      replace HC2:=AK (And.intro (Kd.C_below HC2.out.1 HB.out) HC2.out.2)
      go_wp2_with fail
      refine(drawPlay_c _ HC2.out.1 HC2.out.2.1 HC2.out.2.2).mono ?_
      rintro en w1 ⟨R,B0,d0,B1,d1,B2,d2,B3,d3,es,Ka,ck,rfl,hg,he,hi,hk,hb⟩
      have HG:=AK hg
      have HEV:=AK (show es.length≤40∧∀x∈es,x.f4.f2.length≤1048576∧(x.f4.f1.size:Int)≤4611686018427387903 from⟨he.1,fun x hx=>⟨by have:=(he.2 x hx).1;omega,by have:=(he.2 x hx).2.1.1;omega⟩⟩)
      replace HB:=AK (bst HB.out hb)
      have HI:=AK hi
      have HK:=AK hk.2
      have HKL:=AK hk.1
      clear hg he hi hk hb HC2
      go_upto_region 11 with fail
      have HX:=AK (blk_new w1 (.cells #[.slice B0 R.o.length d0,.slice B1 R.r.length d1,.slice B2 R.w.length d2,.slice B3 R.d.length d3] 28 (0,0)))
      replace HB:=AK (bst HB.out (below_alloc (Below.refl _ _) (.cells #[.slice B0 R.o.length d0,.slice B1 R.r.length d1,.slice B2 R.w.length d2,.slice B3 R.d.length d3] 28 (0,0))))
      replace HI:=AK (HI.out.below (below_alloc (Below.refl _ _) (.cells #[.slice B0 R.o.length d0,.slice B1 R.r.length d1,.slice B2 R.w.length d2,.slice B3 R.d.length d3] 28 (0,0))))
      replace HK:=AK (Kd.C_below HK.out (below_alloc (Below.refl _ _) (.cells #[.slice B0 R.o.length d0,.slice B1 R.r.length d1,.slice B2 R.w.length d2,.slice B3 R.d.length d3] 28 (0,0))))
      generalize w1.alloc (.cells #[.slice B0 R.o.length d0,.slice B1 R.r.length d1,.slice B2 R.w.length d2,.slice B3 R.d.length d3] 28 (0,0))=w3 at HB HI HK HX ⊢
      generalize w1.heap.size=n11 at HX ⊢
      obtain⟨Y,tt,hY⟩:∃Y tt,(Y,tt)=playB R es:=⟨_,_,rfl⟩
      have HYP:=AK hY
      clear hY
      obtain⟨p0,p1,p2,p3⟩:=box4 HX.out
      go_wp2_with fail
      clear p0 p1 p2 p3
      refine(MemPlay_calls _ _ _ _ _ _ _ _ _ R es Ka ck HI.out HG.out.fine HK.out (by have:=HEV.out.1;omega) HEV.out.2 Y tt HYP.out).mono ?_
      rintro en w4 ⟨U0,s0,U1,s1,U2,s2,U3,s3,L,lc,rfl,hO,hT,hb⟩
      have HU:=AK hO.reads
      have HT:=AK (Kd.R_reads' hT).2.2
      replace HB:=AK (bst HB.out hb)
      replace HI:=AK (HI.out.below hb)
      replace HK:=AK (Kd.C_below HK.out hb)
      replace HX:=AK (bbl HX.out hb)
      clear hO hT hb
      go_upto_region 12 with fail
      have HP:=AK (blk_new w4 (.cells #[.slice U0 Y.o.length s0,.slice U1 Y.r.length s1,.slice U2 Y.w.length s2,.slice U3 Y.d.length s3] 28 (0,0)))
      replace HB:=AK (bst HB.out (below_alloc (Below.refl _ _) (.cells #[.slice U0 Y.o.length s0,.slice U1 Y.r.length s1,.slice U2 Y.w.length s2,.slice U3 Y.d.length s3] 28 (0,0))))
      replace HI:=AK (HI.out.below (below_alloc (Below.refl _ _) (.cells #[.slice U0 Y.o.length s0,.slice U1 Y.r.length s1,.slice U2 Y.w.length s2,.slice U3 Y.d.length s3] 28 (0,0))))
      replace HK:=AK (Kd.C_below HK.out (below_alloc (Below.refl _ _) (.cells #[.slice U0 Y.o.length s0,.slice U1 Y.r.length s1,.slice U2 Y.w.length s2,.slice U3 Y.d.length s3] 28 (0,0))))
      replace HX:=AK (bbl HX.out (below_alloc (Below.refl _ _) (.cells #[.slice U0 Y.o.length s0,.slice U1 Y.r.length s1,.slice U2 Y.w.length s2,.slice U3 Y.d.length s3] 28 (0,0))))
      replace HU:=AK (HU.out.below (below_alloc (Below.refl _ _) (.cells #[.slice U0 Y.o.length s0,.slice U1 Y.r.length s1,.slice U2 Y.w.length s2,.slice U3 Y.d.length s3] 28 (0,0))))
      replace HT:=AK (Kd.C_below HT.out (below_alloc (Below.refl _ _) (.cells #[.slice U0 Y.o.length s0,.slice U1 Y.r.length s1,.slice U2 Y.w.length s2,.slice U3 Y.d.length s3] 28 (0,0))))
      generalize w4.alloc (.cells #[.slice U0 Y.o.length s0,.slice U1 Y.r.length s1,.slice U2 Y.w.length s2,.slice U3 Y.d.length s3] 28 (0,0))=w5 at HB HI HK HX HU HT HP ⊢
      generalize w4.heap.size=n13 at HP ⊢
      obtain⟨p0,p1,p2,p3⟩:=box4 HX.out
      go_wp2_with fail
      clear p0 p1 p2 p3
      refine(specPlay_calls _ _ _ _ _ _ _ _ _ R es Ka ck HI.out HG.out.fine HK.out (by have:=HEV.out.1;omega) HEV.out.2 Y tt HYP.out).mono ?_
      rintro en w6 ⟨V0,u0,V1,u1,V2,u2,V3,u3,L2,lc2,rfl,hO,hT,hb⟩
      have HV:=AK hO.reads
      have HT2:=AK (Kd.R_reads' hT).2.2
      replace HB:=AK (bst HB.out hb)
      replace HI:=AK (HI.out.below hb)
      replace HK:=AK (Kd.C_below HK.out hb)
      replace HX:=AK (bbl HX.out hb)
      replace HU:=AK (HU.out.below hb)
      replace HT:=AK (Kd.C_below HT.out hb)
      replace HP:=AK (bbl HP.out hb)
      clear hO hT hb
      go_upto_region 13 with fail
      have HQ:=AK (blk_new w6 (.cells #[.slice V0 Y.o.length u0,.slice V1 Y.r.length u1,.slice V2 Y.w.length u2,.slice V3 Y.d.length u3] 28 (0,0)))
      replace HB:=AK (bst HB.out (below_alloc (Below.refl _ _) (.cells #[.slice V0 Y.o.length u0,.slice V1 Y.r.length u1,.slice V2 Y.w.length u2,.slice V3 Y.d.length u3] 28 (0,0))))
      replace HI:=AK (HI.out.below (below_alloc (Below.refl _ _) (.cells #[.slice V0 Y.o.length u0,.slice V1 Y.r.length u1,.slice V2 Y.w.length u2,.slice V3 Y.d.length u3] 28 (0,0))))
      replace HK:=AK (Kd.C_below HK.out (below_alloc (Below.refl _ _) (.cells #[.slice V0 Y.o.length u0,.slice V1 Y.r.length u1,.slice V2 Y.w.length u2,.slice V3 Y.d.length u3] 28 (0,0))))
      replace HX:=AK (bbl HX.out (below_alloc (Below.refl _ _) (.cells #[.slice V0 Y.o.length u0,.slice V1 Y.r.length u1,.slice V2 Y.w.length u2,.slice V3 Y.d.length u3] 28 (0,0))))
      replace HU:=AK (HU.out.below (below_alloc (Below.refl _ _) (.cells #[.slice V0 Y.o.length u0,.slice V1 Y.r.length u1,.slice V2 Y.w.length u2,.slice V3 Y.d.length u3] 28 (0,0))))
      replace HT:=AK (Kd.C_below HT.out (below_alloc (Below.refl _ _) (.cells #[.slice V0 Y.o.length u0,.slice V1 Y.r.length u1,.slice V2 Y.w.length u2,.slice V3 Y.d.length u3] 28 (0,0))))
      replace HP:=AK (bbl HP.out (below_alloc (Below.refl _ _) (.cells #[.slice V0 Y.o.length u0,.slice V1 Y.r.length u1,.slice V2 Y.w.length u2,.slice V3 Y.d.length u3] 28 (0,0))))
      replace HV:=AK (HV.out.below (below_alloc (Below.refl _ _) (.cells #[.slice V0 Y.o.length u0,.slice V1 Y.r.length u1,.slice V2 Y.w.length u2,.slice V3 Y.d.length u3] 28 (0,0))))
      replace HT2:=AK (Kd.C_below HT2.out (below_alloc (Below.refl _ _) (.cells #[.slice V0 Y.o.length u0,.slice V1 Y.r.length u1,.slice V2 Y.w.length u2,.slice V3 Y.d.length u3] 28 (0,0))))
      generalize w6.alloc (.cells #[.slice V0 Y.o.length u0,.slice V1 Y.r.length u1,.slice V2 Y.w.length u2,.slice V3 Y.d.length u3] 28 (0,0))=w7 at HB HI HK HX HU HT HP HV HT2 HQ ⊢
      generalize w6.heap.size=n15 at HQ ⊢
      obtain⟨p0,p1,p2,p3⟩:=box4 HP.out
      obtain⟨q0,q1,q2,q3⟩:=box4 HQ.out
      go_wp2_with fail
      clear p0 p1 p2 p3
      clear q0 q1 q2 q3
      refine(wHeap_c HU.out HV.out).mono ?_
      rintro en w8 ⟨rfl,hb⟩
      replace HB:=AK (bst HB.out hb)
      replace HI:=AK (HI.out.below hb)
      replace HK:=AK (Kd.C_below HK.out hb)
      replace HX:=AK (bbl HX.out hb)
      replace HU:=AK (HU.out.below hb)
      replace HT:=AK (Kd.C_below HT.out hb)
      replace HP:=AK (bbl HP.out hb)
      replace HV:=AK (HV.out.below hb)
      replace HT2:=AK (Kd.C_below HT2.out hb)
      replace HQ:=AK (bbl HQ.out hb)
      clear hb
      go_wp2_with fail
      refine(wTexts_q HT.out HT2.out).mono ?_
      rintro en w9 ⟨rfl,hd⟩
      have hb:=hd.below
      replace HB:=AK (bst HB.out hb)
      replace HI:=AK (HI.out.below hb)
      replace HK:=AK (Kd.C_below HK.out hb)
      replace HX:=AK (bbl HX.out hb)
      replace HU:=AK (HU.out.below hb)
      replace HT:=AK (Kd.C_below HT.out hb)
      replace HP:=AK (bbl HP.out hb)
      replace HV:=AK (HV.out.below hb)
      replace HT2:=AK (Kd.C_below HT2.out hb)
      replace HQ:=AK (bbl HQ.out hb)
      clear HQ HV HT2
      clear hb hd
      go_upto_region 16 with fail
      generalize hmid:wrap64 ((es.length:Int) / 2)=mid
      have HMD:=AK (show 0≤mid∧mid≤es.length from by
        have h1:=HEV.out.1
        rw[wrap_in (by omega) (by omega)]at hmid
        omega)
      clear hmid
      obtain⟨ea,hea⟩:∃l,l=es.take mid.toNat:=⟨_,rfl⟩
      obtain⟨eb,heb⟩:∃l,l=es.drop mid.toNat:=⟨_,rfl⟩
      have HEA:=AK hea
      have HEB:=AK heb
      have HVA:=AK (show ea.length≤40∧∀x∈ea,x.f4.f2.length≤1048576∧(x.f4.f1.size:Int)≤4611686018427387903 from by
        rw[hea]
        exact⟨by rw[List.length_take];have:=HEV.out.1;omega,fun x hx=>HEV.out.2 x (List.mem_of_mem_take hx)⟩)
      have HVB:=AK (show eb.length≤40∧∀x∈eb,x.f4.f2.length≤1048576∧(x.f4.f1.size:Int)≤4611686018427387903 from by
        rw[heb]
        exact⟨by rw[List.length_drop];have:=HEV.out.1;omega,fun x hx=>HEV.out.2 x (List.mem_of_mem_drop hx)⟩)
      have hcutA:=cut29_to (K:=Ka) (n:=es.length) (c:=ck) (k:=ea.length) HMD.out.1 HMD.out.2 HKL.out (by rw[hea,List.length_take];have:=HMD.out;omega)
      have hka:=Kd.C_take (m:=mid.toNat) HK.out (by have:=HMD.out;omega)
      rw[←hea]at hka
      have HKA:=AK hka
      obtain⟨K2,c2,hcutB0,hkb⟩:=cut29_from HK.out HKL.out HMD.out.1 HMD.out.2 heb
      have HCB:=AK hcutB0
      have HKB:=AK hkb
      clear hea heb hka hcutB0 hkb
      obtain⟨P,ya,hP⟩:∃P t,(P,t)=playB R ea:=⟨_,_,rfl⟩
      obtain⟨Q,yb,hQ⟩:∃Q t,(Q,t)=playB P eb:=⟨_,_,rfl⟩
      have HPP:=AK hP
      have HQQ:=AK hQ
      have HFR:=AK HG.out.fine
      have HFP:=AK (show Fine P.o P.r P.w P.d from by
        have h1:P=(playB R ea).1:=congrArg Prod.fst hP
        rw[h1];exact OkH.fine (ok_parts (play_ok R ea)))
      have HLT:=AK (show ya.length≤40∧yb.length≤40 from by
        have h1:ya=(playB R ea).2:=congrArg Prod.snd hP
        have h2:yb=(playB P eb).2:=congrArg Prod.snd hQ
        rw[h1,h2]
        exact⟨Nat.le_trans (play_len R ea) HVA.out.1,Nat.le_trans (play_len P eb) HVB.out.1⟩)
      clear hP hQ HK
      replace HB:=AK (bst HB.out (below_drew1 (Below.refl _ _)))
      replace HI:=AK (HI.out.below (below_drew1 (Below.refl _ _)))
      replace HX:=AK (bbl HX.out (below_drew1 (Below.refl _ _)))
      replace HU:=AK (HU.out.below (below_drew1 (Below.refl _ _)))
      replace HT:=AK (Kd.C_below HT.out (below_drew1 (Below.refl _ _)))
      replace HP:=AK (bbl HP.out (below_drew1 (Below.refl _ _)))
      replace HKA:=AK (Kd.C_below HKA.out (below_drew1 (Below.refl _ _)))
      replace HKB:=AK (Kd.C_below HKB.out (below_drew1 (Below.refl _ _)))
      have HUU:=AK (Below.refl w9.drew.heap.size w9.drew)
      refine start_ (n:=11) (S:=(fun w'=>w'.cell? ⟨n11,0,none⟩=some (.slice B0 R.o.length d0)∧w'.cell? ⟨n11,1,none⟩=some (.slice B1 R.r.length d1)∧w'.cell? ⟨n11,2,none⟩=some (.slice B2 R.w.length d2)∧w'.cell? ⟨n11,3,none⟩=some (.slice B3 R.d.length d3))) (ds:=[]) #[fF,fF,fF,fF,fF,fF,fF,fF,fF,fF,fF] (by kernel_rfl) rfl rfl (box4 (bbl HX.out HUU.out)) (fun hHeld=>?_);refine with_tabW fs16_tab fs16_bits (fun HT_ HW_=>?_)
      generalize World.drew w9=u5 at HB HI HX HU HT HP HKA HKB HUU hHeld ⊢
      refine tU HT_ HW_ 0 (some 122) (bM 11 1) hHeld rfl (by refine Or.inl ⟨by rfl,?_⟩;rintro w' ⟨s0,s1,s2,s3⟩;go_simp;with_reducible rfl) ?_
      refine pU HT_ 1 (some 123) (bM 11 3) ?_
      refine pU HT_ 2 (some 124) (bM 11 7) ?_
      refine pU HT_ 3 (some 125) (bM 11 15) ?_
      refine join_ (σ:=Option Addr × Nat × Option Addr × Nat × Option Addr × Nat × Option Addr × Nat × Option Addr × Nat × Nat) 2 #[tT,tT,tT,tT,tT,tT,tT,tT,tT,fF,fF] (fun s=>[(126,.tuple #[.agg #[.slice (s.1) P.o.length (s.2.1),.slice (s.2.2.1) P.r.length (s.2.2.2.1),.slice (s.2.2.2.2.1) P.w.length (s.2.2.2.2.2.1),.slice (s.2.2.2.2.2.2.1) P.d.length (s.2.2.2.2.2.2.2.1)],.slice (s.2.2.2.2.2.2.2.2.1) ya.length (s.2.2.2.2.2.2.2.2.2.1)]),(121,.tuple #[.agg #[.slice (s.1) P.o.length (s.2.1),.slice (s.2.2.1) P.r.length (s.2.2.2.1),.slice (s.2.2.2.2.1) P.w.length (s.2.2.2.2.2.1),.slice (s.2.2.2.2.2.2.1) P.d.length (s.2.2.2.2.2.2.2.1)],.slice (s.2.2.2.2.2.2.2.2.1) ya.length (s.2.2.2.2.2.2.2.2.2.1)]),(127,.agg #[.slice (s.1) P.o.length (s.2.1),.slice (s.2.2.1) P.r.length (s.2.2.2.1),.slice (s.2.2.2.2.1) P.w.length (s.2.2.2.2.2.1),.slice (s.2.2.2.2.2.2.1) P.d.length (s.2.2.2.2.2.2.2.1)]),(128,.slice (s.2.2.2.2.2.2.2.2.1) ya.length (s.2.2.2.2.2.2.2.2.2.1)),(18,.pointer (some ⟨s.2.2.2.2.2.2.2.2.2.2,0,none⟩))]) (fun s w'=>Below u5.heap.size u5 w'∧OwnX w' u5.heap.size (s.1) (s.2.1) (s.2.2.1) (s.2.2.2.1) (s.2.2.2.2.1) (s.2.2.2.2.2.1) (s.2.2.2.2.2.2.1) (s.2.2.2.2.2.2.2.1) P∧Kd.R Kd.string 9 w' u5.heap.size (fun _=>True) (.slice (s.2.2.2.2.2.2.2.2.1) ya.length (s.2.2.2.2.2.2.2.2.2.1)) ya∧(w'.heap[s.2.2.2.2.2.2.2.2.2.2]?=some (.cells #[.slice none 0 0,.slice none 0 0,.slice none 0 0,.slice none 0 0] 28 (0,0))∧u5.heap.size≤s.2.2.2.2.2.2.2.2.2.2)) ?_ ?_
      rotate_left
      · intro hCont
        refine two_ (i:=4) (j:=8) (Ni:=some 126) (Nj:=some 18) (bM 11 31) (bM 11 271) rfl rfl rfl rfl (two_of HT_.out (by kernel_rfl)) (by decide) (by decide) (fun K hK=>?_) (fun K hK=>?_)
        · skip
          refine goes_ Try.func17 (by kernel_rfl) rfl #[.agg #[.slice B0 R.o.length d0,.slice B1 R.r.length d1,.slice B2 R.w.length d2,.slice B3 R.d.length d3],.slice Ka ea.length ck] (by rfl) rfl rfl zI ?_
          refine(MemPlay_calls _ _ _ _ _ _ _ _ _ R ea Ka ck (HI.out.below HUU.out) HFR.out (Kd.C_below HKA.out HUU.out) (by have:=HVA.out.1;omega) HVA.out.2 P ya HPP.out).mono ?_
          rintro en q4 ⟨Q0,t0,Q1,t1,Q2,t2,Q3,t3,L3,lc3,rfl,hO,hT,hb⟩
          refine⟨_,rfl,?_⟩
          have hO2:=hO.lower HUU.out.size
          have hT2:=Kd.R_lower hT HUU.out.size
          replace HUU:=AK (bst HUU.out hb)
          have HWO:=AK hO2
          have HWT:=AK hT2
          clear hO hO2 hT hT2 hb
          refine hK.out _ _ (box4 (bbl HX.out HUU.out)) (fun hHeld=>?_)
          clear hK K
          refine nO (some 126) ?_
          refine pU HT_ 5 (some 121) (bM 11 63) ?_
          refine pU HT_ 6 (some 127) (bM 11 127) ?_
          refine pU HT_ 7 (some 128) (bM 11 255) ?_
          refine one_ (i:=8) (N:=some 18) (bM 11 511) rfl rfl (one_of HT_.out (by kernel_rfl)) (by decide) (fun K hK=>?_)
          refine box_step ?hg (N:=18) ?hd (cs:=#[.slice none 0 0,.slice none 0 0,.slice none 0 0,.slice none 0 0]) (t:=28) ?hr ?_;(case hd=>rfl);(case hg=>rfl);(case hr=>first|(go_simp;done)|(go_simp;rfl))
          intro b18 hg q8 hbox hb
          have h6:=And.intro hbox (show u5.heap.size≤b18 by rw[hg];exact HUU.out.size)
          replace HUU:=AK (bst HUU.out hb)
          replace HWO:=AK (HWO.out.below hb)
          replace HWT:=AK (Kd.R_below HWT.out hb)
          have H6:=AK h6
          clear h6 hg hbox hb
          refine hK.out _ _ (box4 (bbl HX.out HUU.out)) (fun hHeld=>?_)
          clear hK K
          refine nO (some 18) ?_
          exact norm_ zJ (hCont (Q0,t0,Q1,t1,Q2,t2,Q3,t3,L3,lc3,b18) _ ⟨HUU.out,HWO.out,HWT.out,H6.out⟩)
        · skip
          refine box_step ?hg (N:=18) ?hd (cs:=#[.slice none 0 0,.slice none 0 0,.slice none 0 0,.slice none 0 0]) (t:=28) ?hr ?_;(case hd=>rfl);(case hg=>rfl);(case hr=>first|(go_simp;done)|(go_simp;rfl))
          intro b18 hg q8 hbox hb
          have h6:=And.intro hbox (show u5.heap.size≤b18 by rw[hg];exact HUU.out.size)
          replace HUU:=AK (bst HUU.out hb)
          have H6:=AK h6
          clear h6 hg hbox hb
          refine hK.out _ _ (box4 (bbl HX.out HUU.out)) (fun hHeld=>?_)
          clear hK K
          refine nO (some 18) ?_
          refine one_ (i:=4) (N:=some 126) (bM 11 287) rfl rfl (one_of HT_.out (by kernel_rfl)) (by decide) (fun K hK=>?_)
          refine goes_ Try.func17 (by kernel_rfl) rfl #[.agg #[.slice B0 R.o.length d0,.slice B1 R.r.length d1,.slice B2 R.w.length d2,.slice B3 R.d.length d3],.slice Ka ea.length ck] (by rfl) rfl rfl zI ?_
          refine(MemPlay_calls _ _ _ _ _ _ _ _ _ R ea Ka ck (HI.out.below HUU.out) HFR.out (Kd.C_below HKA.out HUU.out) (by have:=HVA.out.1;omega) HVA.out.2 P ya HPP.out).mono ?_
          rintro en q4 ⟨Q0,t0,Q1,t1,Q2,t2,Q3,t3,L3,lc3,rfl,hO,hT,hb⟩
          refine⟨_,rfl,?_⟩
          have hO2:=hO.lower HUU.out.size
          have hT2:=Kd.R_lower hT HUU.out.size
          replace HUU:=AK (bst HUU.out hb)
          replace H6:=AK (show _∧_ from⟨bbl H6.out.1 hb,H6.out.2⟩)
          have HWO:=AK hO2
          have HWT:=AK hT2
          clear hO hO2 hT hT2 hb
          refine hK.out _ _ (box4 (bbl HX.out HUU.out)) (fun hHeld=>?_)
          clear hK K
          refine nO (some 126) ?_
          refine pU HT_ 5 (some 121) (bM 11 319) ?_
          refine pU HT_ 6 (some 127) (bM 11 383) ?_
          refine pU HT_ 7 (some 128) (bM 11 511) ?_
          exact norm_ zJ (hCont (Q0,t0,Q1,t1,Q2,t2,Q3,t3,L3,lc3,b18) _ ⟨HUU.out,HWO.out,HWT.out,H6.out⟩)
      clear HUU hHeld
      rintro⟨Q0,t0,Q1,t1,Q2,t2,Q3,t3,L3,lc3,b18⟩ q9 ⟨hb,ho,ht,h6⟩
      have HUU:=AK (show Below u5.heap.size u5 q9 from hb)
      have HWO:=AK (show OwnX q9 u5.heap.size Q0 t0 Q1 t1 Q2 t2 Q3 t3 P from ho)
      have HWT:=AK (show Kd.R Kd.string 9 q9 u5.heap.size (fun _=>True) (.slice L3 ya.length lc3) ya from ht)
      have H6:=AK (show q9.heap[b18]?=some (.cells #[.slice none 0 0,.slice none 0 0,.slice none 0 0,.slice none 0 0] 28 (0,0))∧u5.heap.size≤b18 from h6)
      have hHeld:(fun w'=>w'.cell? ⟨n11,0,none⟩=some (.slice B0 R.o.length d0)∧w'.cell? ⟨n11,1,none⟩=some (.slice B1 R.r.length d1)∧w'.cell? ⟨n11,2,none⟩=some (.slice B2 R.w.length d2)∧w'.cell? ⟨n11,3,none⟩=some (.slice B3 R.d.length d3)) q9:=(box4 (bbl HX.out HUU.out))
      clear hb ho ht h6
      refine norm_ (a':=?_) ?_ ?_
      rotate_left
      · show (Act.put (Act.put (Act.put (Act.put (Act.put _ (some 126) _) (some 121) _) (some 127) _) (some 128) _) (some 18) _)=_
        exact zP
      refine one_ (i:=9) (N:=none) (bM 11 1023) rfl rfl (one_of HT_.out (by kernel_rfl)) (by decide) (fun K hK=>?_)
      obtain⟨z0,z1,z2,z3⟩:=box4 H6.out.1
      have f0:=bfz H6.out.1 0
      have f1:=bfz H6.out.1 1
      have f2:=bfz H6.out.1 2
      have f3:=bfz H6.out.1 3
      have N1:=AK (show ((((q9.setCell ⟨b18,0,none⟩ (.slice Q0 P.o.length t0)).setCell ⟨b18,1,none⟩ (.slice Q1 P.r.length t1)).setCell ⟨b18,2,none⟩ (.slice Q2 P.w.length t2)).setCell ⟨b18,3,none⟩ (.slice Q3 P.d.length t3)).heap[b18]?=some (.cells #[.slice Q0 P.o.length t0,.slice Q1 P.r.length t1,.slice Q2 P.w.length t2,.slice Q3 P.d.length t3] 28 (0,0))from set4_blk H6.out.1)
      have N2:=AK (show Below u5.heap.size u5 ((((q9.setCell ⟨b18,0,none⟩ (.slice Q0 P.o.length t0)).setCell ⟨b18,1,none⟩ (.slice Q1 P.r.length t1)).setCell ⟨b18,2,none⟩ (.slice Q2 P.w.length t2)).setCell ⟨b18,3,none⟩ (.slice Q3 P.d.length t3))from set4_below HUU.out H6.out.2)
      have N3:=AK (show OwnX ((((q9.setCell ⟨b18,0,none⟩ (.slice Q0 P.o.length t0)).setCell ⟨b18,1,none⟩ (.slice Q1 P.r.length t1)).setCell ⟨b18,2,none⟩ (.slice Q2 P.w.length t2)).setCell ⟨b18,3,none⟩ (.slice Q3 P.d.length t3)) u5.heap.size Q0 t0 Q1 t1 Q2 t2 Q3 t3 P from HWO.out.set4 H6.out.1)
      have N4:=AK (show Kd.R Kd.string 9 ((((q9.setCell ⟨b18,0,none⟩ (.slice Q0 P.o.length t0)).setCell ⟨b18,1,none⟩ (.slice Q1 P.r.length t1)).setCell ⟨b18,2,none⟩ (.slice Q2 P.w.length t2)).setCell ⟨b18,3,none⟩ (.slice Q3 P.d.length t3)) u5.heap.size (fun _=>True) (.slice L3 ya.length lc3) ya from set4_R HWT.out H6.out.1 (str_ap 28 (by decide)))
      refine skip_ (w1:=?_) (by rfl) rfl ?_ ?_
      rotate_left
      · go_simp
        rfl
      clear z0 z1 z2 z3 f0 f1 f2 f3 HUU HWO H6 HWT
      generalize ((((q9.setCell ⟨b18,0,none⟩ (.slice Q0 P.o.length t0)).setCell ⟨b18,1,none⟩ (.slice Q1 P.r.length t1)).setCell ⟨b18,2,none⟩ (.slice Q2 P.w.length t2)).setCell ⟨b18,3,none⟩ (.slice Q3 P.d.length t3))=w10 at N1 N2 N3 N4 ⊢
      have HUU:=N2
      have HWO:=N3
      have H6:=N1
      have HWT:=N4
      clear N1 N2 N3 N4
      refine hK.out _ _ (box4 (bbl HX.out HUU.out)) (fun hHeld=>?_)
      clear hK K
      refine pU HT_ 10 (some 19) (bM 11 2047) ?_
      refine done_ (done_of HT_.out (by kernel_rfl)) ?_
      clear HT_ HW_ hHeld
      replace HB:=AK (bst HB.out HUU.out)
      replace HI:=AK (HI.out.below HUU.out)
      replace HX:=AK (bbl HX.out HUU.out)
      replace HU:=AK (HU.out.below HUU.out)
      replace HT:=AK (Kd.C_below HT.out HUU.out)
      replace HP:=AK (bbl HP.out HUU.out)
      replace HKA:=AK (Kd.C_below HKA.out HUU.out)
      replace HKB:=AK (Kd.C_below HKB.out HUU.out)
      have HJ:=AK HWO.out.reads
      have HT3:=AK (Kd.R_reads' HWT.out).2.2
      have HXP:=H6
      clear HUU HWO HWT H6
      clear hcutA
      have hcutB:=HCB.out
      go_upto_region 17 with fail
      replace HB:=AK (bst HB.out (below_drew1 (Below.refl _ _)))
      replace HI:=AK (HI.out.below (below_drew1 (Below.refl _ _)))
      replace HX:=AK (bbl HX.out (below_drew1 (Below.refl _ _)))
      replace HU:=AK (HU.out.below (below_drew1 (Below.refl _ _)))
      replace HT:=AK (Kd.C_below HT.out (below_drew1 (Below.refl _ _)))
      replace HP:=AK (bbl HP.out (below_drew1 (Below.refl _ _)))
      replace HKB:=AK (Kd.C_below HKB.out (below_drew1 (Below.refl _ _)))
      replace HJ:=AK (HJ.out.below (below_drew1 (Below.refl _ _)))
      replace HT3:=AK (Kd.C_below HT3.out (below_drew1 (Below.refl _ _)))
      replace HXP:=AK (bbl HXP.out (below_drew1 (Below.refl _ _)))
      have HUU:=AK (Below.refl w10.drew.heap.size w10.drew)
      refine start_ (n:=11) (S:=(fun w'=>w'.cell? ⟨b18,0,none⟩=some (.slice Q0 P.o.length t0)∧w'.cell? ⟨b18,1,none⟩=some (.slice Q1 P.r.length t1)∧w'.cell? ⟨b18,2,none⟩=some (.slice Q2 P.w.length t2)∧w'.cell? ⟨b18,3,none⟩=some (.slice Q3 P.d.length t3))) (ds:=[]) #[fF,fF,fF,fF,fF,fF,fF,fF,fF,fF,fF] (by kernel_rfl) rfl rfl (box4 (bbl HXP.out HUU.out)) (fun hHeld=>?_);refine with_tabW fs17_tab fs17_bits (fun HT_ HW_=>?_)
      generalize World.drew w10=u6 at HB HI HX HU HT HP HKB HJ HT3 HXP HUU hHeld ⊢
      refine tU HT_ HW_ 0 (some 130) (bM 11 1) hHeld rfl (by refine Or.inl ⟨by rfl,?_⟩;rintro w' ⟨s0,s1,s2,s3⟩;go_simp;with_reducible rfl) ?_
      refine pU HT_ 1 (some 131) (bM 11 3) ?_
      refine pU HT_ 2 (some 132) (bM 11 7) ?_
      refine pU HT_ 3 (some 133) (bM 11 15) ?_
      refine join_ (σ:=Option Addr × Nat × Option Addr × Nat × Option Addr × Nat × Option Addr × Nat × Option Addr × Nat × Nat) 2 #[tT,tT,tT,tT,tT,tT,tT,tT,tT,fF,fF] (fun s=>[(134,.tuple #[.agg #[.slice (s.1) Q.o.length (s.2.1),.slice (s.2.2.1) Q.r.length (s.2.2.2.1),.slice (s.2.2.2.2.1) Q.w.length (s.2.2.2.2.2.1),.slice (s.2.2.2.2.2.2.1) Q.d.length (s.2.2.2.2.2.2.2.1)],.slice (s.2.2.2.2.2.2.2.2.1) yb.length (s.2.2.2.2.2.2.2.2.2.1)]),(129,.tuple #[.agg #[.slice (s.1) Q.o.length (s.2.1),.slice (s.2.2.1) Q.r.length (s.2.2.2.1),.slice (s.2.2.2.2.1) Q.w.length (s.2.2.2.2.2.1),.slice (s.2.2.2.2.2.2.1) Q.d.length (s.2.2.2.2.2.2.2.1)],.slice (s.2.2.2.2.2.2.2.2.1) yb.length (s.2.2.2.2.2.2.2.2.2.1)]),(135,.agg #[.slice (s.1) Q.o.length (s.2.1),.slice (s.2.2.1) Q.r.length (s.2.2.2.1),.slice (s.2.2.2.2.1) Q.w.length (s.2.2.2.2.2.1),.slice (s.2.2.2.2.2.2.1) Q.d.length (s.2.2.2.2.2.2.2.1)]),(136,.slice (s.2.2.2.2.2.2.2.2.1) yb.length (s.2.2.2.2.2.2.2.2.2.1)),(20,.pointer (some ⟨s.2.2.2.2.2.2.2.2.2.2,0,none⟩))]) (fun s w'=>Below u6.heap.size u6 w'∧OwnX w' u6.heap.size (s.1) (s.2.1) (s.2.2.1) (s.2.2.2.1) (s.2.2.2.2.1) (s.2.2.2.2.2.1) (s.2.2.2.2.2.2.1) (s.2.2.2.2.2.2.2.1) Q∧Kd.R Kd.string 9 w' u6.heap.size (fun _=>True) (.slice (s.2.2.2.2.2.2.2.2.1) yb.length (s.2.2.2.2.2.2.2.2.2.1)) yb∧(w'.heap[s.2.2.2.2.2.2.2.2.2.2]?=some (.cells #[.slice none 0 0,.slice none 0 0,.slice none 0 0,.slice none 0 0] 28 (0,0))∧u6.heap.size≤s.2.2.2.2.2.2.2.2.2.2)) ?_ ?_
      rotate_left
      · intro hCont
        refine two_ (i:=4) (j:=8) (Ni:=some 134) (Nj:=some 20) (bM 11 31) (bM 11 271) rfl rfl rfl rfl (two_of HT_.out (by kernel_rfl)) (by decide) (by decide) (fun K hK=>?_) (fun K hK=>?_)
        · skip
          refine goes_ Try.func17 (by kernel_rfl) rfl #[.agg #[.slice Q0 P.o.length t0,.slice Q1 P.r.length t1,.slice Q2 P.w.length t2,.slice Q3 P.d.length t3],.slice K2 eb.length c2] (by rfl) rfl rfl zI ?_
          refine(MemPlay_calls _ _ _ _ _ _ _ _ _ P eb K2 c2 (HJ.out.below HUU.out) HFP.out (Kd.C_below HKB.out HUU.out) (by have:=HVB.out.1;omega) HVB.out.2 Q yb HQQ.out).mono ?_
          rintro en q4 ⟨X0,x0,X1,x1,X2,x2,X3,x3,L4,lc4,rfl,hO,hT,hb⟩
          refine⟨_,rfl,?_⟩
          have hO2:=hO.lower HUU.out.size
          have hT2:=Kd.R_lower hT HUU.out.size
          replace HUU:=AK (bst HUU.out hb)
          have HWO:=AK hO2
          have HWT:=AK hT2
          clear hO hO2 hT hT2 hb
          refine hK.out _ _ (box4 (bbl HXP.out HUU.out)) (fun hHeld=>?_)
          clear hK K
          refine nO (some 134) ?_
          refine pU HT_ 5 (some 129) (bM 11 63) ?_
          refine pU HT_ 6 (some 135) (bM 11 127) ?_
          refine pU HT_ 7 (some 136) (bM 11 255) ?_
          refine one_ (i:=8) (N:=some 20) (bM 11 511) rfl rfl (one_of HT_.out (by kernel_rfl)) (by decide) (fun K hK=>?_)
          refine box_step ?hg (N:=20) ?hd (cs:=#[.slice none 0 0,.slice none 0 0,.slice none 0 0,.slice none 0 0]) (t:=28) ?hr ?_;(case hd=>rfl);(case hg=>rfl);(case hr=>first|(go_simp;done)|(go_simp;rfl))
          intro b20 hg q8 hbox hb
          have h6:=And.intro hbox (show u6.heap.size≤b20 by rw[hg];exact HUU.out.size)
          replace HUU:=AK (bst HUU.out hb)
          replace HWO:=AK (HWO.out.below hb)
          replace HWT:=AK (Kd.R_below HWT.out hb)
          have H6:=AK h6
          clear h6 hg hbox hb
          refine hK.out _ _ (box4 (bbl HXP.out HUU.out)) (fun hHeld=>?_)
          clear hK K
          refine nO (some 20) ?_
          exact norm_ zJ (hCont (X0,x0,X1,x1,X2,x2,X3,x3,L4,lc4,b20) _ ⟨HUU.out,HWO.out,HWT.out,H6.out⟩)
        · skip
          refine box_step ?hg (N:=20) ?hd (cs:=#[.slice none 0 0,.slice none 0 0,.slice none 0 0,.slice none 0 0]) (t:=28) ?hr ?_;(case hd=>rfl);(case hg=>rfl);(case hr=>first|(go_simp;done)|(go_simp;rfl))
          intro b20 hg q8 hbox hb
          have h6:=And.intro hbox (show u6.heap.size≤b20 by rw[hg];exact HUU.out.size)
          replace HUU:=AK (bst HUU.out hb)
          have H6:=AK h6
          clear h6 hg hbox hb
          refine hK.out _ _ (box4 (bbl HXP.out HUU.out)) (fun hHeld=>?_)
          clear hK K
          refine nO (some 20) ?_
          refine one_ (i:=4) (N:=some 134) (bM 11 287) rfl rfl (one_of HT_.out (by kernel_rfl)) (by decide) (fun K hK=>?_)
          refine goes_ Try.func17 (by kernel_rfl) rfl #[.agg #[.slice Q0 P.o.length t0,.slice Q1 P.r.length t1,.slice Q2 P.w.length t2,.slice Q3 P.d.length t3],.slice K2 eb.length c2] (by rfl) rfl rfl zI ?_
          refine(MemPlay_calls _ _ _ _ _ _ _ _ _ P eb K2 c2 (HJ.out.below HUU.out) HFP.out (Kd.C_below HKB.out HUU.out) (by have:=HVB.out.1;omega) HVB.out.2 Q yb HQQ.out).mono ?_
          rintro en q4 ⟨X0,x0,X1,x1,X2,x2,X3,x3,L4,lc4,rfl,hO,hT,hb⟩
          refine⟨_,rfl,?_⟩
          have hO2:=hO.lower HUU.out.size
          have hT2:=Kd.R_lower hT HUU.out.size
          replace HUU:=AK (bst HUU.out hb)
          replace H6:=AK (show _∧_ from⟨bbl H6.out.1 hb,H6.out.2⟩)
          have HWO:=AK hO2
          have HWT:=AK hT2
          clear hO hO2 hT hT2 hb
          refine hK.out _ _ (box4 (bbl HXP.out HUU.out)) (fun hHeld=>?_)
          clear hK K
          refine nO (some 134) ?_
          refine pU HT_ 5 (some 129) (bM 11 319) ?_
          refine pU HT_ 6 (some 135) (bM 11 383) ?_
          refine pU HT_ 7 (some 136) (bM 11 511) ?_
          exact norm_ zJ (hCont (X0,x0,X1,x1,X2,x2,X3,x3,L4,lc4,b20) _ ⟨HUU.out,HWO.out,HWT.out,H6.out⟩)
      clear HUU hHeld
      rintro⟨X0,x0,X1,x1,X2,x2,X3,x3,L4,lc4,b20⟩ q9 ⟨hb,ho,ht,h6⟩
      have HUU:=AK (show Below u6.heap.size u6 q9 from hb)
      have HWO:=AK (show OwnX q9 u6.heap.size X0 x0 X1 x1 X2 x2 X3 x3 Q from ho)
      have HWT:=AK (show Kd.R Kd.string 9 q9 u6.heap.size (fun _=>True) (.slice L4 yb.length lc4) yb from ht)
      have H6:=AK (show q9.heap[b20]?=some (.cells #[.slice none 0 0,.slice none 0 0,.slice none 0 0,.slice none 0 0] 28 (0,0))∧u6.heap.size≤b20 from h6)
      have hHeld:(fun w'=>w'.cell? ⟨b18,0,none⟩=some (.slice Q0 P.o.length t0)∧w'.cell? ⟨b18,1,none⟩=some (.slice Q1 P.r.length t1)∧w'.cell? ⟨b18,2,none⟩=some (.slice Q2 P.w.length t2)∧w'.cell? ⟨b18,3,none⟩=some (.slice Q3 P.d.length t3)) q9:=(box4 (bbl HXP.out HUU.out))
      clear hb ho ht h6
      refine norm_ (a':=?_) ?_ ?_
      rotate_left
      · show (Act.put (Act.put (Act.put (Act.put (Act.put _ (some 134) _) (some 129) _) (some 135) _) (some 136) _) (some 20) _)=_
        exact zP
      refine one_ (i:=9) (N:=none) (bM 11 1023) rfl rfl (one_of HT_.out (by kernel_rfl)) (by decide) (fun K hK=>?_)
      obtain⟨z0,z1,z2,z3⟩:=box4 H6.out.1
      have f0:=bfz H6.out.1 0
      have f1:=bfz H6.out.1 1
      have f2:=bfz H6.out.1 2
      have f3:=bfz H6.out.1 3
      have N1:=AK (show ((((q9.setCell ⟨b20,0,none⟩ (.slice X0 Q.o.length x0)).setCell ⟨b20,1,none⟩ (.slice X1 Q.r.length x1)).setCell ⟨b20,2,none⟩ (.slice X2 Q.w.length x2)).setCell ⟨b20,3,none⟩ (.slice X3 Q.d.length x3)).heap[b20]?=some (.cells #[.slice X0 Q.o.length x0,.slice X1 Q.r.length x1,.slice X2 Q.w.length x2,.slice X3 Q.d.length x3] 28 (0,0))from set4_blk H6.out.1)
      have N2:=AK (show Below u6.heap.size u6 ((((q9.setCell ⟨b20,0,none⟩ (.slice X0 Q.o.length x0)).setCell ⟨b20,1,none⟩ (.slice X1 Q.r.length x1)).setCell ⟨b20,2,none⟩ (.slice X2 Q.w.length x2)).setCell ⟨b20,3,none⟩ (.slice X3 Q.d.length x3))from set4_below HUU.out H6.out.2)
      have N3:=AK (show OwnX ((((q9.setCell ⟨b20,0,none⟩ (.slice X0 Q.o.length x0)).setCell ⟨b20,1,none⟩ (.slice X1 Q.r.length x1)).setCell ⟨b20,2,none⟩ (.slice X2 Q.w.length x2)).setCell ⟨b20,3,none⟩ (.slice X3 Q.d.length x3)) u6.heap.size X0 x0 X1 x1 X2 x2 X3 x3 Q from HWO.out.set4 H6.out.1)
      have N4:=AK (show Kd.R Kd.string 9 ((((q9.setCell ⟨b20,0,none⟩ (.slice X0 Q.o.length x0)).setCell ⟨b20,1,none⟩ (.slice X1 Q.r.length x1)).setCell ⟨b20,2,none⟩ (.slice X2 Q.w.length x2)).setCell ⟨b20,3,none⟩ (.slice X3 Q.d.length x3)) u6.heap.size (fun _=>True) (.slice L4 yb.length lc4) yb from set4_R HWT.out H6.out.1 (str_ap 28 (by decide)))
      refine skip_ (w1:=?_) (by rfl) rfl ?_ ?_
      rotate_left
      · go_simp
        rfl
      clear z0 z1 z2 z3 f0 f1 f2 f3 HUU HWO H6 HWT
      generalize ((((q9.setCell ⟨b20,0,none⟩ (.slice X0 Q.o.length x0)).setCell ⟨b20,1,none⟩ (.slice X1 Q.r.length x1)).setCell ⟨b20,2,none⟩ (.slice X2 Q.w.length x2)).setCell ⟨b20,3,none⟩ (.slice X3 Q.d.length x3))=w11 at N1 N2 N3 N4 ⊢
      have HUU:=N2
      have HWO:=N3
      have H6:=N1
      have HWT:=N4
      clear N1 N2 N3 N4
      refine hK.out _ _ (box4 (bbl HXP.out HUU.out)) (fun hHeld=>?_)
      clear hK K
      refine pU HT_ 10 (some 21) (bM 11 2047) ?_
      refine done_ (done_of HT_.out (by kernel_rfl)) ?_
      clear HT_ HW_ hHeld
      replace HB:=AK (bst HB.out HUU.out)
      replace HI:=AK (HI.out.below HUU.out)
      replace HX:=AK (bbl HX.out HUU.out)
      replace HU:=AK (HU.out.below HUU.out)
      replace HT:=AK (Kd.C_below HT.out HUU.out)
      replace HP:=AK (bbl HP.out HUU.out)
      replace HKB:=AK (Kd.C_below HKB.out HUU.out)
      replace HJ:=AK (HJ.out.below HUU.out)
      replace HT3:=AK (Kd.C_below HT3.out HUU.out)
      replace HXP:=AK (bbl HXP.out HUU.out)
      have HJ2:=AK HWO.out.reads
      have HT4:=AK (Kd.R_reads' HWT.out).2.2
      have HXQ:=H6
      clear HUU HWO HWT H6
      clear hcutB
      go_upto_region 18 with fail
      obtain⟨bo,hbo⟩:∃b,b=okB R.o R.r R.w R.d:=⟨_,rfl⟩
      have HO:=AK hbo
      clear hbo
      obtain⟨p0,p1,p2,p3⟩:=box4 HX.out
      go_wp2_with fail
      clear p0 p1 p2 p3
      refine(specOk_c HI.out (by have:=HFR.out.o;omega) HFR.out.f (by have:=HFR.out.r;omega) (by have:=HFR.out.w;omega)).mono ?_
      rintro en w12 ⟨rfl,hb⟩
      rw[←HO.out]
      replace HB:=AK (bst HB.out hb)
      replace HI:=AK (HI.out.below hb)
      replace HX:=AK (bbl HX.out hb)
      replace HU:=AK (HU.out.below hb)
      replace HT:=AK (Kd.C_below HT.out hb)
      replace HP:=AK (bbl HP.out hb)
      replace HKB:=AK (Kd.C_below HKB.out hb)
      replace HJ:=AK (HJ.out.below hb)
      replace HT3:=AK (Kd.C_below HT3.out hb)
      replace HXP:=AK (bbl HXP.out hb)
      replace HJ2:=AK (HJ2.out.below hb)
      replace HT4:=AK (Kd.C_below HT4.out hb)
      replace HXQ:=AK (bbl HXQ.out hb)
      clear hb
      cases bo
      · go_wp2
        go_ret
        exact⟨rfl,HB.out⟩
      obtain⟨hQY,htt⟩:Q=Y∧ya++yb=tt:=by
        have h1:=play_split (h:=R) HO.out.symm ea eb
        rw[HEA.out,HEB.out,List.take_append_drop,←HYP.out,←HEA.out,←HEB.out,←HPP.out,←HQQ.out]at h1
        exact⟨(congrArg Prod.fst h1).symm,(congrArg Prod.snd h1).symm⟩
      have HTT:=AK htt
      clear htt HYP HPP HQQ
      subst hQY
      obtain⟨p0,p1,p2,p3⟩:=box4 HXQ.out
      obtain⟨q0,q1,q2,q3⟩:=box4 HP.out
      go_wp2_with fail
      clear p0 p1 p2 p3
      clear q0 q1 q2 q3
      refine(wHeap_c HJ2.out HU.out).mono ?_
      rintro en w13 ⟨rfl,hb⟩
      clear HI
      clear HX
      clear HU
      clear HP
      clear HKB
      clear HJ
      clear HXP
      clear HJ2
      clear HXQ
      replace HB:=AK (bst HB.out hb)
      replace HT:=AK (Kd.C_below HT.out hb)
      replace HT3:=AK (Kd.C_below HT3.out hb)
      replace HT4:=AK (Kd.C_below HT4.out hb)
      clear hb
      go_wp2_with (first|((with_reducible refine gate_dst (N:=145) rfl ?_);refine gate_guard (by rfl) ?_;refine Kd.R_lit Kd.string (w0:=w13) w13.heap.size 9 ?hg (N:=145) ?hd (xs:=([]:List ByteArray)) (inner:=[]) (ok:=fun _=>True) (okp:=fun _=>True) ?hr ?hp (fun _ hk=>hk) trivial (Below.refl _ _) (Nat.le_refl _) (by simp) ?_;(case hd=>rfl);(case hg=>rfl);(case hr=>first|(go_simp;done)|(go_simp;rfl));(case hp=>exact Reps.none _ _);intro v145 w14 hr hb hg hn;have HR:=AK hr;have HB1:=AK hb;clear hr hb hg hn)|((with_reducible refine gate_dst (N:=147) rfl ?_);at_builtin;refine gate_guard (by rfl) ?_;refine Kd.R_append_rows Kd.string (w0:=w13) w13.heap.size rfl (.tmp 145) (.tmp 146) 32 9 (.string ⟨#[]⟩) 16 rfl Try.underlying32 info9 rfl (by decide) (by omega) v145 [] ya L3 ya.length lc3 (fun _=>True) (fun _=>False) rfl rfl ?aO ?aR (fun _ _ h=>h) (fun _ h=>h.elim) (fun _ _=>trivial) ?aB ?aS ?aL ?_;(case aO=>exact HR.out);(case aR=>exact Kd.C_below HT3.out HB1.out);(case aB=>exact HB1.out);(case aS=>exact HB1.out.size);(case aL=>have:=HLT.out;have h1:([]:List ByteArray).length=0:=rfl;omega);intro v147 w15 hr hb hg hat;have HR2:=AK (show Kd.R Kd.string 9 w15 w13.heap.size (fun _=>True) v147 ya from hr);have HB2:=AK hb;clear hr hb hg hat HR)|((with_reducible refine gate_dst (N:=149) rfl ?_);at_builtin;refine gate_guard (by rfl) ?_;refine Kd.R_append_rows Kd.string (w0:=w13) w13.heap.size rfl (.tmp 147) (.tmp 148) 32 9 (.string ⟨#[]⟩) 16 rfl Try.underlying32 info9 rfl (by decide) (by omega) v147 ya yb L4 yb.length lc4 (fun _=>True) (fun _=>False) rfl rfl ?aO ?aR (fun _ _ h=>h) (fun _ h=>h.elim) (fun _ _=>trivial) ?aB ?aS ?aL ?_;(case aO=>exact HR2.out);(case aR=>exact Kd.C_below HT4.out HB2.out);(case aB=>exact HB2.out);(case aS=>exact HB2.out.size);(case aL=>have:=HLT.out;have h1:([]:List ByteArray).length=0:=rfl;omega);intro v149 w16 hr hb hg hat;rw[HTT.out]at hr;obtain⟨L5,lc5,hv⟩:=Kd.R_slice hr;subst hv;have HR3:=AK (Kd.R_reads' hr).2.2;have HB3:=AK hb;clear hr hb hg hat HR2))
      refine(wTexts_q HR3.out (Kd.C_below HT.out HB3.out)).mono ?_
      rintro en w17 ⟨rfl,hd⟩
      go_wp2
      go_ret
      exact⟨rfl,bst (bst HB.out HB3.out) hd.below⟩
end Go.Proofs.Ytigjhfijkdlldaa.H
