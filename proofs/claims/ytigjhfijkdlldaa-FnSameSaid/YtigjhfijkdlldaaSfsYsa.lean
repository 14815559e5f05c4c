import Derived.Test.YtigjhfijkdlldaaSfsHlt
import Derived.Test.YtigjhfijkdlldaaSfsHke
import Derived.Test.YtigjhfijkdlldaaSfsHsg
namespace Go.Proofs.Ytigjhfijkdlldaa.H
open Go.RowKit Go.Proofs.YtigjhfijkdlldaaW.PrintWords Go.Proofs.YtigjhfijkdlldaaW.PrintLast Go.Proofs.YtigjhfijkdlldaaW.PrintMore Go.Proofs.Ytigjhfijkdlldaa.Q
set_option linter.unusedVariables false
set_option linter.unusedSimpArgs false
theorem seenW_consB (x:List Int) (a:S60) (l:List S60):seenW x (a :: l)=if decide (0≤idxL x a.f0)=true then⟨idxL x a.f0,idxL x a.f1⟩ :: seenW x l else seenW x l:=by
  unfold seenW
  by_cases c:decide (0≤idxL x a.f0)=true
  · rw[if_pos c,List.filter_cons_of_pos (by exact c)];rfl
  · rw[if_neg c,List.filter_cons_of_neg (by exact c)]
theorem seen6_tab:rtab .any (opsOf Try.f92 6)=(true,[([],[]),([],[]),([],[]),([],[]),([2,3],[2,3]),([4],[4]),([5],[5]),([1,6],[1,6]),([],[]),([],[]),([],[]),([9,10],[9,10]),([11],[11]),([12],[12]),([8,13,7],[8,13]),([7,14],[7,14]),([15],[15]),([0,16,14],[0,16]),([17,17,0,1,2,3,4,5,6,7,8,9,10,11,12,13,14,15,16,17],[0,17])]):=by kernel_rfl
theorem seen6_bits:waitsOk [([],[]),([],[]),([],[]),([],[]),([2,3],[2,3]),([4],[4]),([5],[5]),([1,6],[1,6]),([],[]),([],[]),([],[]),([9,10],[9,10]),([11],[11]),([12],[12]),([8,13,7],[8,13]),([7,14],[7,14]),([15],[15]),([0,16,14],[0,16]),([17,17,0,1,2,3,4,5,6,7,8,9,10,11,12,13,14,15,16,17],[0,17])] [0,0,0,0,12,28,60,126,0,0,0,1536,3584,7680,16382,32766,65534,131071,262143]=true:=by kernel_rfl
section
variable {w:World} {K A B A0 A1 A2 A3:Option Addr} {c d c0 c1 c2 c3 ck:Nat} {l t:List S60} {x:List Int}
set_option maxHeartbeats 4000000 in
set_option maxRecDepth 100000 in
theorem l2Watches_c {Kx:Option Addr} (h:Kd.C k60 w A l.length l) (hc:l.length≤c) (hx:Kd.C (Kd.int .i64) w Kx x.length x) (hk:x.length≤ck) (hl:(l.length:Int)≤1048576) :
    Calls Try.prog 92 #[.slice A l.length c,.slice Kx x.length ck] w fun e w'=>∃v:Value,e=.returned v∧Kd.R k60 60 w' w.heap.size (fun _=>True) v (seenW x l)∧Below w.heap.size w w':=by
  have HL:=AK h
  have HX:=AK hx
  have HM:=AK (show l.length≤1048576 by omega)
  obtain⟨r,er⟩:∃r,r=seenW x l:=⟨_,rfl⟩
  have HE0:=AK (show r=[]++seenW x (l.drop (0:Int).toNat)from er)
  rw[←er]
  clear h hx hl hc hk er
  go_enter Try.func92,Try.ntmps92
  go_wp2_with ((with_reducible refine gate_dst (N:=7) rfl ?_);refine Kd.R_lit k60 (w0:=w) (World.heap w).size 60 ?hg (N:=7) ?hd (xs:=([]:List S60)) (inner:=[]) (ok:=fun _=>True) (okp:=fun _=>True) ?hr ?hp (fun _ hk=>hk) trivial (Below.refl _ _) (Nat.le_refl _) (by simp) ?_;(case hd=>rfl);(case hg=>rfl);(case hr=>first|(go_simp;done)|(go_simp;rfl));(case hp=>exact Reps.none _ _);intro v1 w2 hr hb hg hn;obtain⟨K0,ck0,hv⟩:=Kd.R_slice hr;subst hv;have HR:=AK hr;have HB:=AK (And.intro hb trivial);clear hr hb hg hn)
  go_loopg [5,6] l.length (fun kq v5 v6 w'=>∃(m:List S60) (M:Option Addr) (cm:Nat) (i:Int),v5=.slice M m.length cm∧v6=.int .i64 i∧Aside0 (0≤i∧i+kq=l.length∧(m.length:Int)≤i)∧Aside0 (r=m++seenW x (l.drop i.toNat))∧Aside0 (Kd.R k60 60 w' w.heap.size (fun _=>True) (.slice M m.length cm) m)∧Aside0 (Below w.heap.size w w'∧True))
  case atStart=>exact⟨[],K0,ck0,0,rfl,rfl,⟨by omega,by omega,by simp⟩,HE0,HR,HB⟩
  case round=>
    clear HE0 HR HB
    obtain⟨m,M,cm,i,rfl,rfl,HI,HE,HR,HB⟩:=hrel
    cases gk with
    | zero =>
        have c9:decide (i<(l.length:Int))=false:=deF (by have:=HI.out;omega)
        have hr:m=r:=by rw[HE.out,drop_end _ _ (by have:=HI.out;omega)];exact(List.append_nil m).symm
        clear HE
        subst hr
        go_wp2
        go_ret
        exact⟨_,rfl,HR.out,HB.out.1⟩
    | succ k1=>
      have c9:decide (i<(l.length:Int))=true:=deT (by have:=HI.out;omega)
      have hi0:=eq_true (show 0≤i by have:=HI.out;omega)
      have hi1:=eq_true (show i<(l.length:Int)by have:=HI.out;omega)
      obtain⟨ad,e1,y0,y1⟩:=at_T60 HL.out i (by have:=HI.out;omega) (by have:=HI.out;omega)
      subst e1
      have hr:=HE.out
      rw[drop_cons l z60 i (by have:=HI.out;omega) (by have:=HI.out;omega),seenW_consB,show l.getD i.toNat z60=rd_T60 l i from rfl]at hr
      obtain⟨z,ez⟩:∃z,z=rd_T60 l i:=⟨_,rfl⟩
      rw[←ez]at y0 y1 hr
      have HY:=AK (show w.cell? (ad.add (i.toNat*2))=some (.int .i64 z.f0)∧w.cell? ⟨(ad.add (i.toNat*2)).block,(ad.add (i.toNat*2)).off+1,none⟩=some (.int .i64 z.f1)from⟨y0,y1⟩)
      replace y0:=pcb HB.out.1 y0
      replace y1:=pcb HB.out.1 y1
      obtain⟨b1,hb1⟩:∃b,decide (0≤idxL x z.f0)=b:=⟨_,rfl⟩
      rw[hb1]at hr
      have HR1:=AK hr
      clear hr ez HE
      go_wp2_with fail
      refine(l2At_s (Kd.C_below HX.out HB.out.1) z.f0).mono ?_
      rintro e w6 ⟨rfl,rfl⟩
      cases b1 with
      | false=>
        have HE:=AK (show r=m++seenW x (l.drop (i+1).toNat)by have h:=HR1.out;simpa using h)
        go_wp2
        go_roundg k1
        case measure=>omega
        case rel=>
          rw[wrap_succ i (by have:=HI.out;omega) (by have:=HI.out;have:=HM.out;omega)]
          exact⟨m,M,cm,i+1,rfl,rfl,⟨by have:=HI.out;omega,by have:=HI.out;omega,by have:=HI.out;omega⟩,HE,HR,HB⟩
      | true=>
        obtain⟨m2,e2⟩:∃a,a=m++[(⟨idxL x z.f0,idxL x z.f1⟩:S60)]:=⟨_,rfl⟩
        have E2:=AK e2
        have HE:=AK (show r=m2++seenW x (l.drop (i+1).toNat)by rw[e2,List.append_assoc];have h:=HR1.out;simpa using h)
        have hl2:m2.length=m.length+1:=by rw[e2];simp
        have HL2:=AK hl2
        clear e2 hl2 y0 y1
        go_wp2_with fail
        refine start_ (n:=19) (S:=(fun w'=>(w'.cell? (ad.add (i.toNat*2))=some (.int .i64 z.f0)∧w'.cell? ⟨(ad.add (i.toNat*2)).block,(ad.add (i.toNat*2)).off+1,none⟩=some (.int .i64 z.f1)))) (ds:=[]) #[fF,fF,fF,fF,fF,fF,fF,fF,fF,fF,fF,fF,fF,fF,fF,fF,fF,fF,fF] (by kernel_rfl) rfl rfl ⟨pcb HB.out.1 HY.out.1,pcb HB.out.1 HY.out.2⟩ (fun hHeld=>?_);refine with_tabW seen6_tab seen6_bits (fun HT_ HW_=>?_)
        replace HB:=AK (And.intro (below_drew HB.out.1) trivial)
        replace HR:=AK (Kd.R_drew HR.out)
        generalize w6.drew=wq at HB HR hHeld ⊢
        refine pU HT_ 0 (some 22) (bM 19 1) ?_
        refine pU HT_ 1 (some 23) (bM 19 3) ?_
        refine pU HT_ 2 (some 24) (bM 19 7) ?_
        refine pU HT_ 3 (some 25) (bM 19 15) ?_
        refine pU HT_ 4 (some 26) (bM 19 31) ?_
        refine pU HT_ 5 (some 27) (bM 19 63) ?_
        refine tU HT_ HW_ 6 (some 28) (bM 19 127) hHeld rfl (by refine Or.inl ⟨by rfl,?_⟩;rintro w' ⟨s0,s1⟩;go_simp;with_reducible rfl) ?_
        refine pU HT_ 8 (some 30) (bM 19 383) ?_
        refine pU HT_ 9 (some 31) (bM 19 895) ?_
        refine pU HT_ 10 (some 32) (bM 19 1919) ?_
        refine pU HT_ 11 (some 33) (bM 19 3967) ?_
        refine pU HT_ 12 (some 34) (bM 19 8063) ?_
        refine tU HT_ HW_ 13 (some 35) (bM 19 16255) hHeld rfl (by refine Or.inl ⟨by rfl,?_⟩;rintro w' ⟨s0,s1⟩;go_simp;with_reducible rfl) ?_
        refine one_ (i:=7) (N:=some 29) (bM 19 16383) rfl rfl (one_of HT_.out (by kernel_rfl)) (by decide) (fun K hK=>?_)
        refine goes_ Try.func96 (by kernel_rfl) rfl #[.slice Kx x.length ck,.int .i64 z.f0] (by rfl) rfl rfl zI ?_
        refine(l2At_s (Kd.C_below HX.out HB.out.1) z.f0).mono ?_
        rintro e q0 ⟨rfl,rfl⟩
        refine⟨_,rfl,?_⟩
        refine hK.out _ _ ⟨pcb HB.out.1 HY.out.1,pcb HB.out.1 HY.out.2⟩ (fun hHeld=>?_)
        clear hK K
        refine nO (some 29) ?_
        refine one_ (i:=14) (N:=some 36) (bM 19 32767) rfl rfl (one_of HT_.out (by kernel_rfl)) (by decide) (fun K hK=>?_)
        refine goes_ Try.func96 (by kernel_rfl) rfl #[.slice Kx x.length ck,.int .i64 z.f1] (by rfl) rfl rfl zI ?_
        refine(l2At_s (Kd.C_below HX.out HB.out.1) z.f1).mono ?_
        rintro e q1 ⟨rfl,rfl⟩
        refine⟨_,rfl,?_⟩
        refine hK.out _ _ ⟨pcb HB.out.1 HY.out.1,pcb HB.out.1 HY.out.2⟩ (fun hHeld=>?_)
        clear hK K
        refine nO (some 36) ?_
        refine pU HT_ 15 (some 37) (bM 19 65535) ?_
        refine one_ (i:=16) (N:=some 38) (bM 19 131071) rfl rfl (one_of HT_.out (by kernel_rfl)) (by decide) (fun K hK=>?_)
        refine value_ (v:=.slice (some ⟨q1.heap.size,0,none⟩) 1 1) (w1:=q1.alloc (.cells #[.int .i64 (idxL x z.f0),.int .i64 (idxL x z.f1)] 60 (0,0))) (by rfl) rfl ?hr ?_;(case hr=>first|(go_simp;done)|(go_simp;rfl))
        refine hK.out _ _ ⟨pcb (below_alloc HB.out.1 _) HY.out.1,pcb (below_alloc HB.out.1 _) HY.out.2⟩ (fun hHeld=>?_)
        clear hK K
        refine nO (some 38) ?_
        refine one_ (i:=17) (N:=some 39) (bM 19 262143) rfl rfl (one_of HT_.out (by kernel_rfl)) (by decide) (fun K hK=>?_)
        refine Kd.R_append_step k60 (w0:=w) (W:=q1) w.heap.size (by rfl) (.tmp 22) (.tmp 38) 26 60 (.agg #[(.int .i64 0),(.int .i64 0)]) 16 rfl Try.underlying26 info60 rfl (by decide) (by omega) (.slice M m.length cm) m (⟨idxL x z.f0,idxL x z.f1⟩:S60) [.int .i64 (idxL x z.f0),.int .i64 (idxL x z.f1)] (fun _=>True) (fun _=>False) rfl rfl ?aP (fun _ hk=>hk.elim) ?aF ?aO ?aB ?aS ?aL ?_;(case aP=>exact k60_mkM _ _ _ (⟨idxL x z.f0,idxL x z.f1⟩:S60));(case aF=>exact fun _ _=>trivial);(case aO=>exact HR.out);(case aB=>exact HB.out.1);(case aS=>exact HB.out.1.size);(case aL=>have:=HI.out;have:=HM.out;omega)
        intro v5 w5 ho hb hg hat
        rw[←E2.out]at ho
        obtain⟨M3,c3',hv3⟩:=Kd.R_slice ho
        subst hv3
        have HR3:=AK ho
        have HB3:=AK (And.intro hb trivial)
        clear ho hb hg hat
        refine hK.out _ _ ⟨pcb HB3.out.1 HY.out.1,pcb HB3.out.1 HY.out.2⟩ (fun hHeld=>?_)
        clear hK K
        refine nO (some 39) ?_
        refine pU HT_ 18 (some 5) (bM 19 524287) ?_
        refine done_ (done_of HT_.out (by kernel_rfl)) ?_
        clear HT_ HW_ hHeld
        go_wp2
        go_roundg k1
        case measure=>omega
        case rel=>
          rw[wrap_succ i (by have:=HI.out;omega) (by have:=HI.out;have:=HM.out;omega)]
          exact⟨m2,M3,c3',i+1,rfl,rfl,⟨by have:=HI.out;omega,by have:=HI.out;omega,by have:=HI.out;have:=HL2.out;omega⟩,HE,HR3,HB3⟩
end
attribute [local go_sem high] eqA60
set_option maxHeartbeats 4000000 in
set_option maxRecDepth 100000 in
theorem l2SameWatches_c {w:World} {A B:Option Addr} {c d:Nat} {l m:List S60} (hl:Kd.C k60 w A l.length l) (hc:l.length≤c) (hm:Kd.C k60 w B m.length m) (hd:m.length≤d) :
    Calls Try.prog 91 #[.slice A l.length c,.slice B m.length d] w fun e w'=>e=.returned (.bool (sameW l m))∧Below w.heap.size w w':=by
  have hll:(l.length:Int)≤9223372036854775807:=by have:=C_max hl;omega
  have hu60:=Try.underlying60
  have HL:=AK hl
  have HM:=AK hm
  have HLL:=AK hll
  clear hl hm hll
  by_cases hlen:l.length=m.length
  · have c1:((l.length:Int) != m.length)=false:=by simp[hlen]
    have HN:=AK hlen
    have e0:sameW l m=cmp2 weB (l.drop (0:Int).toNat) (m.drop (0:Int).toNat):=by unfold sameW;rw[deT hlen];rfl
    obtain⟨r,er⟩:∃r,r=sameW l m:=⟨_,rfl⟩
    rw[←er]at e0 ⊢
    have E0:=AK e0
    clear hlen e0 er
    go_enter Try.func91,Try.ntmps91
    go_wp2
    go_loopg [5] l.length (fun kq v5 w'=>∃i:Int,v5=.int .i64 i∧Aside0 (0≤i∧i+kq=l.length)∧Aside0 (r=cmp2 weB (l.drop i.toNat) (m.drop i.toNat))∧Aside0 (Below w.heap.size w w'))
    case atStart=>exact⟨0,rfl,⟨by omega,by omega⟩,E0,⟨Below.refl _ _⟩⟩
    case round=>
      clear E0
      obtain⟨i,rfl,HI,HE,HB⟩:=hrel
      cases gk with
      | zero=>
        have c4b:decide (i<(l.length:Int))=false:=deF (by have:=HI.out;omega)
        have e:r=true:=by rw[HE.out];exact cmp2_end _ _ _ _ (by have:=HI.out;omega)
        subst e
        go_wp2
        go_ret
        exact⟨rfl,HB.out⟩
      | succ k1=>
        have hi:=HI.out
        have hn:=HN.out
        have c4b:decide (i<(l.length:Int))=true:=deT (by omega)
        have e4a:=eq_true (show 0≤i by omega)
        have e4b:=eq_true (show i<(l.length:Int)by omega)
        have e4c:=eq_true (show i<(m.length:Int)by omega)
        have he:=HE.out
        rw[cmp2_at _ l m z60 z60 i (by omega) (by omega) (by omega)]at he
        obtain⟨ad2,e2,hz0,hz1⟩:=at_T60 HL.out i (by omega) (by omega)
        subst e2
        obtain⟨ad3,e3,hy0,hy1⟩:=at_T60 HM.out i (by omega) (by omega)
        subst e3
        obtain⟨p,ep⟩:∃p,p=rd_T60 l i:=⟨_,rfl⟩
        obtain⟨q,eq⟩:∃q,q=rd_T60 m i:=⟨_,rfl⟩
        rw[←ep]at hz0 hz1
        rw[←eq]at hy0 hy1
        have HE1:=AK (show r=(weB p q && cmp2 weB (l.drop (i+1).toNat) (m.drop (i+1).toNat))by rw[ep,eq];exact he)
        replace hz0:=pcb HB.out hz0
        replace hz1:=pcb HB.out hz1
        replace hy0:=pcb HB.out hy0
        replace hy1:=pcb HB.out hy1
        clear ep eq he hi hn HE
        have HZ:=AK (And.intro (And.intro hz0 hz1) (And.intro hy0 hy1))
        by_cases cc:weB p q=true
        · have c6:(!(p.f0 == q.f0) || !(p.f1 == q.f1))=false:=by revert cc;unfold weB;cases (p.f0 == q.f0)<;>cases (p.f1 == q.f1)<;>simp
          have HE2:=AK (show r=cmp2 weB (l.drop (i+1).toNat) (m.drop (i+1).toNat)by rw[HE1.out,cc];rfl)
          clear cc HE1
          go_wp2_with fail
          go_region_held3 (fun w'=>(w'.cell? (ad2.add (i.toNat*2))=some (.int .i64 p.f0)∧w'.cell? ⟨(ad2.add (i.toNat*2)).block,(ad2.add (i.toNat*2)).off+1,none⟩=some (.int .i64 p.f1))∧w'.cell? (ad3.add (i.toNat*2))=some (.int .i64 q.f0)∧w'.cell? ⟨(ad3.add (i.toNat*2)).block,(ad3.add (i.toNat*2)).off+1,none⟩=some (.int .i64 q.f1))
            (first|exact HZ.out)
            (first|fail)
          go_wp2
          go_roundg k1
          case measure=>omega
          case rel=>
            have h1:=HI.out
            have h2:=HLL.out
            rw[wrap_succ i (by omega) (by omega)]
            exact⟨i+1,rfl,⟨by omega,by omega⟩,HE2,⟨below_drew1 HB.out⟩⟩
        · have c6:(!(p.f0 == q.f0) || !(p.f1 == q.f1))=true:=by revert cc;unfold weB;cases (p.f0 == q.f0)<;>cases (p.f1 == q.f1)<;>simp
          have e:r=false:=by rw[HE1.out,Bool.eq_false_iff.2 cc];rfl
          subst e
          clear cc HE1
          go_wp2_with fail
          go_region_held3 (fun w'=>(w'.cell? (ad2.add (i.toNat*2))=some (.int .i64 p.f0)∧w'.cell? ⟨(ad2.add (i.toNat*2)).block,(ad2.add (i.toNat*2)).off+1,none⟩=some (.int .i64 p.f1))∧w'.cell? (ad3.add (i.toNat*2))=some (.int .i64 q.f0)∧w'.cell? ⟨(ad3.add (i.toNat*2)).block,(ad3.add (i.toNat*2)).off+1,none⟩=some (.int .i64 q.f1))
            (first|exact HZ.out)
            (first|fail)
          go_wp2
          go_ret
          exact⟨rfl,below_drew1 HB.out⟩
  · have c1:((l.length:Int) != m.length)=true:=by simp;omega
    have e0:sameW l m=false:=by unfold sameW;rw[deF hlen];rfl
    rw[e0]
    clear hlen e0
    go_enter Try.func91,Try.ntmps91
    go_wp2
    go_ret
    exact⟨rfl,Below.refl _ _⟩
theorem wh_n {w:World} {K:Option Addr} {ck n:Nat} {x:List Int} {p v:Int} (h:Kd.C (Kd.int .i64) w K x.length x) (hv:wh x p=v) :
    Calls Try.prog 89 #[.slice K x.length ck,.int .i64 p] (w.drewN n) fun e w'=>e=.returned (.int .i64 v)∧∃m,w'=w.drewN m:=
  (l2Where_s (Kd.C_drewN h n) p).mono fun e w' ⟨he,hw⟩=>⟨by rw[he,hv],⟨n,hw⟩⟩
theorem l2Where_c {w:World} {A:Option Addr} {c:Nat} {l:List Int} (h:Kd.C (Kd.int .i64) w A l.length l) (hc:l.length≤c) (p:Int) :
    Calls Try.prog 89 #[.slice A l.length c,.int .i64 p] w fun e w'=>e=.returned (.int .i64 (wh l p))∧Drawn0 w w':=l2Where_c2 h hc p
set_option maxHeartbeats 4000000 in
set_option maxRecDepth 100000 in
theorem l2Alike_c {w:World} {A B C D:Option Addr} {c d e f:Nat} {o u:S38} {x y:List Int} (ha:Kd.C (Kd.int .i64) w A o.f2.length o.f2) (hc:o.f2.length≤c) (hb:Kd.C (Kd.int .i64) w B u.f2.length u.f2) (hd:u.f2.length≤d)
    (hx:Kd.C (Kd.int .i64) w C x.length x) (he:x.length≤e) (hy:Kd.C (Kd.int .i64) w D y.length y) (hf:y.length≤f) :
    Calls Try.prog 90 #[.agg #[.int .i64 o.f0,.string o.f1,.slice A o.f2.length c],.agg #[.int .i64 u.f0,.string u.f1,.slice B u.f2.length d],.slice C x.length e,.slice D y.length f] w fun e w'=>e=.returned (.bool (alikeB x y o u))∧Below w.heap.size w w':=by
  have HW:=AK (show Below w.heap.size w ((w.alloc (.cells #[.int .i64 o.f0,.string o.f1,.slice A o.f2.length c] 38 (0,0))).alloc (.cells #[.int .i64 u.f0,.string u.f1,.slice B u.f2.length d] 38 (0,0)))∧((w.alloc (.cells #[.int .i64 o.f0,.string o.f1,.slice A o.f2.length c] 38 (0,0))).alloc (.cells #[.int .i64 u.f0,.string u.f1,.slice B u.f2.length d] 38 (0,0))).heap[w.heap.size]?=some (.cells #[.int .i64 o.f0,.string o.f1,.slice A o.f2.length c] 38 (0,0))∧((w.alloc (.cells #[.int .i64 o.f0,.string o.f1,.slice A o.f2.length c] 38 (0,0))).alloc (.cells #[.int .i64 u.f0,.string u.f1,.slice B u.f2.length d] 38 (0,0))).heap[w.heap.size+1]?=some (.cells #[.int .i64 u.f0,.string u.f1,.slice B u.f2.length d] 38 (0,0))from⟨below_alloc (below_alloc (Below.refl _ _) _) _,blk_alloc (blk_new w _) _,blk_new1 w _ _⟩)
  have HL:=AK (C_max ha)
  have HA:=AK (Kd.C_below ha HW.out.1)
  have HU:=AK (Kd.C_below hb HW.out.1)
  have HX:=AK (Kd.C_below hx HW.out.1)
  have HY:=AK (Kd.C_below hy HW.out.1)
  clear ha hb hx hy hc hd he hf
  obtain⟨r,er⟩:∃r,r=alikeB x y o u:=⟨_,rfl⟩
  obtain⟨b0,hb0⟩:∃b,(o.f0 != u.f0)=b:=⟨_,rfl⟩
  obtain⟨b1,hb1⟩:∃b,(o.f1.toList != u.f1.toList)=b:=⟨_,rfl⟩
  obtain⟨b2,hb2⟩:∃b,((o.f2.length:Int) != (u.f2.length:Int))=b:=⟨_,rfl⟩
  have hr:r=(!b0 && !b1 && (!b2 && cmp2 (whB x y) o.f2 u.f2)):=by
    rw[er,←hb0,←hb1,←hb2]
    unfold alikeB rowsB
    have h0:(!(o.f0 != u.f0))=decide (o.f0=u.f0):=by rw[Bool.eq_iff_iff];simp
    have h1:(!(o.f1.toList != u.f1.toList))=decide (o.f1.toList=u.f1.toList):=by rw[Bool.eq_iff_iff];simp
    have h2:(!((o.f2.length:Int) != (u.f2.length:Int)))=decide (o.f2.length=u.f2.length):=by
      by_cases e:o.f2.length=u.f2.length
      · rw[e];simp
      · have e':(o.f2.length:Int)≠u.f2.length:=by omega
        simp[e,e']
    rw[h0,h1,h2]
  have HR:=AK hr
  rw[←er]
  have ct:decide (o.f1.toList=u.f1.toList)=!b1:=by rw[←hb1];by_cases e:o.f1.toList=u.f1.toList<;>simp[e]
  have ct2:(o.f1.toList == u.f1.toList)=!b1:=by rw[←hb1];simp[bne]
  clear er hr
  by_cases hz:b0=false∧b1=false∧b2=false
  · obtain⟨z0,z1,z2⟩:=hz
    subst z0 z1 z2
    simp only[Bool.not_false]at ct ct2
    have HN:=AK (show o.f2.length=u.f2.length by have h:=hb2;simp at h;omega)
    have HE0:=AK (show r=cmp2 (whB x y) (o.f2.drop (0:Int).toNat) (u.f2.drop (0:Int).toNat)from HR.out)
    go_enter Try.func90,Try.ntmps90
    go_upto_region 1 with fail
    generalize ((w.alloc (.cells #[.int .i64 o.f0,.string o.f1,.slice A o.f2.length c] 38 (0,0))).alloc (.cells #[.int .i64 u.f0,.string u.f1,.slice B u.f2.length d] 38 (0,0)))=w1 at HW HA HU HX HY ⊢
    have HW0:=AK HW.out.1
    generalize hn4:w.heap.size=n4 at HW ⊢
    clear hn4
    obtain⟨p0,p1,p2⟩:=box3 HW.out.2.1
    obtain⟨q0,q1,q2⟩:=box3 HW.out.2.2
    go_wp2_with fail
    clear hb0 hb1 hb2 ct ct2
    go_loopg [9] o.f2.length (fun kq v9 w'=>∃i:Int,v9=.int .i64 i∧Aside0 (0≤i∧i+kq=o.f2.length)∧Aside0 (r=cmp2 (whB x y) (o.f2.drop i.toNat) (u.f2.drop i.toNat))∧Aside0 (Below w1.heap.size w1 w'))
    case atStart=>exact⟨0,rfl,⟨by omega,by omega⟩,HE0,⟨by repeat (first|exact Below.refl _ _|apply pw_below_drewN|apply below_drew1)⟩⟩
    case round=>
      clear HE0 HR p0 p1 p2 q0 q1 q2
      obtain⟨i,rfl,HI,HE,HB⟩:=hrel
      obtain⟨p0,p1,p2⟩:=box3 (bbl HW.out.2.1 HB.out)
      obtain⟨q0,q1,q2⟩:=box3 (bbl HW.out.2.2 HB.out)
      cases gk with
      | zero=>
        have c9:decide (i<(o.f2.length:Int))=false:=deF (by have:=HI.out;omega)
        have e:r=true:=by rw[HE.out];exact cmp2_end _ _ _ _ (by have:=HI.out;omega)
        subst e
        go_wp2
        go_ret
        exact⟨rfl,bst HW0.out HB.out⟩
      | succ k1=>
        have c9:decide (i<(o.f2.length:Int))=true:=deT (by have:=HI.out;omega)
        have hi0:=eq_true (show 0≤i by have:=HI.out;omega)
        have hi1:=eq_true (show i<(o.f2.length:Int)by have:=HI.out;omega)
        have hi2:=eq_true (show i<(u.f2.length:Int)by have:=HI.out;have:=HN.out;omega)
        obtain⟨ad,e1,x0⟩:=Kd.at_int HA.out i (by have:=HI.out;omega) (by have:=HI.out;omega)
        obtain⟨ae,e2,x1⟩:=Kd.at_int HU.out i (by have:=HI.out;omega) (by have:=HI.out;have:=HN.out;omega)
        subst e1 e2
        replace x0:=pcb HB.out x0
        replace x1:=pcb HB.out x1
        have hr:=HE.out
        rw[cmp2_at _ o.f2 u.f2 0 0 i (by have:=HI.out;omega) (by have:=HI.out;omega) (by have:=HI.out;have:=HN.out;omega),show o.f2.getD i.toNat 0=rd o.f2 i from rfl,show u.f2.getD i.toNat 0=rd u.f2 i from rfl]at hr
        obtain⟨p,ep⟩:∃p,p=rd o.f2 i:=⟨_,rfl⟩
        obtain⟨q,eq⟩:∃q,q=rd u.f2 i:=⟨_,rfl⟩
        rw[←ep]at x0 hr
        rw[←eq]at x1 hr
        clear ep eq HE
        obtain⟨s,hs⟩:∃s,wh x p=s:=⟨_,rfl⟩
        obtain⟨t,ht⟩:∃s,wh y q=s:=⟨_,rfl⟩
        obtain⟨b,hb⟩:∃b,(s != t)=b:=⟨_,rfl⟩
        have hw:whB x y p q=!b:=by rw[←hb,←hs,←ht];unfold whB;simp[bne]
        rw[hw]at hr
        have HS:=AK hs
        have HT:=AK ht
        have HXC:=AK (Kd.C_below HX.out HB.out)
        have HYC:=AK (Kd.C_below HY.out HB.out)
        clear hs ht
        have HR1:=AK hr
        clear hr hw
        cases b
        · have HE:=AK (show r=cmp2 (whB x y) (o.f2.drop (i+1).toNat) (u.f2.drop (i+1).toNat)from HR1.out)
          go_wp2_with fail
          go_quiet (with_reducible first|exact wh_n HXC.out HS.out|exact wh_n HYC.out HT.out)
          go_wp2
          go_roundg k1
          case measure=>omega
          case rel=>
            rw[wrap_succ i (by have:=HI.out;omega) (by have:=HI.out;have:=HL.out;omega)]
            exact⟨i+1,rfl,⟨by have:=HI.out;omega,by have:=HI.out;omega⟩,HE,⟨by repeat (first|exact HB.out|apply pw_below_drewN|apply below_drew1)⟩⟩
        · have e:r=false:=HR1.out
          subst e
          go_wp2_with fail
          go_quiet (with_reducible first|exact wh_n HXC.out HS.out|exact wh_n HYC.out HT.out)
          go_wp2
          go_ret
          exact⟨rfl,bst HW0.out (by repeat (first|exact HB.out|apply pw_below_drewN|apply below_drew1))⟩
  · have e:r=false:=by rw[HR.out];revert hz;cases b0<;>cases b1<;>cases b2<;>simp
    subst e
    cases b0<;>cases b1<;>cases b2
    all_goals first
      | exact absurd ⟨rfl,rfl,rfl⟩ hz
      | (clear hz
         simp only[Bool.not_false,Bool.not_true]at ct ct2
         go_enter Try.func90,Try.ntmps90
         go_wp2
         go_ret
         exact⟨rfl,HW.out.1⟩)
end Go.Proofs.Ytigjhfijkdlldaa.H
