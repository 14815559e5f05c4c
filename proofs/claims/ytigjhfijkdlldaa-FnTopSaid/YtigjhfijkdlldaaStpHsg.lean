import Derived.Test.YtigjhfijkdlldaaStpHim
import Derived.Test.YtigjhfijkdlldaaStpQe
import Derived.Test.YtigjhfijkdlldaaStpDe
import Derived.Test.YtigjhfijkdlldaaStpPv
namespace Go.Proofs.Ytigjhfijkdlldaa.H
open Go.RowKit Go.Proofs.YtigjhfijkdlldaaW.PrintWords Go.Proofs.YtigjhfijkdlldaaW.PrintLast Go.Proofs.YtigjhfijkdlldaaW.PrintMore Go.Proofs.Ytigjhfijkdlldaa.Q
set_option linter.unusedVariables false
set_option linter.unusedSimpArgs false
section
theorem sit3_tab:rtab .any (opsOf Try.f46 3)=(true,[([],[]),([0],[0]),([],[]),([1,2,1],[1,2]),([3],[3]),([3],[3]),([4,3,0,1,2,3,4,5],[4]),([5,6,0,1,2,3,4,5,6],[5])]):=by kernel_rfl
theorem sit3_bits:waitsOk [([],[]),([0],[0]),([],[]),([1,2,1],[1,2]),([3],[3]),([3],[3]),([4,3,0,1,2,3,4,5],[4]),([5,6,0,1,2,3,4,5,6],[5])] [0,1,0,7,15,15,63,127]=true:=by kernel_rfl
set_option maxHeartbeats 4000000 in
set_option maxRecDepth 100000 in
theorem MemStep_calls (v w:World) (A0 A1 A2 A3:Option Addr) (c0 c1 c2 c3:Nat) (G:Hp) (e:S40) (A6:Option Addr) (c6:Nat) (hB:Below v.heap.size v w) (h:InH w A0 c0 A1 c1 A2 c2 A3 c3 G.o G.r G.w G.d) (hf:Fine G.o G.r G.w G.d) (he:Kd.C (Kd.int .i64) w A6 e.f4.f2.length e.f4.f2) (hc:e.f4.f2.length≤c6) (hl6:e.f4.f2.length≤1048576) (hs6:(e.f4.f1.size:Int)≤4611686018427387903) (R:Hp) (s:ByteArray) (hR:(R,s)=stepB G e) :
  Calls Try.prog 46 #[.agg #[.slice A0 G.o.length c0,.slice A1 G.r.length c1,.slice A2 G.w.length c2,.slice A3 G.d.length c3],.agg #[.int .i64 e.f0,.int .i64 e.f1,.int .i64 e.f2,.int .i64 e.f3,.int .i64 e.f4.f0,.string e.f4.f1,.slice A6 e.f4.f2.length c6]] w fun en w'=>∃B0 d0 B1 d1 B2 d2 B3 d3,en=.returned (.tuple #[.agg #[.slice B0 R.o.length d0,.slice B1 R.r.length d1,.slice B2 R.w.length d2,.slice B3 R.d.length d3],.string s]) ∧
   OwnX w' v.heap.size B0 d0 B1 d1 B2 d2 B3 d3 R∧Below v.heap.size v w':=by
 have HI:=AK h
 have HF:=AK hf
 have HE0:=AK (And.intro he hc)
 have HL6:=AK (And.intro hl6 hs6)
 have HR:=AK hR
 obtain⟨b,eb⟩:∃b,b=okB G.o G.r G.w G.d:=⟨_,rfl⟩
 have EB:=AK eb
 have K0:=AK (SK.start hB (hpC A0 c0 A1 c1 A2 c2 A3 c3 G) (evC e A6 c6))
 clear hB h hf he hc hl6 hs6 hR eb
 go_enter Try.func46,Try.ntmps46
 go_wp2_with fail
 have K:=AK (show SK v w w.heap.size (hpC A0 c0 A1 c1 A2 c2 A3 c3 G) (evC e A6 c6) (((w.alloc (.cells #[.slice A0 G.o.length c0,.slice A1 G.r.length c1,.slice A2 G.w.length c2,.slice A3 G.d.length c3] 28 (0,0))).alloc (.cells #[.int .i64 e.f0,.int .i64 e.f1,.int .i64 e.f2,.int .i64 e.f3,.int .i64 e.f4.f0,.string e.f4.f1,.slice A6 e.f4.f2.length c6] 40 (0,0))).alloc (.cells #[.slice none 0 0,.slice none 0 0,.slice none 0 0,.slice none 0 0] 28 (0,0)))from K0.out)
 generalize (((w.alloc (.cells #[.slice A0 G.o.length c0,.slice A1 G.r.length c1,.slice A2 G.w.length c2,.slice A3 G.d.length c3] 28 (0,0))).alloc (.cells #[.int .i64 e.f0,.int .i64 e.f1,.int .i64 e.f2,.int .i64 e.f3,.int .i64 e.f4.f0,.string e.f4.f1,.slice A6 e.f4.f2.length c6] 40 (0,0))).alloc (.cells #[.slice none 0 0,.slice none 0 0,.slice none 0 0,.slice none 0 0] 28 (0,0)))=w1 at K ⊢
 generalize w.heap.size=n at K ⊢
 clear K0
 have hi1:=HI.out.below K.out.bw
 refine(MemOk_calls _ _ _ _ _ _ _ _ _ _ _ _ _ hi1.r0 hi1.r1 hi1.r2 hi1.r3 (by have:=HF.out.w;omega) HF.out.f).mono ?_
 clear hi1
 rintro en w2 ⟨rfl,hb⟩
 rw[←EB.out]
 replace K:=AK (K.out.below hb)
 clear hb
 cases b with
 | false=>
  have he:(R,s)=(hp0,sNo):=by rw[HR.out];unfold stepB Hp.ok;rw[←EB.out];rfl
  injection he with he1 he2
  subst he1 he2
  obtain⟨z0,z1,z2,z3⟩:=K.out.oc
  have y0:=K.out.of 0
  have y1:=K.out.of 1
  have y2:=K.out.of 2
  have y3:=K.out.of 3
  go_wp2
  refine bodyPost_ret (results_ct rfl _ _ (n+2) 28 #[.slice none 0 0,.slice none 0 0,.slice none 0 0,.slice none 0 0] (0,0) _ rfl (set4_blk K.out.o) Try.underlying28 rfl (by kernel_rfl)) rfl ?_
  exact⟨none,0,none,0,none,0,none,0,rfl,⟨⟨0,Kd.S_nil _ _ _ _ _,Kd.R_nil _ _ _ _ _,Kd.R_nil _ _ _ _ _,Kd.R_nil _ _ _ _ _⟩,Nat.le_refl _⟩,set4_below K.out.b (by have:=K.out.n0;omega)⟩
 | true=>
 have HK:=AK (ok_parts EB.out.symm)
 have HST:=AK (show (R,s)=if e.f0=7∨toB G e=true then doB G e else(G,sNo)by rw[HR.out];unfold stepB Hp.ok;rw[←EB.out];rfl)
 clear HR
 go_wp2_with fail
 replace K:=AK (K.out.below (below_drew1 (Below.refl _ _)))
 refine start_ (n:=8) (S:=(fun w'=>(w'.cell? ⟨n,0,none⟩=some (.slice A0 G.o.length c0)∧w'.cell? ⟨n,1,none⟩=some (.slice A1 G.r.length c1)∧w'.cell? ⟨n,2,none⟩=some (.slice A2 G.w.length c2)∧w'.cell? ⟨n,3,none⟩=some (.slice A3 G.d.length c3))∧(w'.cell? ⟨n+1,0,none⟩=some (.int .i64 e.f0)∧w'.cell? ⟨n+1,1,none⟩=some (.int .i64 e.f1)∧w'.cell? ⟨n+1,2,none⟩=some (.int .i64 e.f2)∧w'.cell? ⟨n+1,3,none⟩=some (.int .i64 e.f3)∧w'.cell? ⟨n+1,4,none⟩=some (.int .i64 e.f4.f0)∧w'.cell? ⟨n+1,5,none⟩=some (.string e.f4.f1)∧w'.cell? ⟨n+1,6,none⟩=some (.slice A6 e.f4.f2.length c6)))) (ds:=[6]) #[fF,fF,fF,fF,fF,fF,fF,fF] (by kernel_rfl) rfl rfl ⟨box4 K.out.h,ec7 K.out.e⟩ (fun hHeld=>?_);refine with_tabW sit3_tab sit3_bits (fun HT_ HW_=>?_)
 generalize w2.drew=v5 at K hHeld ⊢
 have K5:=K
 refine tU HT_ HW_ 0 (some 10) (bM 8 1) hHeld rfl (by refine Or.inl ⟨by rfl,?_⟩;rintro w' ⟨⟨s0,s1,s2,s3⟩,s4,s5,s6,s7,s8,s9,s10⟩;go_simp;with_reducible rfl) ?_
 refine tU HT_ HW_ 2 (some 12) (bM 8 5) hHeld rfl (by refine Or.inl ⟨by rfl,?_⟩;rintro w' ⟨⟨s0,s1,s2,s3⟩,s4,s5,s6,s7,s8,s9,s10⟩;go_simp;with_reducible rfl) ?_
 refine one_ (i:=1) (N:=some 11) (bM 8 7) rfl rfl (one_of HT_.out (by kernel_rfl)) (by decide) (fun K_ hK=>?_)
 refine goes_ Try.func64 (by kernel_rfl) rfl #[.agg #[.slice A0 G.o.length c0,.slice A1 G.r.length c1,.slice A2 G.w.length c2,.slice A3 G.d.length c3]] (by rfl) rfl rfl zI ?_
 refine(memCopy_calls _ _ _ _ _ _ _ _ _ _ _ _ _ (HI.out.below K.out.bw) (lim_ok HK.out)).mono ?_
 rintro en v6 ⟨B0,b0,B1,b1,B2,b2,B3,b3,rfl,hO,hb⟩
 refine⟨_,rfl,?_⟩
 have HO:=AK hO
 have HB5:=AK hb
 have HV5:=AK K.out.b.size
 replace K:=AK (K.out.below hb)
 clear hO hb
 refine hK.out _ _ ⟨box4 K.out.h,ec7 K.out.e⟩ (fun hHeld=>?_)
 clear hK K_
 refine nO (some 11) ?_
 refine one_ (i:=3) (N:=some 13) (bM 8 15) rfl rfl (one_of HT_.out (by kernel_rfl)) (by decide) (fun K_ hK=>?_)
 refine goes_ Try.func106 (by kernel_rfl) rfl #[.agg #[.slice B0 G.o.length b0,.slice B1 G.r.length b1,.slice B2 G.w.length b2,.slice B3 G.d.length b3],.agg #[.int .i64 e.f0,.int .i64 e.f1,.int .i64 e.f2,.int .i64 e.f3,.int .i64 e.f4.f0,.string e.f4.f1,.slice A6 e.f4.f2.length c6]] (by rfl) rfl rfl zI ?_
 refine(memStep_calls v5 v6 B0 B1 B2 B3 b0 b1 b2 b3 G e A6 c6 HB5.out HO.out HK.out (Kd.C_below HE0.out.1 K.out.bw) HE0.out.2 HL6.out.1 HL6.out.2 R s HST.out).mono ?_
 rintro en v7 ⟨D0,d0,D1,d1,D2,d2,D3,d3,rfl,hO,hb⟩
 refine⟨_,rfl,?_⟩
 have HX:=AK hO
 replace K:=AK (K5.out.below hb)
 clear hO hb HO HB5
 refine hK.out _ _ ⟨box4 K.out.h,ec7 K.out.e⟩ (fun hHeld=>?_)
 clear hK K_
 refine nO (some 13) ?_
 refine pU HT_ 4 (some 14) (bM 8 31) ?_
 refine pU HT_ 5 (some 15) (bM 8 63) ?_
 refine last_ (i:=6) (N:=none) #[tT,tT,tT,tT,tT,tT,tT,fF] rfl rfl (one_of HT_.out (by kernel_rfl)) (by decide) (fun K_ hK=>?_)
 obtain⟨z0,z1,z2,z3⟩:=K.out.oc
 have y0:=K.out.of 0
 have y1:=K.out.of 1
 have y2:=K.out.of 2
 have y3:=K.out.of 3
 refine skip_ (w1:=?_) (by rfl) rfl ?_ ?_
 rotate_left
 ·go_simp
  rfl
 clear z0 z1 z2 z3 y0 y1 y2 y3
 refine hK.out _ _ ?_
 clear hK K_
 refine pU HT_ 7 (some 5) (bM 8 255) ?_
 refine done_ (done_of HT_.out (by kernel_rfl)) ?_
 clear HT_ HW_ hHeld
 go_wp2
 refine bodyPost_ret (results_ct rfl _ _ (n+2) 28 #[.slice D0 R.o.length d0,.slice D1 R.r.length d1,.slice D2 R.w.length d2,.slice D3 R.d.length d3] (0,0) _ rfl (set4_blk K.out.o) Try.underlying28 rfl (by kernel_rfl)) rfl ?_
 obtain⟨x3,hx⟩:=HX.out.own
 exact⟨D0,d0,D1,d1,D2,d2,D3,d3,rfl,⟨⟨x3,OwnH.lower (hx.set4 K.out.o) HV5.out⟩,HX.out.k⟩,set4_below K.out.b (by have:=K.out.n0;omega)⟩
end
section
theorem InH.cap {w:World} {A0 A1 A2 A3:Option Addr} {c0 c1 c2 c3 d3:Nat} {l0:List S38} {l1:List Int} {l2 l3:List S60} (h:InH w A0 c0 A1 c1 A2 c2 A3 c3 l0 l1 l2 l3) (hd:l3.length≤d3):InH w A0 c0 A1 c1 A2 c2 A3 d3 l0 l1 l2 l3:=
  ⟨h.r0,h.r1,h.r2,h.r3,h.k0,h.k1,h.k2,hd⟩
set_option maxHeartbeats 4000000 in
set_option maxRecDepth 100000 in
theorem MemPlay_calls (w:World) (A0 A1 A2 A3:Option Addr) (c0 c1 c2 c3:Nat) (G:Hp) (es:List S40) (Ee:Option Addr) (ce:Nat) (h:InH w A0 c0 A1 c1 A2 c2 A3 c3 G.o G.r G.w G.d) (hf:Fine G.o G.r G.w G.d) (he:Kd.C k40 w Ee es.length es) (hl:es.length≤1048576) (hv:∀x∈es,x.f4.f2.length≤1048576∧(x.f4.f1.size:Int)≤4611686018427387903) (S:Hp) (tt:List ByteArray) (hR:(S,tt)=playB G es) :
    Calls Try.prog 17 #[.agg #[.slice A0 G.o.length c0,.slice A1 G.r.length c1,.slice A2 G.w.length c2,.slice A3 G.d.length c3],.slice Ee es.length ce] w fun en w'=>∃B0 k0 B1 k1 B2 k2 B3 k3 K ck,en=.returned (.tuple #[.agg #[.slice B0 S.o.length k0,.slice B1 S.r.length k1,.slice B2 S.w.length k2,.slice B3 S.d.length k3],.slice K tt.length ck]) ∧
      OwnX w' w.heap.size B0 k0 B1 k1 B2 k2 B3 k3 S∧Kd.R Kd.string 9 w' w.heap.size (fun _=>True) (.slice K tt.length ck) tt∧Below w.heap.size w w':=by
  have HI:=AK h
  have HF:=AK hf
  have HE:=AK (And.intro he (And.intro hl hv))
  have HR:=AK hR
  obtain⟨ok,eb⟩:∃ok,ok=okB G.o G.r G.w G.d:=⟨_,rfl⟩
  have EB:=AK eb
  have HB:=AK (show Below w.heap.size w ((w.alloc (.cells #[(.slice A0 G.o.length c0),(.slice A1 G.r.length c1),(.slice A2 G.w.length c2),(.slice A3 G.d.length c3)] 28 (0,0))).alloc (.cells #[.slice none 0 0,.slice none 0 0,.slice none 0 0,.slice none 0 0] 28 (0,0)))∧((w.alloc (.cells #[(.slice A0 G.o.length c0),(.slice A1 G.r.length c1),(.slice A2 G.w.length c2),(.slice A3 G.d.length c3)] 28 (0,0))).alloc (.cells #[.slice none 0 0,.slice none 0 0,.slice none 0 0,.slice none 0 0] 28 (0,0))).heap[w.heap.size]?=some (.cells #[(.slice A0 G.o.length c0),(.slice A1 G.r.length c1),(.slice A2 G.w.length c2),(.slice A3 G.d.length c3)] 28 (0,0))∧((w.alloc (.cells #[(.slice A0 G.o.length c0),(.slice A1 G.r.length c1),(.slice A2 G.w.length c2),(.slice A3 G.d.length c3)] 28 (0,0))).alloc (.cells #[.slice none 0 0,.slice none 0 0,.slice none 0 0,.slice none 0 0] 28 (0,0))).heap[w.heap.size+1]?=some (.cells #[.slice none 0 0,.slice none 0 0,.slice none 0 0,.slice none 0 0] 28 (0,0))from⟨below_alloc (below_alloc (Below.refl _ _) _) _,blk_alloc (blk_new w _) _,blk_new1 w _ _⟩)
  clear h hf he hl hv hR eb
  go_enter Try.func17,Try.ntmps17
  go_wp2_with fail
  generalize ((w.alloc (.cells #[(.slice A0 G.o.length c0),(.slice A1 G.r.length c1),(.slice A2 G.w.length c2),(.slice A3 G.d.length c3)] 28 (0,0))).alloc (.cells #[.slice none 0 0,.slice none 0 0,.slice none 0 0,.slice none 0 0] 28 (0,0)))=w1 at HB ⊢
  have hi1:=HI.out.below HB.out.1
  refine(MemOk_calls _ _ _ _ _ _ _ _ _ _ _ _ _ hi1.r0 hi1.r1 hi1.r2 hi1.r3 (by have:=HF.out.w;omega) HF.out.f).mono ?_
  clear hi1
  rintro en w3 ⟨rfl,hb⟩
  rw[←EB.out]
  replace HB:=AK (And.intro (bst HB.out.1 hb) (And.intro (bbl HB.out.2.1 hb) (bbl HB.out.2.2 hb)))
  clear hb
  cases ok with
  | false=>
    have he:(S,tt)=(hp0,[]):=by rw[HR.out];unfold playB Hp.ok;rw[←EB.out];rfl
    injection he with he1 he2
    subst he1 he2
    obtain⟨z0,z1,z2,z3⟩:=box4 HB.out.2.2
    have y0:=bfz HB.out.2.2 0
    have y1:=bfz HB.out.2.2 1
    have y2:=bfz HB.out.2.2 2
    have y3:=bfz HB.out.2.2 3
    go_wp2
    refine bodyPost_ret (results_ct rfl _ _ (w.heap.size+1) 28 #[.slice none 0 0,.slice none 0 0,.slice none 0 0,.slice none 0 0] (0,0) _ rfl (set4_blk HB.out.2.2) Try.underlying28 rfl (by kernel_rfl)) rfl ?_
    exact⟨none,0,none,0,none,0,none,0,none,0,rfl,⟨⟨0,Kd.S_nil _ _ _ _ _,Kd.R_nil _ _ _ _ _,Kd.R_nil _ _ _ _ _,Kd.R_nil _ _ _ _ _⟩,Nat.le_refl _⟩,Kd.R_nil _ _ _ _ _,set4_below HB.out.1 (by omega)⟩
  | true=>
  have HK:=AK (ok_parts EB.out.symm)
  have HST:=AK (show (S,tt)=runL G es by rw[HR.out];unfold playB Hp.ok;rw[←EB.out];rfl)
  have HOK:=AK (show G.ok=true from EB.out.symm)
  clear HR
  obtain⟨p0,p1,p2,p3⟩:=box4 HB.out.2.1
  go_wp2_with fail
  clear p0 p1 p2 p3
  refine(memCopy_calls _ _ _ _ _ _ _ _ _ _ _ _ _ (HI.out.below HB.out.1) (lim_ok HK.out)).mono ?_
  rintro en w4 ⟨B0,k0,B1,k1,B2,k2,B3,k3,rfl,hO,hb⟩
  have hbx:=bbl HB.out.2.1 hb
  have HP0:=AK (show PL w w.heap.size #[(.slice A0 G.o.length c0),(.slice A1 G.r.length c1),(.slice A2 G.w.length c2),(.slice A3 G.d.length c3)] none 0 [] w4 from⟨bst HB.out.1 hb,bbl HB.out.2.2 hb,hbx,⟨Nat.le_refl _,by omega⟩,Kd.R_nil _ _ _ _ _⟩)
  have HO:=AK (show OwnG ((((w4.setCell ⟨w.heap.size,0,none⟩ (.slice B0 G.o.length k0)).setCell ⟨w.heap.size,1,none⟩ (.slice B1 G.r.length k1)).setCell ⟨w.heap.size,2,none⟩ (.slice B2 G.w.length k2)).setCell ⟨w.heap.size,3,none⟩ (.slice B3 G.d.length k3)) w.heap.size B0 k0 B1 k1 B2 k2 B3 k3 G from OwnH.set4 (OwnH.lower hO HB.out.1.size) hbx)
  have HP:=AK (show PL w w.heap.size #[(.slice B0 G.o.length k0),(.slice B1 G.r.length k1),(.slice B2 G.w.length k2),(.slice B3 G.d.length k3)] none 0 [] ((((w4.setCell ⟨w.heap.size,0,none⟩ (.slice B0 G.o.length k0)).setCell ⟨w.heap.size,1,none⟩ (.slice B1 G.r.length k1)).setCell ⟨w.heap.size,2,none⟩ (.slice B2 G.w.length k2)).setCell ⟨w.heap.size,3,none⟩ (.slice B3 G.d.length k3))from HP0.out.put _ rfl ⟨_,_,_,_,rfl⟩)
  have HX3:=AK (show G.d.length≤k3 from hO.reads.k3)
  obtain⟨p0,p1,p2,p3⟩:=box4 hbx
  have f0:=bfz hbx 0
  have f1:=bfz hbx 1
  have f2:=bfz hbx 2
  have f3:=bfz hbx 3
  clear hO hb hbx HB
  go_upto_region 4 with fail
  clear p0 p1 p2 p3 f0 f1 f2 f3 HP0
  generalize ((((w4.setCell ⟨w.heap.size,0,none⟩ (.slice B0 G.o.length k0)).setCell ⟨w.heap.size,1,none⟩ (.slice B1 G.r.length k1)).setCell ⟨w.heap.size,2,none⟩ (.slice B2 G.w.length k2)).setCell ⟨w.heap.size,3,none⟩ (.slice B3 G.d.length k3))=w5 at HO HP ⊢
  have HRUN:=AK (show (G,([]:List ByteArray))=runL G (es.take (0:Int).toNat)from rfl)
  go_wp2
  go_loopg [6,18] es.length (fun kq v6 v18 w'=>∃(R:Hp) (ts:List ByteArray) (B0:Option Addr) (k0:Nat) (B1:Option Addr) (k1:Nat) (B2:Option Addr) (k2:Nat) (B3:Option Addr) (k3:Nat) (x3:Nat) (K:Option Addr) (ck:Nat) (i:Int),v6=.slice K ts.length ck∧v18=.int .i64 i∧Aside0 (0≤i∧i+kq=es.length)∧Aside0 ((R,ts)=runL G (es.take i.toNat))∧Aside0 (OwnG w' w.heap.size B0 k0 B1 k1 B2 k2 B3 x3 R)∧Aside0 (R.d.length≤k3)∧Aside0 (PL w w.heap.size #[(.slice B0 R.o.length k0),(.slice B1 R.r.length k1),(.slice B2 R.w.length k2),(.slice B3 R.d.length k3)] K ck ts w'))
  case atStart=>exact⟨G,[],B0,k0,B1,k1,B2,k2,B3,k3,k3,none,0,0,rfl,rfl,⟨by omega,by omega⟩,HRUN,HO,HX3,HP⟩
  case round=>
    clear HRUN HO HP HX3
    obtain⟨R,ts,B0,k0,B1,k1,B2,k2,B3,k3,x3,K,ck,i,rfl,rfl,HI2,HRUN,HO,HX3,HP⟩:=hrel
    have hrl:ts.length=i.toNat:=by have h1:ts.length=(runL G (es.take i.toNat)).2.length:=congrArg (fun p=>p.2.length) HRUN.out;have h3:=HI2.out;rw[run_len,List.length_take]at h1;omega
    have HRL:=AK hrl
    have HROK:=AK (show R.ok=true by have h1:=run_ok (es.take i.toNat) G HOK.out;rw[←HRUN.out]at h1;exact h1)
    have HFR:=AK (OkH.fine (show OkH R.o R.r R.w R.d from ok_parts HROK.out))
    clear hrl
    cases gk with
    | zero=>
      have c9:decide (i<(es.length:Int))=false:=deF (by have:=HI2.out;omega)
      have he:(R,ts)=(S,tt):=by rw[HRUN.out,HST.out,take_all _ _ (by have:=HI2.out;omega)]
      injection he with he1 he2
      subst he1 he2
      obtain⟨p0,p1,p2,p3⟩:=box4 HP.out.h
      obtain⟨z0,z1,z2,z3⟩:=box4 HP.out.z
      have y0:=bfz HP.out.z 0
      have y1:=bfz HP.out.z 1
      have y2:=bfz HP.out.z 2
      have y3:=bfz HP.out.z 3
      go_wp2
      refine bodyPost_ret (results_ct rfl _ _ (w.heap.size+1) 28 #[(.slice B0 R.o.length k0),(.slice B1 R.r.length k1),(.slice B2 R.w.length k2),(.slice B3 R.d.length k3)] (0,0) _ rfl (set4_blk HP.out.z) Try.underlying28 rfl (by kernel_rfl)) rfl ?_
      exact⟨B0,k0,B1,k1,B2,k2,B3,k3,K,ck,rfl,⟨⟨x3,OwnH.set4 HO.out HP.out.z⟩,HX3.out⟩,set4_R HP.out.t HP.out.z (str_ap 28 (by decide)),set4_below HP.out.b (by omega)⟩
    | succ g1=>
      have c9:decide (i<(es.length:Int))=true:=deT (by have:=HI2.out;omega)
      have hi0:=eq_true (show 0≤i by have:=HI2.out;omega)
      have hi1:=eq_true (show i<(es.length:Int)by have:=HI2.out;omega)
      have hm:=HE.out.2.2 _ (getD_mem es z40 i (by have:=HI2.out;omega) (by have:=HI2.out;omega))
      have HTK:=AK (take_one es z40 i (by have:=HI2.out;omega) (by have:=HI2.out;omega))
      obtain⟨ad,F,f,e1,x0,x1,x2,x3_,x4,x5,x6,hfl,hx⟩:=at_T40 (Kd.C_below HE.out.1 HP.out.b) i (by have:=HI2.out;omega) (by have:=HI2.out;omega)
      subst e1
      obtain⟨e,ez⟩:∃e,e=rd_T40 es i:=⟨_,rfl⟩
      rw[←ez]at x0 x1 x2 x3_ x4 x5 x6 hfl hx
      rw[show es.getD i.toNat z40=e from ez.symm]at hm HTK
      have HEC:=AK (And.intro hx (And.intro hfl hm))
      obtain⟨R2,s2,hR2⟩:∃R2 s2,(R2,s2)=stepB R e:=⟨_,_,rfl⟩
      have HS2:=AK hR2
      have HRUN2:=AK (show (R2,ts++[s2])=runL G (es.take (i+1).toNat)by
        rw[HTK.out,run_snoc,←HRUN.out]
        show _=((stepB R e).1,ts++[(stepB R e).2])
        rw[←hR2])
      have hba:=below_alloc (Below.refl wr.heap.size wr) (.cells #[(.int .i64 e.f0),(.int .i64 e.f1),(.int .i64 e.f2),(.int .i64 e.f3),(.int .i64 e.f4.f0),(.string e.f4.f1),(.slice F e.f4.f2.length f)] 40 (0,0))
      have HE8:=AK (blk_new wr (.cells #[(.int .i64 e.f0),(.int .i64 e.f1),(.int .i64 e.f2),(.int .i64 e.f3),(.int .i64 e.f4.f0),(.string e.f4.f1),(.slice F e.f4.f2.length f)] 40 (0,0)))
      have HBA:=AK hba
      obtain⟨p0,p1,p2,p3⟩:=box4 (bbl HP.out.h hba)
      have hlt:=blk_lt HP.out.h
      clear hm hfl hx ez hR2 hba
      go_upto_region 8 with fail
      clear x0 x1 x2 x3_ x4 x5 x6
      replace HP:=AK (HP.out.below HBA.out)
      replace HO:=AK (HO.out.below HBA.out)
      replace HEC:=AK (And.intro (Kd.C_below HEC.out.1 HBA.out) HEC.out.2)
      generalize wr.alloc (.cells #[(.int .i64 e.f0),(.int .i64 e.f1),(.int .i64 e.f2),(.int .i64 e.f3),(.int .i64 e.f4.f0),(.string e.f4.f1),(.slice F e.f4.f2.length f)] 40 (0,0))=w7 at HE8 HP HO HEC HBA p0 p1 p2 p3 ⊢
      obtain⟨q0,q1,q2,q3,q4,q5,q6⟩:=box7 HE8.out
      go_wp2_with fail
      clear p0 p1 p2 p3 q0 q1 q2 q3 q4 q5 q6
      refine(MemStep_calls _ _ _ _ _ _ _ _ _ _ R e _ _ (Below.refl _ _) (HO.out.reads.cap HX3.out) HFR.out HEC.out.1 HEC.out.2.1 HEC.out.2.2.1 HEC.out.2.2.2 R2 s2 HS2.out).mono ?_
      rintro en w8 ⟨D0,d0,D1,d1,D2,d2,D3,d3,rfl,hO,hb⟩
      obtain⟨⟨y3,hO⟩,hy3⟩:=hO
      have HY3:=AK hy3
      have HP6:=AK (HP.out.below hb)
      have HO2:=AK (show OwnG ((((w8.setCell ⟨w.heap.size,0,none⟩ (.slice D0 R2.o.length d0)).setCell ⟨w.heap.size,1,none⟩ (.slice D1 R2.r.length d1)).setCell ⟨w.heap.size,2,none⟩ (.slice D2 R2.w.length d2)).setCell ⟨w.heap.size,3,none⟩ (.slice D3 R2.d.length d3)) w.heap.size D0 d0 D1 d1 D2 d2 D3 y3 R2 from OwnH.set4 (OwnH.lower hO HP.out.b.size) HP6.out.h)
      have HP7:=AK (show PL w w.heap.size #[(.slice D0 R2.o.length d0),(.slice D1 R2.r.length d1),(.slice D2 R2.w.length d2),(.slice D3 R2.d.length d3)] K ck ts ((((w8.setCell ⟨w.heap.size,0,none⟩ (.slice D0 R2.o.length d0)).setCell ⟨w.heap.size,1,none⟩ (.slice D1 R2.r.length d1)).setCell ⟨w.heap.size,2,none⟩ (.slice D2 R2.w.length d2)).setCell ⟨w.heap.size,3,none⟩ (.slice D3 R2.d.length d3))from HP6.out.put _ rfl ⟨_,_,_,_,rfl⟩)
      obtain⟨p0,p1,p2,p3⟩:=box4 HP6.out.h
      have f0:=bfz HP6.out.h 0
      have f1:=bfz HP6.out.h 1
      have f2:=bfz HP6.out.h 2
      have f3:=bfz HP6.out.h 3
      obtain⟨ts2,et⟩:∃t,t=ts++[s2]:=⟨_,rfl⟩
      have ET:=AK et
      have HRUN3:=AK (show (R2,ts2)=runL G (es.take (i+1).toNat)by rw[et];exact HRUN2.out)
      clear et hO hb hy3 hlt
      go_upto_region 10 with fail
      clear p0 p1 p2 p3 f0 f1 f2 f3 HP HO HP6 HE8 HBA
      generalize ((((w8.setCell ⟨w.heap.size,0,none⟩ (.slice D0 R2.o.length d0)).setCell ⟨w.heap.size,1,none⟩ (.slice D1 R2.r.length d1)).setCell ⟨w.heap.size,2,none⟩ (.slice D2 R2.w.length d2)).setCell ⟨w.heap.size,3,none⟩ (.slice D3 R2.d.length d3))=w9 at HO2 HP7 ⊢
      have HP:=HP7
      clear HP7
      go_wp2_with ((with_reducible refine gate_builtin (b:=.append) (xs:=#[.tmp 28,.tmp 30]) rfl ?_);at_builtin;refine Kd.R_append Kd.string (w0:=w) w.heap.size rfl (.tmp 28) (.tmp 30) 32 9 (.string ⟨#[]⟩) 16 rfl Try.underlying32 info9 rfl (by decide) (by omega) (.slice K ts.length ck) ts s2 [.string s2] (fun _=>True) (fun _=>False) rfl rfl ?aP (fun _ hk=>hk.elim) (fun _ _=>trivial) HP.out.t HP.out.b HP.out.b.size ?aL ?_;(case aP=>exact rfl);(case aL=>have:=HRL.out;have:=HI2.out;have:=HE.out.2.1;omega);intro v3 wa ho hb hg hat;rw[←ET.out]at ho;obtain⟨K3,ck3,hv3⟩:=Kd.R_slice ho;subst hv3;have HP8:=AK (HP.out.text hb hg ho);have HO8:=AK (OwnH.overT HO2.out HP.out.t hg);clear ho hb hg hat)
      go_roundg g1
      case measure=>omega
      case rel=>
        try rw[wrap_succ i (by have:=HI2.out;omega) (by have:=HI2.out;have:=HE.out.2.1;omega)]
        exact⟨R2,ts2,D0,d0,D1,d1,D2,d2,D3,d3,y3,K3,ck3,i+1,rfl,rfl,⟨by have:=HI2.out;omega,by have:=HI2.out;omega⟩,HRUN3,HO8,HY3,HP8⟩
end
section
attribute [local go_sem high] eqA60
set_option maxHeartbeats 4000000 in
set_option maxRecDepth 100000 in
theorem sameWs_calls (A B:Option Addr) (c d:Nat) (l m:List S60) (w:World) (hl:Kd.C k60 w A l.length l) (hm:Kd.C k60 w B m.length m) (hll:(l.length:Int)≤4611686018427387903) :
    Calls Try.prog 72 #[.slice A l.length c,.slice B m.length d] w fun e w'=>e=.returned (.bool (sameW l m))∧Below w.heap.size w w':=by
  have hu60:=Try.underlying60
  have HL:=AK hl
  have HM:=AK hm
  have HLL:=AK hll
  clear hl hm hll
  by_cases hlen:l.length=m.length
  · have c1:((l.length:Int) != m.length)=false:=by simp[hlen]
    have HN:=AK hlen
    have e0:sameW l m=cmp2 weB (l.drop (0:Int).toNat) (m.drop (0:Int).toNat):=by unfold sameW;rw[deT hlen];rfl
    obtain⟨r,er⟩:∃r,r=sameW l m:=⟨_,rfl⟩
    rw[←er]at e0 ⊢
    have E0:=AK e0
    clear hlen e0 er
    go_enter Try.func72,Try.ntmps72
    go_wp2
    go_loopg [13] l.length (fun kq v13 w'=>∃i:Int,v13=.int .i64 i∧Aside0 (0≤i∧i+kq=l.length)∧Aside0 (r=cmp2 weB (l.drop i.toNat) (m.drop i.toNat))∧Aside0 (Below w.heap.size w w'))
    case atStart=>exact⟨0,rfl,⟨by omega,by omega⟩,E0,⟨Below.refl _ _⟩⟩
    case round=>
      clear E0
      obtain⟨i,rfl,HI,HE,HB⟩:=hrel
      cases gk with
      | zero=>
        have c4b:decide (i<(l.length:Int))=false:=deF (by have:=HI.out;omega)
        have e:r=true:=by rw[HE.out];exact cmp2_end _ _ _ _ (by have:=HI.out;omega)
        subst e
        go_wp2
        go_ret
        exact⟨rfl,HB.out⟩
      | succ k1=>
        have hi:=HI.out
        have hn:=HN.out
        have c4b:decide (i<(l.length:Int))=true:=deT (by omega)
        have e4a:=eq_true (show 0≤i by omega)
        have e4b:=eq_true (show i<(l.length:Int)by omega)
        have e4c:=eq_true (show i<(m.length:Int)by omega)
        have he:=HE.out
        rw[cmp2_at _ l m z60 z60 i (by omega) (by omega) (by omega)]at he
        obtain⟨ad2,e2,hz0,hz1⟩:=at_T60 HL.out i (by omega) (by omega)
        subst e2
        obtain⟨ad3,e3,hy0,hy1⟩:=at_T60 HM.out i (by omega) (by omega)
        subst e3
        obtain⟨p,ep⟩:∃p,p=rd_T60 l i:=⟨_,rfl⟩
        obtain⟨q,eq⟩:∃q,q=rd_T60 m i:=⟨_,rfl⟩
        rw[←ep]at hz0 hz1
        rw[←eq]at hy0 hy1
        have HE1:=AK (show r=(weB p q && cmp2 weB (l.drop (i+1).toNat) (m.drop (i+1).toNat))by rw[ep,eq];exact he)
        replace hz0:=pcb HB.out hz0
        replace hz1:=pcb HB.out hz1
        replace hy0:=pcb HB.out hy0
        replace hy1:=pcb HB.out hy1
        clear ep eq he hi hn HE
        have HZ:=AK (And.intro (And.intro hz0 hz1) (And.intro hy0 hy1))
        by_cases cc:weB p q=true
        · have c6:(!(p.f0 == q.f0) || !(p.f1 == q.f1))=false:=by revert cc;unfold weB;cases (p.f0 == q.f0)<;>cases (p.f1 == q.f1)<;>simp
          have HE2:=AK (show r=cmp2 weB (l.drop (i+1).toNat) (m.drop (i+1).toNat)by rw[HE1.out,cc];rfl)
          clear cc HE1
          go_wp2_with fail
          go_region_held3 (fun w'=>(w'.cell? (ad2.add (i.toNat*2))=some (.int .i64 p.f0)∧w'.cell? ⟨(ad2.add (i.toNat*2)).block,(ad2.add (i.toNat*2)).off+1,none⟩=some (.int .i64 p.f1))∧w'.cell? (ad3.add (i.toNat*2))=some (.int .i64 q.f0)∧w'.cell? ⟨(ad3.add (i.toNat*2)).block,(ad3.add (i.toNat*2)).off+1,none⟩=some (.int .i64 q.f1))
            (first|exact HZ.out)
            (first|fail)
          go_wp2
          go_roundg k1
          case measure=>omega
          case rel=>
            have h1:=HI.out
            have h2:=HLL.out
            rw[wrap_succ i (by omega) (by omega)]
            exact⟨i+1,rfl,⟨by omega,by omega⟩,HE2,⟨below_drew1 HB.out⟩⟩
        · have c6:(!(p.f0 == q.f0) || !(p.f1 == q.f1))=true:=by revert cc;unfold weB;cases (p.f0 == q.f0)<;>cases (p.f1 == q.f1)<;>simp
          have e:r=false:=by rw[HE1.out,Bool.eq_false_iff.2 cc];rfl
          subst e
          clear cc HE1
          go_wp2_with fail
          go_region_held3 (fun w'=>(w'.cell? (ad2.add (i.toNat*2))=some (.int .i64 p.f0)∧w'.cell? ⟨(ad2.add (i.toNat*2)).block,(ad2.add (i.toNat*2)).off+1,none⟩=some (.int .i64 p.f1))∧w'.cell? (ad3.add (i.toNat*2))=some (.int .i64 q.f0)∧w'.cell? ⟨(ad3.add (i.toNat*2)).block,(ad3.add (i.toNat*2)).off+1,none⟩=some (.int .i64 q.f1))
            (first|exact HZ.out)
            (first|fail)
          go_wp2
          go_ret
          exact⟨rfl,below_drew1 HB.out⟩
  · have c1:((l.length:Int) != m.length)=true:=by simp;omega
    have e0:sameW l m=false:=by unfold sameW;rw[deF hlen];rfl
    rw[e0]
    clear hlen e0
    go_enter Try.func72,Try.ntmps72
    go_wp2
    go_ret
    exact⟨rfl,Below.refl _ _⟩
end
end Go.Proofs.Ytigjhfijkdlldaa.H
