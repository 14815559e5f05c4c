import Derived.Test.YtigjhfijkdlldaaDoorSliHim
import Derived.Test.YtigjhfijkdlldaaDoorSliSg
import Derived.Test.YtigjhfijkdlldaaDoorSliQe
import Derived.Test.YtigjhfijkdlldaaDoorSliPt
namespace Go.Proofs.YtigjhfijkdlldaaDoor.H
open Go.RowKit Go.Proofs.YtigjhfijkdlldaaDoorW.PrintWords Go.Proofs.YtigjhfijkdlldaaDoorW.PrintLast Go.Proofs.YtigjhfijkdlldaaDoorW.PrintMore Go.Proofs.YtigjhfijkdlldaaDoor.Q
set_option linter.unusedVariables false
set_option linter.unusedSimpArgs false
section
theorem sit3_tab:rtab .any (opsOf Tryd.f29 3)=(true,[([],[]),([0],[0]),([],[]),([1,2,1],[1,2]),([3],[3]),([3],[3]),([4,3,0,1,2,3,4,5],[4]),([5,6,0,1,2,3,4,5,6],[5])]):=by kernel_rfl
theorem sit3_bits:waitsOk [([],[]),([0],[0]),([],[]),([1,2,1],[1,2]),([3],[3]),([3],[3]),([4,3,0,1,2,3,4,5],[4]),([5,6,0,1,2,3,4,5,6],[5])] [0,1,0,7,15,15,63,127]=true:=by kernel_rfl
set_option maxHeartbeats 4000000 in
set_option maxRecDepth 100000 in
theorem MemStep_calls (v w:World) (A0 A1 A2 A3:Option Addr) (c0 c1 c2 c3:Nat) (G:Hp) (e:S40) (A6:Option Addr) (c6:Nat) (hB:Below v.heap.size v w) (h:InH w A0 c0 A1 c1 A2 c2 A3 c3 G.o G.r G.w G.d) (hf:Fine G.o G.r G.w G.d) (he:Kd.C (Kd.int .i64) w A6 e.f4.f2.length e.f4.f2) (hc:e.f4.f2.length≤c6) (hl6:e.f4.f2.length≤1048576) (hs6:(e.f4.f1.size:Int)≤4611686018427387903) (R:Hp) (s:ByteArray) (hR:(R,s)=stepB G e) :
  Calls Tryd.prog 29 #[.agg #[.slice A0 G.o.length c0,.slice A1 G.r.length c1,.slice A2 G.w.length c2,.slice A3 G.d.length c3],.agg #[.int .i64 e.f0,.int .i64 e.f1,.int .i64 e.f2,.int .i64 e.f3,.int .i64 e.f4.f0,.string e.f4.f1,.slice A6 e.f4.f2.length c6]] w fun en w'=>∃B0 d0 B1 d1 B2 d2 B3 d3,en=.returned (.tuple #[.agg #[.slice B0 R.o.length d0,.slice B1 R.r.length d1,.slice B2 R.w.length d2,.slice B3 R.d.length d3],.string s]) ∧
   OwnX w' v.heap.size B0 d0 B1 d1 B2 d2 B3 d3 R∧Below v.heap.size v w':=by
 have HI:=AK h
 have HF:=AK hf
 have HE0:=AK (And.intro he hc)
 have HL6:=AK (And.intro hl6 hs6)
 have HR:=AK hR
 obtain⟨b,eb⟩:∃b,b=okB G.o G.r G.w G.d:=⟨_,rfl⟩
 have EB:=AK eb
 have K0:=AK (SK.start hB (hpC A0 c0 A1 c1 A2 c2 A3 c3 G) (evC e A6 c6))
 clear hB h hf he hc hl6 hs6 hR eb
 go_enter Tryd.func29,Tryd.ntmps29
 go_wp2_with fail
 have K:=AK (show SK v w w.heap.size (hpC A0 c0 A1 c1 A2 c2 A3 c3 G) (evC e A6 c6) (((w.alloc (.cells #[.slice A0 G.o.length c0,.slice A1 G.r.length c1,.slice A2 G.w.length c2,.slice A3 G.d.length c3] 33 (0,0))).alloc (.cells #[.int .i64 e.f0,.int .i64 e.f1,.int .i64 e.f2,.int .i64 e.f3,.int .i64 e.f4.f0,.string e.f4.f1,.slice A6 e.f4.f2.length c6] 37 (0,0))).alloc (.cells #[.slice none 0 0,.slice none 0 0,.slice none 0 0,.slice none 0 0] 33 (0,0)))from K0.out)
 generalize (((w.alloc (.cells #[.slice A0 G.o.length c0,.slice A1 G.r.length c1,.slice A2 G.w.length c2,.slice A3 G.d.length c3] 33 (0,0))).alloc (.cells #[.int .i64 e.f0,.int .i64 e.f1,.int .i64 e.f2,.int .i64 e.f3,.int .i64 e.f4.f0,.string e.f4.f1,.slice A6 e.f4.f2.length c6] 37 (0,0))).alloc (.cells #[.slice none 0 0,.slice none 0 0,.slice none 0 0,.slice none 0 0] 33 (0,0)))=w1 at K ⊢
 generalize w.heap.size=n at K ⊢
 clear K0
 have hi1:=HI.out.below K.out.bw
 refine(MemOk_calls _ _ _ _ _ _ _ _ _ _ _ _ _ hi1.r0 hi1.r1 hi1.r2 hi1.r3 (by have:=HF.out.w;omega) HF.out.f).mono ?_
 clear hi1
 rintro en w2 ⟨rfl,hb⟩
 rw[←EB.out]
 replace K:=AK (K.out.below hb)
 clear hb
 cases b with
 | false=>
  have he:(R,s)=(hp0,sNo):=by rw[HR.out];unfold stepB Hp.ok;rw[←EB.out];rfl
  injection he with he1 he2
  subst he1 he2
  obtain⟨z0,z1,z2,z3⟩:=K.out.oc
  have y0:=K.out.of 0
  have y1:=K.out.of 1
  have y2:=K.out.of 2
  have y3:=K.out.of 3
  go_wp2
  refine bodyPost_ret (results_ct rfl _ _ (n+2) 33 #[.slice none 0 0,.slice none 0 0,.slice none 0 0,.slice none 0 0] (0,0) _ rfl (set4_blk K.out.o) Tryd.underlying33 rfl (by kernel_rfl)) rfl ?_
  exact⟨none,0,none,0,none,0,none,0,rfl,⟨⟨0,Kd.S_nil _ _ _ _ _,Kd.R_nil _ _ _ _ _,Kd.R_nil _ _ _ _ _,Kd.R_nil _ _ _ _ _⟩,Nat.le_refl _⟩,set4_below K.out.b (by have:=K.out.n0;omega)⟩
 | true=>
 have HK:=AK (ok_parts EB.out.symm)
 have HST:=AK (show (R,s)=if e.f0=7∨toB G e=true then doB G e else(G,sNo)by rw[HR.out];unfold stepB Hp.ok;rw[←EB.out];rfl)
 clear HR
 go_wp2_with fail
 replace K:=AK (K.out.below (below_drew1 (Below.refl _ _)))
 refine start_ (n:=8) (S:=(fun w'=>(w'.cell? ⟨n,0,none⟩=some (.slice A0 G.o.length c0)∧w'.cell? ⟨n,1,none⟩=some (.slice A1 G.r.length c1)∧w'.cell? ⟨n,2,none⟩=some (.slice A2 G.w.length c2)∧w'.cell? ⟨n,3,none⟩=some (.slice A3 G.d.length c3))∧(w'.cell? ⟨n+1,0,none⟩=some (.int .i64 e.f0)∧w'.cell? ⟨n+1,1,none⟩=some (.int .i64 e.f1)∧w'.cell? ⟨n+1,2,none⟩=some (.int .i64 e.f2)∧w'.cell? ⟨n+1,3,none⟩=some (.int .i64 e.f3)∧w'.cell? ⟨n+1,4,none⟩=some (.int .i64 e.f4.f0)∧w'.cell? ⟨n+1,5,none⟩=some (.string e.f4.f1)∧w'.cell? ⟨n+1,6,none⟩=some (.slice A6 e.f4.f2.length c6)))) (ds:=[6]) #[fF,fF,fF,fF,fF,fF,fF,fF] (by kernel_rfl) rfl rfl ⟨box4 K.out.h,ec7 K.out.e⟩ (fun hHeld=>?_);refine with_tabW sit3_tab sit3_bits (fun HT_ HW_=>?_)
 generalize w2.drew=v5 at K hHeld ⊢
 have K5:=K
 refine tU HT_ HW_ 0 (some 10) (bM 8 1) hHeld rfl (by refine Or.inl ⟨by rfl,?_⟩;rintro w' ⟨⟨s0,s1,s2,s3⟩,s4,s5,s6,s7,s8,s9,s10⟩;go_simp;with_reducible rfl) ?_
 refine tU HT_ HW_ 2 (some 12) (bM 8 5) hHeld rfl (by refine Or.inl ⟨by rfl,?_⟩;rintro w' ⟨⟨s0,s1,s2,s3⟩,s4,s5,s6,s7,s8,s9,s10⟩;go_simp;with_reducible rfl) ?_
 refine one_ (i:=1) (N:=some 11) (bM 8 7) rfl rfl (one_of HT_.out (by kernel_rfl)) (by decide) (fun K_ hK=>?_)
 refine goes_ Tryd.func49 (by kernel_rfl) rfl #[.agg #[.slice A0 G.o.length c0,.slice A1 G.r.length c1,.slice A2 G.w.length c2,.slice A3 G.d.length c3]] (by rfl) rfl rfl zI ?_
 refine(memCopy_calls _ _ _ _ _ _ _ _ _ _ _ _ _ (HI.out.below K.out.bw) (lim_ok HK.out)).mono ?_
 rintro en v6 ⟨B0,b0,B1,b1,B2,b2,B3,b3,rfl,hO,hb⟩
 refine⟨_,rfl,?_⟩
 have HO:=AK hO
 have HB5:=AK hb
 have HV5:=AK K.out.b.size
 replace K:=AK (K.out.below hb)
 clear hO hb
 refine hK.out _ _ ⟨box4 K.out.h,ec7 K.out.e⟩ (fun hHeld=>?_)
 clear hK K_
 refine nO (some 11) ?_
 refine one_ (i:=3) (N:=some 13) (bM 8 15) rfl rfl (one_of HT_.out (by kernel_rfl)) (by decide) (fun K_ hK=>?_)
 refine goes_ Tryd.func48 (by kernel_rfl) rfl #[.agg #[.slice B0 G.o.length b0,.slice B1 G.r.length b1,.slice B2 G.w.length b2,.slice B3 G.d.length b3],.agg #[.int .i64 e.f0,.int .i64 e.f1,.int .i64 e.f2,.int .i64 e.f3,.int .i64 e.f4.f0,.string e.f4.f1,.slice A6 e.f4.f2.length c6]] (by rfl) rfl rfl zI ?_
 refine(memStep_calls v5 v6 B0 B1 B2 B3 b0 b1 b2 b3 G e A6 c6 HB5.out HO.out HK.out (Kd.C_below HE0.out.1 K.out.bw) HE0.out.2 HL6.out.1 HL6.out.2 R s HST.out).mono ?_
 rintro en v7 ⟨D0,d0,D1,d1,D2,d2,D3,d3,rfl,hO,hb⟩
 refine⟨_,rfl,?_⟩
 have HX:=AK hO
 replace K:=AK (K5.out.below hb)
 clear hO hb HO HB5
 refine hK.out _ _ ⟨box4 K.out.h,ec7 K.out.e⟩ (fun hHeld=>?_)
 clear hK K_
 refine nO (some 13) ?_
 refine pU HT_ 4 (some 14) (bM 8 31) ?_
 refine pU HT_ 5 (some 15) (bM 8 63) ?_
 refine last_ (i:=6) (N:=none) #[tT,tT,tT,tT,tT,tT,tT,fF] rfl rfl (one_of HT_.out (by kernel_rfl)) (by decide) (fun K_ hK=>?_)
 obtain⟨z0,z1,z2,z3⟩:=K.out.oc
 have y0:=K.out.of 0
 have y1:=K.out.of 1
 have y2:=K.out.of 2
 have y3:=K.out.of 3
 refine skip_ (w1:=?_) (by rfl) rfl ?_ ?_
 rotate_left
 ·go_simp
  rfl
 clear z0 z1 z2 z3 y0 y1 y2 y3
 refine hK.out _ _ ?_
 clear hK K_
 refine pU HT_ 7 (some 5) (bM 8 255) ?_
 refine done_ (done_of HT_.out (by kernel_rfl)) ?_
 clear HT_ HW_ hHeld
 go_wp2
 refine bodyPost_ret (results_ct rfl _ _ (n+2) 33 #[.slice D0 R.o.length d0,.slice D1 R.r.length d1,.slice D2 R.w.length d2,.slice D3 R.d.length d3] (0,0) _ rfl (set4_blk K.out.o) Tryd.underlying33 rfl (by kernel_rfl)) rfl ?_
 obtain⟨x3,hx⟩:=HX.out.own
 exact⟨D0,d0,D1,d1,D2,d2,D3,d3,rfl,⟨⟨x3,OwnH.lower (hx.set4 K.out.o) HV5.out⟩,HX.out.k⟩,set4_below K.out.b (by have:=K.out.n0;omega)⟩
end
section
theorem split_c {w:World} {s:ByteArray} {c:UInt8} {m:Int} (hs:s.size≤1048576) (hm:w.cell? ⟨0,0,none⟩=some (.int .i64 m)) :
    Calls Tryd.prog 13 #[.string s,.string ⟨#[c]⟩] w fun e w'=>e=.returned (.slice (some ⟨w.heap.size,0,none⟩) (cutB c s).length (cutB c s).length)∧Kd.R Kd.string 9 w' w.heap.size (fun _=>True) (.slice (some ⟨w.heap.size,0,none⟩) (cutB c s).length (cutB c s).length) (cutB c s)∧Below w.heap.size w w':=by
  refine(Tryd.strings_Split s ⟨#[c]⟩ m w (by omega) hm (Nat.le_refl 1)).mono ?_
  rintro e w' ⟨rfl,rfl⟩
  rw[splitB_cut,←cutB_length]
  refine⟨rfl,?_,below_alloc (Below.refl _ _) _⟩
  refine Kd.R_of_own ?_ (fun _ _=>trivial)
  have h2:=World.ownsRow_lit (base:=w.heap.size) (e:=9) (size:=1) w ((cutB c s).map Value.string).toArray (cutB c s).length (Nat.le_refl _) (by have:=cutB_most c s;simp only[maxLen];omega) (by simp)
  simpa [encs] using h2
theorem split10_c {w:World} {s:ByteArray} {m:Int} (hs:s.size≤1048576) (hm:w.cell? ⟨0,0,none⟩=some (.int .i64 m)) :
    Calls Tryd.prog 13 #[.string s,.string ⟨#[10]⟩] w fun e w'=>∃ad:Addr,e=.returned (.slice (some ad) (cutB 10 s).length (cutB 10 s).length)∧Kd.R Kd.string 9 w' w.heap.size (fun _=>True) (.slice (some ad) (cutB 10 s).length (cutB 10 s).length) (cutB 10 s)∧Below w.heap.size w w':=(split_c hs hm).mono (fun e w' h=>⟨_,h⟩)
theorem split32_c {w:World} {s:ByteArray} {m:Int} (hs:s.size≤1048576) (hm:w.cell? ⟨0,0,none⟩=some (.int .i64 m)) :
    Calls Tryd.prog 13 #[.string s,.string ⟨#[32]⟩] w fun e w'=>∃ad:Addr,e=.returned (.slice (some ad) (cutB 32 s).length (cutB 32 s).length)∧Kd.R Kd.string 9 w' w.heap.size (fun _=>True) (.slice (some ad) (cutB 32 s).length (cutB 32 s).length) (cutB 32 s)∧Below w.heap.size w w':=(split_c hs hm).mono (fun e w' h=>⟨_,h⟩)
theorem dec_dec {n:Nat} (h:n<100):(⟨(Lib.decDigits n).toArray⟩:ByteArray)=decB n:=by
  unfold decB
  rw[Lib.decDigits]
  split
  · rename_i c
    rw[show (48:Int)+(n:Int)=((48+n:Nat):Int)by omega]
    rfl
  · rename_i c
    rw[Lib.decDigits,dif_pos (by omega),show (48:Int)+((n / 10:Nat):Int)=((48+n / 10:Nat):Int)by omega,show (48:Int)+((n % 10:Nat):Int)=((48+n % 10:Nat):Int)by omega]
    rfl
theorem itoa_c {w:World} {n:Nat} (h:n<100):Calls Tryd.prog 27 #[.int .i64 (n:Int)] w fun e w'=>e=.returned (.string (decB n))∧w'=w:=by
  rw[←dec_dec h]
  exact Tryd.strconv_Itoa_small n h w
theorem one_word {t:List UInt8} (ht:(32:UInt8) ∉ t) (l:ByteArray):(l.toList == t)=((tw (cutB 32 l) == t) && ((cutB 32 l).length == 1)):=by
  by_cases c:(cutB 32 l).length=1
  · have e:tw (cutB 32 l)=l.toList:=by rw[cutB_single c];rfl
    rw[e,c];simp
  · have h2:((cutB 32 l).length == 1)=false:=beq_eq_false_iff_ne.2 c
    rw[h2,Bool.and_false]
    refine beq_eq_false_iff_ne.2 (fun e=>c ?_)
    unfold cutB
    rw[List.length_map,cutL_length,←ByteArray.toList_eq,e,List.count_eq_zero.2 ht]
theorem OwnX.below {w w1:World} {base:Nat} {A0 A1 A2 A3:Option Addr} {c0 c1 c2 c3:Nat} {G:Hp} (h:OwnX w base A0 c0 A1 c1 A2 c2 A3 c3 G) (hb:Below w.heap.size w w1):OwnX w1 base A0 c0 A1 c1 A2 c2 A3 c3 G:=by
  obtain⟨⟨x,hx⟩,hk⟩:=h
  exact⟨⟨x,hx.below hb⟩,hk⟩
theorem OwnX.reads {w:World} {base:Nat} {A0 A1 A2 A3:Option Addr} {c0 c1 c2 c3:Nat} {G:Hp} (h:OwnX w base A0 c0 A1 c1 A2 c2 A3 c3 G):InH w A0 c0 A1 c1 A2 c2 A3 c3 G.o G.r G.w G.d:=by
  obtain⟨⟨x,hx⟩,hk⟩:=h
  have:=hx.reads
  exact⟨this.r0,this.r1,this.r2,this.r3,this.k0,this.k1,this.k2,hk⟩
theorem OwnX.lower {w:World} {base base':Nat} {A0 A1 A2 A3:Option Addr} {c0 c1 c2 c3:Nat} {G:Hp} (h:OwnX w base A0 c0 A1 c1 A2 c2 A3 c3 G) (hb:base'≤base):OwnX w base' A0 c0 A1 c1 A2 c2 A3 c3 G:=by
  obtain⟨⟨x,hx⟩,hk⟩:=h
  exact⟨⟨x,OwnH.lower hx hb⟩,hk⟩
theorem OwnX.set4 {w:World} {base:Nat} {A0 A1 A2 A3:Option Addr} {c0 c1 c2 c3:Nat} {G:Hp} (h:OwnX w base A0 c0 A1 c1 A2 c2 A3 c3 G) {g:Nat} {cs:Array Value} {p q r s:Value} (hb:w.heap[g]?=some (.cells cs 33 (0,0))):OwnX (H.set4 w g p q r s) base A0 c0 A1 c1 A2 c2 A3 c3 G:=by
  obtain⟨⟨x,hx⟩,hk⟩:=h
  exact⟨⟨x,OwnH.set4 hx hb⟩,hk⟩
structure LB (w0:World) (n0 n1 n3 n4:Nat) (ad:Addr) (d:Nat) (hs:Array Value) (ws:List ByteArray) (cs:Array Value) (w:World):Prop where
  b:Below w0.heap.size w0 w
  x0:w.heap[n0]?=some (.cells hs 33 (0,0))
  x1:w.heap[n1]?=some (.cells #[.slice none 0 0,.slice none 0 0,.slice none 0 0,.slice none 0 0] 33 (0,0))
  x3:w.heap[n3]?=some (.cells #[.slice (some ad) ws.length d] 27 (0,0))
  x4:w.heap[n4]?=some (.cells cs 37 (0,0))
  ww:Kd.R Kd.string 9 w w0.heap.size (fun _=>True) (.slice (some ad) ws.length d) ws
  g1:w0.heap.size≤n1
  g4:w0.heap.size≤n4
section
variable {w0 w w1:World} {n0 n1 n3 n4:Nat} {ad:Addr} {d:Nat} {hs:Array Value} {ws:List ByteArray} {cs:Array Value}
theorem LB.below (h:LB w0 n0 n1 n3 n4 ad d hs ws cs w) (hb:Below w.heap.size w w1):LB w0 n0 n1 n3 n4 ad d hs ws cs w1:=
  ⟨bst h.b hb,bbl h.x0 hb,bbl h.x1 hb,bbl h.x3 hb,bbl h.x4 hb,Kd.R_below h.ww hb,h.g1,h.g4⟩
theorem LB.at_ (h:LB w0 n0 n1 n3 n4 ad d hs ws cs w) (i:Nat) (hi:i<ws.length):w.cell? (ad.add i)=some (.string (ws.getD i ByteArray.empty)):=str_at (Kd.R_reads' h.ww).2.2 i hi
theorem LB.slot (h:LB w0 n0 n1 n3 n4 ad d hs ws cs w):w.cell? ⟨n3,0,none⟩=some (.slice (some ad) ws.length d):=(bcl h.x3 0).trans rfl
theorem LB.dig (h:LB w0 n0 n1 n3 n4 ad d hs ws cs w) {i:Int} (h0:0≤i) (h1:i<(ws.length:Int)):Calls Tryd.prog 26 #[.int .i64 i,.pointer (some ⟨n3,0,none⟩)] w fun e w'=>e=.returned (.int .i64 (dg ws i.toNat))∧w'=w:=
  memDig_c h.slot h0 h1 (h.at_ i.toNat (by omega))
theorem LB.set7 (h:LB w0 n0 n1 n3 n4 ad d hs ws cs w) {q0 q1 q2 q3 q4 q5 q6 a b c e f g k:Value} (hc:cs=#[q0,q1,q2,q3,q4,q5,q6]):LB w0 n0 n1 n3 n4 ad d hs ws #[a,b,c,e,f,g,k] (H.set7 w n4 a b c e f g k):=by
  subst hc
  have ne:∀{j t:Nat} {xs:Array Value},w.heap[j]?=some (.cells xs t (0,0))→t≠37→j≠n4:=by
    intro j t xs hj ht he
    subst he
    rw[h.x4]at hj
    injection hj with hj
    injection hj with _ hj
    exact ht hj.symm
  exact⟨set7_below h.b h.g4,set7_far h.x0 (ne h.x0 (by decide)),set7_far h.x1 (ne h.x1 (by decide)),set7_far h.x3 (ne h.x3 (by decide)),set7_blk h.x4,set7_R h.ww h.x4 (by intro q hq;simp[Kd.string]at hq;rcases hq with rfl|hq<;>first|decide|exact absurd hq (by simp[Kd.scalar])),h.g1,h.g4⟩
theorem LB.dig1 (h:LB w0 n0 n1 n3 n4 ad d hs ws cs w) (h1:1<ws.length):Calls Tryd.prog 26 #[.int .i64 1,.pointer (some ⟨n3,0,none⟩)] w fun e w'=>e=.returned (.int .i64 (dg ws 1))∧w'=w:=h.dig (i:=1) (by omega) (by omega)
theorem LB.dig2 (h:LB w0 n0 n1 n3 n4 ad d hs ws cs w) (h1:2<ws.length):Calls Tryd.prog 26 #[.int .i64 2,.pointer (some ⟨n3,0,none⟩)] w fun e w'=>e=.returned (.int .i64 (dg ws 2))∧w'=w:=h.dig (i:=2) (by omega) (by omega)
theorem LB.dig3 (h:LB w0 n0 n1 n3 n4 ad d hs ws cs w) (h1:3<ws.length):Calls Tryd.prog 26 #[.int .i64 3,.pointer (some ⟨n3,0,none⟩)] w fun e w'=>e=.returned (.int .i64 (dg ws 3))∧w'=w:=h.dig (i:=3) (by omega) (by omega)
theorem LB.at0 (h:LB w0 n0 n1 n3 n4 ad d hs ws cs w) (hi:0<ws.length):w.cell? ad=some (.string (ws.getD 0 ByteArray.empty)):=str_at0 (Kd.R_reads' h.ww).2.2 hi
theorem LB.atk (h:LB w0 n0 n1 n3 n4 ad d hs ws cs w) (i:Nat) (hi:i<ws.length) (h0:0<i):w.cell? ⟨ad.block,ad.off+i,none⟩=some (.string (ws.getD i ByteArray.empty)):=str_atk (Kd.R_reads' h.ww).2.2 i hi h0
theorem str_ap (t:Nat) (ht:9≠t):∀q,q∈9 :: Kd.string.E→q≠t:=by intro q hq;simp[Kd.string]at hq;rcases hq with rfl|hq<;>first|exact ht|exact absurd hq (by simp[Kd.scalar])
theorem LB.setc (h:LB w0 n0 n1 n3 n4 ad d hs ws cs w) {n5:Nat} {c5:Array Value} (h5:w.heap[n5]?=some (.cells c5 35 (0,0))) (g5:w0.heap.size≤n5) (j:Nat) (v:Value):LB w0 n0 n1 n3 n4 ad d hs ws cs (w.setCell ⟨n5,j,none⟩ v):=by
  have ne:∀{k t:Nat} {xs:Array Value},w.heap[k]?=some (.cells xs t (0,0))→t≠35→k≠n5:=by
    intro k t xs hk ht he
    subst he
    rw[h5]at hk
    injection hk with hk
    injection hk with _ hk
    exact ht hk.symm
  exact⟨below_set h.b g5,blk_far h.x0 (p:=⟨n5,j,none⟩) (ne h.x0 (by decide)) v,blk_far h.x1 (p:=⟨n5,j,none⟩) (ne h.x1 (by decide)) v,blk_far h.x3 (p:=⟨n5,j,none⟩) (ne h.x3 (by decide)) v,blk_far h.x4 (p:=⟨n5,j,none⟩) (ne h.x4 (by decide)) v,Kd.R_set h.ww h5 (str_ap 35 (by decide)) j v,h.g1,h.g4⟩
theorem LB.grown (h:LB w0 n0 n1 n3 n4 ad d hs ws cs w) {base:Nat} {ok:Nat→Prop} {v:Value} {ys:List Int} (hv:Kd.R (Kd.int .i64) 3 w base ok v ys) (hg:w.grownBy w1 v.ownBlock) (hb:Below w0.heap.size w0 w1):LB w0 n0 n1 n3 n4 ad d hs ws cs w1:=
  ⟨hb,blk_grown h.x0 hg (Kd.R_ne hv h.x0 (by decide)),blk_grown h.x1 hg (Kd.R_ne hv h.x1 (by decide)),blk_grown h.x3 hg (Kd.R_ne hv h.x3 (by decide)),blk_grown h.x4 hg (Kd.R_ne hv h.x4 (by decide)),Kd.R_over h.ww hv (str_ap 3 (by decide)) hg,h.g1,h.g4⟩
end
end
end Go.Proofs.YtigjhfijkdlldaaDoor.H
