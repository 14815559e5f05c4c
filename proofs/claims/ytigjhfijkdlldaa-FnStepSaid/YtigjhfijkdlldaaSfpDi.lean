import Derived.Test.YtigjhfijkdlldaaSfpDh
import Derived.Test.YtigjhfijkdlldaaSfpHlc
namespace Go.Proofs.Ytigjhfijkdlldaa.H
open Go.RowKit Go.Proofs.YtigjhfijkdlldaaW.PrintWords Go.Proofs.YtigjhfijkdlldaaW.PrintLast Go.Proofs.YtigjhfijkdlldaaW.PrintMore Go.Proofs.Ytigjhfijkdlldaa.Q
set_option linter.unusedVariables false
set_option linter.unusedSimpArgs false
structure BdG (R:Hp):Prop where
  n:R.o.length≤61
  f:∀x∈R.o,x.f2.length≤7
  t:TxH R
  r:R.r.length≤9
  w:R.w.length+R.d.length≤21
structure BdH (R:Hp):Prop where
  n:R.o.length≤62
  f:∀x∈R.o,x.f2.length≤8
  t:TxH R
  r:R.r.length≤10
  w:R.w.length+R.d.length≤22
theorem BdG.loose {R:Hp} (h:BdG R):BdH R:=⟨by have:=h.n;omega,fun x hx=>by have:=h.f x hx;omega,h.t,by have:=h.r;omega,by have:=h.w;omega⟩
theorem bdg_ok {R:Hp} (hk:R.ok=true) (ht:TxH R):BdG R:=by
  have h:OkH R.o R.r R.w R.d:=ok_parts hk
  refine⟨by have:=h.n;omega,fun x hx=>?_,ht,by have:=h.r;omega,by have:=h.w;omega⟩
  have:=(ob_parts (h.o x hx)).2.2
  rcases this with⟨_,b⟩|⟨_,b⟩|⟨_,b⟩|⟨_,b⟩<;>first|omega|(rw[b];simp)
theorem bd_ok {R:Hp} (hk:R.ok=true) (ht:TxH R):BdH R:=(bdg_ok hk ht).loose
theorem BdH.fine {R:Hp} (h:BdH R):Fine R.o R.r R.w R.d:=
  ⟨by have:=h.n;omega,fun x hx=>⟨by have:=(h.t x hx).1;omega,by have:=h.f x hx;omega⟩,by have:=h.r;omega,by have:=h.w;omega⟩
theorem sp12_tab:rtab .any (opsOf Try.f105 12)=(true,[([],[]),([0],[0]),([],[]),([2],[2]),([3],[3]),([4],[4]),([],[]),([6],[6]),([5,7],[5,7]),([8],[8]),([9],[9]),([1,10,7],[1,10]),([0,1,2,3,4,5,6,7,8,9,10,11],[]),([12,11,11,0,1,2,3,4,5,6,7,8,9,10,11],[11,12])]):=by kernel_rfl
theorem sp12_bits:waitsOk [([],[]),([0],[0]),([],[]),([2],[2]),([3],[3]),([4],[4]),([],[]),([6],[6]),([5,7],[5,7]),([8],[8]),([9],[9]),([1,10,7],[1,10]),([0,1,2,3,4,5,6,7,8,9,10,11],[]),([12,11,11,0,1,2,3,4,5,6,7,8,9,10,11],[11,12])] [0,1,0,4,12,28,0,64,252,508,1020,2047,4095,8191]=true:=by kernel_rfl
theorem sp14_tab:rtab .any (opsOf Try.f105 14)=(true,[([],[]),([0],[0]),([],[]),([2],[2]),([3],[3]),([],[]),([5,3],[5]),([6],[6]),([4,7],[4,7]),([8],[8]),([1,9,6],[1,9]),([0,1,2,3,4,5,6,7,8,9,10],[]),([11,10,10,0,1,2,3,4,5,6,7,8,9,10],[10,11])]):=by kernel_rfl
theorem sp14_bits:waitsOk [([],[]),([0],[0]),([],[]),([2],[2]),([3],[3]),([],[]),([5,3],[5]),([6],[6]),([4,7],[4,7]),([8],[8]),([1,9,6],[1,9]),([0,1,2,3,4,5,6,7,8,9,10],[]),([11,10,10,0,1,2,3,4,5,6,7,8,9,10],[10,11])] [0,1,0,4,12,0,44,108,252,508,1023,2047,4095]=true:=by kernel_rfl
theorem sp8_tab:rtab .any (opsOf Try.f105 8)=(true,[([],[]),([0],[0]),([],[]),([],[]),([3],[3]),([1,2,0,1,2,3,4],[1,2]),([5,0,1,2,3,4],[5]),([6,4,4,0,1,2,3,4],[4,6])]):=by kernel_rfl
theorem sp8_bits:waitsOk [([],[]),([0],[0]),([],[]),([],[]),([3],[3]),([1,2,0,1,2,3,4],[1,2]),([5,0,1,2,3,4],[5]),([6,4,4,0,1,2,3,4],[4,6])] [0,1,0,0,8,31,63,127]=true:=by kernel_rfl
theorem sp10_tab:rtab .any (opsOf Try.f105 10)=(true,[([],[]),([0],[0]),([],[]),([],[]),([],[]),([3,4],[3,4]),([1,2,0,1,2,3,4,5],[1,2]),([6,0,1,2,3,4,5],[6]),([7,5,5,0,1,2,3,4,5],[5,7])]):=by kernel_rfl
theorem sp10_bits:waitsOk [([],[]),([0],[0]),([],[]),([],[]),([],[]),([3,4],[3,4]),([1,2,0,1,2,3,4,5],[1,2]),([6,0,1,2,3,4,5],[6]),([7,5,5,0,1,2,3,4,5],[5,7])] [0,1,0,0,0,24,63,127,255]=true:=by kernel_rfl
theorem sp6_tab:rtab .any (opsOf Try.f105 6)=(true,[([],[]),([0],[0]),([],[]),([],[]),([3],[3]),([],[]),([4,5],[4,5]),([6],[6]),([7],[7]),([],[]),([],[]),([10],[10]),([11],[11]),([12],[12]),([9,13],[9,13]),([14],[14]),([15],[15]),([8,16,14],[8,16]),([1,2,0,1,2,3,4,5,6,7,8,9,10,11,12,13,14,15,16,17],[1,2]),([18,0,1,2,3,4,5,6,7,8,9,10,11,12,13,14,15,16,17],[18]),([19,17,17,0,1,2,3,4,5,6,7,8,9,10,11,12,13,14,15,16,17],[17,19])]):=by kernel_rfl
theorem sp6_bits:waitsOk [([],[]),([0],[0]),([],[]),([],[]),([3],[3]),([],[]),([4,5],[4,5]),([6],[6]),([7],[7]),([],[]),([],[]),([10],[10]),([11],[11]),([12],[12]),([9,13],[9,13]),([14],[14]),([15],[15]),([8,16,14],[8,16]),([1,2,0,1,2,3,4,5,6,7,8,9,10,11,12,13,14,15,16,17],[1,2]),([18,0,1,2,3,4,5,6,7,8,9,10,11,12,13,14,15,16,17],[18]),([19,17,17,0,1,2,3,4,5,6,7,8,9,10,11,12,13,14,15,16,17],[17,19])] [0,1,0,0,8,0,56,120,248,0,0,1024,3072,7168,15872,32256,65024,131064,262143,524287,1048575]=true:=by kernel_rfl
section
variable {v w:World} {g lo:Nat} {P:Int} {A0 A1 A2 A3:Option Addr} {c0 c1 c2 c3:Nat} {G:Hp}
set_option maxHeartbeats 4000000 in
set_option maxRecDepth 100000 in
theorem l5Spoil_c (hR:Rdr v w g P) (hB:Below v.heap.size v w) (hP:P≤900000) (h:InH w A0 c0 A1 c1 A2 c2 A3 c3 G.o G.r G.w G.d) (hG0:BdG G) :
    Calls Try.prog 105 #[.pointer (some ⟨g,0,none⟩),.agg #[.slice A0 G.o.length c0,.slice A1 G.r.length c1,.slice A2 G.w.length c2,.slice A3 G.d.length c3]] w fun en w'=>∃(R:Hp) (B0:Option Addr) (d0:Nat) (B1:Option Addr) (d1:Nat) (B2:Option Addr) (d2:Nat) (B3:Option Addr) (d3:Nat),en=.returned (.agg #[.slice B0 R.o.length d0,.slice B1 R.r.length d1,.slice B2 R.w.length d2,.slice B3 R.d.length d3])∧BdH R∧OwnG w' w.heap.size B0 d0 B1 d1 B2 d2 B3 d3 R∧Rdr v w' g (P+10)∧Below v.heap.size v w'∧KeepBut w w' g none:=by
  have hb2:=below_alloc (below_alloc (Below.refl w.heap.size w) (.cells #[.slice A0 G.o.length c0,.slice A1 G.r.length c1,.slice A2 G.w.length c2,.slice A3 G.d.length c3] 28 (0,0))) (.cells #[.slice none 0 0,.slice none 0 0,.slice none 0 0,.slice none 0 0] 28 (0,0))
  have HI0:=AK (h.below hb2)
  have HK:=AK hG0
  have HB0:=AK (And.intro (bst hB hb2) (And.intro (hR.below hb2) (KeepBut.of_below hb2 g none)))
  have HX:=AK (And.intro (blk_alloc (blk_new w (.cells #[.slice A0 G.o.length c0,.slice A1 G.r.length c1,.slice A2 G.w.length c2,.slice A3 G.d.length c3] 28 (0,0))) (.cells #[.slice none 0 0,.slice none 0 0,.slice none 0 0,.slice none 0 0] 28 (0,0))) (And.intro (blk_new1 w (.cells #[.slice A0 G.o.length c0,.slice A1 G.r.length c1,.slice A2 G.w.length c2,.slice A3 G.d.length c3] 28 (0,0)) (.cells #[.slice none 0 0,.slice none 0 0,.slice none 0 0,.slice none 0 0] 28 (0,0))) (And.intro hB.size hb2.size)))
  have HP:=AK hP
  clear hb2 h hG0 hR hB hP
  go_enter Try.func105,Try.ntmps105
  go_upto_region 1 with fail
  generalize ((w.alloc (.cells #[.slice A0 G.o.length c0,.slice A1 G.r.length c1,.slice A2 G.w.length c2,.slice A3 G.d.length c3] 28 (0,0))).alloc (.cells #[.slice none 0 0,.slice none 0 0,.slice none 0 0,.slice none 0 0] 28 (0,0)))=w1 at HI0 HB0 HX ⊢
  obtain⟨p0,p1,p2,p3⟩:=box4 HX.out.1
  go_wp2_with fail
  clear p0 p1 p2 p3
  refine(l1Copy_calls _ _ _ _ _ _ _ _ G.o G.r G.w G.d w1 HI0.out ⟨by have:=HK.out.n;omega,fun x hx=>by have:=HK.out.f x hx;omega,by have:=HK.out.r;omega,by have:=HK.out.w;omega,by have:=HK.out.w;omega⟩).mono ?_
  rintro en w2 ⟨B0,d0,B1,d1,B2,d2,B3,d3,rfl,hO,hb⟩
  have O:=AK (hO.lower2 HX.out.2.2.2)
  replace HB0:=AK (show Below v.heap.size v w2∧Rdr v w2 g P∧KeepBut w w2 g none from⟨bst HB0.out.1 hb,HB0.out.2.1.below hb,keep_below HB0.out.2.2 hb⟩)
  replace HX:=AK (And.intro (bbl HX.out.2.1 hb) (And.intro HX.out.2.2.1 (show w.heap.size+1<w2.heap.size from blk_lt (bbl HX.out.2.1 hb))))
  clear hO hb HI0
  go_upto_region 2 with fail
  have hb3:=below_alloc (Below.refl w2.heap.size w2) (.cells #[.slice B0 G.o.length d0,.slice B1 G.r.length d1,.slice B2 G.w.length d2,.slice B3 G.d.length d3] 28 (0,0))
  have D:=AK (show HW v w g P (w.heap.size+1) w2.heap.size B0 d0 B1 d1 B2 d2 B3 d3 G (w2.alloc (.cells #[.slice B0 G.o.length d0,.slice B1 G.r.length d1,.slice B2 G.w.length d2,.slice B3 G.d.length d3] 28 (0,0)))from⟨bst HB0.out.1 hb3,HB0.out.2.1.below hb3,keep_below HB0.out.2.2 hb3,bbl HX.out.1 hb3,blk_new w2 _,HX.out.2.1,by omega,HX.out.2.2,O.out.below hb3⟩)
  clear hb3 O HB0 HX
  generalize w2.alloc (.cells #[.slice B0 G.o.length d0,.slice B1 G.r.length d1,.slice B2 G.w.length d2,.slice B3 G.d.length d3] 28 (0,0))=w3 at D ⊢
  generalize w2.heap.size=nb at D ⊢
  have HL:=AK HK.out.loose
  go_wp2_with fail
  refine(pick_c (P:=P) 6 D.out.r D.out.b (by have:=HP.out;omega)).mono ?_
  rintro en w4 ⟨k,rfl,hk,hr,hb,hkk⟩
  replace D:=AK (D.out.pick hr hb hkk)
  clear hr hb hkk
  have HKK:=AK hk
  clear hk
  go_upto_block 0 with fail
  go_cut [] (fun wc=>∃(R:Hp) (B0:Option Addr) (d0:Nat) (B1:Option Addr) (d1:Nat) (B2:Option Addr) (d2:Nat) (B3:Option Addr) (d3:Nat),Aside0 (BdH R)∧Aside0 (HW v w g (P+10) (w.heap.size+1) nb B0 d0 B1 d1 B2 d2 B3 d3 R wc))
  case first=>
    have hk:=HKK.out
    rcases(show k=0∨k=1∨k=2∨3≤k by omega)with h|h|h|h
    all_goals clear hk
    · subst h
      obtain⟨p0,p1,p2,p3⟩:=box4 (show (World.heap w4)[nb]?=some (Obj.cells #[.slice B0 G.o.length d0,.slice B1 G.r.length d1,.slice B2 G.w.length d2,.slice B3 G.d.length d3] 28 (0,0))from D.out.xb)
      go_upto_region 12 with fail
      clear p0 p1 p2 p3
      replace D:=AK D.out.drew
      refine start_ (n:=14) (S:=(fun w'=>w'.cell? ⟨nb,0,none⟩=some (.slice B0 G.o.length d0)∧w'.cell? ⟨nb,1,none⟩=some (.slice B1 G.r.length d1))) (ds:=[13]) #[fF,fF,fF,fF,fF,fF,fF,fF,fF,fF,fF,fF,fF,fF] (by kernel_rfl) rfl rfl ⟨(bcl D.out.xb 0).trans rfl,(bcl D.out.xb 1).trans rfl⟩ (fun hHeld=>?_);refine with_tabW sp12_tab sp12_bits (fun HT_ HW_=>?_)
      generalize w4.drew=v5 at D hHeld ⊢
      refine pU HT_ 0 (some 64) (bM 14 1) ?_
      refine tU HT_ HW_ 1 (some 65) (bM 14 3) hHeld rfl (by refine Or.inl ⟨by rfl,?_⟩;rintro w' ⟨s0,s1⟩;go_simp;with_reducible rfl) ?_
      refine pU HT_ 2 (some 66) (bM 14 7) ?_
      refine tU HT_ HW_ 3 (some 67) (bM 14 15) hHeld rfl (by refine Or.inl ⟨by rfl,?_⟩;rintro w' ⟨s0,s1⟩;go_simp;with_reducible rfl) ?_
      refine pU HT_ 4 (some 68) (bM 14 31) ?_
      refine pU HT_ 6 (some 70) (bM 14 95) ?_
      refine two_ (i:=5) (j:=7) (Ni:=some 69) (Nj:=some 71) (bM 14 127) (bM 14 223) rfl rfl rfl rfl (two_of HT_.out (by kernel_rfl)) (by decide) (by decide) (fun K_ hK=>?_) (fun K_ hK=>?_)
      · skip
        refine Kd.R_lit_step (Kd.int .i64) (w0:=v5) w.heap.size 3 (by rfl) (N:=69) rfl (xs:=([-2,-1,(G.o.length:Int)]:List Int)) (inner:=[.int .i64 (-2),.int .i64 (-1),.int .i64 ((G.o.length:Int))]) (ok:=fun k=>k≠g) (okp:=fun _=>False) ?hr ?hp (fun _ hk=>hk.elim) ?hf (Below.refl _ _) D.out.k.1 (by simp) ?_;(case hr=>first|(go_simp;done)|(go_simp;rfl));(case hp=>exact(Reps.one (show Kd.M (Kd.int .i64) _ _ _ (-2) [.int .i64 (-2)]from rfl) (Reps.one (show Kd.M (Kd.int .i64) _ _ _ (-1) [.int .i64 (-1)]from rfl) (Reps.one (show Kd.M (Kd.int .i64) _ _ _ ((G.o.length:Int)) [.int .i64 ((G.o.length:Int))]from rfl) (Reps.none _ _)))));(case hf=>have:=D.out.r.lt;omega)
        intro v69 v6 hs hb hg hat
        obtain⟨S,sc,ee⟩:=Kd.R_slice hs
        subst ee
        replace D:=AK (D.out.below (gb_none hg))
        have HS:=AK hs
        clear hs hb hg hat
        refine hK.out _ _ ⟨(bcl D.out.xb 0).trans rfl,(bcl D.out.xb 1).trans rfl⟩ (fun hHeld=>?_)
        clear hK K_
        refine nO (some 69) ?_
        refine one_ (i:=7) (N:=some 71) (bM 14 255) rfl rfl (one_of HT_.out (by kernel_rfl)) (by decide) (fun K_ hK=>?_)
        refine goes_ Try.func63 (by kernel_rfl) rfl #[.pointer (some ⟨g,0,none⟩),.int .i64 3] (by rfl) rfl rfl zI ?_
        refine(pick_c (P:=P+1) 3 D.out.r D.out.b (by have:=HP.out;omega)).mono ?_
        rintro en v8 ⟨m,rfl,hm,hr,hb,hkk⟩
        refine⟨_,rfl,?_⟩
        replace HS:=AK (Kd.R_keep HS.out hkk (fun _ h=>h))
        replace D:=AK (D.out.pick hr hb hkk)
        clear hr hb hkk
        obtain⟨ad,e1,hq⟩:=Kd.at_int (Kd.R_reads' HS.out).2.2 m hm.1 (hm.2.1 (by omega))
        subst e1
        have hi0:=eq_true hm.1
        have hi1:=eq_true (show m<3 from hm.2.1 (by omega))
        generalize rd ([-2,-1,(G.o.length:Int)]:List Int) m=q at hq
        obtain⟨r2,er2⟩:∃l,l=G.r++[q]:=⟨_,rfl⟩
        have ER2:=AK er2
        clear er2
        refine hK.out _ _ ⟨(bcl D.out.xb 0).trans rfl,(bcl D.out.xb 1).trans rfl⟩ (fun hHeld=>?_)
        clear hK K_
        refine nO (some 71) ?_
        refine pU HT_ 8 (some 72) (bM 14 511) ?_
        refine one_ (i:=9) (N:=some 73) (bM 14 1023) rfl rfl (one_of HT_.out (by kernel_rfl)) (by decide) (fun K_ hK=>?_)
        refine value_ (v:=.int .i64 q) (w1:=v8) (by rfl) rfl ?hr ?_;(case hr=>first|(go_simp;done)|(go_simp;rfl))
        refine hK.out _ _ ⟨(bcl D.out.xb 0).trans rfl,(bcl D.out.xb 1).trans rfl⟩ (fun hHeld=>?_)
        clear hK K_
        refine nO (some 73) ?_
        refine one_ (i:=10) (N:=some 74) (bM 14 2047) rfl rfl (one_of HT_.out (by kernel_rfl)) (by decide) (fun K_ hK=>?_)
        refine value_ (v:=.slice (some ⟨v8.heap.size,0,none⟩) 1 1) (w1:=v8.alloc (.cells #[.int .i64 q] 3 (0,0))) (by rfl) rfl ?hr ?_;(case hr=>first|(go_simp;done)|(go_simp;rfl))
        refine hK.out _ _ ⟨(bcl (blk_alloc D.out.xb _) 0).trans rfl,(bcl (blk_alloc D.out.xb _) 1).trans rfl⟩ (fun hHeld=>?_)
        clear hK K_
        refine nO (some 74) ?_
        refine one_ (i:=11) (N:=some 75) (bM 14 4095) rfl rfl (one_of HT_.out (by kernel_rfl)) (by decide) (fun K_ hK=>?_)
        refine Kd.R_append_step (Kd.int .i64) (w0:=v8) (W:=v8) w.heap.size (by rfl) (.tmp 65) (.tmp 74) 25 3 (.int .i64 0) 8 rfl Try.underlying25 info3 rfl (by decide) (by omega) (.slice B1 G.r.length d1) G.r q [.int .i64 q] (fun _=>True) (fun _=>False) rfl rfl ?aP (fun _ hk=>hk.elim) (fun _ _=>trivial) ?aO (Below.refl _ _) ?aS ?aL ?_;(case aP=>exact rfl);(case aO=>exact D.out.O.s1);(case aS=>exact D.out.k.1);(case aL=>have:=HL.out.r;omega)
        intro v75 w9 ho hb hg hat
        rw[←ER2.out]at ho
        obtain⟨Q,qc,ee⟩:=Kd.R_slice ho
        subst ee
        have N0:=AK (D.out.pushR ho hg hat)
        have hxx:=(D.out.fr hg (row_of D.out.O.s1 (by decide) (by decide))).xb
        have HX9:=AK hxx
        clear ho hb hg hat hxx
        refine hK.out _ _ ⟨(bcl HX9.out 0).trans rfl,(bcl HX9.out 1).trans rfl⟩ (fun hHeld=>?_)
        clear hK K_
        refine nO (some 75) ?_
        refine pU HT_ 12 (some 76) (bM 14 8191) ?_
        refine last_ (i:=13) (N:=none) #[tT,tT,tT,tT,tT,tT,tT,tT,tT,tT,tT,tT,tT,tT] rfl rfl (one_of HT_.out (by kernel_rfl)) (by decide) (fun K_ hK=>?_)
        have hx:=(show w9.cell? ⟨nb,1,none⟩=some (.slice B1 G.r.length d1)from(bcl HX9.out 1).trans rfl)
        have hf:=bfz HX9.out 1
        refine skip_ (w1:=?_) (by rfl) rfl ?_ ?_
        rotate_left
        · go_simp
          rfl
        clear hx hf
        refine hK.out _ _ ?_
        clear hK K_
        refine done_ (done_of HT_.out (by kernel_rfl)) ?_
        clear HT_ HW_ hHeld
        go_wp2
        go_meet
        case rel=>exact⟨⟨G.o,r2,G.w,G.d⟩,B0,d0,Q,qc,B2,d2,B3,d3,⟨HL.out.n,HL.out.f,HL.out.t,by show r2.length≤10;rw[ER2.out,List.length_append];have:=HK.out.r;simp;omega,HL.out.w⟩,⟨N0.out.more (by omega)⟩⟩
      · skip
        refine goes_ Try.func63 (by kernel_rfl) rfl #[.pointer (some ⟨g,0,none⟩),.int .i64 3] (by rfl) rfl rfl zI ?_
        refine(pick_c (P:=P+1) 3 D.out.r D.out.b (by have:=HP.out;omega)).mono ?_
        rintro en v7 ⟨m,rfl,hm,hr,hb,hkk⟩
        refine⟨_,rfl,?_⟩
        replace D:=AK (D.out.pick hr hb hkk)
        clear hr hb hkk
        refine hK.out _ _ ⟨(bcl D.out.xb 0).trans rfl,(bcl D.out.xb 1).trans rfl⟩ (fun hHeld=>?_)
        clear hK K_
        refine nO (some 71) ?_
        refine one_ (i:=5) (N:=some 69) (bM 14 255) rfl rfl (one_of HT_.out (by kernel_rfl)) (by decide) (fun K_ hK=>?_)
        refine Kd.R_lit_step (Kd.int .i64) (w0:=v7) w.heap.size 3 (by rfl) (N:=69) rfl (xs:=([-2,-1,(G.o.length:Int)]:List Int)) (inner:=[.int .i64 (-2),.int .i64 (-1),.int .i64 ((G.o.length:Int))]) (ok:=fun k=>k≠g) (okp:=fun _=>False) ?hr ?hp (fun _ hk=>hk.elim) ?hf (Below.refl _ _) D.out.k.1 (by simp) ?_;(case hr=>first|(go_simp;done)|(go_simp;rfl));(case hp=>exact(Reps.one (show Kd.M (Kd.int .i64) _ _ _ (-2) [.int .i64 (-2)]from rfl) (Reps.one (show Kd.M (Kd.int .i64) _ _ _ (-1) [.int .i64 (-1)]from rfl) (Reps.one (show Kd.M (Kd.int .i64) _ _ _ ((G.o.length:Int)) [.int .i64 ((G.o.length:Int))]from rfl) (Reps.none _ _)))));(case hf=>have:=D.out.r.lt;omega)
        intro v69 v8 hs hb hg hat
        obtain⟨S,sc,ee⟩:=Kd.R_slice hs
        subst ee
        replace D:=AK (D.out.below (gb_none hg))
        have HS:=AK hs
        clear hs hb hg hat
        obtain⟨ad,e1,hq⟩:=Kd.at_int (Kd.R_reads' HS.out).2.2 m hm.1 (hm.2.1 (by omega))
        subst e1
        have hi0:=eq_true hm.1
        have hi1:=eq_true (show m<3 from hm.2.1 (by omega))
        generalize rd ([-2,-1,(G.o.length:Int)]:List Int) m=q at hq
        obtain⟨r2,er2⟩:∃l,l=G.r++[q]:=⟨_,rfl⟩
        have ER2:=AK er2
        clear er2
        refine hK.out _ _ ⟨(bcl D.out.xb 0).trans rfl,(bcl D.out.xb 1).trans rfl⟩ (fun hHeld=>?_)
        clear hK K_
        refine nO (some 69) ?_
        refine pU HT_ 8 (some 72) (bM 14 511) ?_
        refine one_ (i:=9) (N:=some 73) (bM 14 1023) rfl rfl (one_of HT_.out (by kernel_rfl)) (by decide) (fun K_ hK=>?_)
        refine value_ (v:=.int .i64 q) (w1:=v8) (by rfl) rfl ?hr ?_;(case hr=>first|(go_simp;done)|(go_simp;rfl))
        refine hK.out _ _ ⟨(bcl D.out.xb 0).trans rfl,(bcl D.out.xb 1).trans rfl⟩ (fun hHeld=>?_)
        clear hK K_
        refine nO (some 73) ?_
        refine one_ (i:=10) (N:=some 74) (bM 14 2047) rfl rfl (one_of HT_.out (by kernel_rfl)) (by decide) (fun K_ hK=>?_)
        refine value_ (v:=.slice (some ⟨v8.heap.size,0,none⟩) 1 1) (w1:=v8.alloc (.cells #[.int .i64 q] 3 (0,0))) (by rfl) rfl ?hr ?_;(case hr=>first|(go_simp;done)|(go_simp;rfl))
        refine hK.out _ _ ⟨(bcl (blk_alloc D.out.xb _) 0).trans rfl,(bcl (blk_alloc D.out.xb _) 1).trans rfl⟩ (fun hHeld=>?_)
        clear hK K_
        refine nO (some 74) ?_
        refine one_ (i:=11) (N:=some 75) (bM 14 4095) rfl rfl (one_of HT_.out (by kernel_rfl)) (by decide) (fun K_ hK=>?_)
        refine Kd.R_append_step (Kd.int .i64) (w0:=v8) (W:=v8) w.heap.size (by rfl) (.tmp 65) (.tmp 74) 25 3 (.int .i64 0) 8 rfl Try.underlying25 info3 rfl (by decide) (by omega) (.slice B1 G.r.length d1) G.r q [.int .i64 q] (fun _=>True) (fun _=>False) rfl rfl ?aP (fun _ hk=>hk.elim) (fun _ _=>trivial) ?aO (Below.refl _ _) ?aS ?aL ?_;(case aP=>exact rfl);(case aO=>exact D.out.O.s1);(case aS=>exact D.out.k.1);(case aL=>have:=HL.out.r;omega)
        intro v75 w9 ho hb hg hat
        rw[←ER2.out]at ho
        obtain⟨Q,qc,ee⟩:=Kd.R_slice ho
        subst ee
        have N0:=AK (D.out.pushR ho hg hat)
        have hxx:=(D.out.fr hg (row_of D.out.O.s1 (by decide) (by decide))).xb
        have HX9:=AK hxx
        clear ho hb hg hat hxx
        refine hK.out _ _ ⟨(bcl HX9.out 0).trans rfl,(bcl HX9.out 1).trans rfl⟩ (fun hHeld=>?_)
        clear hK K_
        refine nO (some 75) ?_
        refine pU HT_ 12 (some 76) (bM 14 8191) ?_
        refine last_ (i:=13) (N:=none) #[tT,tT,tT,tT,tT,tT,tT,tT,tT,tT,tT,tT,tT,tT] rfl rfl (one_of HT_.out (by kernel_rfl)) (by decide) (fun K_ hK=>?_)
        have hx:=(show w9.cell? ⟨nb,1,none⟩=some (.slice B1 G.r.length d1)from(bcl HX9.out 1).trans rfl)
        have hf:=bfz HX9.out 1
        refine skip_ (w1:=?_) (by rfl) rfl ?_ ?_
        rotate_left
        · go_simp
          rfl
        clear hx hf
        refine hK.out _ _ ?_
        clear hK K_
        refine done_ (done_of HT_.out (by kernel_rfl)) ?_
        clear HT_ HW_ hHeld
        go_wp2
        go_meet
        case rel=>exact⟨⟨G.o,r2,G.w,G.d⟩,B0,d0,Q,qc,B2,d2,B3,d3,⟨HL.out.n,HL.out.f,HL.out.t,by show r2.length≤10;rw[ER2.out,List.length_append];have:=HK.out.r;simp;omega,HL.out.w⟩,⟨N0.out.more (by omega)⟩⟩
    · subst h
      obtain⟨p0,p1,p2,p3⟩:=box4 (show (World.heap w4)[nb]?=some (Obj.cells #[.slice B0 G.o.length d0,.slice B1 G.r.length d1,.slice B2 G.w.length d2,.slice B3 G.d.length d3] 28 (0,0))from D.out.xb)
      go_upto_region 14 with fail
      clear p0 p1 p2 p3
      replace D:=AK D.out.drew
      refine start_ (n:=13) (S:=(fun w'=>w'.cell? ⟨nb,2,none⟩=some (.slice B2 G.w.length d2))) (ds:=[12]) #[fF,fF,fF,fF,fF,fF,fF,fF,fF,fF,fF,fF,fF] (by kernel_rfl) rfl rfl ((bcl D.out.xb 2).trans rfl) (fun hHeld=>?_);refine with_tabW sp14_tab sp14_bits (fun HT_ HW_=>?_)
      generalize w4.drew=v5 at D hHeld ⊢
      refine pU HT_ 0 (some 79) (bM 13 1) ?_
      refine tU HT_ HW_ 1 (some 80) (bM 13 3) hHeld rfl (by refine Or.inl ⟨by rfl,?_⟩;rintro w' s0;go_simp;with_reducible rfl) ?_
      refine pU HT_ 2 (some 81) (bM 13 7) ?_
      refine pU HT_ 5 (some 84) (bM 13 39) ?_
      refine one_ (i:=3) (N:=some 82) (bM 13 47) rfl rfl (one_of HT_.out (by kernel_rfl)) (by decide) (fun K_ hK=>?_)
      refine goes_ Try.func63 (by kernel_rfl) rfl #[.pointer (some ⟨g,0,none⟩),.int .i64 4] (by rfl) rfl rfl zI ?_
      refine(pick_c (P:=P+1) 4 D.out.r D.out.b (by have:=HP.out;omega)).mono ?_
      rintro en v6 ⟨a,rfl,ha,hr,hb,hkk⟩
      refine⟨_,rfl,?_⟩
      clear ha
      replace D:=AK (D.out.pick hr hb hkk)
      clear hr hb hkk
      refine hK.out _ _ ((bcl D.out.xb 2).trans rfl) (fun hHeld=>?_)
      clear hK K_
      refine nO (some 82) ?_
      refine pU HT_ 4 (some 83) (bM 13 63) ?_
      refine one_ (i:=6) (N:=some 85) (bM 13 127) rfl rfl (one_of HT_.out (by kernel_rfl)) (by decide) (fun K_ hK=>?_)
      refine goes_ Try.func63 (by kernel_rfl) rfl #[.pointer (some ⟨g,0,none⟩),.int .i64 4] (by rfl) rfl rfl zI ?_
      refine(pick_c (P:=P+1+1) 4 D.out.r D.out.b (by have:=HP.out;omega)).mono ?_
      rintro en v7 ⟨b,rfl,hb,hr,hb,hkk⟩
      refine⟨_,rfl,?_⟩
      replace D:=AK (D.out.pick hr hb hkk)
      clear hr hb hkk
      refine hK.out _ _ ((bcl D.out.xb 2).trans rfl) (fun hHeld=>?_)
      clear hK K_
      refine nO (some 85) ?_
      refine pU HT_ 7 (some 86) (bM 13 255) ?_
      refine pU HT_ 8 (some 87) (bM 13 511) ?_
      refine one_ (i:=9) (N:=some 88) (bM 13 1023) rfl rfl (one_of HT_.out (by kernel_rfl)) (by decide) (fun K_ hK=>?_)
      obtain⟨z,ez⟩:∃z,z=(⟨wrap64 (a - 1),wrap64 (b - 1)⟩:S60):=⟨_,rfl⟩
      obtain⟨r2,er2⟩:∃l,l=G.w++[(⟨wrap64 (a - 1),wrap64 (b - 1)⟩:S60)]:=⟨_,rfl⟩
      have ER2:=AK er2
      clear er2 ez z
      refine value_ (v:=.slice (some ⟨v7.heap.size,0,none⟩) 1 1) (w1:=v7.alloc (.cells #[.int .i64 (wrap64 (a - 1)),.int .i64 (wrap64 (b - 1))] 60 (0,0))) (by rfl) rfl ?hr ?_;(case hr=>first|(go_simp;done)|(go_simp;rfl))
      refine hK.out _ _ ((bcl (blk_alloc D.out.xb _) 2).trans rfl) (fun hHeld=>?_)
      clear hK K_
      refine nO (some 88) ?_
      refine one_ (i:=10) (N:=some 89) (bM 13 2047) rfl rfl (one_of HT_.out (by kernel_rfl)) (by decide) (fun K_ hK=>?_)
      refine Kd.R_append_step k60 (w0:=v7) (W:=v7) w.heap.size (by rfl) (.tmp 80) (.tmp 88) 26 60 (.agg #[.int .i64 0,.int .i64 0]) 16 rfl Try.underlying26 info60 rfl (by decide) (by omega) (.slice B2 G.w.length d2) G.w (⟨wrap64 (a - 1),wrap64 (b - 1)⟩:S60) [.int .i64 (wrap64 (a - 1)),.int .i64 (wrap64 (b - 1))] (fun k=>some k≠(Value.slice B3 G.d.length d3).ownBlock) (fun _=>False) rfl rfl ?aP (fun _ hk=>hk.elim) ?aF ?aO (Below.refl _ _) ?aS ?aL ?_;(case aP=>exact k60_mkM _ _ _ (⟨wrap64 (a - 1),wrap64 (b - 1)⟩:S60));(case aF=>exact fun k hk e=>by have:=Kd.R_lt D.out.O.s3 k e.symm;omega);(case aO=>exact D.out.O.s2);(case aS=>exact D.out.k.1);(case aL=>have:=HL.out.w;omega)
      intro v75 w9 ho hb hg hat
      rw[←ER2.out]at ho
      obtain⟨Q,qc,ee⟩:=Kd.R_slice ho
      subst ee
      have N0:=AK (D.out.pushW ho hg hat)
      have hxx:=(D.out.fr hg (row_of D.out.O.s2 (by decide) (by decide))).xb
      have HX9:=AK hxx
      clear ho hb hg hat hxx
      refine hK.out _ _ ((bcl HX9.out 2).trans rfl) (fun hHeld=>?_)
      clear hK K_
      refine nO (some 89) ?_
      refine pU HT_ 11 (some 90) (bM 13 4095) ?_
      refine last_ (i:=12) (N:=none) #[tT,tT,tT,tT,tT,tT,tT,tT,tT,tT,tT,tT,tT] rfl rfl (one_of HT_.out (by kernel_rfl)) (by decide) (fun K_ hK=>?_)
      have hx:=(show w9.cell? ⟨nb,2,none⟩=some (.slice B2 G.w.length d2)from(bcl HX9.out 2).trans rfl)
      have hf:=bfz HX9.out 2
      refine skip_ (w1:=?_) (by rfl) rfl ?_ ?_
      rotate_left
      · go_simp
        rfl
      clear hx hf
      refine hK.out _ _ ?_
      clear hK K_
      refine done_ (done_of HT_.out (by kernel_rfl)) ?_
      clear HT_ HW_ hHeld
      go_wp2
      go_meet
      case rel=>exact⟨⟨G.o,G.r,r2,G.d⟩,B0,d0,B1,d1,Q,qc,B3,d3,⟨HL.out.n,HL.out.f,HL.out.t,HL.out.r,by show r2.length+G.d.length≤22;rw[ER2.out,List.length_append];have:=HK.out.w;simp;omega⟩,⟨N0.out.more (by omega)⟩⟩
    · subst h
      go_wp2_with fail
      refine(pick_c (P:=P+1) 2 D.out.r D.out.b (by have:=HP.out;omega)).mono ?_
      rintro en w5 ⟨m,rfl,hm,hr,hb,hkk⟩
      replace D:=AK (D.out.pick hr hb hkk)
      clear hr hb hkk
      have HM:=AK (show 0≤m∧m<2 from⟨hm.1,hm.2.1 (by omega)⟩)
      clear hm
      go_wp2_with fail
      have hw60:wrap64 (60+m)=60+m:=wrap_in (by have:=HM.out;omega) (by have:=HM.out;omega)
      try rw[hw60]
      go_loopg [] (60+m - G.o.length).toNat (fun kq w'=>∃(O2:List S38) (B0:Option Addr) (d0:Nat),Aside0 (kq=(60+m - O2.length).toNat∧(O2.length:Int)≤61)∧Aside0 (∀x∈O2,x.f2.length≤8∧TxA x.f1)∧Aside0 (HW v w g (P+1+1) (w.heap.size+1) nb B0 d0 B1 d1 B2 d2 B3 d3 ⟨O2,G.r,G.w,G.d⟩ w'))
      case atStart=>exact⟨G.o,B0,d0,⟨rfl,by have:=HK.out.n;omega⟩,⟨fun x hx=>⟨HL.out.f x hx,HL.out.t x hx⟩⟩,D⟩
      case round=>
        clear D
        obtain⟨O2,B0,d0,HI,HF,D⟩:=hrel
        obtain⟨p0,p1,p2,p3⟩:=box4 (show wr.heap[nb]?=some (Obj.cells #[.slice B0 O2.length d0,.slice B1 G.r.length d1,.slice B2 G.w.length d2,.slice B3 G.d.length d3] 28 (0,0))from D.out.xb)
        by_cases c:(O2.length:Int)<60+m
        · have c9:decide ((O2.length:Int)<60+m)=true:=deT c
          obtain⟨O3,eO3⟩:∃l,l=O2++[(⟨4,⟨#[]⟩,[]⟩:S38)]:=⟨_,rfl⟩
          have EO:=AK eO3
          have HC:=AK c
          clear eO3 c
          have y0:=bfz D.out.xb 0
          go_wp2_with ((with_reducible refine gate_builtin (b:=.append) (xs:=#[.tmp 102,.tmp 104]) rfl ?_);at_builtin;refine Kd.S_append k38 (w0:=wr) w.heap.size rfl (.tmp 102) (.tmp 104) 24 38 (.agg #[.int .i64 0,.string ⟨#[]⟩,.slice none 0 0]) 48 rfl Try.underlying24 info38 rfl (by decide) (by omega) (.slice B0 O2.length d0) O2 (⟨4,⟨#[]⟩,[]⟩:S38) [.int .i64 4,.string ⟨#[]⟩,.slice none 0 0] (fun k=>some k≠(Value.slice B1 G.r.length d1).ownBlock) (fun _=>False) rfl rfl ?aP (fun _ hk=>hk.elim) ?aF ?aO (Below.refl _ _) ?aS ?aL ?_;(case aP=>exact k38_mkM _ _ _ (⟨4,⟨#[]⟩,[]⟩:S38) (Kd.R_nil _ _ _ _ _));(case aF=>exact fun k hk e=>by have:=Kd.R_lt D.out.O.s1 k e.symm;omega);(case aO=>exact Kd.S_mono D.out.O.s0 (fun k hk=>⟨hk,fun h=>h⟩));(case aS=>exact D.out.k.1);(case aL=>have:=HI.out.2;omega);intro v3 w6 ho hb hg hat;rw[←EO.out]at ho;obtain⟨Q,qc,ee⟩:=Kd.S_slice ho;subst ee;have N0:=AK (D.out.pushO ho hg);have hxx:=(D.out.fr hg (row_of (Kd.S_R D.out.O.s0) (by decide) (by decide))).xb;have hx:=(show w6.cell? ⟨nb,0,none⟩=some (.slice B0 O2.length d0)from(bcl hxx 0).trans rfl);have hf:=bfz hxx 0;clear ho hb hg hat hxx)
          cases gk with
          | zero=>exact absurd HI.out.1 (by have:=HC.out;omega)
          | succ k1=>
            go_roundg k1
            case measure=>omega
            case rel=>
              have hl:O3.length=O2.length+1:=by rw[EO.out];simp
              refine⟨O3,Q,qc,⟨by have:=HI.out;have:=HC.out;omega,by have:=HM.out;have:=HC.out;omega⟩,⟨fun x hx=>?_⟩,N0⟩
              rw[EO.out]at hx
              rcases List.mem_append.1 hx with hx|hx
              · exact HF.out x hx
              · rw[List.mem_singleton.1 hx];exact⟨by simp,tx_0⟩
        · have c9:decide ((O2.length:Int)<60+m)=false:=deF c
          go_wp2
          go_meet
          case rel=>exact⟨⟨O2,G.r,G.w,G.d⟩,B0,d0,B1,d1,B2,d2,B3,d3,⟨by have:=HI.out.2;show O2.length≤62;omega,fun x hx=>(HF.out x hx).1,fun x hx=>(HF.out x hx).2,HL.out.r,HL.out.w⟩,⟨D.out.more (by omega)⟩⟩
    · skip
      have c0:(k == 0)=false:=beq_eq_false_iff_ne.2 (by omega)
      have c1:(k == 1)=false:=beq_eq_false_iff_ne.2 (by omega)
      have c2:(k == 2)=false:=beq_eq_false_iff_ne.2 (by omega)
      obtain⟨p0,p1,p2,p3⟩:=box4 (show (World.heap w4)[nb]?=some (Obj.cells #[.slice B0 G.o.length d0,.slice B1 G.r.length d1,.slice B2 G.w.length d2,.slice B3 G.d.length d3] 28 (0,0))from D.out.xb)
      by_cases hz:0<G.o.length
      case neg=>
        have cz:decide ((0:Int)<(G.o.length:Int))=false:=deF (by omega)
        have cz2:=eq_false hz
        have cz3:decide (0<G.o.length)=false:=deF hz
        have cz4:=eq_true (show G.o=[]from List.length_eq_zero_iff.1 (by omega))
        clear h hz
        go_wp2
        go_meet
        case rel=>exact⟨G,B0,d0,B1,d1,B2,d2,B3,d3,HL,⟨D.out.more (by omega)⟩⟩
      have cz:decide ((0:Int)<(G.o.length:Int))=true:=deT (by omega)
      have HZ:=AK hz
      have cz2:=eq_true hz
      have cz3:decide (0<G.o.length)=true:=deT hz
      have cz4:=eq_false (show ¬ G.o=[]from fun e=>by rw[e]at hz;exact absurd hz (by decide))
      clear h hz
      go_wp2_with fail
      clear p0 p1 p2 p3 c0 c1 c2 cz cz2 cz3 cz4
      refine(pick_c (P:=P+1) (G.o.length:Int) D.out.r D.out.b (by have:=HP.out;omega)).mono ?_
      rintro en w5 ⟨i,rfl,hi,hr,hb,hkk⟩
      replace D:=AK (D.out.pick hr hb hkk)
      clear hr hb hkk
      have HI:=AK (show 0≤i∧i<G.o.length from⟨hi.1,hi.2.1 (by have:=HZ.out;omega)⟩)
      clear hi
      go_wp2_with fail
      refine(pick_c (P:=P+1+1) 3 D.out.r D.out.b (by have:=HP.out;omega)).mono ?_
      rintro en w6 ⟨j,rfl,hj,hr,hb,hkk⟩
      replace D:=AK (D.out.pick hr hb hkk)
      clear hr hb hkk
      obtain⟨g0,cap,ee,hgb,hgl,_⟩:=Kd.S_form D.out.O.s0 HZ.out
      injection ee with e1 e2 e3
      subst e1 e3
      clear e2 hgb hgl
      have hi0:=eq_true HI.out.1
      have hi1:=eq_true HI.out.2
      rcases(show j=0∨j=1∨2≤j by omega)with h|h|h
      all_goals clear hj
      · subst h
        obtain⟨p0,p1,p2,p3⟩:=box4 (show w6.heap[nb]?=some (Obj.cells #[.slice (some ⟨g0,0,none⟩) G.o.length d0,.slice B1 G.r.length d1,.slice B2 G.w.length d2,.slice B3 G.d.length d3] 28 (0,0))from D.out.xb)
        go_upto_region 8 with fail
        clear p0 p1 p2 p3
        replace D:=AK D.out.drew
        refine start_ (n:=8) (S:=(fun w'=>w'.cell? ⟨nb,0,none⟩=some (.slice (some ⟨g0,0,none⟩) G.o.length d0))) (ds:=[7]) #[fF,fF,fF,fF,fF,fF,fF,fF] (by kernel_rfl) rfl rfl ((bcl D.out.xb 0).trans rfl) (fun hHeld=>?_);refine with_tabW sp8_tab sp8_bits (fun HT_ HW_=>?_)
        generalize w6.drew=v6 at D hHeld ⊢
        refine pU HT_ 0 (some 45) (bM 8 1) ?_
        refine tU HT_ HW_ 1 (some 46) (bM 8 3) hHeld rfl (by refine Or.inl ⟨by rfl,?_⟩;rintro w' s0;go_simp;with_reducible rfl) ?_
        refine pU HT_ 2 (some 47) (bM 8 7) ?_
        refine pU HT_ 3 (some 48) (bM 8 15) ?_
        refine one_ (i:=4) (N:=some 49) (bM 8 31) rfl rfl (one_of HT_.out (by kernel_rfl)) (by decide) (fun K_ hK=>?_)
        refine goes_ Try.func63 (by kernel_rfl) rfl #[.pointer (some ⟨g,0,none⟩),.int .i64 6] (by rfl) rfl rfl zI ?_
        refine(pick_c (P:=P+1+1+1) 6 D.out.r D.out.b (by have:=HP.out;omega)).mono ?_
        rintro en v7 ⟨q,rfl,hq,hr,hb,hkk⟩
        refine⟨_,rfl,?_⟩
        replace D:=AK (D.out.pick hr hb hkk)
        clear hr hb hkk hq
        obtain⟨o2,eo2⟩:∃o2,o2=G.o.set i.toNat ⟨q,(rd_T38 G.o i).f1,(rd_T38 G.o i).f2⟩:=⟨_,rfl⟩
        have EO:=AK eo2
        clear eo2
        refine hK.out _ _ ((bcl D.out.xb 0).trans rfl) (fun hHeld=>?_)
        clear hK K_
        refine nO (some 49) ?_
        refine pU HT_ 5 (some 50) (bM 8 63) ?_
        refine pU HT_ 6 (some 51) (bM 8 127) ?_
        refine last_ (i:=7) (N:=none) #[tT,tT,tT,tT,tT,tT,tT,tT] rfl rfl (one_of HT_.out (by kernel_rfl)) (by decide) (fun K_ hK=>?_)
        obtain⟨xo,ce,_,xM,xcc,xfr,_,_⟩:=Kd.S_elem D.out.O.s0 z38 i HI.out.1 HI.out.2
        obtain⟨sv,rfl,_⟩:=k38_openM xM
        have hx:=(show v7.cell? ⟨g0,i.toNat*3,none⟩=some _ from xcc 0 _ rfl)
        have hf:=(show v7.frozen? ⟨g0,i.toNat*3,none⟩=false from xfr 0)
        clear xM xcc xfr
        have N0:=AK (D.out.setF i HI.out.1 HI.out.2 ⟨q,(rd_T38 G.o i).f1,(rd_T38 G.o i).f2⟩ 0 (.int .i64 q) rfl rfl (fun _=>rfl) (by decide) EO.out)
        refine skip_ (w1:=?_) (by rfl) rfl ?_ ?_
        rotate_left
        · go_simp
          rfl
        clear hx hf
        refine hK.out _ _ ?_
        clear hK K_
        refine done_ (done_of HT_.out (by kernel_rfl)) ?_
        clear HT_ HW_ hHeld
        go_wp2
        go_meet
        case rel=>
          refine⟨⟨o2,G.r,G.w,G.d⟩,some ⟨g0,0,none⟩,d0,B1,d1,B2,d2,B3,d3,⟨by show o2.length≤62;rw[EO.out,List.length_set];exact HL.out.n,fun x hx=>?_,fun x hx=>?_,HL.out.r,HL.out.w⟩,⟨N0.out.more (by omega)⟩⟩
          · replace hx:x∈o2:=hx
            rw[EO.out]at hx
            rcases List.mem_or_eq_of_mem_set hx with hx|rfl
            · exact HL.out.f x hx
            · exact HL.out.f (rd_T38 G.o i) (getD_mem G.o z38 i HI.out.1 HI.out.2)
          · replace hx:x∈o2:=hx
            rw[EO.out]at hx
            rcases List.mem_or_eq_of_mem_set hx with hx|rfl
            · exact HL.out.t x hx
            · exact HL.out.t (rd_T38 G.o i) (getD_mem G.o z38 i HI.out.1 HI.out.2)
      · subst h
        obtain⟨p0,p1,p2,p3⟩:=box4 (show w6.heap[nb]?=some (Obj.cells #[.slice (some ⟨g0,0,none⟩) G.o.length d0,.slice B1 G.r.length d1,.slice B2 G.w.length d2,.slice B3 G.d.length d3] 28 (0,0))from D.out.xb)
        go_upto_region 10 with fail
        clear p0 p1 p2 p3
        replace D:=AK D.out.drew
        refine start_ (n:=9) (S:=(fun w'=>w'.cell? ⟨nb,0,none⟩=some (.slice (some ⟨g0,0,none⟩) G.o.length d0))) (ds:=[8]) #[fF,fF,fF,fF,fF,fF,fF,fF,fF] (by kernel_rfl) rfl rfl ((bcl D.out.xb 0).trans rfl) (fun hHeld=>?_);refine with_tabW sp10_tab sp10_bits (fun HT_ HW_=>?_)
        generalize w6.drew=v6 at D hHeld ⊢
        refine pU HT_ 0 (some 54) (bM 9 1) ?_
        refine tU HT_ HW_ 1 (some 55) (bM 9 3) hHeld rfl (by refine Or.inl ⟨by rfl,?_⟩;rintro w' s0;go_simp;with_reducible rfl) ?_
        refine pU HT_ 2 (some 56) (bM 9 7) ?_
        refine pU HT_ 3 (some 57) (bM 9 15) ?_
        refine one_ (i:=4) (N:=some 58) (bM 9 31) rfl rfl (one_of HT_.out (by kernel_rfl)) (by decide) (fun K_ hK=>?_)
        refine Kd.R_lit_step Kd.string (w0:=v6) w.heap.size 9 (by rfl) (N:=58) rfl (xs:=([⟨#[]⟩,⟨#[97]⟩,⟨#[65]⟩]:List ByteArray)) (inner:=[.string ⟨#[]⟩,.string ⟨#[97]⟩,.string ⟨#[65]⟩]) (ok:=fun k=>k≠g) (okp:=fun _=>False) ?hr ?hp (fun _ hk=>hk.elim) ?hf (Below.refl _ _) D.out.k.1 (by simp) ?_;(case hr=>first|(go_simp;done)|(go_simp;rfl));(case hp=>exact(Reps.one (show Kd.M Kd.string _ _ _ (⟨#[]⟩:ByteArray) [.string ⟨#[]⟩]from rfl) (Reps.one (show Kd.M Kd.string _ _ _ (⟨#[97]⟩:ByteArray) [.string ⟨#[97]⟩]from rfl) (Reps.one (show Kd.M Kd.string _ _ _ (⟨#[65]⟩:ByteArray) [.string ⟨#[65]⟩]from rfl) (Reps.none _ _)))));(case hf=>have:=D.out.r.lt;omega)
        intro v58 v7 hs hb hg hat
        obtain⟨S,sc,ee⟩:=Kd.R_slice hs
        subst ee
        replace D:=AK (D.out.below (gb_none hg))
        have HS:=AK hs
        clear hs hb hg hat
        refine hK.out _ _ ((bcl D.out.xb 0).trans rfl) (fun hHeld=>?_)
        clear hK K_
        refine nO (some 58) ?_
        refine one_ (i:=5) (N:=some 59) (bM 9 63) rfl rfl (one_of HT_.out (by kernel_rfl)) (by decide) (fun K_ hK=>?_)
        refine goes_ Try.func121 (by kernel_rfl) rfl #[.pointer (some ⟨g,0,none⟩),.slice S 3 sc] (by rfl) rfl rfl zI ?_
        refine(of_c (P:=P+1+1+1) (ts:=[⟨#[]⟩,⟨#[97]⟩,⟨#[65]⟩]) D.out.r D.out.b (by have:=HP.out;omega) (Kd.R_reads' HS.out).2.2 (Kd.R_reads' HS.out).2.1 (fun ad e _=>HS.out.1 ad.block (by rw[e];rfl)) (by simp)).mono ?_
        rintro en v8 ⟨q,rfl,hq,hr,hb,hkk⟩
        refine⟨_,rfl,?_⟩
        replace D:=AK (D.out.pick hr hb hkk)
        have HTX:=AK (tx_c q hq)
        clear hr hb hkk hq HS
        obtain⟨o2,eo2⟩:∃o2,o2=G.o.set i.toNat ⟨(rd_T38 G.o i).f0,q,(rd_T38 G.o i).f2⟩:=⟨_,rfl⟩
        have EO:=AK eo2
        clear eo2
        refine hK.out _ _ ((bcl D.out.xb 0).trans rfl) (fun hHeld=>?_)
        clear hK K_
        refine nO (some 59) ?_
        refine pU HT_ 6 (some 60) (bM 9 127) ?_
        refine pU HT_ 7 (some 61) (bM 9 255) ?_
        refine last_ (i:=8) (N:=none) #[tT,tT,tT,tT,tT,tT,tT,tT,tT] rfl rfl (one_of HT_.out (by kernel_rfl)) (by decide) (fun K_ hK=>?_)
        obtain⟨xo,ce,_,xM,xcc,xfr,_,_⟩:=Kd.S_elem D.out.O.s0 z38 i HI.out.1 HI.out.2
        obtain⟨sv,rfl,_⟩:=k38_openM xM
        have hx:=(show v8.cell? ⟨g0,i.toNat*3+1,none⟩=some _ from xcc 1 _ rfl)
        have hf:=(show v8.frozen? ⟨g0,i.toNat*3+1,none⟩=false from xfr 1)
        clear xM xcc xfr
        have N0:=AK (D.out.setF i HI.out.1 HI.out.2 ⟨(rd_T38 G.o i).f0,q,(rd_T38 G.o i).f2⟩ 1 (.string q) rfl rfl (fun _=>rfl) (by decide) EO.out)
        refine skip_ (w1:=?_) (by rfl) rfl ?_ ?_
        rotate_left
        · go_simp
          rfl
        clear hx hf
        refine hK.out _ _ ?_
        clear hK K_
        refine done_ (done_of HT_.out (by kernel_rfl)) ?_
        clear HT_ HW_ hHeld
        go_wp2
        go_meet
        case rel=>
          refine⟨⟨o2,G.r,G.w,G.d⟩,some ⟨g0,0,none⟩,d0,B1,d1,B2,d2,B3,d3,⟨by show o2.length≤62;rw[EO.out,List.length_set];exact HL.out.n,fun x hx=>?_,fun x hx=>?_,HL.out.r,HL.out.w⟩,⟨N0.out.more (by omega)⟩⟩
          · replace hx:x∈o2:=hx
            rw[EO.out]at hx
            rcases List.mem_or_eq_of_mem_set hx with hx|rfl
            · exact HL.out.f x hx
            · exact HL.out.f (rd_T38 G.o i) (getD_mem G.o z38 i HI.out.1 HI.out.2)
          · replace hx:x∈o2:=hx
            rw[EO.out]at hx
            rcases List.mem_or_eq_of_mem_set hx with hx|rfl
            · exact HL.out.t x hx
            · exact HTX.out
      · skip
        have b0:(j == 0)=false:=beq_eq_false_iff_ne.2 (by omega)
        have b1:(j == 1)=false:=beq_eq_false_iff_ne.2 (by omega)
        clear h
        obtain⟨p0,p1,p2,p3⟩:=box4 (show w6.heap[nb]?=some (Obj.cells #[.slice (some ⟨g0,0,none⟩) G.o.length d0,.slice B1 G.r.length d1,.slice B2 G.w.length d2,.slice B3 G.d.length d3] 28 (0,0))from D.out.xb)
        go_upto_region 6 with fail
        clear p0 p1 p2 p3
        replace D:=AK D.out.drew
        obtain⟨oki0,F,f,hcF,_,_,_,_⟩:=D.out.lend i HI.out.1 HI.out.2
        have HCF:=AK hcF
        clear hcF
        try clear b0
        try clear b1
        refine start_ (n:=21) (S:=(fun w'=>w'.cell? ⟨nb,0,none⟩=some (.slice (some ⟨g0,0,none⟩) G.o.length d0)∧w'.cell? ⟨g0,i.toNat*3+2,none⟩=some (.slice F (rd_T38 G.o i).f2.length f))) (ds:=[20]) #[fF,fF,fF,fF,fF,fF,fF,fF,fF,fF,fF,fF,fF,fF,fF,fF,fF,fF,fF,fF,fF] (by kernel_rfl) rfl rfl ⟨(bcl D.out.xb 0).trans rfl,HCF.out⟩ (fun hHeld=>?_);refine with_tabW sp6_tab sp6_bits (fun HT_ HW_=>?_)
        generalize w6.drew=v6 at D HCF hHeld ⊢
        refine pU HT_ 0 (some 23) (bM 21 1) ?_
        refine tU HT_ HW_ 1 (some 24) (bM 21 3) hHeld rfl (by refine Or.inl ⟨by rfl,?_⟩;rintro w' ⟨s0,s1⟩;go_simp;with_reducible rfl) ?_
        refine pU HT_ 2 (some 25) (bM 21 7) ?_
        refine pU HT_ 3 (some 26) (bM 21 15) ?_
        refine tU HT_ HW_ 4 (some 27) (bM 21 31) hHeld rfl (by refine Or.inl ⟨by rfl,?_⟩;rintro w' ⟨s0,s1⟩;go_simp;with_reducible rfl) ?_
        refine pU HT_ 5 (some 28) (bM 21 63) ?_
        refine pU HT_ 6 (some 29) (bM 21 127) ?_
        refine pU HT_ 7 (some 30) (bM 21 255) ?_
        refine tU HT_ HW_ 8 (some 31) (bM 21 511) hHeld rfl (by refine Or.inl ⟨by rfl,?_⟩;rintro w' ⟨s0,s1⟩;go_simp;with_reducible rfl) ?_
        refine pU HT_ 9 (some 32) (bM 21 1023) ?_
        refine pU HT_ 10 (some 33) (bM 21 2047) ?_
        refine tU HT_ HW_ 11 (some 34) (bM 21 4095) hHeld rfl (by refine Or.inl ⟨by rfl,?_⟩;rintro w' ⟨s0,s1⟩;go_simp;with_reducible rfl) ?_
        refine pU HT_ 12 (some 35) (bM 21 8191) ?_
        refine pU HT_ 13 (some 36) (bM 21 16383) ?_
        refine one_ (i:=14) (N:=some 37) (bM 21 32767) rfl rfl (one_of HT_.out (by kernel_rfl)) (by decide) (fun K_ hK=>?_)
        have hw3:wrap64 ((G.o.length:Int)+3)=(G.o.length:Int)+3:=wrap_in (by omega) (by have:=HL.out.n;omega)
        refine goes_ Try.func63 (by kernel_rfl) rfl #[.pointer (some ⟨g,0,none⟩),.int .i64 (wrap64 ((G.o.length:Int)+3))] (by rfl) rfl rfl zI ?_
        refine(pick_c (P:=P+1+1+1) (wrap64 ((G.o.length:Int)+3)) D.out.r D.out.b (by have:=HP.out;omega)).mono ?_
        rintro en v7 ⟨q,rfl,hq,hr,hb,hkk⟩
        refine⟨_,rfl,?_⟩
        have hcv:=hkk
        replace HCF:=AK (keep_cell hkk HCF.out (fun e=>D.out.r.ne_ownS D.out.O.s0 (by decide) (by rw[←show g0=g from e];rfl)))
        replace D:=AK (D.out.pick hr hb hkk)
        clear hr hb hkk hq hcv hw3
        obtain⟨oki,F2,f2_,hc2,_,hRr,hfr,hback⟩:=D.out.lend i HI.out.1 HI.out.2
        rw[HCF.out]at hc2
        injection hc2 with hc2
        injection hc2 with e1 _ e3
        subst e1 e3
        have HRR:=AK hRr
        have HFR:=AK hfr
        have HBK:=AK hback
        clear hRr hfr hback
        obtain⟨y,ey⟩:∃y,y=(rd_T38 G.o i).f2++[wrap64 (q - 2)]:=⟨_,rfl⟩
        have EY:=AK ey
        clear ey
        obtain⟨o2,eo2⟩:∃o2,o2=G.o.set i.toNat ⟨(rd_T38 G.o i).f0,(rd_T38 G.o i).f1,y⟩:=⟨_,rfl⟩
        have EO:=AK eo2
        clear eo2
        refine hK.out _ _ ⟨(bcl D.out.xb 0).trans rfl,HCF.out⟩ (fun hHeld=>?_)
        clear hK K_
        refine nO (some 37) ?_
        refine pU HT_ 15 (some 38) (bM 21 65535) ?_
        refine one_ (i:=16) (N:=some 39) (bM 21 131071) rfl rfl (one_of HT_.out (by kernel_rfl)) (by decide) (fun K_ hK=>?_)
        refine value_ (v:=.slice (some ⟨v7.heap.size,0,none⟩) 1 1) (w1:=v7.alloc (.cells #[.int .i64 (wrap64 (q - 2))] 3 (0,0))) (by rfl) rfl ?hr ?_;(case hr=>first|(go_simp;done)|(go_simp;rfl))
        refine hK.out _ _ ⟨(bcl (blk_alloc D.out.xb _) 0).trans rfl,pcb (below_alloc (Below.refl _ _) _) HCF.out⟩ (fun hHeld=>?_)
        clear hK K_
        refine nO (some 39) ?_
        refine one_ (i:=17) (N:=some 40) (bM 21 262143) rfl rfl (one_of HT_.out (by kernel_rfl)) (by decide) (fun K_ hK=>?_)
        refine Kd.R_append_step (Kd.int .i64) (w0:=v7) (W:=v7) w.heap.size (by rfl) (.tmp 31) (.tmp 39) 25 3 (.int .i64 0) 8 rfl Try.underlying25 info3 rfl (by decide) (by omega) (.slice F (rd_T38 G.o i).f2.length f) (rd_T38 G.o i).f2 (wrap64 (q - 2)) [.int .i64 (wrap64 (q - 2))] (fun j=>oki j∨some j≠(Value.slice B1 G.r.length d1).ownBlock∧v7.heap.size≤j) (fun _=>False) rfl rfl ?aP (fun _ hk=>hk.elim) ?aF ?aO (Below.refl _ _) ?aS ?aL ?_;(case aP=>exact rfl);(case aF=>exact HFR.out);(case aO=>exact HRR.out);(case aS=>exact D.out.k.1);(case aL=>have:=HL.out.f (rd_T38 G.o i) (getD_mem G.o z38 i HI.out.1 HI.out.2);show ((rd_T38 G.o i).f2.length+1)*8≤_;have:(rd_T38 G.o i).f2.length≤8:=this;omega)
        intro v75 w9 ho hb hg hat
        rw[←EY.out]at ho
        obtain⟨Q,qc,ee⟩:=Kd.R_slice ho
        subst ee
        obtain⟨n0,n1,n2,n3⟩:=HBK.out w9 (.slice Q y.length qc) y o2 ho hg rfl EO.out
        have N0:=AK n0
        have NF:=AK n1
        have hxx:=(D.out.fr hg (row_of HRR.out (by decide) (by decide))).xb
        have HX9:=AK hxx
        have HC9:=AK (cell_grown hg HCF.out (fun e=>by obtain⟨_,h1⟩:=Kd.R_typed HRR.out g0 e.symm;obtain⟨_,h2⟩:=Kd.S_typed D.out.O.s0 g0 rfl;exact blk_ne h2 h1 (by decide) rfl))
        clear ho hb hg hat hxx n0 n1 n3 n2
        refine hK.out _ _ ⟨(bcl HX9.out 0).trans rfl,HC9.out⟩ (fun hHeld=>?_)
        clear hK K_
        refine nO (some 40) ?_
        refine pU HT_ 18 (some 41) (bM 21 524287) ?_
        refine pU HT_ 19 (some 42) (bM 21 1048575) ?_
        refine last_ (i:=20) (N:=none) #[tT,tT,tT,tT,tT,tT,tT,tT,tT,tT,tT,tT,tT,tT,tT,tT,tT,tT,tT,tT,tT] rfl rfl (one_of HT_.out (by kernel_rfl)) (by decide) (fun K_ hK=>?_)
        have hx:=HC9.out
        have hf:=NF.out
        refine skip_ (w1:=?_) (by rfl) rfl ?_ ?_
        rotate_left
        · go_simp
          rfl
        clear hx hf
        refine hK.out _ _ ?_
        clear hK K_
        refine done_ (done_of HT_.out (by kernel_rfl)) ?_
        clear HT_ HW_ hHeld
        go_wp2
        go_meet
        case rel=>
          refine⟨⟨o2,G.r,G.w,G.d⟩,some ⟨g0,0,none⟩,d0,B1,d1,B2,d2,B3,d3,⟨by show o2.length≤62;rw[EO.out,List.length_set];exact HL.out.n,fun x hx=>?_,fun x hx=>?_,HL.out.r,HL.out.w⟩,⟨N0.out.more (by omega)⟩⟩
          · replace hx:x∈o2:=hx
            rw[EO.out]at hx
            rcases List.mem_or_eq_of_mem_set hx with hx|rfl
            · exact HL.out.f x hx
            · exact(by show y.length≤8;rw[EY.out,List.length_append];have h6:=HK.out.f _ (getD_mem G.o z38 i HI.out.1 HI.out.2);rw[show G.o.getD i.toNat z38=rd_T38 G.o i from rfl]at h6;simp;omega)
          · replace hx:x∈o2:=hx
            rw[EO.out]at hx
            rcases List.mem_or_eq_of_mem_set hx with hx|rfl
            · exact HL.out.t x hx
            · exact HL.out.t (rd_T38 G.o i) (getD_mem G.o z38 i HI.out.1 HI.out.2)
  case rest=>
    clear D HL
    obtain⟨R,B0,d0,B1,d1,B2,d2,B3,d3,HL,D⟩:=hcut
    obtain⟨p0,p1,p2,p3⟩:=box4 (show wc.heap[nb]?=some (Obj.cells #[.slice B0 R.o.length d0,.slice B1 R.r.length d1,.slice B2 R.w.length d2,.slice B3 R.d.length d3] 28 (0,0))from D.out.xb)
    obtain⟨z0,z1,z2,z3⟩:=box4 (show wc.heap[w.heap.size+1]?=some (Obj.cells #[.slice none 0 0,.slice none 0 0,.slice none 0 0,.slice none 0 0] 28 (0,0))from D.out.ob)
    have y0:=bfz D.out.ob 0
    have y1:=bfz D.out.ob 1
    have y2:=bfz D.out.ob 2
    have y3:=bfz D.out.ob 3
    go_wp2
    obtain⟨h1,h2,h3,h4,h5⟩:=D.out.fin
    refine bodyPost_ret (results_cell_row rfl _ _ (w.heap.size+1) 28 #[.slice B0 R.o.length d0,.slice B1 R.r.length d1,.slice B2 R.w.length d2,.slice B3 R.d.length d3] (0,0) _ rfl h1 Try.underlying28 rfl (by kernel_rfl)) rfl ?_
    exact⟨R,B0,d0,B1,d1,B2,d2,B3,d3,rfl,HL.out,h2,h3,h4,h5⟩
end
end Go.Proofs.Ytigjhfijkdlldaa.H
