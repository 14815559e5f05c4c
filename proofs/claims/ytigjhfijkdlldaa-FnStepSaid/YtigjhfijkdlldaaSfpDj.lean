import Derived.Test.YtigjhfijkdlldaaSfpDi
namespace Go.Proofs.Ytigjhfijkdlldaa.H
open Go.RowKit Go.Proofs.YtigjhfijkdlldaaW.PrintWords Go.Proofs.YtigjhfijkdlldaaW.PrintLast Go.Proofs.YtigjhfijkdlldaaW.PrintMore Go.Proofs.Ytigjhfijkdlldaa.Q
set_option linter.unusedVariables false
set_option linter.unusedSimpArgs false
def manyO:List S38:=[⟨4,⟨#[]⟩,[]⟩,⟨1,⟨#[97]⟩,[]⟩,⟨2,⟨#[]⟩,[1,3]⟩,⟨4,⟨#[]⟩,[]⟩,⟨3,⟨#[]⟩,[1,2]⟩]
theorem many_bd {r2:List Int} {W2 D2:List S60} (hr:r2.length≤9) (hw:W2.length+D2.length≤21):BdG ⟨manyO,r2,W2,D2⟩:=
  ⟨by show manyO.length≤61;decide,by show ∀x∈manyO,_;unfold manyO;simp,by show ∀x∈manyO,_;unfold manyO TxA;decide,hr,hw⟩
theorem mn3_tab:rtab .any (opsOf Try.f104 3)=(true,[([],[]),([0],[0]),([],[]),([2],[2]),([1,0,1,2,3],[1]),([4,3,3,0,1,2,3],[3,4])]):=by kernel_rfl
theorem mn3_bits:waitsOk [([],[]),([0],[0]),([],[]),([2],[2]),([1,0,1,2,3],[1]),([4,3,3,0,1,2,3],[3,4])] [0,1,0,4,15,31]=true:=by kernel_rfl
theorem mn7_tab:rtab .any (opsOf Try.f104 7)=(true,[([],[]),([0],[0]),([],[]),([2],[2]),([3],[3]),([],[]),([5,3],[5]),([4,6],[4,6]),([7],[7]),([1,8,6],[1,8]),([0,1,2,3,4,5,6,7,8,9],[]),([10,9,9,0,1,2,3,4,5,6,7,8,9],[9,10])]):=by kernel_rfl
theorem mn7_bits:waitsOk [([],[]),([0],[0]),([],[]),([2],[2]),([3],[3]),([],[]),([5,3],[5]),([4,6],[4,6]),([7],[7]),([1,8,6],[1,8]),([0,1,2,3,4,5,6,7,8,9],[]),([10,9,9,0,1,2,3,4,5,6,7,8,9],[9,10])] [0,1,0,4,12,0,44,124,252,511,1023,2047]=true:=by kernel_rfl
theorem mn8_tab:rtab .any (opsOf Try.f104 8)=(true,[([],[]),([0],[0]),([1],[1]),([],[]),([3],[3]),([4],[4]),([2,5],[2,5]),([],[]),([7],[7]),([8],[8]),([],[]),([10,8],[10]),([9,11],[9,11]),([6,12],[6,12])]):=by kernel_rfl
theorem mn8_bits:waitsOk [([],[]),([0],[0]),([1],[1]),([],[]),([3],[3]),([4],[4]),([2,5],[2,5]),([],[]),([7],[7]),([8],[8]),([],[]),([10,8],[10]),([9,11],[9,11]),([6,12],[6,12])] [0,1,3,0,8,24,63,0,128,384,0,1408,3968,8191]=true:=by kernel_rfl
theorem mn9_tab:rtab .any (opsOf Try.f104 9)=(true,[([],[]),([0],[0]),([],[]),([2],[2]),([3],[3]),([],[]),([5,3],[5]),([4,6],[4,6]),([7],[7]),([1,8,6],[1,8]),([0,1,2,3,4,5,6,7,8,9],[]),([10,9,9,0,1,2,3,4,5,6,7,8,9],[9,10])]):=by kernel_rfl
theorem mn9_bits:waitsOk [([],[]),([0],[0]),([],[]),([2],[2]),([3],[3]),([],[]),([5,3],[5]),([4,6],[4,6]),([7],[7]),([1,8,6],[1,8]),([0,1,2,3,4,5,6,7,8,9],[]),([10,9,9,0,1,2,3,4,5,6,7,8,9],[9,10])] [0,1,0,4,12,0,44,124,252,511,1023,2047]=true:=by kernel_rfl
section
variable {v w:World} {g lo:Nat} {P:Int} {A0 A1 A2 A3:Option Addr} {c0 c1 c2 c3:Nat} {G:Hp}
set_option maxHeartbeats 4000000 in
set_option maxRecDepth 100000 in
theorem l5Many_c (hR:Rdr v w g P) (hB:Below v.heap.size v w) (hP:P≤900000) :
    Calls Try.prog 104 #[.pointer (some ⟨g,0,none⟩)] w fun en w'=>∃(R:Hp) (B0:Option Addr) (d0:Nat) (B1:Option Addr) (d1:Nat) (B2:Option Addr) (d2:Nat) (B3:Option Addr) (d3:Nat),en=.returned (.agg #[.slice B0 R.o.length d0,.slice B1 R.r.length d1,.slice B2 R.w.length d2,.slice B3 R.d.length d3])∧(BdG R∧∀p∈R.r,p<R.o.length)∧OwnG w' w.heap.size B0 d0 B1 d1 B2 d2 B3 d3 R∧Rdr v w' g (P+200)∧Below v.heap.size v w'∧KeepBut w w' g none:=by
  have hb1:=below_alloc (Below.refl w.heap.size w) (.cells #[.slice none 0 0,.slice none 0 0,.slice none 0 0,.slice none 0 0] 28 (0,0))
  have HB0:=AK (And.intro (bst hB hb1) (And.intro (hR.below hb1) (KeepBut.of_below hb1 g none)))
  have HX:=AK (And.intro (blk_new w (.cells #[.slice none 0 0,.slice none 0 0,.slice none 0 0,.slice none 0 0] 28 (0,0))) (And.intro hB.size hb1.size))
  have HP:=AK hP
  clear hb1 hR hB hP
  go_enter Try.func104,Try.ntmps104
  go_upto_region 1 with fail
  generalize (w.alloc (.cells #[.slice none 0 0,.slice none 0 0,.slice none 0 0,.slice none 0 0] 28 (0,0)))=w1 at HB0 HX ⊢
  go_upto_region 2 with(first|((with_reducible refine gate_dst (N:=5) rfl ?_);refine Kd.R_lit (Kd.int .i64) (w0:=w1) (World.heap w1).size 3 ?hg (N:=5) ?hd (xs:=([0,-1]:List Int)) (inner:=[.int .i64 (0),.int .i64 (-1)]) (ok:=fun _=>True) (okp:=fun _=>False) ?hr ?hp (fun _ hk=>hk.elim) trivial (Below.refl _ _) (Nat.le_refl _) (by simp) ?_;(case hd=>rfl);(case hg=>rfl);(case hr=>first|(go_simp;done)|(go_simp;rfl));(case hp=>exact(Reps.one (show Kd.M (Kd.int .i64) _ _ _ (0) [.int .i64 (0)]from rfl) (Reps.one (show Kd.M (Kd.int .i64) _ _ _ (-1) [.int .i64 (-1)]from rfl) (Reps.none _ _))));intro va w2 hs hb hg hn;obtain⟨Sa,ca,hv⟩:=Kd.R_slice hs;subst hv;have Ha:=AK hs;have Ba:=AK (gb_none hg);clear hb hg hn hs)|((with_reducible refine gate_dst (N:=8) rfl ?_);refine Kd.R_lit (Kd.int .i64) (w0:=w2) (World.heap w2).size 3 ?hg (N:=8) ?hd (xs:=([1,3]:List Int)) (inner:=[.int .i64 (1),.int .i64 (3)]) (ok:=fun _=>True) (okp:=fun _=>False) ?hr ?hp (fun _ hk=>hk.elim) trivial (Below.refl _ _) (Nat.le_refl _) (by simp) ?_;(case hd=>rfl);(case hg=>rfl);(case hr=>first|(go_simp;done)|(go_simp;rfl));(case hp=>exact(Reps.one (show Kd.M (Kd.int .i64) _ _ _ (1) [.int .i64 (1)]from rfl) (Reps.one (show Kd.M (Kd.int .i64) _ _ _ (3) [.int .i64 (3)]from rfl) (Reps.none _ _))));intro vb w3 hs hb hg hn;obtain⟨Sb,cb,hv⟩:=Kd.R_slice hs;subst hv;have Hb:=AK hs;have Bb:=AK (gb_none hg);clear hb hg hn hs)|((with_reducible refine gate_dst (N:=11) rfl ?_);refine Kd.R_lit (Kd.int .i64) (w0:=w3) (World.heap w3).size 3 ?hg (N:=11) ?hd (xs:=([1,2]:List Int)) (inner:=[.int .i64 (1),.int .i64 (2)]) (ok:=fun _=>True) (okp:=fun _=>False) ?hr ?hp (fun _ hk=>hk.elim) trivial (Below.refl _ _) (Nat.le_refl _) (by simp) ?_;(case hd=>rfl);(case hg=>rfl);(case hr=>first|(go_simp;done)|(go_simp;rfl));(case hp=>exact(Reps.one (show Kd.M (Kd.int .i64) _ _ _ (1) [.int .i64 (1)]from rfl) (Reps.one (show Kd.M (Kd.int .i64) _ _ _ (2) [.int .i64 (2)]from rfl) (Reps.none _ _))));intro vc w4 hs hb hg hn;obtain⟨Sc,cc,hv⟩:=Kd.R_slice hs;subst hv;have Hc:=AK hs;have Bc:=AK (gb_none hg);clear hb hg hn hs)|((with_reducible refine gate_dst (N:=13) rfl ?_);have HSZ:=AK (show w.heap.size≤w2.heap.size∧w.heap.size≤w3.heap.size by have:=HX.out.2.2;have:=Ba.out.size;have:=Bb.out.size;omega);have HNE:=AK (show (Value.slice Sb 2 cb).ownBlock≠(Value.slice Sc 2 cc).ownBlock from fun e=>by obtain⟨gb,_,eb,_,hlt,_⟩:=Kd.R_form Hb.out (by decide);obtain⟨gc,_,ec,hge,_,_⟩:=Kd.R_form Hc.out (by decide);injection eb with eb;injection ec with ec;rw[eb,ec]at e;injection e with e;have:gb=gc:=e;omega);refine Kd.R_lit (Kd.tag (fun k=>if some k=(Value.slice Sb 2 cb).ownBlock then 2 else 4) k38) (w0:=w4) w.heap.size 38 ?hg (N:=13) ?hd (xs:=[((⟨4,⟨#[]⟩,[]⟩:S38),0),((⟨1,⟨#[97]⟩,[]⟩:S38),1),((⟨2,⟨#[]⟩,[1,3]⟩:S38),2),((⟨4,⟨#[]⟩,[]⟩:S38),3),((⟨3,⟨#[]⟩,[1,2]⟩:S38),4)]) (inner:=[.int .i64 4,.string ⟨#[]⟩,.slice none 0 0,.int .i64 1,.string ⟨#[97]⟩,.slice none 0 0,.int .i64 2,.string ⟨#[]⟩,.slice Sb 2 cb,.int .i64 4,.string ⟨#[]⟩,.slice none 0 0,.int .i64 3,.string ⟨#[]⟩,.slice Sc 2 cc]) (ok:=fun k=>some k≠(Value.slice Sa 2 ca).ownBlock) (okp:=fun k=>some k=(Value.slice Sb 2 cb).ownBlock∨some k=(Value.slice Sc 2 cc).ownBlock) ?hr ?hp ?hok ?hf (Below.refl _ _) ?hz (by simp) ?_;(case hd=>rfl);(case hg=>rfl);(case hr=>first|(go_simp;done)|(go_simp;rfl));(case hp=>exact(Reps.c3 (k38_mkM _ _ _ (⟨4,⟨#[]⟩,[]⟩:S38) (Kd.R_nil _ _ _ _ _)) (Reps.c3 (k38_mkM _ _ _ (⟨1,⟨#[97]⟩,[]⟩:S38) (Kd.R_nil _ _ _ _ _)) (Reps.c3 (k38_mkM _ _ _ (⟨2,⟨#[]⟩,[1,3]⟩:S38) (Kd.R_mono (Kd.R_lower (Kd.R_tight rfl (Kd.R_below Hb.out Bc.out)) HSZ.out.1) (fun k hk=>⟨.inl hk,if_pos hk⟩))) (Reps.c3 (k38_mkM _ _ _ (⟨4,⟨#[]⟩,[]⟩:S38) (Kd.R_nil _ _ _ _ _)) (Reps.c3 (k38_mkM _ _ _ (⟨3,⟨#[]⟩,[1,2]⟩:S38) (Kd.R_mono (Kd.R_lower (Kd.R_tight rfl Hc.out) HSZ.out.2) (fun k hk=>⟨.inr hk,if_neg (fun e=>HNE.out (e.symm.trans hk))⟩))) (Reps.none _ _)))))));(case hok=>exact fun k hk e=>by have ha:=Kd.R_lt Ha.out k e.symm;rcases hk with hk|hk;(have:=Kd.R_base Hb.out k hk.symm;omega);(have:=Kd.R_base Hc.out k hk.symm;have:=Bb.out.size;omega));(case hf=>exact fun e=>by have:=Kd.R_lt Ha.out _ e.symm;have:=Bb.out.size;have:=Bc.out.size;omega);(case hz=>have:=HSZ.out.2;have:=Bc.out.size;omega);intro v13 w5 hs hb hg hn;have hS:Kd.S k38 38 w5 w.heap.size (fun k=>some k≠(Value.slice Sa 2 ca).ownBlock) v13 manyO:=⟨_,hs⟩;obtain⟨So,co,hv⟩:=Kd.S_slice hS;subst hv;have Ho:=AK hS;have Bo:=AK (gb_none hg);clear hb hg hn hs hS))
  have hbb:=bst (bst (bst Ba.out Bb.out) Bc.out) Bo.out
  have hb3:=below_alloc (Below.refl w5.heap.size w5) (.cells #[.slice So manyO.length co,.slice Sa 2 ca,.slice none 0 0,.slice none 0 0] 28 (0,0))
  have hbt:=bst hbb hb3
  have D:=AK (show HW v w g P w.heap.size w5.heap.size So co Sa ca none 0 none 0 ⟨manyO,[0,-1],[],[]⟩ (w5.alloc (.cells #[.slice So manyO.length co,.slice Sa 2 ca,.slice none 0 0,.slice none 0 0] 28 (0,0)))from⟨bst HB0.out.1 hbt,HB0.out.2.1.below hbt,keep_below HB0.out.2.2 hbt,bbl HX.out.1 hbt,blk_new w5 _,HX.out.2.1,Nat.le_refl _,blk_lt (bbl HX.out.1 hbb),Kd.S_below Ho.out hb3,Kd.R_lower (Kd.R_below Ha.out (bst (bst (bst Bb.out Bc.out) Bo.out) hb3)) HX.out.2.2,Kd.R_nil _ _ _ _ _,Kd.R_nil _ _ _ _ _⟩)
  clear hbb hb3 hbt Ha Hb Hc Ho Ba Bb Bc Bo HB0 HX HSZ HNE
  generalize w5.alloc (.cells #[.slice So manyO.length co,.slice Sa 2 ca,.slice none 0 0,.slice none 0 0] 28 (0,0))=w6 at D ⊢
  generalize w5.heap.size=nb at D ⊢
  go_wp2_with fail
  refine(pick_c (P:=P) 2 D.out.r D.out.b (by have:=HP.out;omega)).mono ?_
  rintro en w7 ⟨k,rfl,hk,hr,hb,hkk⟩
  replace D:=AK (D.out.pick hr hb hkk)
  clear hr hb hkk
  obtain⟨bk,hbk⟩:∃b,(k == 0)=b:=⟨_,rfl⟩
  clear hk
  go_upto_if 17 with fail
  go_cut [] (fun wc=>∃r2:List Int,Aside0 (r2.length=2∧∀p∈r2,p<5)∧Aside0 (HW v w g (P+2) w.heap.size nb So co Sa ca none 0 none 0 ⟨manyO,r2,[],[]⟩ wc))
  case first=>
    cases bk
    · go_wp2
      go_meet
      case rel=>exact⟨[0,-1],⟨by simp,fun p hp=>by simp at hp;omega⟩,⟨D.out.more (by omega)⟩⟩
    · skip
      obtain⟨g1,cap,ee,_,_,_⟩:=Kd.R_form D.out.O.s1 (by decide)
      injection ee with e1 e2 e3
      subst e1 e3
      clear e2
      obtain⟨p0,p1,p2,p3⟩:=box4 (show w7.heap[nb]?=some (Obj.cells #[.slice So manyO.length co,.slice (some ⟨g1,0,none⟩) 2 ca,.slice none 0 0,.slice none 0 0] 28 (0,0))from D.out.xb)
      go_upto_region 3 with fail
      clear p0 p1 p2 p3
      replace D:=AK D.out.drew
      refine start_ (n:=6) (S:=(fun w'=>w'.cell? ⟨nb,1,none⟩=some (.slice (some ⟨g1,0,none⟩) 2 ca))) (ds:=[5]) #[fF,fF,fF,fF,fF,fF] (by kernel_rfl) rfl rfl ((bcl D.out.xb 1).trans rfl) (fun hHeld=>?_);refine with_tabW mn3_tab mn3_bits (fun HT_ HW_=>?_)
      generalize w7.drew=v8 at D hHeld ⊢
      refine pU HT_ 0 (some 18) (bM 6 1) ?_
      refine tU HT_ HW_ 1 (some 19) (bM 6 3) hHeld rfl (by refine Or.inl ⟨by rfl,?_⟩;rintro w' s0;go_simp;with_reducible rfl) ?_
      refine pU HT_ 2 (some 20) (bM 6 7) ?_
      refine one_ (i:=3) (N:=some 21) (bM 6 15) rfl rfl (one_of HT_.out (by kernel_rfl)) (by decide) (fun K_ hK=>?_)
      refine goes_ Try.func63 (by kernel_rfl) rfl #[.pointer (some ⟨g,0,none⟩),.int .i64 5] (by rfl) rfl rfl zI ?_
      refine(pick_c (P:=P+1) 5 D.out.r D.out.b (by have:=HP.out;omega)).mono ?_
      rintro en v9 ⟨q,rfl,hq,hr,hb,hkk⟩
      refine⟨_,rfl,?_⟩
      replace D:=AK (D.out.pick hr hb hkk)
      have HQ:=AK (show q<5 from hq.2.1 (by omega))
      clear hr hb hkk hq
      refine hK.out _ _ ((bcl D.out.xb 1).trans rfl) (fun hHeld=>?_)
      clear hK K_
      refine nO (some 21) ?_
      refine pU HT_ 4 (some 22) (bM 6 31) ?_
      refine last_ (i:=5) (N:=none) #[tT,tT,tT,tT,tT,tT] rfl rfl (one_of HT_.out (by kernel_rfl)) (by decide) (fun K_ hK=>?_)
      have hx:=(RI_at D.out.O.s1 1 (by omega) (by show (1:Int)<2;omega)).1
      have hf:=(RI_at D.out.O.s1 1 (by omega) (by show (1:Int)<2;omega)).2
      have N0:=AK (D.out.setR 1 (by omega) (by show (1:Int)<2;omega) q (r2:=[0,q]) rfl)
      replace hx:v9.cell? ⟨g1,1,none⟩=some (.int .i64 (-1)):=hx
      replace hf:v9.frozen? ⟨g1,1,none⟩=false:=hf
      refine skip_ (w1:=?_) (by rfl) rfl ?_ ?_
      rotate_left
      · go_simp
        rfl
      clear hx hf
      refine hK.out _ _ ?_
      clear hK K_
      refine done_ (done_of HT_.out (by kernel_rfl)) ?_
      clear HT_ HW_ hHeld
      go_wp2
      go_meet
      case rel=>exact⟨[0,q],⟨by simp,fun p hp=>by have:=HQ.out;simp at hp;omega⟩,⟨N0.out.more (by omega)⟩⟩
  case rest=>
    clear D hbk bk
    obtain⟨r2,HR2,D⟩:=hcut
    go_wp2_with fail
    refine(pick_c (P:=P+2) 13 D.out.r D.out.b (by have:=HP.out;omega)).mono ?_
    rintro en w8 ⟨n,rfl,hn,hr,hb,hkk⟩
    replace D:=AK (D.out.pick hr hb hkk)
    clear hr hb hkk
    have HN:=AK (show 0≤n∧n<13 from⟨hn.1,hn.2.1 (by omega)⟩)
    clear hn
    go_wp2_with fail
    go_loopg [4] n.toNat (fun kq v4 w'=>∃(D2:List S60) (Q:Option Addr) (qc:Nat) (i:Int),v4=.int .i64 i∧Aside0 (i=kq∧D2.length+kq=n.toNat)∧Aside0 (HW v w g (P+3+2*(D2.length:Int)) w.heap.size nb So co Sa ca none 0 Q qc ⟨manyO,r2,[],D2⟩ w'))
    case atStart=>exact⟨[],none,0,n,rfl,⟨by have:=HN.out;omega,by simp⟩,⟨D.out.more (by simp;omega)⟩⟩
    case round=>
      clear D
      obtain⟨D2,Q,qc,i,rfl,HI,D⟩:=hrel
      cases gk with
      | succ k1=>
        have c9:decide (0<i)=true:=deT (by have:=HI.out;omega)
        go_wp2_with fail
        clear c9
        replace D:=AK D.out.drew
        refine start_ (n:=12) (S:=(fun w'=>w'.cell? ⟨nb,3,none⟩=some (.slice Q D2.length qc))) (ds:=[11]) #[fF,fF,fF,fF,fF,fF,fF,fF,fF,fF,fF,fF] (by kernel_rfl) rfl rfl ((bcl D.out.xb 3).trans rfl) (fun hHeld=>?_);refine with_tabW mn7_tab mn7_bits (fun HT_ HW_=>?_)
        generalize wr.drew=v8 at D hHeld ⊢
        refine pU HT_ 0 (some 29) (bM 12 1) ?_
        refine tU HT_ HW_ 1 (some 30) (bM 12 3) hHeld rfl (by refine Or.inl ⟨by rfl,?_⟩;rintro w' s0;go_simp;with_reducible rfl) ?_
        refine pU HT_ 2 (some 31) (bM 12 7) ?_
        refine pU HT_ 5 (some 34) (bM 12 39) ?_
        refine one_ (i:=3) (N:=some 32) (bM 12 47) rfl rfl (one_of HT_.out (by kernel_rfl)) (by decide) (fun K_ hK=>?_)
        refine goes_ Try.func63 (by kernel_rfl) rfl #[.pointer (some ⟨g,0,none⟩),.int .i64 2] (by rfl) rfl rfl zI ?_
        refine(pick_c (P:=P+3+2*(D2.length:Int)) 2 D.out.r D.out.b (by have:=HP.out;have:=HI.out;have:=HN.out;omega)).mono ?_
        rintro en v9 ⟨a,rfl,_,hr,hb,hkk⟩
        refine⟨_,rfl,?_⟩
        replace D:=AK (D.out.pick hr hb hkk)
        clear hr hb hkk
        refine hK.out _ _ ((bcl D.out.xb 3).trans rfl) (fun hHeld=>?_)
        clear hK K_
        refine nO (some 32) ?_
        refine pU HT_ 4 (some 33) (bM 12 63) ?_
        refine one_ (i:=6) (N:=some 35) (bM 12 127) rfl rfl (one_of HT_.out (by kernel_rfl)) (by decide) (fun K_ hK=>?_)
        refine goes_ Try.func63 (by kernel_rfl) rfl #[.pointer (some ⟨g,0,none⟩),.int .i64 5] (by rfl) rfl rfl zI ?_
        refine(pick_c (P:=P+3+2*(D2.length:Int)+1) 5 D.out.r D.out.b (by have:=HP.out;have:=HI.out;have:=HN.out;omega)).mono ?_
        rintro en v10 ⟨b,rfl,_,hr,hb,hkk⟩
        refine⟨_,rfl,?_⟩
        replace D:=AK (D.out.pick hr hb hkk)
        clear hr hb hkk
        obtain⟨l2,el2⟩:∃l,l=D2++[(⟨wrap64 (3*a),b⟩:S60)]:=⟨_,rfl⟩
        have EL:=AK el2
        clear el2
        refine hK.out _ _ ((bcl D.out.xb 3).trans rfl) (fun hHeld=>?_)
        clear hK K_
        refine nO (some 35) ?_
        refine pU HT_ 7 (some 36) (bM 12 255) ?_
        refine one_ (i:=8) (N:=some 37) (bM 12 511) rfl rfl (one_of HT_.out (by kernel_rfl)) (by decide) (fun K_ hK=>?_)
        refine value_ (v:=.slice (some ⟨v10.heap.size,0,none⟩) 1 1) (w1:=v10.alloc (.cells #[.int .i64 (wrap64 (3*a)),.int .i64 b] 60 (0,0))) (by rfl) rfl ?hr ?_;(case hr=>first|(go_simp;done)|(go_simp;rfl))
        refine hK.out _ _ ((bcl (blk_alloc D.out.xb _) 3).trans rfl) (fun hHeld=>?_)
        clear hK K_
        refine nO (some 37) ?_
        refine one_ (i:=9) (N:=some 38) (bM 12 1023) rfl rfl (one_of HT_.out (by kernel_rfl)) (by decide) (fun K_ hK=>?_)
        refine Kd.R_append_step k60 (w0:=v10) (W:=v10) w.heap.size (by rfl) (.tmp 30) (.tmp 37) 26 60 (.agg #[.int .i64 0,.int .i64 0]) 16 rfl Try.underlying26 info60 rfl (by decide) (by omega) (.slice Q D2.length qc) D2 (⟨wrap64 (3*a),b⟩:S60) [.int .i64 (wrap64 (3*a)),.int .i64 b] (fun k=>some k≠(Value.slice none ([]:List S60).length 0).ownBlock) (fun _=>False) rfl rfl ?aP (fun _ hk=>hk.elim) ?aF ?aO (Below.refl _ _) ?aS ?aL ?_;(case aP=>exact k60_mkM _ _ _ (⟨wrap64 (3*a),b⟩:S60));(case aF=>exact fun k hk e=>by have:=Kd.R_lt D.out.O.s2 k e.symm;omega);(case aO=>exact D.out.O.s3);(case aS=>exact D.out.k.1);(case aL=>have:=HI.out;have:=HN.out;omega)
        intro v75 w11 ho hb hg hat
        rw[←EL.out]at ho
        obtain⟨Q2,qc2,ee⟩:=Kd.R_slice ho
        subst ee
        have N0:=AK (D.out.pushD ho hg hat)
        have hxx:=(D.out.fr hg (row_of D.out.O.s3 (by decide) (by decide))).xb
        have HX9:=AK hxx
        clear ho hb hg hat hxx
        refine hK.out _ _ ((bcl HX9.out 3).trans rfl) (fun hHeld=>?_)
        clear hK K_
        refine nO (some 38) ?_
        refine pU HT_ 10 (some 39) (bM 12 2047) ?_
        refine last_ (i:=11) (N:=none) #[tT,tT,tT,tT,tT,tT,tT,tT,tT,tT,tT,tT] rfl rfl (one_of HT_.out (by kernel_rfl)) (by decide) (fun K_ hK=>?_)
        have hx:=(show w11.cell? ⟨nb,3,none⟩=some (.slice Q D2.length qc)from(bcl HX9.out 3).trans rfl)
        have hf:=bfz HX9.out 3
        refine skip_ (w1:=?_) (by rfl) rfl ?_ ?_
        rotate_left
        · go_simp
          rfl
        clear hx hf
        refine hK.out _ _ ?_
        clear hK K_
        refine done_ (done_of HT_.out (by kernel_rfl)) ?_
        clear HT_ HW_ hHeld
        go_wp2
        go_roundg k1
        case measure=>omega
        case rel=>
          have h1:=HI.out
          have h2:=HN.out
          have hl:l2.length=D2.length+1:=by rw[EL.out];simp
          rw[wrap_in (x:=i - 1) (by omega) (by omega)]
          exact⟨l2,Q2,qc2,i - 1,rfl,⟨by omega,by omega⟩,⟨N0.out.more (by rw[hl];omega)⟩⟩
      | zero=>
        have c9:decide (0<i)=false:=deF (by have:=HI.out;omega)
        have HD:=AK (show D2.length≤12 by have:=HI.out;have:=HN.out;omega)
        go_wp2_with fail
        clear c9 HI
        have D1:=AK (D.out.more (show P+3+2*(D2.length:Int)≤P+30 by have:=HD.out;omega))
        clear D
        have D:=D1
        clear D1
        go_loopg [] (21 - D2.length) (fun kq w'=>∃(W2:List S60) (B:Option Addr) (bc:Nat),Aside0 (W2.length+D2.length+kq=21)∧Aside0 (HW v w g (P+30+4*(W2.length:Int)) w.heap.size nb So co Sa ca B bc Q qc ⟨manyO,r2,W2,D2⟩ w'))
        case atStart=>exact⟨[],none,0,⟨by have:=HD.out;simp;omega⟩,⟨D.out.more (by simp)⟩⟩
        case round=>
          clear D
          obtain⟨W2,B,bc,HI,D⟩:=hrel
          go_wp2_with fail
          replace D:=AK D.out.drew
          refine start_ (n:=14) (S:=(fun w'=>w'.cell? ⟨nb,2,none⟩=some (.slice B W2.length bc)∧w'.cell? ⟨nb,3,none⟩=some (.slice Q D2.length qc))) (ds:=[]) #[fF,fF,fF,fF,fF,fF,fF,fF,fF,fF,fF,fF,fF,fF] (by kernel_rfl) rfl rfl ⟨(bcl D.out.xb 2).trans rfl,(bcl D.out.xb 3).trans rfl⟩ (fun hHeld=>?_);refine with_tabW mn8_tab mn8_bits (fun HT_ HW_=>?_)
          generalize wr.drew=v10 at D hHeld ⊢
          refine pU HT_ 0 (some 40) (bM 14 1) ?_
          refine tU HT_ HW_ 1 (some 41) (bM 14 3) hHeld rfl (by refine Or.inl ⟨by rfl,?_⟩;rintro w' ⟨s0,s1⟩;go_simp;with_reducible rfl) ?_
          refine pU HT_ 2 (some 42) (bM 14 7) ?_
          refine pU HT_ 3 (some 43) (bM 14 15) ?_
          refine tU HT_ HW_ 4 (some 44) (bM 14 31) hHeld rfl (by refine Or.inl ⟨by rfl,?_⟩;rintro w' ⟨s0,s1⟩;go_simp;with_reducible rfl) ?_
          refine pU HT_ 5 (some 45) (bM 14 63) ?_
          refine pU HT_ 6 (some 46) (bM 14 127) ?_
          refine pU HT_ 7 (some 47) (bM 14 255) ?_
          refine pU HT_ 10 (some 50) (bM 14 1279) ?_
          refine one_ (i:=8) (N:=some 48) (bM 14 1535) rfl rfl (one_of HT_.out (by kernel_rfl)) (by decide) (fun K hK=>?_)
          refine goes_ Try.func63 (by kernel_rfl) rfl #[.pointer (some ⟨g,0,none⟩),.int .i64 3] (by rfl) rfl rfl zI ?_
          refine(pick_c (P:=P+30+4*(W2.length:Int)) 3 D.out.r D.out.b (by have:=HP.out;have:=HI.out;omega)).mono ?_
          rintro en v11 ⟨a,rfl,ha,hr,hb,hkk⟩
          refine⟨_,rfl,?_⟩
          replace D:=AK (D.out.pick hr hb hkk)
          have HA:=AK (show 0≤a∧a<3 from⟨ha.1,ha.2.1 (by omega)⟩)
          clear hr hb hkk ha
          refine hK.out _ _ ⟨(bcl D.out.xb 2).trans rfl,(bcl D.out.xb 3).trans rfl⟩ (fun hHeld=>?_)
          clear hK K
          refine nO (some 48) ?_
          refine pU HT_ 9 (some 49) (bM 14 2047) ?_
          refine one_ (i:=11) (N:=some 51) (bM 14 4095) rfl rfl (one_of HT_.out (by kernel_rfl)) (by decide) (fun K hK=>?_)
          refine goes_ Try.func63 (by kernel_rfl) rfl #[.pointer (some ⟨g,0,none⟩),.int .i64 2] (by rfl) rfl rfl zI ?_
          refine(pick_c (P:=P+30+4*(W2.length:Int)+1) 2 D.out.r D.out.b (by have:=HP.out;have:=HI.out;omega)).mono ?_
          rintro en v12 ⟨b,rfl,hb_,hr,hb,hkk⟩
          refine⟨_,rfl,?_⟩
          replace D:=AK (D.out.pick hr hb hkk)
          have HB_:=AK (show 0≤b∧b<2 from⟨hb_.1,hb_.2.1 (by omega)⟩)
          clear hr hb hkk hb_
          refine hK.out _ _ ⟨(bcl D.out.xb 2).trans rfl,(bcl D.out.xb 3).trans rfl⟩ (fun hHeld=>?_)
          clear hK K
          refine nO (some 51) ?_
          refine pU HT_ 12 (some 52) (bM 14 8191) ?_
          refine pU HT_ 13 (some 53) (bM 14 16383) ?_
          refine done_ (done_of HT_.out (by kernel_rfl)) ?_
          clear HT_ HW_ hHeld
          have hw1:wrap64 ((W2.length:Int)+(D2.length:Int))=W2.length+D2.length:=wrap_in (by omega) (by have:=HI.out;omega)
          have hw2:wrap64 (20 - a)=20 - a:=wrap_in (by have:=HA.out;omega) (by have:=HA.out;omega)
          have hw3:wrap64 (20 - a+b)=20 - a+b:=wrap_in (by have:=HA.out;have:=HB_.out;omega) (by have:=HA.out;have:=HB_.out;omega)
          rw[hw1,hw2,hw3]
          clear hw1 hw2 hw3
          obtain⟨bt,hbt⟩:∃bb,decide ((W2.length:Int)+(D2.length:Int)<20 - a+b)=bb:=⟨_,rfl⟩
          rw[hbt]
          cases bt
          case true=>
            have c:=of_decide_eq_true hbt
            have HC:=AK c
            clear c hbt
            go_wp2_with fail
            replace D:=AK D.out.drew
            have HLT:=AK (show W2.length+D2.length<21 by have:=HC.out;have:=HA.out;have:=HB_.out;omega)
            clear HC HA HB_
            refine start_ (n:=12) (S:=(fun w'=>w'.cell? ⟨nb,2,none⟩=some (.slice B W2.length bc))) (ds:=[11]) #[fF,fF,fF,fF,fF,fF,fF,fF,fF,fF,fF,fF] (by kernel_rfl) rfl rfl ((bcl D.out.xb 2).trans rfl) (fun hHeld=>?_);refine with_tabW mn9_tab mn9_bits (fun HT_ HW_=>?_)
            generalize v12.drew=v8 at D hHeld ⊢
            refine pU HT_ 0 (some 54) (bM 12 1) ?_
            refine tU HT_ HW_ 1 (some 55) (bM 12 3) hHeld rfl (by refine Or.inl ⟨by rfl,?_⟩;rintro w' s0;go_simp;with_reducible rfl) ?_
            refine pU HT_ 2 (some 56) (bM 12 7) ?_
            refine pU HT_ 5 (some 59) (bM 12 39) ?_
            refine one_ (i:=3) (N:=some 57) (bM 12 47) rfl rfl (one_of HT_.out (by kernel_rfl)) (by decide) (fun K_ hK=>?_)
            refine goes_ Try.func63 (by kernel_rfl) rfl #[.pointer (some ⟨g,0,none⟩),.int .i64 2] (by rfl) rfl rfl zI ?_
            refine(pick_c (P:=P+30+4*(W2.length:Int)+1+1) 2 D.out.r D.out.b (by have:=HP.out;have:=HI.out;have:=HD.out;omega)).mono ?_
            rintro en v9 ⟨a,rfl,_,hr,hb,hkk⟩
            refine⟨_,rfl,?_⟩
            replace D:=AK (D.out.pick hr hb hkk)
            clear hr hb hkk
            refine hK.out _ _ ((bcl D.out.xb 2).trans rfl) (fun hHeld=>?_)
            clear hK K_
            refine nO (some 57) ?_
            refine pU HT_ 4 (some 58) (bM 12 63) ?_
            refine one_ (i:=6) (N:=some 60) (bM 12 127) rfl rfl (one_of HT_.out (by kernel_rfl)) (by decide) (fun K_ hK=>?_)
            refine goes_ Try.func63 (by kernel_rfl) rfl #[.pointer (some ⟨g,0,none⟩),.int .i64 5] (by rfl) rfl rfl zI ?_
            refine(pick_c (P:=P+30+4*(W2.length:Int)+1+1+1) 5 D.out.r D.out.b (by have:=HP.out;have:=HI.out;have:=HD.out;omega)).mono ?_
            rintro en v10 ⟨b,rfl,_,hr,hb,hkk⟩
            refine⟨_,rfl,?_⟩
            replace D:=AK (D.out.pick hr hb hkk)
            clear hr hb hkk
            obtain⟨l2,el2⟩:∃l,l=W2++[(⟨wrap64 (3*a),b⟩:S60)]:=⟨_,rfl⟩
            have EL:=AK el2
            clear el2
            refine hK.out _ _ ((bcl D.out.xb 2).trans rfl) (fun hHeld=>?_)
            clear hK K_
            refine nO (some 60) ?_
            refine pU HT_ 7 (some 61) (bM 12 255) ?_
            refine one_ (i:=8) (N:=some 62) (bM 12 511) rfl rfl (one_of HT_.out (by kernel_rfl)) (by decide) (fun K_ hK=>?_)
            refine value_ (v:=.slice (some ⟨v10.heap.size,0,none⟩) 1 1) (w1:=v10.alloc (.cells #[.int .i64 (wrap64 (3*a)),.int .i64 b] 60 (0,0))) (by rfl) rfl ?hr ?_;(case hr=>first|(go_simp;done)|(go_simp;rfl))
            refine hK.out _ _ ((bcl (blk_alloc D.out.xb _) 2).trans rfl) (fun hHeld=>?_)
            clear hK K_
            refine nO (some 62) ?_
            refine one_ (i:=9) (N:=some 63) (bM 12 1023) rfl rfl (one_of HT_.out (by kernel_rfl)) (by decide) (fun K_ hK=>?_)
            refine Kd.R_append_step k60 (w0:=v10) (W:=v10) w.heap.size (by rfl) (.tmp 55) (.tmp 62) 26 60 (.agg #[.int .i64 0,.int .i64 0]) 16 rfl Try.underlying26 info60 rfl (by decide) (by omega) (.slice B W2.length bc) W2 (⟨wrap64 (3*a),b⟩:S60) [.int .i64 (wrap64 (3*a)),.int .i64 b] (fun k=>some k≠(Value.slice Q D2.length qc).ownBlock) (fun _=>False) rfl rfl ?aP (fun _ hk=>hk.elim) ?aF ?aO (Below.refl _ _) ?aS ?aL ?_;(case aP=>exact k60_mkM _ _ _ (⟨wrap64 (3*a),b⟩:S60));(case aF=>exact fun k hk e=>by have:=Kd.R_lt D.out.O.s3 k e.symm;omega);(case aO=>exact D.out.O.s2);(case aS=>exact D.out.k.1);(case aL=>have:=HI.out;have:=HD.out;omega)
            intro v75 w11 ho hb hg hat
            rw[←EL.out]at ho
            obtain⟨Q2,qc2,ee⟩:=Kd.R_slice ho
            subst ee
            have N0:=AK (D.out.pushW ho hg hat)
            have hxx:=(D.out.fr hg (row_of D.out.O.s2 (by decide) (by decide))).xb
            have HX9:=AK hxx
            clear ho hb hg hat hxx
            refine hK.out _ _ ((bcl HX9.out 2).trans rfl) (fun hHeld=>?_)
            clear hK K_
            refine nO (some 63) ?_
            refine pU HT_ 10 (some 64) (bM 12 2047) ?_
            refine last_ (i:=11) (N:=none) #[tT,tT,tT,tT,tT,tT,tT,tT,tT,tT,tT,tT] rfl rfl (one_of HT_.out (by kernel_rfl)) (by decide) (fun K_ hK=>?_)
            have hx:=(show w11.cell? ⟨nb,2,none⟩=some (.slice B W2.length bc)from(bcl HX9.out 2).trans rfl)
            have hf:=bfz HX9.out 2
            refine skip_ (w1:=?_) (by rfl) rfl ?_ ?_
            rotate_left
            · go_simp
              rfl
            clear hx hf
            refine hK.out _ _ ?_
            clear hK K_
            refine done_ (done_of HT_.out (by kernel_rfl)) ?_
            clear HT_ HW_ hHeld
            go_wp2
            cases gk with
            | zero=>exact absurd HI.out (by have:=HLT.out;omega)
            | succ k1=>
              go_roundg k1
              case measure=>omega
              case rel=>
                have h1:=HI.out
                have hl:l2.length=W2.length+1:=by rw[EL.out];simp
                exact⟨l2,Q2,qc2,⟨by omega⟩,⟨N0.out.more (by rw[hl];omega)⟩⟩
          case false=>
            obtain⟨p0,p1,p2,p3⟩:=box4 (show v12.heap[nb]?=some (Obj.cells #[.slice So manyO.length co,.slice Sa r2.length ca,.slice B W2.length bc,.slice Q D2.length qc] 28 (0,0))from D.out.xb)
            obtain⟨z0,z1,z2,z3⟩:=box4 (show v12.heap[w.heap.size]?=some (Obj.cells #[.slice none 0 0,.slice none 0 0,.slice none 0 0,.slice none 0 0] 28 (0,0))from D.out.ob)
            have y0:=bfz D.out.ob 0
            have y1:=bfz D.out.ob 1
            have y2:=bfz D.out.ob 2
            have y3:=bfz D.out.ob 3
            clear hbt
            go_wp2
            obtain⟨h1,h2,h3,h4,h5⟩:=D.out.fin
            refine bodyPost_ret (results_cell_row rfl _ _ w.heap.size 28 #[.slice So manyO.length co,.slice Sa r2.length ca,.slice B W2.length bc,.slice Q D2.length qc] (0,0) _ rfl h1 Try.underlying28 rfl (by kernel_rfl)) rfl ?_
            exact⟨⟨manyO,r2,W2,D2⟩,So,co,Sa,ca,B,bc,Q,qc,rfl,⟨many_bd (by have:=HR2.out.1;omega) (by have:=HI.out;omega),HR2.out.2⟩,h2,h3.more (by have:=HI.out;omega),h4,h5⟩
end
end Go.Proofs.Ytigjhfijkdlldaa.H
