import Derived.Test.YtigjhfijkdlldaaSfpDj
namespace Go.Proofs.Ytigjhfijkdlldaa.H
open Go.RowKit Go.Proofs.YtigjhfijkdlldaaW.PrintWords Go.Proofs.YtigjhfijkdlldaaW.PrintLast Go.Proofs.YtigjhfijkdlldaaW.PrintMore Go.Proofs.Ytigjhfijkdlldaa.Q
set_option linter.unusedVariables false
set_option linter.unusedSimpArgs false
structure FB (v w0:World) (g:Nat) (P:Int) (w':World):Prop where
  b:Below v.heap.size v w'
  r:Rdr v w' g P
  k:KeepBut w0 w' g none
  ob:w'.heap[w0.heap.size]?=some (.cells nilC 28 (0,0))
  vl:v.heap.size≤w0.heap.size
section
variable {v w0 w w1:World} {g:Nat} {P:Int}
theorem FB.start (hR:Rdr v w g P) (hB:Below v.heap.size v w):FB v w g P (w.alloc (.cells nilC 28 (0,0))):=by
  have hb:=below_alloc (Below.refl w.heap.size w) (.cells nilC 28 (0,0))
  exact⟨bst hB hb,hR.below hb,KeepBut.of_below hb g none,blk_new w _,hB.size⟩
theorem FB.below (h:FB v w0 g P w) (hb:Below w.heap.size w w1):FB v w0 g P w1:=⟨bst h.b hb,h.r.below hb,keep_below h.k hb,bbl h.ob hb,h.vl⟩
theorem FB.pick {Q:Int} (h:FB v w0 g P w) (hr:Rdr v w1 g Q) (hb:Below v.heap.size v w1) (hk:KeepBut w w1 g none):FB v w0 g Q w1:=⟨hb,hr,keep_then h.k hk,h.r.blk hk h.ob (by decide),h.vl⟩
theorem FB.fin (h:FB v w0 g P w) {lo:Nat} {A0 A1 A2 A3:Option Addr} {c0 c1 c2 c3:Nat} {G:Hp} (O:OwnG w lo A0 c0 A1 c1 A2 c2 A3 c3 G) (hl:w0.heap.size≤lo):let W:=set4 w w0.heap.size (.slice A0 G.o.length c0) (.slice A1 G.r.length c1) (.slice A2 G.w.length c2) (.slice A3 G.d.length c3);
    W.heap[w0.heap.size]?=some (.cells (hpC A0 c0 A1 c1 A2 c2 A3 c3 G) 28 (0,0))∧OwnG W w0.heap.size A0 c0 A1 c1 A2 c2 A3 c3 G∧Rdr v W g P∧Below v.heap.size v W∧KeepBut w0 W g none:=by
  intro W
  have hne:g≠w0.heap.size:=h.r.ne h.ob (by decide)
  have hv:=h.vl
  have hr:w0.heap.size≤w0.heap.size:=Nat.le_refl _
  refine⟨set4_blk h.ob,OwnH.set4 (O.lower2 hl) h.ob,?_,below_set (below_set (below_set (below_set h.b hv) hv) hv) hv,?_⟩
  · exact(((h.r.far (a:=⟨w0.heap.size,0,none⟩) hne _).far (a:=⟨w0.heap.size,1,none⟩) hne _).far (a:=⟨w0.heap.size,2,none⟩) hne _).far (a:=⟨w0.heap.size,3,none⟩) hne _
  · exact keep_far (keep_far (keep_far (keep_far h.k (p:=⟨w0.heap.size,0,none⟩) hr _) (p:=⟨w0.heap.size,1,none⟩) hr _) (p:=⟨w0.heap.size,2,none⟩) hr _) (p:=⟨w0.heap.size,3,none⟩) hr _
end
section
variable {v w:World} {g lo:Nat} {P:Int} {A0 A1 A2 A3:Option Addr} {c0 c1 c2 c3:Nat} {G:Hp}
set_option maxHeartbeats 2000000 in
theorem l5Heap_c (hR:Rdr v w g P) (hB:Below v.heap.size v w) (hP:P≤700000) :
    Calls Try.prog 103 #[.pointer (some ⟨g,0,none⟩)] w fun en w'=>∃(R:Hp) (B0:Option Addr) (d0:Nat) (B1:Option Addr) (d1:Nat) (B2:Option Addr) (d2:Nat) (B3:Option Addr) (d3:Nat),en=.returned (.agg #[.slice B0 R.o.length d0,.slice B1 R.r.length d1,.slice B2 R.w.length d2,.slice B3 R.d.length d3])∧(R.ok=true∧TxH R)∧OwnG w' w.heap.size B0 d0 B1 d1 B2 d2 B3 d3 R∧Rdr v w' g (P+1100)∧Below v.heap.size v w'∧KeepBut w w' g none:=by
  have D:=AK (show FB v w g P (w.alloc (.cells #[.slice none 0 0,.slice none 0 0,.slice none 0 0,.slice none 0 0] 28 (0,0)))from FB.start hR hB)
  have HP:=AK hP
  clear hR hB hP
  go_enter Try.func103,Try.ntmps103
  go_upto_region 1 with fail
  generalize (w.alloc (.cells #[.slice none 0 0,.slice none 0 0,.slice none 0 0,.slice none 0 0] 28 (0,0)))=w1 at D ⊢
  go_wp2_with fail
  refine(l5Base_c D.out.r D.out.b (by have:=HP.out;omega)).mono ?_
  rintro en w2 ⟨m,A0,c0,A1,c1,A2,c2,A3,c3,rfl,hm,hO,hr,hb,hk⟩
  have HLO:=AK (show w.heap.size≤w1.heap.size from D.out.k.1)
  have O:=AK hO
  have HM:=AK hm
  have HL2:=AK (show w1.heap.size≤w2.heap.size from hk.1)
  replace D:=AK (D.out.pick hr hb hk)
  clear hO hr hb hk hm
  go_wp2_with fail
  refine(l5Events_c (G:=baseH m) D.out.r D.out.b (by have:=HP.out;omega) O.out HL2.out (base_ok m HM.out.2) (fun o ho=>by cases ho) 40 (by omega) false).mono ?_
  rintro en w3 ⟨R,es,B0,d0,B1,d1,B2,d2,B3,d3,K,ck,rfl,hg,hO,_,hr,hb,hk⟩
  have HG:=AK (And.intro hg.1 hg.2.1)
  replace O:=AK hO
  replace D:=AK (D.out.pick hr hb hk)
  clear hg hO hr hb hk HL2
  go_upto_region 2 with fail
  replace D:=AK (D.out.below (below_alloc (Below.refl _ _) (.cells #[.slice B0 R.o.length d0,.slice B1 R.r.length d1,.slice B2 R.w.length d2,.slice B3 R.d.length d3] 28 (0,0))))
  replace O:=AK (O.out.below (below_alloc (Below.refl _ _) (.cells #[.slice B0 R.o.length d0,.slice B1 R.r.length d1,.slice B2 R.w.length d2,.slice B3 R.d.length d3] 28 (0,0))))
  have HX:=AK (blk_new w3 (.cells #[.slice B0 R.o.length d0,.slice B1 R.r.length d1,.slice B2 R.w.length d2,.slice B3 R.d.length d3] 28 (0,0)))
  generalize w3.alloc (.cells #[.slice B0 R.o.length d0,.slice B1 R.r.length d1,.slice B2 R.w.length d2,.slice B3 R.d.length d3] 28 (0,0))=w4 at D O HX ⊢
  generalize w3.heap.size=nb at HX ⊢
  obtain⟨p0,p1,p2,p3⟩:=box4 HX.out
  obtain⟨z0,z1,z2,z3⟩:=box4 (show (World.heap w4)[w.heap.size]?=some (Obj.cells #[.slice none 0 0,.slice none 0 0,.slice none 0 0,.slice none 0 0] 28 (0,0))from D.out.ob)
  have y0:=bfz D.out.ob 0
  have y1:=bfz D.out.ob 1
  have y2:=bfz D.out.ob 2
  have y3:=bfz D.out.ob 3
  go_wp2
  obtain⟨h1,h2,h3,h4,h5⟩:=D.out.fin O.out HLO.out
  refine bodyPost_ret (results_cell_row rfl _ _ w.heap.size 28 #[.slice B0 R.o.length d0,.slice B1 R.r.length d1,.slice B2 R.w.length d2,.slice B3 R.d.length d3] (0,0) _ rfl h1 Try.underlying28 rfl (by kernel_rfl)) rfl ?_
  exact⟨R,B0,d0,B1,d1,B2,d2,B3,d3,rfl,HG.out,h2,h3.more (by omega),h4,h5⟩
set_option maxHeartbeats 2000000 in
theorem l5Any_c (hR:Rdr v w g P) (hB:Below v.heap.size v w) (hP:P≤600000) :
    Calls Try.prog 93 #[.pointer (some ⟨g,0,none⟩)] w fun en w'=>∃(R:Hp) (B0:Option Addr) (d0:Nat) (B1:Option Addr) (d1:Nat) (B2:Option Addr) (d2:Nat) (B3:Option Addr) (d3:Nat),en=.returned (.agg #[.slice B0 R.o.length d0,.slice B1 R.r.length d1,.slice B2 R.w.length d2,.slice B3 R.d.length d3])∧BdH R∧OwnG w' w.heap.size B0 d0 B1 d1 B2 d2 B3 d3 R∧Rdr v w' g (P+1200)∧Below v.heap.size v w'∧KeepBut w w' g none:=by
  have D:=AK (show FB v w g P (w.alloc (.cells #[.slice none 0 0,.slice none 0 0,.slice none 0 0,.slice none 0 0] 28 (0,0)))from FB.start hR hB)
  have HP:=AK hP
  clear hR hB hP
  go_enter Try.func93,Try.ntmps93
  go_upto_region 1 with fail
  generalize (w.alloc (.cells #[.slice none 0 0,.slice none 0 0,.slice none 0 0,.slice none 0 0] 28 (0,0)))=w1 at D ⊢
  go_wp2_with fail
  refine(pick_c (P:=P) 10 D.out.r D.out.b (by have:=HP.out;omega)).mono ?_
  rintro en w2 ⟨k,rfl,_,hr,hb,hk⟩
  replace D:=AK (D.out.pick hr hb hk)
  clear hr hb hk
  obtain⟨bk,hbk⟩:∃b,(k == 0)=b:=⟨_,rfl⟩
  cases bk
  case true=>
    go_wp2_with fail
    have HLO:=AK (show w.heap.size≤w2.heap.size from D.out.k.1)
    refine(l5Many_c D.out.r D.out.b (by have:=HP.out;omega)).mono ?_
    rintro en w3 ⟨R,B0,d0,B1,d1,B2,d2,B3,d3,rfl,hg,hO,hr,hb,hk⟩
    have HG:=AK hg.1.loose
    have O:=AK hO
    replace D:=AK (D.out.pick hr hb hk)
    clear hg hO hr hb hk
    obtain⟨z0,z1,z2,z3⟩:=box4 (show (World.heap w3)[w.heap.size]?=some (Obj.cells #[.slice none 0 0,.slice none 0 0,.slice none 0 0,.slice none 0 0] 28 (0,0))from D.out.ob)
    have y0:=bfz D.out.ob 0
    have y1:=bfz D.out.ob 1
    have y2:=bfz D.out.ob 2
    have y3:=bfz D.out.ob 3
    go_wp2
    obtain⟨h1,h2,h3,h4,h5⟩:=D.out.fin O.out HLO.out
    refine bodyPost_ret (results_cell_row rfl _ _ w.heap.size 28 #[.slice B0 R.o.length d0,.slice B1 R.r.length d1,.slice B2 R.w.length d2,.slice B3 R.d.length d3] (0,0) _ rfl h1 Try.underlying28 rfl (by kernel_rfl)) rfl ?_
    exact⟨R,B0,d0,B1,d1,B2,d2,B3,d3,rfl,HG.out,h2,h3.more (by omega),h4,h5⟩
  go_wp2_with fail
  have HLO:=AK (show w.heap.size≤w2.heap.size from D.out.k.1)
  refine(l5Heap_c D.out.r D.out.b (by have:=HP.out;omega)).mono ?_
  rintro en w3 ⟨R,B0,d0,B1,d1,B2,d2,B3,d3,rfl,hg,hO,hr,hb,hk⟩
  have HT:=AK hg
  have O:=AK hO
  replace D:=AK (D.out.pick hr hb hk)
  clear hg hO hr hb hk
  go_upto_region 4 with fail
  replace D:=AK (D.out.below (below_alloc (Below.refl _ _) (.cells #[.slice B0 R.o.length d0,.slice B1 R.r.length d1,.slice B2 R.w.length d2,.slice B3 R.d.length d3] 28 (0,0))))
  replace O:=AK (O.out.below (below_alloc (Below.refl _ _) (.cells #[.slice B0 R.o.length d0,.slice B1 R.r.length d1,.slice B2 R.w.length d2,.slice B3 R.d.length d3] 28 (0,0))))
  have HX:=AK (blk_new w3 (.cells #[.slice B0 R.o.length d0,.slice B1 R.r.length d1,.slice B2 R.w.length d2,.slice B3 R.d.length d3] 28 (0,0)))
  generalize w3.alloc (.cells #[.slice B0 R.o.length d0,.slice B1 R.r.length d1,.slice B2 R.w.length d2,.slice B3 R.d.length d3] 28 (0,0))=w4 at D O HX ⊢
  generalize w3.heap.size=nb at HX ⊢
  go_wp2_with fail
  refine(pick_c (P:=P+1+1100) 20 D.out.r D.out.b (by have:=HP.out;omega)).mono ?_
  rintro en w5 ⟨j,rfl,_,hr,hb,hk⟩
  replace O:=AK (D.out.r.own hk O.out)
  replace HX:=AK (D.out.r.blk hk HX.out (by decide))
  replace D:=AK (D.out.pick hr hb hk)
  clear hr hb hk
  obtain⟨p0,p1,p2,p3⟩:=box4 HX.out
  obtain⟨bj,hbj⟩:∃b,(j == 0)=b:=⟨_,rfl⟩
  cases bj
  case false=>
    have HG:=AK (show BdH R from bd_ok HT.out.1 HT.out.2)
    obtain⟨z0,z1,z2,z3⟩:=box4 (show (World.heap w5)[w.heap.size]?=some (Obj.cells #[.slice none 0 0,.slice none 0 0,.slice none 0 0,.slice none 0 0] 28 (0,0))from D.out.ob)
    have y0:=bfz D.out.ob 0
    have y1:=bfz D.out.ob 1
    have y2:=bfz D.out.ob 2
    have y3:=bfz D.out.ob 3
    go_wp2
    obtain⟨h1,h2,h3,h4,h5⟩:=D.out.fin O.out HLO.out
    refine bodyPost_ret (results_cell_row rfl _ _ w.heap.size 28 #[.slice B0 R.o.length d0,.slice B1 R.r.length d1,.slice B2 R.w.length d2,.slice B3 R.d.length d3] (0,0) _ rfl h1 Try.underlying28 rfl (by kernel_rfl)) rfl ?_
    exact⟨R,B0,d0,B1,d1,B2,d2,B3,d3,rfl,HG.out,h2,h3.more (by omega),h4,h5⟩
  go_wp2_with fail
  clear p0 p1 p2 p3
  refine(l5Spoil_c D.out.r D.out.b (by have:=HP.out;omega) O.out.reads (bdg_ok HT.out.1 HT.out.2)).mono ?_
  have HLO2:=AK (show w.heap.size≤w5.heap.size from D.out.k.1)
  rintro en w6 ⟨R2,Q0,t0,Q1,t1,Q2,t2,Q3,t3,rfl,hg,hO,hr,hb,hk⟩
  have HG:=AK hg
  have O2:=AK hO
  replace D:=AK (D.out.pick hr hb hk)
  clear hg hO hr hb hk HLO O
  have HLO:=HLO2
  have O:=O2
  clear HLO2 O2
  obtain⟨z0,z1,z2,z3⟩:=box4 (show (World.heap w6)[w.heap.size]?=some (Obj.cells #[.slice none 0 0,.slice none 0 0,.slice none 0 0,.slice none 0 0] 28 (0,0))from D.out.ob)
  have y0:=bfz D.out.ob 0
  have y1:=bfz D.out.ob 1
  have y2:=bfz D.out.ob 2
  have y3:=bfz D.out.ob 3
  go_wp2
  obtain⟨h1,h2,h3,h4,h5⟩:=D.out.fin O.out HLO.out
  refine bodyPost_ret (results_cell_row rfl _ _ w.heap.size 28 #[.slice Q0 R2.o.length t0,.slice Q1 R2.r.length t1,.slice Q2 R2.w.length t2,.slice Q3 R2.d.length t3] (0,0) _ rfl h1 Try.underlying28 rfl (by kernel_rfl)) rfl ?_
  exact⟨R2,Q0,t0,Q1,t1,Q2,t2,Q3,t3,rfl,HG.out,h2,h3.more (by omega),h4,h5⟩
end
end Go.Proofs.Ytigjhfijkdlldaa.H
