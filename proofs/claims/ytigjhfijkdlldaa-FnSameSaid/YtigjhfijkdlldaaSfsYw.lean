import Derived.Test.YtigjhfijkdlldaaSfsDj
import Derived.Test.YtigjhfijkdlldaaSfsHsc
import Derived.Test.YtigjhfijkdlldaaSfsHlc
import Derived.Test.YtigjhfijkdlldaaSfsPt
import Derived.Test.YtigjhfijkdlldaaSfsDe
namespace Go.Proofs.Ytigjhfijkdlldaa.H
open Go.RowKit Go.Proofs.YtigjhfijkdlldaaW.PrintWords Go.Proofs.YtigjhfijkdlldaaW.PrintLast Go.Proofs.YtigjhfijkdlldaaW.PrintMore Go.Proofs.Ytigjhfijkdlldaa.Q
set_option linter.unusedVariables false
set_option linter.unusedSimpArgs false
section
structure FB (v w0:World) (g:Nat) (P:Int) (w':World):Prop where
  b:Below v.heap.size v w'
  r:Rdr v w' g P
  k:KeepBut w0 w' g none
  ob:w'.heap[w0.heap.size]?=some (.cells nilC 28 (0,0))
  vl:v.heap.size≤w0.heap.size
section
variable {v w0 w w1:World} {g:Nat} {P:Int}
theorem FB.start (hR:Rdr v w g P) (hB:Below v.heap.size v w):FB v w g P (w.alloc (.cells nilC 28 (0,0))):=by
  have hb:=below_alloc (Below.refl w.heap.size w) (.cells nilC 28 (0,0))
  exact⟨bst hB hb,hR.below hb,KeepBut.of_below hb g none,blk_new w _,hB.size⟩
theorem FB.below (h:FB v w0 g P w) (hb:Below w.heap.size w w1):FB v w0 g P w1:=⟨bst h.b hb,h.r.below hb,keep_below h.k hb,bbl h.ob hb,h.vl⟩
theorem FB.pick {Q:Int} (h:FB v w0 g P w) (hr:Rdr v w1 g Q) (hb:Below v.heap.size v w1) (hk:KeepBut w w1 g none):FB v w0 g Q w1:=⟨hb,hr,keep_then h.k hk,h.r.blk hk h.ob (by decide),h.vl⟩
theorem FB.fin (h:FB v w0 g P w) {lo:Nat} {A0 A1 A2 A3:Option Addr} {c0 c1 c2 c3:Nat} {G:Hp} (O:OwnG w lo A0 c0 A1 c1 A2 c2 A3 c3 G) (hl:w0.heap.size≤lo):let W:=set4 w w0.heap.size (.slice A0 G.o.length c0) (.slice A1 G.r.length c1) (.slice A2 G.w.length c2) (.slice A3 G.d.length c3);
    W.heap[w0.heap.size]?=some (.cells (hpC A0 c0 A1 c1 A2 c2 A3 c3 G) 28 (0,0))∧OwnG W w0.heap.size A0 c0 A1 c1 A2 c2 A3 c3 G∧Rdr v W g P∧Below v.heap.size v W∧KeepBut w0 W g none:=by
  intro W
  have hne:g≠w0.heap.size:=h.r.ne h.ob (by decide)
  have hv:=h.vl
  have hr:w0.heap.size≤w0.heap.size:=Nat.le_refl _
  refine⟨set4_blk h.ob,OwnH.set4 (O.lower2 hl) h.ob,?_,below_set (below_set (below_set (below_set h.b hv) hv) hv) hv,?_⟩
  · exact(((h.r.far (a:=⟨w0.heap.size,0,none⟩) hne _).far (a:=⟨w0.heap.size,1,none⟩) hne _).far (a:=⟨w0.heap.size,2,none⟩) hne _).far (a:=⟨w0.heap.size,3,none⟩) hne _
  · exact keep_far (keep_far (keep_far (keep_far h.k (p:=⟨w0.heap.size,0,none⟩) hr _) (p:=⟨w0.heap.size,1,none⟩) hr _) (p:=⟨w0.heap.size,2,none⟩) hr _) (p:=⟨w0.heap.size,3,none⟩) hr _
end
section
variable {v w:World} {g lo:Nat} {P:Int} {A0 A1 A2 A3:Option Addr} {c0 c1 c2 c3:Nat} {G:Hp}
set_option maxHeartbeats 2000000 in
theorem l5Heap_c (hR:Rdr v w g P) (hB:Below v.heap.size v w) (hP:P≤700000) :
    Calls Try.prog 103 #[.pointer (some ⟨g,0,none⟩)] w fun en w'=>∃(R:Hp) (B0:Option Addr) (d0:Nat) (B1:Option Addr) (d1:Nat) (B2:Option Addr) (d2:Nat) (B3:Option Addr) (d3:Nat),en=.returned (.agg #[.slice B0 R.o.length d0,.slice B1 R.r.length d1,.slice B2 R.w.length d2,.slice B3 R.d.length d3])∧(R.ok=true∧TxH R)∧OwnG w' w.heap.size B0 d0 B1 d1 B2 d2 B3 d3 R∧Rdr v w' g (P+1100)∧Below v.heap.size v w'∧KeepBut w w' g none:=by
  have D:=AK (show FB v w g P (w.alloc (.cells #[.slice none 0 0,.slice none 0 0,.slice none 0 0,.slice none 0 0] 28 (0,0)))from FB.start hR hB)
  have HP:=AK hP
  clear hR hB hP
  go_enter Try.func103,Try.ntmps103
  go_upto_region 1 with fail
  generalize (w.alloc (.cells #[.slice none 0 0,.slice none 0 0,.slice none 0 0,.slice none 0 0] 28 (0,0)))=w1 at D ⊢
  go_wp2_with fail
  refine(l5Base_c D.out.r D.out.b (by have:=HP.out;omega)).mono ?_
  rintro en w2 ⟨m,A0,c0,A1,c1,A2,c2,A3,c3,rfl,hm,hO,hr,hb,hk⟩
  have HLO:=AK (show w.heap.size≤w1.heap.size from D.out.k.1)
  have O:=AK hO
  have HM:=AK hm
  have HL2:=AK (show w1.heap.size≤w2.heap.size from hk.1)
  replace D:=AK (D.out.pick hr hb hk)
  clear hO hr hb hk hm
  go_wp2_with fail
  refine(l5Events_c (G:=baseH m) D.out.r D.out.b (by have:=HP.out;omega) O.out HL2.out (base_ok m HM.out.2) (fun o ho=>by cases ho) 40 (by omega) false).mono ?_
  rintro en w3 ⟨R,es,B0,d0,B1,d1,B2,d2,B3,d3,K,ck,rfl,hg,hO,_,hr,hb,hk⟩
  have HG:=AK (And.intro hg.1 hg.2.1)
  replace O:=AK hO
  replace D:=AK (D.out.pick hr hb hk)
  clear hg hO hr hb hk HL2
  go_upto_region 2 with fail
  replace D:=AK (D.out.below (below_alloc (Below.refl _ _) (.cells #[.slice B0 R.o.length d0,.slice B1 R.r.length d1,.slice B2 R.w.length d2,.slice B3 R.d.length d3] 28 (0,0))))
  replace O:=AK (O.out.below (below_alloc (Below.refl _ _) (.cells #[.slice B0 R.o.length d0,.slice B1 R.r.length d1,.slice B2 R.w.length d2,.slice B3 R.d.length d3] 28 (0,0))))
  have HX:=AK (blk_new w3 (.cells #[.slice B0 R.o.length d0,.slice B1 R.r.length d1,.slice B2 R.w.length d2,.slice B3 R.d.length d3] 28 (0,0)))
  generalize w3.alloc (.cells #[.slice B0 R.o.length d0,.slice B1 R.r.length d1,.slice B2 R.w.length d2,.slice B3 R.d.length d3] 28 (0,0))=w4 at D O HX ⊢
  generalize w3.heap.size=nb at HX ⊢
  obtain⟨p0,p1,p2,p3⟩:=box4 HX.out
  obtain⟨z0,z1,z2,z3⟩:=box4 (show (World.heap w4)[w.heap.size]?=some (Obj.cells #[.slice none 0 0,.slice none 0 0,.slice none 0 0,.slice none 0 0] 28 (0,0))from D.out.ob)
  have y0:=bfz D.out.ob 0
  have y1:=bfz D.out.ob 1
  have y2:=bfz D.out.ob 2
  have y3:=bfz D.out.ob 3
  go_wp2
  obtain⟨h1,h2,h3,h4,h5⟩:=D.out.fin O.out HLO.out
  refine bodyPost_ret (results_cell_row rfl _ _ w.heap.size 28 #[.slice B0 R.o.length d0,.slice B1 R.r.length d1,.slice B2 R.w.length d2,.slice B3 R.d.length d3] (0,0) _ rfl h1 Try.underlying28 rfl (by kernel_rfl)) rfl ?_
  exact⟨R,B0,d0,B1,d1,B2,d2,B3,d3,rfl,HG.out,h2,h3.more (by omega),h4,h5⟩
set_option maxHeartbeats 2000000 in
theorem l5Any_c (hR:Rdr v w g P) (hB:Below v.heap.size v w) (hP:P≤600000) :
    Calls Try.prog 93 #[.pointer (some ⟨g,0,none⟩)] w fun en w'=>∃(R:Hp) (B0:Option Addr) (d0:Nat) (B1:Option Addr) (d1:Nat) (B2:Option Addr) (d2:Nat) (B3:Option Addr) (d3:Nat),en=.returned (.agg #[.slice B0 R.o.length d0,.slice B1 R.r.length d1,.slice B2 R.w.length d2,.slice B3 R.d.length d3])∧BdH R∧OwnG w' w.heap.size B0 d0 B1 d1 B2 d2 B3 d3 R∧Rdr v w' g (P+1200)∧Below v.heap.size v w'∧KeepBut w w' g none:=by
  have D:=AK (show FB v w g P (w.alloc (.cells #[.slice none 0 0,.slice none 0 0,.slice none 0 0,.slice none 0 0] 28 (0,0)))from FB.start hR hB)
  have HP:=AK hP
  clear hR hB hP
  go_enter Try.func93,Try.ntmps93
  go_upto_region 1 with fail
  generalize (w.alloc (.cells #[.slice none 0 0,.slice none 0 0,.slice none 0 0,.slice none 0 0] 28 (0,0)))=w1 at D ⊢
  go_wp2_with fail
  refine(pick_c (P:=P) 10 D.out.r D.out.b (by have:=HP.out;omega)).mono ?_
  rintro en w2 ⟨k,rfl,_,hr,hb,hk⟩
  replace D:=AK (D.out.pick hr hb hk)
  clear hr hb hk
  obtain⟨bk,hbk⟩:∃b,(k == 0)=b:=⟨_,rfl⟩
  cases bk
  case true=>
    go_wp2_with fail
    have HLO:=AK (show w.heap.size≤w2.heap.size from D.out.k.1)
    refine(l5Many_c D.out.r D.out.b (by have:=HP.out;omega)).mono ?_
    rintro en w3 ⟨R,B0,d0,B1,d1,B2,d2,B3,d3,rfl,hg,hO,hr,hb,hk⟩
    have HG:=AK hg.1
    have O:=AK hO
    replace D:=AK (D.out.pick hr hb hk)
    clear hg hO hr hb hk
    obtain⟨z0,z1,z2,z3⟩:=box4 (show (World.heap w3)[w.heap.size]?=some (Obj.cells #[.slice none 0 0,.slice none 0 0,.slice none 0 0,.slice none 0 0] 28 (0,0))from D.out.ob)
    have y0:=bfz D.out.ob 0
    have y1:=bfz D.out.ob 1
    have y2:=bfz D.out.ob 2
    have y3:=bfz D.out.ob 3
    go_wp2
    obtain⟨h1,h2,h3,h4,h5⟩:=D.out.fin O.out HLO.out
    refine bodyPost_ret (results_cell_row rfl _ _ w.heap.size 28 #[.slice B0 R.o.length d0,.slice B1 R.r.length d1,.slice B2 R.w.length d2,.slice B3 R.d.length d3] (0,0) _ rfl h1 Try.underlying28 rfl (by kernel_rfl)) rfl ?_
    exact⟨R,B0,d0,B1,d1,B2,d2,B3,d3,rfl,HG.out,h2,h3.more (by omega),h4,h5⟩
  go_wp2_with fail
  have HLO:=AK (show w.heap.size≤w2.heap.size from D.out.k.1)
  refine(l5Heap_c D.out.r D.out.b (by have:=HP.out;omega)).mono ?_
  rintro en w3 ⟨R,B0,d0,B1,d1,B2,d2,B3,d3,rfl,hg,hO,hr,hb,hk⟩
  have HT:=AK hg
  have O:=AK hO
  replace D:=AK (D.out.pick hr hb hk)
  clear hg hO hr hb hk
  go_upto_region 4 with fail
  replace D:=AK (D.out.below (below_alloc (Below.refl _ _) (.cells #[.slice B0 R.o.length d0,.slice B1 R.r.length d1,.slice B2 R.w.length d2,.slice B3 R.d.length d3] 28 (0,0))))
  replace O:=AK (O.out.below (below_alloc (Below.refl _ _) (.cells #[.slice B0 R.o.length d0,.slice B1 R.r.length d1,.slice B2 R.w.length d2,.slice B3 R.d.length d3] 28 (0,0))))
  have HX:=AK (blk_new w3 (.cells #[.slice B0 R.o.length d0,.slice B1 R.r.length d1,.slice B2 R.w.length d2,.slice B3 R.d.length d3] 28 (0,0)))
  generalize w3.alloc (.cells #[.slice B0 R.o.length d0,.slice B1 R.r.length d1,.slice B2 R.w.length d2,.slice B3 R.d.length d3] 28 (0,0))=w4 at D O HX ⊢
  generalize w3.heap.size=nb at HX ⊢
  go_wp2_with fail
  refine(pick_c (P:=P+1+1100) 20 D.out.r D.out.b (by have:=HP.out;omega)).mono ?_
  rintro en w5 ⟨j,rfl,_,hr,hb,hk⟩
  replace O:=AK (D.out.r.own hk O.out)
  replace HX:=AK (D.out.r.blk hk HX.out (by decide))
  replace D:=AK (D.out.pick hr hb hk)
  clear hr hb hk
  obtain⟨p0,p1,p2,p3⟩:=box4 HX.out
  obtain⟨bj,hbj⟩:∃b,(j == 0)=b:=⟨_,rfl⟩
  cases bj
  case false=>
    have HG:=AK (show BdH R from bd_ok HT.out.1 HT.out.2)
    obtain⟨z0,z1,z2,z3⟩:=box4 (show (World.heap w5)[w.heap.size]?=some (Obj.cells #[.slice none 0 0,.slice none 0 0,.slice none 0 0,.slice none 0 0] 28 (0,0))from D.out.ob)
    have y0:=bfz D.out.ob 0
    have y1:=bfz D.out.ob 1
    have y2:=bfz D.out.ob 2
    have y3:=bfz D.out.ob 3
    go_wp2
    obtain⟨h1,h2,h3,h4,h5⟩:=D.out.fin O.out HLO.out
    refine bodyPost_ret (results_cell_row rfl _ _ w.heap.size 28 #[.slice B0 R.o.length d0,.slice B1 R.r.length d1,.slice B2 R.w.length d2,.slice B3 R.d.length d3] (0,0) _ rfl h1 Try.underlying28 rfl (by kernel_rfl)) rfl ?_
    exact⟨R,B0,d0,B1,d1,B2,d2,B3,d3,rfl,HG.out,h2,h3.more (by omega),h4,h5⟩
  go_wp2_with fail
  clear p0 p1 p2 p3
  refine(l5Spoil_c D.out.r D.out.b (by have:=HP.out;omega) O.out.reads HT.out.1 HT.out.2).mono ?_
  have HLO2:=AK (show w.heap.size≤w5.heap.size from D.out.k.1)
  rintro en w6 ⟨R2,Q0,t0,Q1,t1,Q2,t2,Q3,t3,rfl,hg,hO,hr,hb,hk⟩
  have HG:=AK hg
  have O2:=AK hO
  replace D:=AK (D.out.pick hr hb hk)
  clear hg hO hr hb hk HLO O
  have HLO:=HLO2
  have O:=O2
  clear HLO2 O2
  obtain⟨z0,z1,z2,z3⟩:=box4 (show (World.heap w6)[w.heap.size]?=some (Obj.cells #[.slice none 0 0,.slice none 0 0,.slice none 0 0,.slice none 0 0] 28 (0,0))from D.out.ob)
  have y0:=bfz D.out.ob 0
  have y1:=bfz D.out.ob 1
  have y2:=bfz D.out.ob 2
  have y3:=bfz D.out.ob 3
  go_wp2
  obtain⟨h1,h2,h3,h4,h5⟩:=D.out.fin O.out HLO.out
  refine bodyPost_ret (results_cell_row rfl _ _ w.heap.size 28 #[.slice Q0 R2.o.length t0,.slice Q1 R2.r.length t1,.slice Q2 R2.w.length t2,.slice Q3 R2.d.length t3] (0,0) _ rfl h1 Try.underlying28 rfl (by kernel_rfl)) rfl ?_
  exact⟨R2,Q0,t0,Q1,t1,Q2,t2,Q3,t3,rfl,HG.out,h2,h3.more (by omega),h4,h5⟩
end
end
section
structure PB (v:World) (g n5 n6:Nat) (P:Int) (B0:Option Addr) (d0:Nat) (B1:Option Addr) (d1:Nat) (B2:Option Addr) (d2:Nat) (B3:Option Addr) (d3:Nat) (R:Hp) (Q0:Option Addr) (t0:Nat) (Q1:Option Addr) (t1:Nat) (Q2:Option Addr) (t2:Nat) (Q3:Option Addr) (t3:Nat) (S:Hp) (w:World):Prop where
  r:Rdr v w g P
  b:Below v.heap.size v w
  x5:w.heap[n5]?=some (.cells #[.slice B0 R.o.length d0,.slice B1 R.r.length d1,.slice B2 R.w.length d2,.slice B3 R.d.length d3] 28 (0,0))
  x6:w.heap[n6]?=some (.cells #[.slice Q0 S.o.length t0,.slice Q1 S.r.length t1,.slice Q2 S.w.length t2,.slice Q3 S.d.length t3] 28 (0,0))
  o:OwnG w v.heap.size B0 d0 B1 d1 B2 d2 B3 d3 R
  s:OwnG w v.heap.size Q0 t0 Q1 t1 Q2 t2 Q3 t3 S
  ne:n5≠n6
  l6:v.heap.size≤n6
section
variable {v w w1:World} {g n5 n6:Nat} {P:Int} {B0 B1 B2 B3 Q0 Q1 Q2 Q3 U0 U1 U2 U3:Option Addr} {d0 d1 d2 d3 t0 t1 t2 t3 s0 s1 s2 s3:Nat} {R S T:Hp}
theorem PB.below (h:PB v g n5 n6 P B0 d0 B1 d1 B2 d2 B3 d3 R Q0 t0 Q1 t1 Q2 t2 Q3 t3 S w) (hb:Below w.heap.size w w1):PB v g n5 n6 P B0 d0 B1 d1 B2 d2 B3 d3 R Q0 t0 Q1 t1 Q2 t2 Q3 t3 S w1:=
  ⟨h.r.below hb,bst h.b hb,bbl h.x5 hb,bbl h.x6 hb,h.o.below hb,h.s.below hb,h.ne,h.l6⟩
theorem PB.draw {Q:Int} (h:PB v g n5 n6 P B0 d0 B1 d1 B2 d2 B3 d3 R Q0 t0 Q1 t1 Q2 t2 Q3 t3 S w) (hr:Rdr v w1 g Q) (hb:Below v.heap.size v w1) (hk:KeepBut w w1 g none):PB v g n5 n6 Q B0 d0 B1 d1 B2 d2 B3 d3 R Q0 t0 Q1 t1 Q2 t2 Q3 t3 S w1:=
  ⟨hr,hb,h.r.blk hk h.x5 (by decide),h.r.blk hk h.x6 (by decide),h.r.own hk h.o,h.r.own hk h.s,h.ne,h.l6⟩
theorem PB.more {Q:Int} (h:PB v g n5 n6 P B0 d0 B1 d1 B2 d2 B3 d3 R Q0 t0 Q1 t1 Q2 t2 Q3 t3 S w) (hq:P≤Q):PB v g n5 n6 Q B0 d0 B1 d1 B2 d2 B3 d3 R Q0 t0 Q1 t1 Q2 t2 Q3 t3 S w:=⟨h.r.more hq,h.b,h.x5,h.x6,h.o,h.s,h.ne,h.l6⟩
theorem PB.put (h:PB v g n5 n6 P B0 d0 B1 d1 B2 d2 B3 d3 R Q0 t0 Q1 t1 Q2 t2 Q3 t3 S w) (ht:OwnG w v.heap.size U0 s0 U1 s1 U2 s2 U3 s3 T):PB v g n5 n6 P B0 d0 B1 d1 B2 d2 B3 d3 R U0 s0 U1 s1 U2 s2 U3 s3 T (set4 w n6 (.slice U0 T.o.length s0) (.slice U1 T.r.length s1) (.slice U2 T.w.length s2) (.slice U3 T.d.length s3)):=by
  have hne:g≠n6:=h.r.ne h.x6 (by decide)
  exact⟨(((h.r.far (a:=⟨n6,0,none⟩) hne _).far (a:=⟨n6,1,none⟩) hne _).far (a:=⟨n6,2,none⟩) hne _).far (a:=⟨n6,3,none⟩) hne _,set4_below h.b h.l6,set4_far h.x5 h.ne,set4_blk h.x6,OwnH.set4 h.o h.x6,OwnH.set4 ht h.x6,h.ne,h.l6⟩
end
theorem bd_lim {R:Hp} (h:BdH R):Lim R.o R.r R.w R.d:=⟨by have:=h.n;omega,fun x hx=>by have:=h.f x hx;omega,by have:=h.r;omega,by have:=h.w;omega,by have:=h.w;omega⟩
theorem dsame10_tab:rtab .any (opsOf Try.f44 10)=(true,[([],[]),([],[]),([0,0],[0]),([1,2,0,1,2],[1])]):=by kernel_rfl
theorem dsame10_bits:waitsOk [([],[]),([],[]),([0,0],[0]),([1,2,0,1,2],[1])] [0,0,1,7]=true:=by kernel_rfl
set_option maxHeartbeats 4000000 in
set_option maxRecDepth 100000 in
theorem drawSame_c {A:Option Addr} {c:Nat} {code:List Int} (w:World) (hr:Kd.C (Kd.int .u8) w A code.length code) (hc:code.length≤c) (hb:∀b∈code,0≤b∧b<256) :
    Calls Try.prog 44 #[.slice A code.length c] w fun en w'=>∃(R:Hp) (B0:Option Addr) (d0:Nat) (B1:Option Addr) (d1:Nat) (B2:Option Addr) (d2:Nat) (B3:Option Addr) (d3:Nat) (S:Hp) (Q0:Option Addr) (t0:Nat) (Q1:Option Addr) (t1:Nat) (Q2:Option Addr) (t2:Nat) (Q3:Option Addr) (t3:Nat),en=.returned (.tuple #[.agg #[.slice B0 R.o.length d0,.slice B1 R.r.length d1,.slice B2 R.w.length d2,.slice B3 R.d.length d3],.agg #[.slice Q0 S.o.length t0,.slice Q1 S.r.length t1,.slice Q2 S.w.length t2,.slice Q3 S.d.length t3]])∧BdH R∧BdH S∧InH w' B0 d0 B1 d1 B2 d2 B3 d3 R.o R.r R.w R.d∧InH w' Q0 t0 Q1 t1 Q2 t2 Q3 t3 S.o S.r S.w S.d∧Below w.heap.size w w':=by
  have hb1:Below w.heap.size w ((w.alloc (.cells #[.slice none 0 0,.slice none 0 0,.slice none 0 0,.slice none 0 0] 28 (0,0))).alloc (.cells #[.slice none 0 0,.slice none 0 0,.slice none 0 0,.slice none 0 0] 28 (0,0))):=below_alloc (below_alloc (Below.refl w.heap.size w) _) _
  have HC:=AK (And.intro (Kd.C_below hr hb1) (And.intro hc hb))
  have HB:=AK hb1
  have HX:=AK (show ((w.alloc (.cells #[.slice none 0 0,.slice none 0 0,.slice none 0 0,.slice none 0 0] 28 (0,0))).alloc (.cells #[.slice none 0 0,.slice none 0 0,.slice none 0 0,.slice none 0 0] 28 (0,0))).heap[w.heap.size]?=some (.cells #[.slice none 0 0,.slice none 0 0,.slice none 0 0,.slice none 0 0] 28 (0,0))∧((w.alloc (.cells #[.slice none 0 0,.slice none 0 0,.slice none 0 0,.slice none 0 0] 28 (0,0))).alloc (.cells #[.slice none 0 0,.slice none 0 0,.slice none 0 0,.slice none 0 0] 28 (0,0))).heap[w.heap.size+1]?=some (.cells #[.slice none 0 0,.slice none 0 0,.slice none 0 0,.slice none 0 0] 28 (0,0))from⟨blk_alloc (blk_new w _) _,blk_new1 w _ _⟩)
  clear hr hc hb hb1
  go_enter Try.func44,Try.ntmps44
  go_upto_region 1 with fail
  generalize ((w.alloc (.cells #[.slice none 0 0,.slice none 0 0,.slice none 0 0,.slice none 0 0] 28 (0,0))).alloc (.cells #[.slice none 0 0,.slice none 0 0,.slice none 0 0,.slice none 0 0] 28 (0,0)))=w1 at HB HX HC ⊢
  go_wp2_with fail
  refine(open_c HC.out.1 HC.out.2.1 HC.out.2.2).mono ?_
  rintro en w2 ⟨g,rfl,hr,hb⟩
  have D:=AK (And.intro hr hb)
  clear hr hb
  go_wp2_with fail
  refine(l5Any_c D.out.1 D.out.2 (by omega)).mono ?_
  rintro en w3 ⟨R,B0,d0,B1,d1,B2,d2,B3,d3,rfl,hg,hO,hr,hb,_⟩
  have HG:=AK hg
  have O:=AK (hO.lower2 (show w1.heap.size≤w2.heap.size from D.out.2.size))
  replace D:=AK (And.intro (hr.more (show (0:Int)+1200≤1200 by omega)) hb)
  clear hg hO hr hb
  have HSZ:=AK (show w1.heap.size≤w3.heap.size from D.out.2.size)
  go_upto_region 3 with fail
  have X5:=AK (blk_new w3 (.cells #[.slice B0 R.o.length d0,.slice B1 R.r.length d1,.slice B2 R.w.length d2,.slice B3 R.d.length d3] 28 (0,0)))
  replace O:=AK (O.out.below (below_alloc (Below.refl _ _) (.cells #[.slice B0 R.o.length d0,.slice B1 R.r.length d1,.slice B2 R.w.length d2,.slice B3 R.d.length d3] 28 (0,0))))
  replace D:=AK (And.intro (D.out.1.below (below_alloc (Below.refl _ _) (.cells #[.slice B0 R.o.length d0,.slice B1 R.r.length d1,.slice B2 R.w.length d2,.slice B3 R.d.length d3] 28 (0,0)))) (below_alloc D.out.2 (.cells #[.slice B0 R.o.length d0,.slice B1 R.r.length d1,.slice B2 R.w.length d2,.slice B3 R.d.length d3] 28 (0,0))))
  generalize w3.alloc (.cells #[.slice B0 R.o.length d0,.slice B1 R.r.length d1,.slice B2 R.w.length d2,.slice B3 R.d.length d3] 28 (0,0))=w4 at X5 O D ⊢
  have N5:=AK (show w1.heap.size≤w3.heap.size from HSZ.out)
  generalize w3.heap.size=n5 at X5 N5 ⊢
  obtain⟨p0,p1,p2,p3⟩:=box4 X5.out
  go_wp2_with fail
  clear p0 p1 p2 p3
  obtain⟨S,mv,eM⟩:∃M mv,(M,mv)=collectB R:=⟨_,_,rfl⟩
  refine(specCollect_calls _ _ _ _ _ _ _ _ _ _ _ _ _ O.out.reads HG.out.fine S mv eM).mono ?_
  rintro en w5 ⟨Q0,t0,Q1,t1,Q2,t2,Q3,t3,F,fc,rfl,hO,hb⟩
  have HS:=AK (show BdH S from by
    have h1:S=(collectB R).1:=congrArg Prod.fst eM
    rw[h1];exact bd_ok (collect_ok R) (txh_collect HG.out.t))
  have HOKS:=AK (show okB S.o S.r S.w S.d=true from by
    have h1:S=(collectB R).1:=congrArg Prod.fst eM
    rw[h1];exact collect_ok R)
  have OS:=AK (OwnH.lower2 hO.own (show w1.heap.size≤w4.heap.size from D.out.2.size))
  replace O:=AK (O.out.below hb)
  replace X5:=AK (bbl X5.out hb)
  replace D:=AK (And.intro (D.out.1.below hb) (bst D.out.2 hb))
  clear hO hb eM
  go_upto_region 4 with fail
  have K:=AK (show PB w1 g n5 w5.heap.size 1200 B0 d0 B1 d1 B2 d2 B3 d3 R Q0 t0 Q1 t1 Q2 t2 Q3 t3 S (w5.alloc (.cells #[.slice Q0 S.o.length t0,.slice Q1 S.r.length t1,.slice Q2 S.w.length t2,.slice Q3 S.d.length t3] 28 (0,0)))from
    ⟨D.out.1.below (below_alloc (Below.refl _ _) _),below_alloc D.out.2 _,blk_alloc X5.out _,blk_new w5 _,O.out.below (below_alloc (Below.refl _ _) _),OS.out.below (below_alloc (Below.refl _ _) _),fun e=>by have h1:=blk_lt X5.out;omega,D.out.2.size⟩)
  clear O OS X5 D
  generalize w5.alloc (.cells #[.slice Q0 S.o.length t0,.slice Q1 S.r.length t1,.slice Q2 S.w.length t2,.slice Q3 S.d.length t3] 28 (0,0))=w6 at K ⊢
  generalize w5.heap.size=n6 at K ⊢
  go_wp2_with fail
  refine(pick_c 3 K.out.r K.out.b (by omega)).mono ?_
  rintro en w7 ⟨k,rfl,_,hr,hb,hk⟩
  replace K:=AK (K.out.draw hr hb hk)
  clear hr hb hk
  obtain⟨bk,hbk⟩:∃b,(k == 0)=b:=⟨_,rfl⟩
  go_upto_if 20 with fail
  go_cut [] (fun wc=>∃(S:Hp) (Q0:Option Addr) (t0:Nat) (Q1:Option Addr) (t1:Nat) (Q2:Option Addr) (t2:Nat) (Q3:Option Addr) (t3:Nat),Aside0 (BdH S)∧Aside0 (PB w1 g n5 n6 1300 B0 d0 B1 d1 B2 d2 B3 d3 R Q0 t0 Q1 t1 Q2 t2 Q3 t3 S wc))
  case first=>
    cases bk
    · go_wp2
      go_meet
      case rel=>exact⟨S,Q0,t0,Q1,t1,Q2,t2,Q3,t3,HS,⟨K.out.more (by omega)⟩⟩
    · skip
      have HOK:=AK (show OkH S.o S.r S.w S.d from ok_parts HOKS.out)
      obtain⟨p0,p1,p2,p3⟩:=box4 K.out.x6
      go_wp2_with fail
      clear p0 p1 p2 p3
      refine(l5Draw_c K.out.r K.out.b (by omega) K.out.s (by have:=HOK.out.r;omega) (fun p hp=>(HOK.out.rs p hp).2) false).mono ?_
      rintro en w8 ⟨e,F,f,rfl,he1,he2,_,he4,hr,hb,hk⟩
      replace K:=AK (K.out.draw hr hb hk)
      have HE:=AK (And.intro he1 he2)
      have HF:=AK (Kd.R_reads' he4)
      clear hr hb hk he1 he2 he4
      unfold evC
      go_upto_region 6 with fail
      have X8:=AK (blk_new w8 (.cells #[.int .i64 e.f0,.int .i64 e.f1,.int .i64 e.f2,.int .i64 e.f3,.int .i64 e.f4.f0,.string e.f4.f1,.slice F e.f4.f2.length f] 40 (0,0)))
      replace K:=AK (K.out.below (below_alloc (Below.refl _ _) (.cells #[.int .i64 e.f0,.int .i64 e.f1,.int .i64 e.f2,.int .i64 e.f3,.int .i64 e.f4.f0,.string e.f4.f1,.slice F e.f4.f2.length f] 40 (0,0))))
      replace HF:=AK (And.intro HF.out.2.1 (Kd.C_below HF.out.2.2 (below_alloc (Below.refl _ _) (.cells #[.int .i64 e.f0,.int .i64 e.f1,.int .i64 e.f2,.int .i64 e.f3,.int .i64 e.f4.f0,.string e.f4.f1,.slice F e.f4.f2.length f] 40 (0,0)))))
      generalize w8.alloc (.cells #[.int .i64 e.f0,.int .i64 e.f1,.int .i64 e.f2,.int .i64 e.f3,.int .i64 e.f4.f0,.string e.f4.f1,.slice F e.f4.f2.length f] 40 (0,0))=w9 at K X8 HF ⊢
      generalize w8.heap.size=n8 at X8 ⊢
      obtain⟨p0,p1,p2,p3⟩:=box4 K.out.x6
      obtain⟨bg,hbg⟩:∃b,decide (0<S.r.length)=b:=⟨_,rfl⟩
      have hbg2:decide ((0:Int)<(S.r.length:Int))=bg:=by rw[←hbg];by_cases h:0<S.r.length<;>simp[h]
      cases bg
      · have hz:(S.r=[])=True:=by rw[decide_eq_false_iff_not]at hbg;simp;exact List.length_eq_zero_iff.1 (by omega)
        go_wp2
        go_meet
        case rel=>exact⟨S,Q0,t0,Q1,t1,Q2,t2,Q3,t3,HS,⟨K.out.more (by omega)⟩⟩
      · skip
        have hz:(S.r=[])=False:=by rw[decide_eq_true_eq]at hbg;simp;intro h;rw[h]at hbg;simp at hbg
        obtain⟨q0,q1,q2,q3,q4,q5,q6⟩:=box7 X8.out
        go_wp2_with fail
        clear p0 p1 p2 p3 q0 q1 q2 q3 q4 q5 q6 hz hbg hbg2
        obtain⟨T,tx,er⟩:∃T s,(T,s)=stepB S e:=⟨_,_,rfl⟩
        have HT:=AK (show BdH T by
          have e1:T=(stepB S e).1:=congrArg Prod.fst er
          rw[e1];exact bd_ok (step_ok S e) (txh_step HS.out.t HE.out.2))
        refine(specStep_calls w9 w9 _ _ _ _ _ _ _ _ S e _ _ (Below.refl _ _) K.out.s.reads HS.out.fine HF.out.2 HF.out.1 (by have:=HE.out.1;omega) (by have:=HE.out.2.1;omega) T tx er).mono ?_
        rintro en w10 ⟨U0,s0,U1,s1,U2,s2,U3,s3,rfl,hO,hb⟩
        have OT:=AK (OwnH.lower2 hO (show w1.heap.size≤w9.heap.size from K.out.b.size))
        replace K:=AK (K.out.below hb)
        clear hO hb er
        have K2:=AK (K.out.put OT.out)
        obtain⟨z0,z1,z2,z3⟩:=box4 K.out.x6
        have y0:=bfz K.out.x6 0
        have y1:=bfz K.out.x6 1
        have y2:=bfz K.out.x6 2
        have y3:=bfz K.out.x6 3
        go_wp2
        clear z0 z1 z2 z3 y0 y1 y2 y3
        go_meet
        case rel=>exact⟨T,U0,s0,U1,s1,U2,s2,U3,s3,HT,⟨K2.out.more (by omega)⟩⟩
  case rest=>
    clear HS HOKS K hbk
    obtain⟨S,Q0,t0,Q1,t1,Q2,t2,Q3,t3,HS,K⟩:=hcut
    go_wp2_with fail
    refine(pick_c 6 K.out.r K.out.b (by omega)).mono ?_
    rintro en w7 ⟨k2,rfl,_,hr,hb,hk⟩
    replace K:=AK (K.out.draw hr hb hk)
    clear hr hb hk
    obtain⟨bk,hbk⟩:∃b,(k2 == 0)=b:=⟨_,rfl⟩
    go_upto_if 36 with fail
    go_cut [] (fun wc=>∃(S:Hp) (Q0:Option Addr) (t0:Nat) (Q1:Option Addr) (t1:Nat) (Q2:Option Addr) (t2:Nat) (Q3:Option Addr) (t3:Nat),Aside0 (BdH S)∧Aside0 (PB w1 g n5 n6 1400 B0 d0 B1 d1 B2 d2 B3 d3 R Q0 t0 Q1 t1 Q2 t2 Q3 t3 S wc))
    case first=>
      cases bk
      · go_wp2
        go_meet
        case rel=>exact⟨S,Q0,t0,Q1,t1,Q2,t2,Q3,t3,HS,⟨K.out.more (by omega)⟩⟩
      · obtain⟨p0,p1,p2,p3⟩:=box4 K.out.x5
        go_wp2_with fail
        clear p0 p1 p2 p3
        refine(l1Copy_calls _ _ _ _ _ _ _ _ _ _ _ _ _ K.out.o.reads (bd_lim HG.out)).mono ?_
        rintro en w8 ⟨U0,s0,U1,s1,U2,s2,U3,s3,rfl,hO,hb⟩
        have OT:=AK (show OwnG w8 w1.heap.size U0 s0 U1 s1 U2 s2 U3 s3 R from OwnH.lower2 hO (show w1.heap.size≤w7.heap.size from K.out.b.size))
        replace K:=AK (K.out.below hb)
        clear hO hb
        have K2:=AK (K.out.put OT.out)
        obtain⟨z0,z1,z2,z3⟩:=box4 K.out.x6
        have y0:=bfz K.out.x6 0
        have y1:=bfz K.out.x6 1
        have y2:=bfz K.out.x6 2
        have y3:=bfz K.out.x6 3
        go_wp2
        clear z0 z1 z2 z3 y0 y1 y2 y3
        go_meet
        case rel=>exact⟨R,U0,s0,U1,s1,U2,s2,U3,s3,HG,⟨K2.out.more (by omega)⟩⟩
    case rest=>
      clear HS K hbk
      obtain⟨S,Q0,t0,Q1,t1,Q2,t2,Q3,t3,HS,K⟩:=hcut
      go_upto_region 10 with fail
      have HY:=AK (And.intro (bbl HX.out.1 K.out.b) (bbl HX.out.2 K.out.b))
      replace HB:=AK (bst HB.out K.out.b)
      have HV:=AK (show w.heap.size+1<n5∧w.heap.size+1<n6 from⟨by have:=N5.out;have:=blk_lt HX.out.2;omega,by have:=K.out.l6;have:=blk_lt HX.out.2;omega⟩)
      clear HX
      refine start_ (n:=4) (S:=(fun w'=>(w'.cell? ⟨n5,0,none⟩=some (.slice B0 R.o.length d0)∧w'.cell? ⟨n5,1,none⟩=some (.slice B1 R.r.length d1)∧w'.cell? ⟨n5,2,none⟩=some (.slice B2 R.w.length d2)∧w'.cell? ⟨n5,3,none⟩=some (.slice B3 R.d.length d3))∧w'.cell? ⟨n6,0,none⟩=some (.slice Q0 S.o.length t0)∧w'.cell? ⟨n6,1,none⟩=some (.slice Q1 S.r.length t1)∧w'.cell? ⟨n6,2,none⟩=some (.slice Q2 S.w.length t2)∧w'.cell? ⟨n6,3,none⟩=some (.slice Q3 S.d.length t3))) (ds:=[]) #[fF,fF,fF,fF] (by kernel_rfl) rfl rfl ⟨box4 K.out.x5,box4 K.out.x6⟩ (fun hHeld=>?_);refine with_tabW dsame10_tab dsame10_bits (fun HT_ HW_=>?_)
      replace K:=AK (K.out.below (below_drew1 (Below.refl _ _)))
      replace HB:=AK (below_drew1 HB.out)
      replace HY:=AK (And.intro (blk_drew HY.out.1) (blk_drew HY.out.2))
      generalize World.drew wc=wq at K HB HY hHeld ⊢
      have OO:=AK (And.intro K.out.o K.out.s)
      have X56:=AK (And.intro K.out.x5 K.out.x6)
      clear K
      refine tU HT_ HW_ 0 (some 39) #[tT,fF,fF,fF] hHeld rfl (by refine Or.inl ⟨by rfl,?_⟩;rintro w' ⟨⟨a_0,a_1,a_2,a_3⟩,a_4,a_5,a_6,a_7⟩;go_simp;with_reducible rfl) ?_
      refine tU HT_ HW_ 1 (some 40) #[tT,tT,fF,fF] hHeld rfl (by refine Or.inl ⟨by rfl,?_⟩;rintro w' ⟨⟨a_0,a_1,a_2,a_3⟩,a_4,a_5,a_6,a_7⟩;go_simp;with_reducible rfl) ?_
      refine one_ (i:=2) (N:=none) #[tT,tT,tT,fF] rfl rfl (one_of HT_.out (by kernel_rfl)) (by decide) (fun K hK=>?_)
      obtain⟨z0,z1,z2,z3⟩:=box4 HY.out.1
      have y0:=bfz HY.out.1 0
      have y1:=bfz HY.out.1 1
      have y2:=bfz HY.out.1 2
      have y3:=bfz HY.out.1 3
      refine skip_ (w1:=?_) (by rfl) rfl ?_ ?_
      rotate_left
      · go_simp
        rfl
      clear z0 z1 z2 z3 y0 y1 y2 y3
      skip
      have HY2:=AK (show (set4 wq w.heap.size (.slice B0 R.o.length d0) (.slice B1 R.r.length d1) (.slice B2 R.w.length d2) (.slice B3 R.d.length d3)).heap[w.heap.size]?=some (.cells #[.slice B0 R.o.length d0,.slice B1 R.r.length d1,.slice B2 R.w.length d2,.slice B3 R.d.length d3] 28 (0,0))∧(set4 wq w.heap.size (.slice B0 R.o.length d0) (.slice B1 R.r.length d1) (.slice B2 R.w.length d2) (.slice B3 R.d.length d3)).heap[w.heap.size+1]?=some (.cells #[.slice none 0 0,.slice none 0 0,.slice none 0 0,.slice none 0 0] 28 (0,0))from⟨set4_blk HY.out.1,set4_far HY.out.2 (by omega)⟩)
      have HB2:=AK (show Below w.heap.size w (set4 wq w.heap.size (.slice B0 R.o.length d0) (.slice B1 R.r.length d1) (.slice B2 R.w.length d2) (.slice B3 R.d.length d3))from set4_below HB.out (by omega))
      have OO2:=AK (And.intro (OwnH.set4 (g:=w.heap.size) OO.out.1 HY.out.1:OwnG (set4 wq w.heap.size (.slice B0 R.o.length d0) (.slice B1 R.r.length d1) (.slice B2 R.w.length d2) (.slice B3 R.d.length d3)) w1.heap.size B0 d0 B1 d1 B2 d2 B3 d3 R) (OwnH.set4 (g:=w.heap.size) OO.out.2 HY.out.1:OwnG (set4 wq w.heap.size (.slice B0 R.o.length d0) (.slice B1 R.r.length d1) (.slice B2 R.w.length d2) (.slice B3 R.d.length d3)) w1.heap.size Q0 t0 Q1 t1 Q2 t2 Q3 t3 S))
      have X56b:=AK (And.intro (set4_far X56.out.1 (by have:=HV.out;omega):(set4 wq w.heap.size (.slice B0 R.o.length d0) (.slice B1 R.r.length d1) (.slice B2 R.w.length d2) (.slice B3 R.d.length d3)).heap[n5]?=some (.cells #[.slice B0 R.o.length d0,.slice B1 R.r.length d1,.slice B2 R.w.length d2,.slice B3 R.d.length d3] 28 (0,0))) (set4_far X56.out.2 (by have:=HV.out;omega):(set4 wq w.heap.size (.slice B0 R.o.length d0) (.slice B1 R.r.length d1) (.slice B2 R.w.length d2) (.slice B3 R.d.length d3)).heap[n6]?=some (.cells #[.slice Q0 S.o.length t0,.slice Q1 S.r.length t1,.slice Q2 S.w.length t2,.slice Q3 S.d.length t3] 28 (0,0))))
      have hw8:((((wq.setCell ⟨w.heap.size,0,none⟩ (.slice B0 R.o.length d0)).setCell ⟨w.heap.size,1,none⟩ (.slice B1 R.r.length d1)).setCell ⟨w.heap.size,2,none⟩ (.slice B2 R.w.length d2)).setCell ⟨w.heap.size,3,none⟩ (.slice B3 R.d.length d3))=(set4 wq w.heap.size (.slice B0 R.o.length d0) (.slice B1 R.r.length d1) (.slice B2 R.w.length d2) (.slice B3 R.d.length d3)):=rfl
      rw[hw8]
      clear hw8
      generalize (set4 wq w.heap.size (.slice B0 R.o.length d0) (.slice B1 R.r.length d1) (.slice B2 R.w.length d2) (.slice B3 R.d.length d3))=wr1 at HY2 HB2 OO2 X56b ⊢
      clear HY HB OO X56
      have HY:=HY2
      have HB:=HB2
      have OO:=OO2
      have X56:=X56b
      clear HY2 HB2 OO2 X56b
      refine hK.out _ _ ⟨box4 X56.out.1,box4 X56.out.2⟩ (fun hHeld=>?_)
      clear hK K
      refine one_ (i:=3) (N:=none) #[tT,tT,tT,tT] rfl rfl (one_of HT_.out (by kernel_rfl)) (by decide) (fun K hK=>?_)
      obtain⟨z0,z1,z2,z3⟩:=box4 HY.out.2
      have y0:=bfz HY.out.2 0
      have y1:=bfz HY.out.2 1
      have y2:=bfz HY.out.2 2
      have y3:=bfz HY.out.2 3
      refine skip_ (w1:=?_) (by rfl) rfl ?_ ?_
      rotate_left
      · go_simp
        rfl
      clear z0 z1 z2 z3 y0 y1 y2 y3
      skip
      have HY2:=AK (show (set4 wr1 (w.heap.size+1) (.slice Q0 S.o.length t0) (.slice Q1 S.r.length t1) (.slice Q2 S.w.length t2) (.slice Q3 S.d.length t3)).heap[w.heap.size]?=some (.cells #[.slice B0 R.o.length d0,.slice B1 R.r.length d1,.slice B2 R.w.length d2,.slice B3 R.d.length d3] 28 (0,0))∧(set4 wr1 (w.heap.size+1) (.slice Q0 S.o.length t0) (.slice Q1 S.r.length t1) (.slice Q2 S.w.length t2) (.slice Q3 S.d.length t3)).heap[w.heap.size+1]?=some (.cells #[.slice Q0 S.o.length t0,.slice Q1 S.r.length t1,.slice Q2 S.w.length t2,.slice Q3 S.d.length t3] 28 (0,0))from⟨set4_far HY.out.1 (by omega),set4_blk HY.out.2⟩)
      have HB2:=AK (show Below w.heap.size w (set4 wr1 (w.heap.size+1) (.slice Q0 S.o.length t0) (.slice Q1 S.r.length t1) (.slice Q2 S.w.length t2) (.slice Q3 S.d.length t3))from set4_below HB.out (by omega))
      have OO2:=AK (And.intro (OwnH.set4 (g:=(w.heap.size+1)) OO.out.1 HY.out.2:OwnG (set4 wr1 (w.heap.size+1) (.slice Q0 S.o.length t0) (.slice Q1 S.r.length t1) (.slice Q2 S.w.length t2) (.slice Q3 S.d.length t3)) w1.heap.size B0 d0 B1 d1 B2 d2 B3 d3 R) (OwnH.set4 (g:=(w.heap.size+1)) OO.out.2 HY.out.2:OwnG (set4 wr1 (w.heap.size+1) (.slice Q0 S.o.length t0) (.slice Q1 S.r.length t1) (.slice Q2 S.w.length t2) (.slice Q3 S.d.length t3)) w1.heap.size Q0 t0 Q1 t1 Q2 t2 Q3 t3 S))
      have X56b:=AK (And.intro (set4_far X56.out.1 (by have:=HV.out;omega):(set4 wr1 (w.heap.size+1) (.slice Q0 S.o.length t0) (.slice Q1 S.r.length t1) (.slice Q2 S.w.length t2) (.slice Q3 S.d.length t3)).heap[n5]?=some (.cells #[.slice B0 R.o.length d0,.slice B1 R.r.length d1,.slice B2 R.w.length d2,.slice B3 R.d.length d3] 28 (0,0))) (set4_far X56.out.2 (by have:=HV.out;omega):(set4 wr1 (w.heap.size+1) (.slice Q0 S.o.length t0) (.slice Q1 S.r.length t1) (.slice Q2 S.w.length t2) (.slice Q3 S.d.length t3)).heap[n6]?=some (.cells #[.slice Q0 S.o.length t0,.slice Q1 S.r.length t1,.slice Q2 S.w.length t2,.slice Q3 S.d.length t3] 28 (0,0))))
      have hw8:((((wr1.setCell ⟨w.heap.size+1,0,none⟩ (.slice Q0 S.o.length t0)).setCell ⟨w.heap.size+1,1,none⟩ (.slice Q1 S.r.length t1)).setCell ⟨w.heap.size+1,2,none⟩ (.slice Q2 S.w.length t2)).setCell ⟨w.heap.size+1,3,none⟩ (.slice Q3 S.d.length t3))=(set4 wr1 (w.heap.size+1) (.slice Q0 S.o.length t0) (.slice Q1 S.r.length t1) (.slice Q2 S.w.length t2) (.slice Q3 S.d.length t3)):=rfl
      rw[hw8]
      clear hw8
      generalize (set4 wr1 (w.heap.size+1) (.slice Q0 S.o.length t0) (.slice Q1 S.r.length t1) (.slice Q2 S.w.length t2) (.slice Q3 S.d.length t3))=wr2 at HY2 HB2 OO2 X56b ⊢
      clear HY HB OO X56
      have HY:=HY2
      have HB:=HB2
      have OO:=OO2
      have X56:=X56b
      clear HY2 HB2 OO2 X56b
      refine hK.out _ _ ⟨box4 X56.out.1,box4 X56.out.2⟩ (fun hHeld=>?_)
      clear hK K
      refine done_ (done_of HT_.out (by kernel_rfl)) ?_
      clear HT_ HW_ hHeld
      go_wp2
      refine bodyPost_ret (results_cc rfl _ _ w.heap.size (w.heap.size+1) 28 28 #[.slice B0 R.o.length d0,.slice B1 R.r.length d1,.slice B2 R.w.length d2,.slice B3 R.d.length d3] #[.slice Q0 S.o.length t0,.slice Q1 S.r.length t1,.slice Q2 S.w.length t2,.slice Q3 S.d.length t3] (0,0) (0,0) _ _ rfl HY.out.1 Try.underlying28 rfl (by kernel_rfl) rfl HY.out.2 Try.underlying28 rfl (by kernel_rfl)) rfl ?_
      exact⟨R,B0,d0,B1,d1,B2,d2,B3,d3,S,Q0,t0,Q1,t1,Q2,t2,Q3,t3,rfl,HG.out,HS.out,OO.out.1.reads,OO.out.2.reads,HB.out⟩
end
section
def visitL (l0:List S38) (l3:List S60) (l:List Int) (i:Int):List Int:=if i∈l then putAll l (nextL l0 l3 i)else l
def sweepL (l0:List S38) (l3:List S60):Nat→Int→List Int→List Int
  | 0,_,l=>l
  | n+1,i,l=>sweepL l0 l3 n (i+1) (visitL l0 l3 l i)
def fromL (l0:List S38) (l3:List S60):Nat→List Int→List Int
  | 0,l=>l
  | n+1,l=>fromL l0 l3 n (sweepL l0 l3 l0.length 0 l)
def knownW (l0:List S38) (l1:List Int) (l3:List S60):List Int:=fromL l0 l3 (l0.length+1) (l1.filter fun p=>decide (0≤p))
section
variable {l0:List S38} {l1:List Int} {l2 l3:List S60}
theorem visit_prefix (l:List Int) (i:Int):l <+: visitL l0 l3 l i:=by
  unfold visitL
  split
  · exact putAll_prefix _ _
  · exact List.prefix_rfl
theorem sweep_prefix:∀(n:Nat) (i:Int) (l:List Int),l <+: sweepL l0 l3 n i l:=by
  intro n
  induction n with
  | zero=>intro i l;exact List.prefix_rfl
  | succ n ih=>intro i l;exact(visit_prefix l i).trans (ih _ _)
theorem from_prefix:∀(n:Nat) (l:List Int),l <+: fromL l0 l3 n l:=by
  intro n
  induction n with
  | zero=>intro l;exact List.prefix_rfl
  | succ n ih=>intro l;exact(sweep_prefix _ _ l).trans (ih _)
theorem pre_anti {l m:List Int} (h:l <+: m) (h2:m <+: l):l=m:=h.eq_of_length (Nat.le_antisymm h.length_le h2.length_le)
theorem sweep_same:∀(n:Nat) (i:Int) (l:List Int),sweepL l0 l3 n i l=l→∀j:Int,i≤j→j<i+n→visitL l0 l3 l j=l:=by
  intro n
  induction n with
  | zero=>intro i l _ j h1 h2;omega
  | succ n ih=>
    intro i l h j h1 h2
    have e:sweepL l0 l3 n (i+1) (visitL l0 l3 l i)=l:=h
    have e2:visitL l0 l3 l i=l:=(pre_anti (visit_prefix l i) ((sweep_prefix n (i+1) (visitL l0 l3 l i)).trans (by rw[e];exact List.prefix_rfl))).symm
    by_cases c:j=i
    · rw[c];exact e2
    · rw[e2]at e
      exact ih (i+1) l e j (by omega) (by omega)
theorem putAll_same (xs:List Int):∀l:List Int,(∀q∈xs,0≤q→q∈l)→putAll l xs=l:=by
  induction xs with
  | nil=>intro l _;rfl
  | cons a xs ih=>
    intro l h
    have e:putL l a=l:=by
      unfold putL
      by_cases c:a<0
      · rw[if_pos c]
      · rw[if_neg c,if_pos (h a (List.mem_cons_self ..) (by omega))]
    show putAll (putL l a) xs=l
    rw[e]
    exact ih l (fun q hq=>h q (List.mem_cons_of_mem _ hq))
theorem visit_closed {l:List Int} (h:Closed l0 l3 (·∈l)) (i:Int):visitL l0 l3 l i=l:=by
  unfold visitL
  split
  · rename_i c;exact putAll_same _ l (fun q hq h0=>h i c q hq h0)
  · rfl
theorem sweep_closed {l:List Int} (h:Closed l0 l3 (·∈l)):∀(n:Nat) (i:Int),sweepL l0 l3 n i l=l:=by
  intro n
  induction n with
  | zero=>intro i;rfl
  | succ n ih=>intro i;show sweepL l0 l3 n (i+1) (visitL l0 l3 l i)=l;rw[visit_closed h];exact ih _
theorem from_closed {l:List Int} (h:Closed l0 l3 (·∈l)):∀n:Nat,fromL l0 l3 n l=l:=by
  intro n
  induction n with
  | zero=>rfl
  | succ n ih=>show fromL l0 l3 n (sweepL l0 l3 l0.length 0 l)=l;rw[sweep_closed h];exact ih
theorem same_closed {l:List Int} (hr:∀p∈l,0≤p∧p<l0.length) (h:sweepL l0 l3 l0.length 0 l=l):Closed l0 l3 (·∈l):=by
  intro p hp q hq h0
  have hp2:=hr p hp
  have e:=sweep_same _ _ _ h p hp2.1 (by omega)
  unfold visitL at e
  rw[if_pos hp]at e
  exact e ▸ (mem_putAll _ _ _).2 (.inr ⟨hq,h0⟩)
def Behind (n:Nat) (a l:List Int):Prop:=∃t,l=a++t∧GoodL n t
theorem behind_put {n:Nat} {a l:List Int} (h:Behind n a l) {p:Int} (hp:p<n):Behind n a (putL l p):=by
  obtain⟨t,rfl,hg⟩:=h
  unfold putL
  by_cases c:p<0
  · rw[if_pos c];exact⟨t,rfl,hg⟩
  rw[if_neg c]
  by_cases d:p∈a++t
  · rw[if_pos d];exact⟨t,rfl,hg⟩
  · rw[if_neg d]
    refine⟨t++[p],by rw[List.append_assoc],?_,fun x hx=>?_⟩
    · rw[List.nodup_append]
      exact⟨hg.1,by simp,fun x hx b hb e=>d (by rw[List.mem_singleton]at hb;subst hb;exact List.mem_append_right _ (e ▸ hx))⟩
    · rcases List.mem_append.1 hx with hx|hx
      · exact hg.2 x hx
      · rw[List.mem_singleton.1 hx];omega
theorem behind_putAll {n:Nat} {a:List Int} (xs:List Int):∀{l:List Int},Behind n a l→(∀p∈xs,p<n)→Behind n a (putAll l xs):=by
  induction xs with
  | nil=>intro l h _;exact h
  | cons x xs ih=>intro l h hx;exact ih (behind_put h (hx x (List.mem_cons_self ..))) (fun p hp=>hx p (List.mem_cons_of_mem _ hp))
theorem behind_range {n:Nat} {a l:List Int} (ha:∀p∈a,0≤p∧p<n) (h:Behind n a l):∀p∈l,0≤p∧p<n:=by
  obtain⟨t,rfl,hg⟩:=h
  intro p hp
  rcases List.mem_append.1 hp with hp|hp
  · exact ha p hp
  · exact hg.2 p hp
theorem behind_sweep (h:OkH l0 l1 l2 l3) {a:List Int} (ha:∀p∈a,0≤p∧p<l0.length):∀(n:Nat) (i:Int) (l:List Int),Behind l0.length a l→Behind l0.length a (sweepL l0 l3 n i l):=by
  intro n
  induction n with
  | zero=>intro i l hl;exact hl
  | succ n ih=>
    intro i l hl
    refine ih _ _ ?_
    unfold visitL
    split
    · rename_i c
      have hp:=behind_range ha hl i c
      exact behind_putAll _ hl (next_lt h hp.1 hp.2)
    · exact hl
theorem from_is_closed (h:OkH l0 l1 l2 l3) {a:List Int} (ha:∀p∈a,0≤p∧p<l0.length):∀(k:Nat) (l:List Int),Behind l0.length a l→a.length+l0.length<l.length+k→Closed l0 l3 (·∈fromL l0 l3 k l):=by
  intro k
  induction k with
  | zero=>
    intro l hl hk
    obtain⟨t,rfl,hg⟩:=hl
    have:=nodup_len _ _ hg
    rw[List.length_append]at hk
    omega
  | succ k ih=>
    intro l hl hk
    have hs:=behind_sweep h ha l0.length 0 l hl
    by_cases c:sweepL l0 l3 l0.length 0 l=l
    · have hc:=same_closed (behind_range ha hl) c
      rw[from_closed hc];exact hc
    · have hpre:=sweep_prefix (l0:=l0) (l3:=l3) l0.length 0 l
      have hlen:l.length<(sweepL l0 l3 l0.length 0 l).length:=by
        rcases Nat.lt_or_ge l.length (sweepL l0 l3 l0.length 0 l).length with h1|h1
        · exact h1
        · exact absurd (hpre.eq_of_length (Nat.le_antisymm hpre.length_le h1)).symm c
      exact ih _ hs (by omega)
theorem sweep_in {S:Int→Prop} (hS:Closed l0 l3 S):∀(n:Nat) (i:Int) (l:List Int),(∀p∈l,S p)→∀p∈sweepL l0 l3 n i l,S p:=by
  intro n
  induction n with
  | zero=>intro i l h;exact h
  | succ n ih=>
    intro i l h
    refine ih _ _ (fun p hp=>?_)
    unfold visitL at hp
    split at hp
    · rename_i c
      rcases(mem_putAll _ _ _).1 hp with h1|⟨h1,h2⟩
      · exact h p h1
      · exact hS i (h i c) p h1 h2
    · exact h p hp
theorem from_in {S:Int→Prop} (hS:Closed l0 l3 S):∀(n:Nat) (l:List Int),(∀p∈l,S p)→∀p∈fromL l0 l3 n l,S p:=by
  intro n
  induction n with
  | zero=>intro l h;exact h
  | succ n ih=>intro l h;exact ih _ (sweep_in hS _ _ _ h)
theorem roots_range (h:OkH l0 l1 l2 l3):∀p∈l1.filter (fun p=>decide (0≤p)),0≤p∧p<l0.length:=fun p hp=>by
  have h1:=List.mem_filter.1 hp
  exact⟨by simpa using h1.2,(h.rs p h1.1).2⟩
theorem known_iff (h:OkH l0 l1 l2 l3) (p:Int):p∈knownW l0 l1 l3↔p∈reachL l0 l1 l3:=by
  unfold knownW
  constructor
  · refine from_in (reach_closed h) _ _ (fun q hq=>?_) p
    have h1:=List.mem_filter.1 hq
    exact reach_root h1.1 (by simpa using h1.2)
  · refine reach_least (from_is_closed h (roots_range h) _ _ ⟨[],(List.append_nil _).symm,good_nil _⟩ (by omega)) (fun q hq h0=>?_) p
    exact(from_prefix _ _).subset (List.mem_filter.2 ⟨hq,by simpa using h0⟩)
end
end
section
attribute [local go_sem high] eqA60
section
variable {w:World} {A B A0 A1 A2 A3 B0 B1 B2 B3:Option Addr} {c d c0 c1 c2 c3 d0 d1 d2 d3:Nat}
theorem wHas_s {x:List Int} (h:Kd.C (Kd.int .i64) w A x.length x) (p:Int):Calls Try.prog 37 #[.slice A x.length c,.int .i64 p] w fun e w'=>e=.returned (.bool (decide (p∈x)))∧w'=w:=by
  have HL:=AK (C_max h)
  have HC:=AK h
  obtain⟨r,er⟩:∃r,r=decide (p∈x):=⟨_,rfl⟩
  have HR:=AK (show r=decide (p∈x.drop (0:Int).toNat)from er)
  rw[←er]
  clear h er
  go_enter Try.func37,Try.ntmps37
  go_wp2
  go_loopg [5] x.length (fun kq v5 w'=>∃i:Int,v5=.int .i64 i∧Aside0 (0≤i∧i+kq=x.length)∧Aside0 (r=decide (p∈x.drop i.toNat))∧w'=w)
  case atStart=>exact⟨0,rfl,⟨by omega,by omega⟩,HR,rfl⟩
  case round=>
    clear HR
    obtain⟨i,rfl,HI,HR,rfl⟩:=hrel
    cases gk with
    | zero=>
      have c9:decide (i<(x.length:Int))=false:=deF (by have:=HI.out;omega)
      have hr:r=false:=by rw[HR.out,drop_end _ _ (by have:=HI.out;omega)];simp
      subst hr
      go_wp2
      go_ret
      exact⟨rfl,rfl⟩
    | succ k1=>
      have c9:decide (i<(x.length:Int))=true:=deT (by have:=HI.out;omega)
      have hi0:=eq_true (show 0≤i by have:=HI.out;omega)
      have hi1:=eq_true (show i<(x.length:Int)by have:=HI.out;omega)
      obtain⟨ad,e1,hq⟩:=Kd.at_int HC.out i (by have:=HI.out;omega) (by have:=HI.out;omega)
      subst e1
      have hr:=HR.out
      rw[drop_cons _ 0 i (by have:=HI.out;omega) (by have:=HI.out;omega)]at hr
      rw[show x.getD i.toNat 0=rd x i from rfl]at hr
      obtain⟨q,eq⟩:∃q,q=rd x i:=⟨_,rfl⟩
      rw[←eq]at hq hr
      by_cases d:q=p
      · have hr2:r=true:=by rw[hr,d];simp
        have d1:(q == p)=true:=by simpa using d
        have HZ:=AK hr2
        clear HR eq hr hr2 d
        go_wp2
        go_ret
        exact⟨by rw[HZ.out];rfl,rfl⟩
      · have HR2 := AK (show r = decide (p ∈ x.drop (i + 1).toNat) by
          rw[hr]
          congr 1
          rw[List.mem_cons]
          exact propext ⟨fun h=>h.elim (fun e=>absurd e.symm d) id,.inr⟩)
        have d1:(q == p)=false:=by simpa using d
        clear HR hr eq d
        go_wp2
        go_roundg k1
        case measure=>omega
        case rel=>
          rw[wrap_succ i (by have:=HI.out;omega) (by have:=HI.out;have:=HL.out;omega)]
          exact⟨i+1,rfl,⟨by have:=HI.out;omega,by have:=HI.out;omega⟩,HR2,rfl⟩
end
end
end Go.Proofs.Ytigjhfijkdlldaa.H
