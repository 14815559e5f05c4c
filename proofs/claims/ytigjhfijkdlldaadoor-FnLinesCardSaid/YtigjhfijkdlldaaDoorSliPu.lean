import Derived.Test.YtigjhfijkdlldaaDoorSliYob
import Derived.Test.YtigjhfijkdlldaaDoorSliPt
import Derived.Deep.RegionHeld3
import Derived.Test.YtigjhfijkdlldaaDoorSliYrf
section
namespace Go.Proofs.YtigjhfijkdlldaaDoor.H
open Go.RowKit Go.Proofs.YtigjhfijkdlldaaDoorW.PrintWords Go.Proofs.YtigjhfijkdlldaaDoorW.PrintLast Go.Proofs.YtigjhfijkdlldaaDoorW.PrintMore Go.Proofs.YtigjhfijkdlldaaDoor.Q
set_option linter.unusedVariables false
set_option linter.unusedSimpArgs false
structure CI (w:World) (XA:Array Value) (l:List S38) (w':World):Prop where
 b:Below w.heap.size w w'
 x:w'.heap[w.heap.size]?=some (.cells XA 33 (0,0))
 z:w'.heap[w.heap.size+1]?=some (.cells #[.slice none 0 0,.slice none 0 0,.slice none 0 0,.slice none 0 0] 33 (0,0))
 o:∃v,w'.heap[w.heap.size+1+1]?=some (.cells #[v,.slice none 0 0,.slice none 0 0,.slice none 0 0] 33 (0,0))∧Kd.S k38 35 w' w.heap.size (fun _=>True) v l
theorem CI.below {w:World} {XA:Array Value} {l:List S38} {w1 w2:World} (h:CI w XA l w1) (hb:Below w1.heap.size w1 w2):CI w XA l w2:=by
 obtain⟨v,h1,h2⟩:=h.o
 exact⟨bst h.b hb,bbl h.x hb,bbl h.z hb,v,bbl h1 hb,Kd.S_below h2 hb⟩
theorem CI.push {w W w1:World} {XA:Array Value} {l:List S38} {v v1:Value} {o:S38} (h:CI w XA l W) (hv:W.heap[w.heap.size+1+1]?=some (.cells #[v,.slice none 0 0,.slice none 0 0,.slice none 0 0] 33 (0,0))) (hS:Kd.S k38 35 W w.heap.size (fun _=>True) v l)
  (hs:Kd.S k38 35 w1 w.heap.size (fun _=>True) v1 (l++[o])) (hb:Below w.heap.size w w1) (hg:W.grownBy w1 v.ownBlock):CI w XA (l++[o]) (w1.setCell ⟨w.heap.size+1+1,0,none⟩ v1):=by
 have hx:=blk_grown h.x hg (Kd.S_ne hS h.x (by decide))
 have hz:=blk_grown h.z hg (Kd.S_ne hS h.z (by decide))
 have ho:=blk_grown hv hg (Kd.S_ne hS hv (by decide))
 exact⟨below_set hb (by omega),blk_far hx (p:=⟨w.heap.size+1+1,0,none⟩) (show w.heap.size≠w.heap.size+1+1 by omega) _,blk_far hz (p:=⟨w.heap.size+1+1,0,none⟩) (show w.heap.size+1≠w.heap.size+1+1 by omega) _,v1,blk_set ho 0 v1,Kd.S_set hs ho (k38_ap 33 (by decide) (by decide)) 0 v1⟩
theorem CI.new (w:World) (XA:Array Value):CI w XA [] (((w.alloc (.cells XA 33 (0,0))).alloc (.cells #[.slice none 0 0,.slice none 0 0,.slice none 0 0,.slice none 0 0] 33 (0,0))).alloc (.cells #[.slice none 0 0,.slice none 0 0,.slice none 0 0,.slice none 0 0] 33 (0,0))):=
 ⟨below_alloc (below_alloc (below_alloc (Below.refl _ _) _) _) _,blk_alloc (blk_alloc (blk_new w _) _) _,blk_alloc (blk_new1 w _ _) _,_,blk_new3 w _ _ _,Kd.S_nil _ _ _ _ _⟩
structure CE (w:World) (XA:Array Value) (l:List S38) (n:Nat) (v:Value) (cs:Array Value) (w':World):Prop where
 b:Below w.heap.size w w'
 x:w'.heap[w.heap.size]?=some (.cells XA 33 (0,0))
 z:w'.heap[w.heap.size+1]?=some (.cells #[.slice none 0 0,.slice none 0 0,.slice none 0 0,.slice none 0 0] 33 (0,0))
 o:w'.heap[w.heap.size+1+1]?=some (.cells cs 33 (0,0))
 s:Kd.S k38 35 w' w.heap.size (fun k=>k<n) v l
theorem CE.below {w:World} {XA cs:Array Value} {l:List S38} {n:Nat} {v:Value} {w1 w2:World} (h:CE w XA l n v cs w1) (hb:Below w1.heap.size w1 w2):CE w XA l n v cs w2:=
 ⟨bst h.b hb,bbl h.x hb,bbl h.z hb,bbl h.o hb,Kd.S_below h.s hb⟩
theorem CE.set {w:World} {XA cs:Array Value} {l:List S38} {n:Nat} {v:Value} {w1:World} (h:CE w XA l n v cs w1) (j:Nat) (u:Value) (cs':Array Value) (e:cs.setIfInBounds j u=cs'):CE w XA l n v cs' (w1.setCell ⟨w.heap.size+1+1,j,none⟩ u):=
 ⟨below_set h.b (by omega),blk_far h.x (p:=⟨w.heap.size+1+1,j,none⟩) (show w.heap.size≠w.heap.size+1+1 by omega) _,blk_far h.z (p:=⟨w.heap.size+1+1,j,none⟩) (show w.heap.size+1≠w.heap.size+1+1 by omega) _,blk_put h.o j u e,Kd.S_set h.s h.o (k38_ap 33 (by decide) (by decide)) j u⟩
theorem CI.ends {w:World} {XA:Array Value} {l:List S38} {w1:World} (h:CI w XA l w1):∃A c,CE w XA l w1.heap.size (.slice A l.length c) #[.slice A l.length c,.slice none 0 0,.slice none 0 0,.slice none 0 0] w1:=by
 obtain⟨v,h1,h2⟩:=h.o
 obtain⟨A,c,rfl⟩:=Kd.S_slice h2
 exact⟨A,c,h.b,h.x,h.z,h1,Kd.S_mono (Kd.S_bound h2) (fun k hk=>hk.2.2.1)⟩
set_option maxHeartbeats 4000000 in
set_option maxRecDepth 100000 in
theorem memCopy_calls (A0 A1 A2 A3:Option Addr) (c0 c1 c2 c3:Nat) (l0:List S38) (l1:List Int) (l2 l3:List S60) (w:World) (h:InH w A0 c0 A1 c1 A2 c2 A3 c3 l0 l1 l2 l3) (hl:Lim l0 l1 l2 l3) :
  Calls Tryd.prog 49 #[.agg #[.slice A0 l0.length c0,.slice A1 l1.length c1,.slice A2 l2.length c2,.slice A3 l3.length c3]] w fun e w'=>
   ∃B0 d0 B1 d1 B2 d2 B3 d3,e=.returned (.agg #[.slice B0 l0.length d0,.slice B1 l1.length d1,.slice B2 l2.length d2,.slice B3 l3.length d3]) ∧
    OwnH w' w.heap.size B0 d0 B1 d1 B2 d2 B3 d3 l0 l1 l2 l3∧Below w.heap.size w w':=by
 have HI0:=AK h
 have HL:=AK hl
 have HC:=AK (CI.new w #[.slice A0 l0.length c0,.slice A1 l1.length c1,.slice A2 l2.length c2,.slice A3 l3.length c3])
 clear h hl
 go_enter Tryd.func49,Tryd.ntmps49
 go_wp2_with fail
 generalize (((w.alloc (.cells #[.slice A0 l0.length c0,.slice A1 l1.length c1,.slice A2 l2.length c2,.slice A3 l3.length c3] 33 (0,0))).alloc (.cells #[.slice none 0 0,.slice none 0 0,.slice none 0 0,.slice none 0 0] 33 (0,0))).alloc (.cells #[.slice none 0 0,.slice none 0 0,.slice none 0 0,.slice none 0 0] 33 (0,0)))=w1 at HC ⊢
 go_loopg [9] l0.length (fun kq v9 w'=>∃i:Int,v9=.int .i64 i∧Aside0 (0≤i∧i+kq=l0.length)∧Aside0 (CI w #[.slice A0 l0.length c0,.slice A1 l1.length c1,.slice A2 l2.length c2,.slice A3 l3.length c3] (l0.take i.toNat) w'))
 case atStart=>exact⟨0,rfl,⟨by omega,by omega⟩,HC⟩
 case round=>
  clear HC
  obtain⟨i,rfl,HI,HC⟩:=hrel
  cases gk with
  | succ k1=>
   have c10:decide (i<(l0.length:Int))=true:=deT (by have:=HI.out;omega)
   have hi0:=eq_true (show 0≤i by have:=HI.out;omega)
   have hi1:=eq_true (show i<(l0.length:Int)by have:=HI.out;omega)
   obtain⟨ad0,Ao,co,e,ha0,ha1,ha2,hal,hag⟩:=at_T38 (HI0.out.below HC.out.b).r0 i (by have:=HI.out;omega) (by have:=HI.out;omega)
   subst e
   have HT:=AK (show l0.take (i+1).toNat=l0.take i.toNat++[rd_T38 l0 i]by
    rw[show (i+1).toNat=i.toNat+1 by have:=HI.out;omega,List.take_add_one,List.getElem?_eq_getElem (by have:=HI.out;omega)]
    simp[rd_T38,List.getD_eq_getElem?_getD,List.getElem?_eq_getElem (show i.toNat<l0.length by have:=HI.out;omega)])
   obtain⟨o,eo⟩:∃o,o=rd_T38 l0 i:=⟨_,rfl⟩
   have HOL:=AK (show o.f2.length≤1048576 by rw[eo];exact HL.out.f _ (getD_mem l0 z38 i (by have:=HI.out;omega) (by have:=HI.out;omega)))
   rw[←eo]at ha0 ha1 ha2 hal hag HT
   have HG:=AK (And.intro hag hal)
   clear eo hal hag
   obtain⟨l,el⟩:∃l,l=l0.take i.toNat:=⟨_,rfl⟩
   rw[←el]at HC HT
   have HLL:=AK (show l.length≤1048576 by rw[el,List.length_take];have:=HL.out.o;omega)
   obtain⟨l',el'⟩:∃l',l'=l++[o]:=⟨_,rfl⟩
   rw[←el']at HT
   have EL:=AK el'
   clear el el'
   obtain⟨v,hv,hS⟩:=HC.out.o
   obtain⟨Ov,cv,e⟩:=Kd.S_slice hS
   subst e
   have HV:=AK (And.intro hv hS)
   have HB:=AK (Below.refl wr.heap.size wr)
   clear hv hS
   go_wp2_with (first|((with_reducible refine gate_dst (N:=15) rfl ?_);at_builtin;refine copy_rows (Kd.int .i64) rfl (.const (.slice none 0 0)) (.tmp 14) 29 3 (.int .i64 0) 8 rfl Tryd.underlying29 info3 rfl (by decide) (by omega) o.f2 Ao co rfl rfl (Kd.C_below HG.out.1 (below_alloc (Below.refl _ _) _)) (fun _ _ h=>h) (by have:=HOL.out;omega) ?_;intro v15 w15 hr hb;obtain⟨Rv,dv,e⟩:=Kd.R_slice hr;subst e;have K5:=AK (bbl (blk_new wr _) hb);have HR:=AK hr;replace HB:=AK (bst (below_alloc HB.out _) hb);clear hr hb;obtain⟨z0,z1,z2⟩:=box3 K5.out;have y2:=bfz K5.out 2;have p0:=(box4 (bbl HV.out.1 HB.out)).1;have hne:=Nat.ne_of_gt (blk_lt HV.out.1))|((with_reducible refine gate_store (t:=29) (p:=16) (v:=.tmp 15) rfl ?_);refine skip_event (W1:=?_) rfl rfl ?hr ?_;(case hr=>go_simp;rfl);have N1:=AK (show (w15.setCell ⟨wr.heap.size,2,none⟩ (.slice Rv o.f2.length dv)).heap[wr.heap.size]?=some (.cells #[.int .i64 o.f0,.string o.f1,.slice Rv o.f2.length dv] 35 (0,0))from blk_set K5.out 2 _);have N2:=AK (Kd.R_mono (Kd.R_bound (Kd.R_lower (base':=w.heap.size) (Kd.R_mono (Kd.R_bound (Kd.R_set HR.out K5.out (int_ap 35 (by decide)) 2 (.slice Rv o.f2.length dv))) (ok':=fun k=>wr.heap.size<k) (fun k hk=>Nat.lt_of_lt_of_le (Nat.lt_succ_self _) (show wr.heap.size+1≤k by have h1:=hk.2.1;rwa [show (wr.alloc (.cells #[.int .i64 o.f0,.string o.f1,.slice Ao o.f2.length co] 35 (0,0))).heap.size=wr.heap.size+1 from Array.size_push ..]at h1))) (Nat.le_trans HC.out.b.size (below_alloc (Below.refl _ _) _).size))) (ok':=fun k=>wr.heap.size<k) (fun k hk=>hk.1));replace HB:=AK (below_set (j:=2) (v:=.slice Rv o.f2.length dv) HB.out (Nat.le_refl wr.heap.size));clear K5 HR z0 z1 z2 y2 p0;generalize (w15.setCell ⟨wr.heap.size,2,none⟩ (.slice Rv o.f2.length dv))=w16 at N1 N2 HB ⊢;have K5:=N1;have HR:=N2;clear N1 N2;obtain⟨z0,z1,z2⟩:=box3 K5.out;have p0:=(box4 (bbl HV.out.1 HB.out)).1)|((with_reducible refine gate_dst (N:=21) rfl ?_);at_builtin;refine Kd.S_append k38 (w0:=w) w.heap.size rfl (.tmp 18) (.tmp 20) 30 35 (.agg #[.int .i64 0,.string ⟨#[]⟩,.slice none 0 0]) 48 rfl Tryd.underlying30 info38 rfl (by decide) (by omega) (.slice Ov l.length cv) l o [.int .i64 o.f0,.string o.f1,.slice Rv o.f2.length dv] (fun _=>True) (fun k=>some k=(Value.slice Rv o.f2.length dv).ownBlock) rfl rfl ?aP ?aK (fun _ _=>trivial) ?aO ?aB ?aS ?aL ?_;(case aP=>exact k38_mkM _ _ _ o (Kd.R_tight rfl HR.out));(case aK=>exact fun k hk=>⟨trivial,fun e=>by have h1:=HR.out.1 k hk.symm;have h2:=Kd.S_lt HV.out.2 k e.symm;omega⟩);(case aO=>exact Kd.S_mono (Kd.S_old HV.out.2 HB.out) (fun k hk=>⟨trivial,fun e=>by have h1:=HR.out.1 k e.symm;have h2:=hk.2;omega⟩));(case aB=>exact bst HC.out.b HB.out);(case aS=>exact(bst HC.out.b HB.out).size);(case aL=>have:=HLL.out;omega);intro v21 w21 hs hb hg hat;clear hat p0;have p0:=(box4 (blk_grown (bbl HV.out.1 HB.out) hg (Kd.S_ne (Kd.S_below HV.out.2 HB.out) (bbl HV.out.1 HB.out) (by decide)))).1;have y0:=bfz (blk_grown (bbl HV.out.1 HB.out) hg (Kd.S_ne (Kd.S_below HV.out.2 HB.out) (bbl HV.out.1 HB.out) (by decide))) 0;have N0:=AK (CI.push (HC.out.below HB.out) (bbl HV.out.1 HB.out) (Kd.S_below HV.out.2 HB.out) hs hb hg);rw[←EL.out]at hs N0;obtain⟨Ow,cw,e⟩:=Kd.S_slice hs;subst e;clear hs hb hg))
   go_roundg k1
   case measure=>omega
   case rel=>
    have h1:=HI.out
    have h2:=HL.out.o
    rw[wrap_succ i (by omega) (by omega)]
    exact⟨i+1,rfl,⟨by omega,by omega⟩,⟨by rw[HT.out];exact N0.out⟩⟩
  | zero=>
   have c10:decide (i<(l0.length:Int))=false:=deF (by have:=HI.out;omega)
   have hh:=HC.out
   rw[take_all _ _ (by have:=HI.out;omega)]at hh
   obtain⟨Ov,cv,hE⟩:=hh.ends
   have HE:=AK hE
   have HN:=AK (show w.heap.size+1+1<wr.heap.size from blk_lt hE.o)
   clear hh hE HC HI
   obtain⟨p0,p1,p2,p3⟩:=box4 HE.out.x
   go_wp2_with (first
    | ((with_reducible refine gate_dst (N:=26) rfl ?_);at_builtin;refine copy_rows (Kd.int .i64) rfl (.const (.slice none 0 0)) (.tmp 25) 29 3 (.int .i64 0) 8 rfl Tryd.underlying29 info3 rfl (by decide) (by omega) l1 A1 c1 rfl rfl (HI0.out.below HE.out.b).r1 (fun _ _ h=>h) (by have:=HL.out.r;omega) ?_;intro v26 w26 hr hb;obtain⟨R1,e1,e⟩:=Kd.R_slice hr;subst e;have H1:=AK (R_fresh hr HE.out.b.size);replace HE:=AK (HE.out.below hb);have L1:=AK hb.size;clear hr hb;clear p0 p1 p2 p3;have z1:=(box4 HE.out.o).2.1;have y1:=bfz HE.out.o 1;obtain⟨q0,q1,q2,q3⟩:=box4 HE.out.o;clear z1)
    | ((with_reducible refine gate_store (t:=29) (p:=27) (v:=.tmp 26) rfl ?_);refine skip_event (W1:=?_) rfl rfl ?hr ?_;(case hr=>go_simp;rfl);have N0:=AK (HE.out.set 1 (.slice R1 l1.length e1) #[(.slice Ov l0.length cv),(.slice R1 l1.length e1),(.slice none 0 0),(.slice none 0 0)] rfl);have N1:=AK (Kd.R_set H1.out HE.out.o (int_ap 33 (by decide)) 1 (.slice R1 l1.length e1));clear HE H1 q0 q1 q2 q3 y1;generalize e_:(w26.setCell ⟨w.heap.size+1+1,1,none⟩ (.slice R1 l1.length e1))=u26 at N0 N1 ⊢;have LU1:=AK (show u26.heap.size=w26.heap.size by rw[←e_];exact size_set ..);clear e_;have HE:=N0;have H1:=N1;clear N0 N1;obtain⟨p0,p1,p2,p3⟩:=box4 HE.out.x)
    | ((with_reducible refine gate_dst (N:=30) rfl ?_);at_builtin;refine copy_rows k60 rfl (.const (.slice none 0 0)) (.tmp 29) 31 71 (.agg #[.int .i64 0,.int .i64 0]) 16 rfl Tryd.underlying31 info60 rfl (by decide) (by omega) l2 A2 c2 rfl rfl (HI0.out.below HE.out.b).r2 (fun _ _ h=>h) (by have:=HL.out.w;omega) ?_;intro v30 w30 hr hb;obtain⟨R2,e2,e⟩:=Kd.R_slice hr;subst e;have H2:=AK (R_fresh hr HE.out.b.size);replace H1:=AK (Kd.R_below H1.out hb);replace HE:=AK (HE.out.below hb);have L2:=AK hb.size;clear hr hb;clear p0 p1 p2 p3;have z2:=(box4 HE.out.o).2.1;have y2:=bfz HE.out.o 2;obtain⟨q0,q1,q2,q3⟩:=box4 HE.out.o;clear z2)
    | ((with_reducible refine gate_store (t:=31) (p:=31) (v:=.tmp 30) rfl ?_);refine skip_event (W1:=?_) rfl rfl ?hr ?_;(case hr=>go_simp;rfl);have N0:=AK (HE.out.set 2 (.slice R2 l2.length e2) #[(.slice Ov l0.length cv),(.slice R1 l1.length e1),(.slice R2 l2.length e2),(.slice none 0 0)] rfl);have N1:=AK (Kd.R_set H1.out HE.out.o (int_ap 33 (by decide)) 2 (.slice R2 l2.length e2));have N2:=AK (Kd.R_set H2.out HE.out.o (k60_ap 33 (by decide)) 2 (.slice R2 l2.length e2));clear HE H1 H2 q0 q1 q2 q3 y2;generalize e_:(w30.setCell ⟨w.heap.size+1+1,2,none⟩ (.slice R2 l2.length e2))=u30 at N0 N1 N2 ⊢;have LU2:=AK (show u30.heap.size=w30.heap.size by rw[←e_];exact size_set ..);clear e_;have HE:=N0;have H1:=N1;have H2:=N2;clear N0 N1 N2;obtain⟨p0,p1,p2,p3⟩:=box4 HE.out.x)
    | ((with_reducible refine gate_dst (N:=34) rfl ?_);at_builtin;refine copy_rows k60 rfl (.const (.slice none 0 0)) (.tmp 33) 31 71 (.agg #[.int .i64 0,.int .i64 0]) 16 rfl Tryd.underlying31 info60 rfl (by decide) (by omega) l3 A3 c3 rfl rfl (HI0.out.below HE.out.b).r3 (fun _ _ h=>h) (by have:=HL.out.d;omega) ?_;intro v34 w34 hr hb;obtain⟨R3,e3,e⟩:=Kd.R_slice hr;subst e;have H3:=AK (R_fresh hr HE.out.b.size);replace H1:=AK (Kd.R_below H1.out hb);replace H2:=AK (Kd.R_below H2.out hb);replace HE:=AK (HE.out.below hb);have L3:=AK hb.size;clear hr hb;clear p0 p1 p2 p3;have z3:=(box4 HE.out.o).2.1;have y3:=bfz HE.out.o 3;obtain⟨q0,q1,q2,q3⟩:=box4 HE.out.o;clear z3)
    | ((with_reducible refine gate_store (t:=31) (p:=35) (v:=.tmp 34) rfl ?_);refine skip_event (W1:=?_) rfl rfl ?hr ?_;(case hr=>go_simp;rfl);have N0:=AK (HE.out.set 3 (.slice R3 l3.length e3) #[(.slice Ov l0.length cv),(.slice R1 l1.length e1),(.slice R2 l2.length e2),(.slice R3 l3.length e3)] rfl);have N1:=AK (Kd.R_set H1.out HE.out.o (int_ap 33 (by decide)) 3 (.slice R3 l3.length e3));have N2:=AK (Kd.R_set H2.out HE.out.o (k60_ap 33 (by decide)) 3 (.slice R3 l3.length e3));have N3:=AK (Kd.R_set H3.out HE.out.o (k60_ap 33 (by decide)) 3 (.slice R3 l3.length e3));clear HE H1 H2 H3 q0 q1 q2 q3 y3;generalize e_:(w34.setCell ⟨w.heap.size+1+1,3,none⟩ (.slice R3 l3.length e3))=u34 at N0 N1 N2 N3 ⊢;have LU3:=AK (show u34.heap.size=w34.heap.size by rw[←e_];exact size_set ..);clear e_;have HE:=N0;have H1:=N1;have H2:=N2;have H3:=N3;clear N0 N1 N2 N3;obtain⟨p0,p1,p2,p3⟩:=box4 HE.out.o;obtain⟨q0,q1,q2,q3⟩:=box4 HE.out.z;have y0:=bfz HE.out.z 0;have y1:=bfz HE.out.z 1;have y2:=bfz HE.out.z 2;have y3:=bfz HE.out.z 3))
   refine bodyPost_ret (results_cell_row rfl _ _ (w.heap.size+1) 33 #[.slice Ov l0.length cv,.slice R1 l1.length e1,.slice R2 l2.length e2,.slice R3 l3.length e3] (0,0) _ rfl (set4_blk HE.out.z) Tryd.underlying33 rfl (by kernel_rfl)) rfl ?_
   exact⟨Ov,cv,R1,e1,R2,e2,R3,e3,rfl,own_laid (n0:=wr.heap.size) (n2:=w30.heap.size) (set4_S HE.out.s HE.out.z) (set4_R H1.out HE.out.z (int_ap 33 (by decide))) (set4_R H2.out HE.out.z (k60_ap 33 (by decide))) (set4_R H3.out HE.out.z (k60_ap 33 (by decide))) (fun k hk=>hk.1) (fun k hk=>hk.2) (fun k hk=>by have:=LU2.out;have:=hk.1;omega),set4_below HE.out.b (by omega)⟩
end Go.Proofs.YtigjhfijkdlldaaDoor.H
end
section
namespace Go.Proofs.YtigjhfijkdlldaaDoor.H
open Go.RowKit Go.Proofs.YtigjhfijkdlldaaDoorW.PrintWords Go.Proofs.YtigjhfijkdlldaaDoorW.PrintLast Go.Proofs.YtigjhfijkdlldaaDoorW.PrintMore Go.Proofs.YtigjhfijkdlldaaDoor.Q
set_option linter.unusedVariables false
def tabL (n:Nat) (f:Nat→Int):List Int:=(List.range n).map f
theorem tabL_length (n:Nat) (f:Nat→Int):(tabL n f).length=n:=by simp[tabL]
theorem tabL_set (n:Nat) (f:Nat→Int) (i:Nat) (v:Int):(tabL n f).set i v=tabL n (fun j=>if j=i then v else f j):=by
  refine List.ext_getElem (by simp[tabL]) (fun j h1 h2=>?_)
  simp only[tabL,List.getElem_set,List.getElem_map,List.getElem_range]
  by_cases c:i=j
  · rw[if_pos c,if_pos c.symm]
  · rw[if_neg c,if_neg (fun h=>c h.symm)]
theorem tabL_congr (n:Nat) (f g:Nat→Int) (h:∀j,j<n→f j=g j):tabL n f=tabL n g:=
  List.map_congr_left (fun j hj=>h j (List.mem_range.1 hj))
theorem tabL_rd (n:Nat) (f:Nat→Int) (p:Int) (h0:0≤p) (h1:p<n):rd (tabL n f) p=f p.toNat:=by
  have h2:p.toNat<n:=by omega
  simp[rd,tabL,List.getD_eq_getElem?_getD,h2]
theorem tabL_zero (n:Nat):List.replicate n (0:Int)=tabL n (fun j=>if j<0 then -1 else 0):=by
  refine List.ext_getElem (by simp[tabL]) (fun j h1 h2=>?_)
  simp[tabL]
theorem idxL_append (a:List Int) (x p:Int):idxL (a++[x]) p=if p∈a then idxL a p else if x=p then(a.length:Int)else -1:=by
  induction a with
  | nil=>simp[idxL]
  | cons b a ih=>
    have hr:=(idxL_range a p).1
    show (if b=p then 0 else if idxL (a++[x]) p<0 then -1 else idxL (a++[x]) p+1)=_
    by_cases c:b=p
    · subst c;simp[idxL]
    · have c':¬ p=b:=fun h=>c h.symm
      rw[if_neg c,ih]
      by_cases d:p∈a
      · have hm:p∈b :: a:=List.mem_cons_of_mem _ d
        rw[if_pos d,if_pos hm]
        conv=>rhs;unfold idxL
        rw[if_neg c]
      · have hm:¬ p∈b :: a:=by simp[c',d]
        rw[if_neg d,if_neg hm]
        by_cases e:x=p
        · rw[if_pos e,if_pos e,if_neg (by omega)];simp
        · rw[if_neg e,if_neg e];rfl
theorem idxL_take (l:List Int) (hn:l.Nodup) (i:Int) (h0:0≤i) (h1:i<l.length) (p:Int):idxL (l.take (i+1).toNat) p=if p=rd l i then i else idxL (l.take i.toNat) p:=by
  have h2:i.toNat<l.length:=by omega
  have e1:rd l i=l[i.toNat]:=by simp[rd,List.getD_eq_getElem?_getD,h2]
  have hni:rd l i ∉ l.take i.toNat:=by
    rw[e1];intro hm
    obtain⟨j,hj,he⟩:=List.mem_iff_getElem.1 hm
    rw[List.length_take]at hj
    rw[List.getElem_take]at he
    have:=(List.getElem_inj (h₀:=by omega) (h₁:=h2) hn).1 he
    omega
  rw[show (i+1).toNat=i.toNat+1 by omega,List.take_add_one,List.getElem?_eq_getElem h2,←e1]
  show idxL (l.take i.toNat++[rd l i]) p=_
  rw[idxL_append]
  by_cases c:p=rd l i
  · subst c;rw[if_neg hni,if_pos rfl,if_pos rfl,List.length_take];omega
  · rw[if_neg c]
    by_cases d:p∈l.take i.toNat
    · rw[if_pos d]
    · rw[if_neg d,if_neg (fun h=>c h.symm)]
      have:=(idxL_neg _ _).2 d
      have:=(idxL_range (l.take i.toNat) p).1
      omega
def plL (n:Nat) (l:List Int):List Int:=tabL n (fun p=>idxL l p)
theorem plL_length (n:Nat) (l:List Int):(plL n l).length=n:=tabL_length ..
theorem plL_rd (n:Nat) (l:List Int) (p:Int) (h0:0≤p) (h1:p<n):rd (plL n l) p=idxL l p:=by
  unfold plL;rw[tabL_rd _ _ _ h0 h1,Int.toNat_of_nonneg h0]
set_option maxHeartbeats 4000000 in
set_option maxRecDepth 100000 in
theorem memPlaces_calls (A0 A1 A2 A3 B:Option Addr) (c0 c1 c2 c3 d:Nat) (l0:List S38) (l1:List Int) (l2 l3:List S60) (l:List Int) (w:World) (h:InH w A0 c0 A1 c1 A2 c2 A3 c3 l0 l1 l2 l3)
    (hl:Kd.C (Kd.int .i64) w B l.length l) (hd:l.length≤d) (hg:GoodL l0.length l) (hn:l0.length≤60) :
    Calls Tryd.prog 80 #[.agg #[.slice A0 l0.length c0,.slice A1 l1.length c1,.slice A2 l2.length c2,.slice A3 l3.length c3],.slice B l.length d] w fun e w'=>
      ∃v:Value,e=.returned v∧Kd.R (Kd.int .i64) 3 w' w.heap.size (fun _=>True) v (plL l0.length l)∧Below w.heap.size w w':=by
  have HL:=AK hl
  have HD:=AK hd
  have HG:=AK hg
  have HN:=AK hn
  have HLN:=AK (nodup_len _ _ hg)
  have HB:=AK (below_alloc (Below.refl w.heap.size w) (.cells #[.slice A0 l0.length c0,.slice A1 l1.length c1,.slice A2 l2.length c2,.slice A3 l3.length c3] 33 (0,0)))
  have c2b1:decide (0≤(l0.length:Int))=true:=deT (by omega)
  clear h hl hd hg hn
  go_enter Tryd.func80,Tryd.ntmps80
  go_wp2_with (first|((with_reducible refine gate_dst (N:=12) rfl ?_);refine Kd.R_make (Kd.int .i64) _ 3 rfl (N:=12) rfl 29 _ _ rfl (l0.length:Int) rfl rfl Tryd.underlying29 (.int .i64 0) 8 info3 rfl (by decide) (by omega) 0 (ok:=fun _=>True) (okp:=fun _=>True) rfl (fun _ hk=>hk) trivial (by omega) (by have:=HN.out;omega) (Below.refl _ _) (Nat.le_refl _) ?_;intro v5 w4 ho5 hb hg_ hnew_;clear hg_ hnew_;have HB4:=AK (bst HB.out hb);rw[show (l0.length:Int).toNat=l0.length by omega,tabL_zero]at ho5;have HO4:=AK (Kd.R_lower ho5 HB.out.size);obtain⟨Ao,co,e⟩:=Kd.R_slice ho5;rw[tabL_length]at e;subst e;clear ho5 hb))
  go_loopg [15] l0.length (fun kq v15 w'=>∃y:Int,v15=.int .i64 y∧Aside0 (0≤y∧y+kq=l0.length)∧Aside0 (Kd.R (Kd.int .i64) 3 w' w.heap.size (fun _=>True) (.slice Ao l0.length co) (tabL l0.length (fun j=>if j<y.toNat then -1 else 0)))∧Aside0 (Below w.heap.size w w'))
  case atStart=>exact⟨0,rfl,⟨by omega,by omega⟩,HO4,HB4⟩
  case round=>
    clear HO4 HB4
    obtain⟨y,rfl,HY,HO,HB⟩:=hrel
    cases gk with
    | succ k1=>
      have c4b:decide (y<(l0.length:Int))=true:=deT (by have:=HY.out;omega)
      have e4a:=eq_true (show 0≤y by have:=HY.out;omega)
      have e4b:=eq_true (show y<(l0.length:Int)by have:=HY.out;omega)
      obtain⟨go5,co5,eo5,gb5,gl5,cl5,HG5⟩:=Kd.R_form HO.out (by rw[tabL_length];have:=HY.out;omega)
      injection eo5 with ea_ en_ ec_
      subst ea_
      clear en_ ec_ gl5 HG5
      have GB5:=AK gb5
      obtain⟨hx5,hf5⟩:=Kd.R_celln 0 HO.out y (by have:=HY.out;omega) (by have:=HY.out;omega)
      have HP7:=Kd.R_putg HO.out y (-1)
      go_wp2_with (first|((with_reducible refine gate_store (t:=3) (p:=20) rfl ?_);refine store_event (t:=3) (p:=20) (v:=?vo_w8) (w1:=(wr.setCell ⟨go5,y.toNat,none⟩ (.int .i64 (-1)))) ?hg ?ho ?hn ?hr ?_;(case ho=>rfl);(case hg=>rfl);(case hn=>rfl);(case hr=>first|(go_simp;done)|(go_simp;rfl));intro w8 hw;have HP8:=AK (show Kd.R (Kd.int .i64) 3 w8 w.heap.size (fun _=>True) (.slice (some ⟨go5,0,none⟩) l0.length co) ((tabL l0.length (fun j=>if j<y.toNat then -1 else 0)).set y.toNat (-1))by rw[hw];exact HP7.1);have HB8:=AK (show Below w.heap.size w w8 by rw[hw];exact below_set HB.out GB5.out);clear HP7 hw))
      go_roundg k1
      case measure=>omega
      case rel=>
        have h1:=HY.out
        have h2:=HN.out
        rw[wrap_succ y (by omega) (by omega)]
        refine⟨y+1,rfl,⟨by omega,by omega⟩,⟨?_⟩,HB8⟩
        have h3:=HP8.out
        rw[tabL_set]at h3
        rwa [tabL_congr _ _ (fun j=>if j<(y+1).toNat then -1 else 0) (fun j hj=>by
          by_cases c:j=y.toNat
          · rw[if_pos c,if_pos (by omega)]
          · rw[if_neg c]
            by_cases e:j<y.toNat
            · rw[if_pos e,if_pos (by omega)]
            · rw[if_neg e,if_neg (by omega)])]at h3
    | zero=>
      have c4b:decide (y<(l0.length:Int))=false:=deF (by have:=HY.out;omega)
      have HO1:=AK (show Kd.R (Kd.int .i64) 3 wr w.heap.size (fun _=>True) (.slice Ao l0.length co) (plL l0.length (l.take (0:Int).toNat))by
        have h1:=HO.out
        rwa [tabL_congr _ _ (fun j=>idxL (l.take (0:Int).toNat) j) (fun j hj=>by have:=HY.out;rw[if_pos (by omega)];rfl)]at h1)
      go_wp2
      have HB1:=HB
      go_loopg [24] l.length (fun kq v24 w'=>∃y:Int,v24=.int .i64 y∧Aside0 (0≤y∧y+kq=l.length)∧Aside0 (Kd.R (Kd.int .i64) 3 w' w.heap.size (fun _=>True) (.slice Ao l0.length co) (plL l0.length (l.take y.toNat)))∧Aside0 (Below w.heap.size w w'))
      case atStart=>exact⟨0,rfl,⟨by omega,by omega⟩,HO1,HB1⟩
      case round=>
        clear HO1 HB1 HO HB
        obtain⟨i,rfl,HI,HO,HB⟩:=hrel
        cases gk with
        | succ k2=>
          have hp:=HG.out.2 _ (getD_mem l 0 i (by have:=HI.out;omega) (by have:=HI.out;omega))
          have c5b:decide (i<(l.length:Int))=true:=deT (by have:=HI.out;omega)
          have e5a:=eq_true (show 0≤i by have:=HI.out;omega)
          have e5b:=eq_true (show i<(l.length:Int)by have:=HI.out;omega)
          obtain⟨ad2,e,hz⟩:=Kd.at_int HL.out i (by have:=HI.out;omega) (by have:=HI.out;omega)
          subst e
          replace hz:=pcb HB.out hz
          obtain⟨p,ep⟩:∃p,p=rd l i:=⟨_,rfl⟩
          have EP:=AK ep
          rw[←ep]at hz
          have hp':0≤p∧p<l0.length:=by rw[ep];exact hp
          have e6a:=eq_true hp'.1
          have e6b:=eq_true hp'.2
          have HPP:=AK hp'
          clear ep hp
          obtain⟨go5,co5,eo5,gb5,gl5,cl5,HG5⟩:=Kd.R_form HO.out (by rw[plL_length];omega)
          injection eo5 with ea_ en_ ec_
          subst ea_
          clear en_ ec_ gl5 HG5
          have GB5:=AK gb5
          obtain⟨hx5,hf5⟩:=Kd.R_celln 0 HO.out p hp'.1 hp'.2
          have HP7:=Kd.R_putg HO.out p i
          clear hp'
          have HP8:=AK HP7.1
          have HB8:=AK (below_set (v:=.int .i64 i) (j:=p.toNat) HB.out GB5.out)
          clear HP7
          go_wp2
          go_roundg k2
          case measure=>omega
          case rel=>
            have h1:=HI.out
            have h2:=HN.out
            have h4:=HLN.out
            rw[wrap_succ i (by omega) (by omega)]
            refine⟨i+1,rfl,⟨by omega,by omega⟩,⟨?_⟩,HB8⟩
            have h3:=HP8.out
            have h5:=HPP.out
            unfold plL at h3 ⊢
            rw[tabL_set]at h3
            rwa [tabL_congr _ _ (fun(j:Nat)=>idxL (l.take (i+1).toNat) j) (fun j hj=>by
              rw[idxL_take l HG.out.1 i (by omega) (by omega),←EP.out]
              by_cases c:j=p.toNat
              · rw[if_pos c,if_pos (by omega)]
              · rw[if_neg c,if_neg (by omega)])]at h3
        | zero=>
          have c5b:decide (i<(l.length:Int))=false:=deF (by have:=HI.out;omega)
          go_wp2
          go_ret
          exact⟨_,rfl,by have h1:=HO.out;rwa [take_all _ _ (by have:=HI.out;omega)]at h1,HB.out⟩
end Go.Proofs.YtigjhfijkdlldaaDoor.H
end
section
end
section
namespace Go.Proofs.YtigjhfijkdlldaaDoor.H
open Go.RowKit Go.Proofs.YtigjhfijkdlldaaDoorW.PrintWords Go.Proofs.YtigjhfijkdlldaaDoorW.PrintLast Go.Proofs.YtigjhfijkdlldaaDoorW.PrintMore Go.Proofs.YtigjhfijkdlldaaDoor.Q
set_option linter.unusedVariables false
set_option linter.unusedSimpArgs false
def keptB (x:List Int) (z:S60):Bool:=decide (0≤idxL x z.f0) && decide (0≤idxL x z.f1)
theorem movedW_take (x:List Int) (ws:List S60) (i:Int) (h0:0≤i) (h1:i<ws.length) :
  movedW x (ws.take (i+1).toNat)=movedW x (ws.take i.toNat)++if keptB x (rd_T60 ws i)then[⟨idxL x (rd_T60 ws i).f0,idxL x (rd_T60 ws i).f1⟩]else[]:=by
 have h2:i.toNat<ws.length:=by omega
 have e1:rd_T60 ws i=ws[i.toNat]:=by simp[rd_T60,List.getD_eq_getElem?_getD,h2]
 rw[show (i+1).toNat=i.toNat+1 by omega,List.take_add_one,List.getElem?_eq_getElem h2,←e1]
 unfold movedW
 simp only[Option.toList_some,List.filter_append,List.map_append]
 congr 1
 by_cases c:keptB x (rd_T60 ws i)=true
 ·rw[if_pos c];show List.map _ (List.filter (keptB x) _)=_;rw[List.filter_cons_of_pos c];rfl
 ·rw[if_neg c];show List.map _ (List.filter (keptB x) _)=_;rw[List.filter_cons_of_neg c];rfl
theorem movedW_len (x:List Int) (ws:List S60):(movedW x ws).length≤ws.length:=by unfold movedW;rw[List.length_map];exact List.length_filter_le ..
theorem kept6_tab:rtab .any (opsOf Tryd.f82 6)=(true,[([],[]),([],[]),([],[]),([2],[2]),([1,3],[1,3]),([4],[4]),([],[]),([],[]),([7],[7]),([6,8],[6,8]),([9],[9]),([5,10],[5,10]),([11],[11]),([0,12],[0,12]),([13,13,0,1,2,3,4,5,6,7,8,9,10,11,12,13],[0,13])]):=by kernel_rfl
theorem kept6_bits:waitsOk [([],[]),([],[]),([],[]),([2],[2]),([1,3],[1,3]),([4],[4]),([],[]),([],[]),([7],[7]),([6,8],[6,8]),([9],[9]),([5,10],[5,10]),([11],[11]),([0,12],[0,12]),([13,13,0,1,2,3,4,5,6,7,8,9,10,11,12,13],[0,13])] [0,0,0,4,14,30,0,0,128,448,960,2046,4094,8191,16383]=true:=by kernel_rfl
set_option maxHeartbeats 4000000 in
set_option maxRecDepth 100000 in
theorem kept_calls (A P:Option Addr) (c d bp:Nat) (ws:List S60) (pl:List Int) (x:List Int) (w:World) (hr:Kd.C k60 w A ws.length ws) (hc:ws.length≤c) (hp:Kd.C (Kd.int .i64) w P pl.length pl) (hd:pl.length≤d)
  (hbp:w.heap[bp]?=some (.cells #[.slice P pl.length d] 29 (0,0))) (hw:∀z∈ws,(0≤z.f0∧z.f0<pl.length)∧0≤z.f1∧z.f1<pl.length) (hx:∀p:Int,0≤p→p<pl.length→rd pl p=idxL x p) (hl:ws.length≤20) :
  Calls Tryd.prog 82 #[.slice A ws.length c,.pointer (some ⟨bp,0,none⟩)] w fun e w'=>∃v:Value,e=.returned v∧Kd.R k60 71 w' w.heap.size (fun _=>True) v (movedW x ws)∧Below w.heap.size w w':=by
 have HR:=AK hr
 have HP:=AK hp
 have HBP:=AK hbp
 have HW:=AK hw
 have HX:=AK hx
 have HL:=AK hl
 clear hr hc hp hd hbp hw hx hl
 go_enter Tryd.func82,Tryd.ntmps82
 go_wp2
 go_loopg [4,9] ws.length (fun kq v4 v9 w'=>∃i:Int,v9=.int .i64 i∧Aside0 (0≤i∧i+kq=ws.length)∧Aside0 (Kd.R k60 71 w' w.heap.size (fun _=>True) v4 (movedW x (ws.take i.toNat)))∧Aside0 (Below w.heap.size w w'))
 case atStart=>exact⟨0,rfl,⟨by omega,by omega⟩,⟨by exact Kd.R_nil _ _ _ _ _⟩,⟨Below.refl _ _⟩⟩
 case round=>
  obtain⟨i,rfl,HI,HO,HB⟩:=hrel
  cases gk with
  | zero=>
   have c4b:decide (i<(ws.length:Int))=false:=deF (by have:=HI.out;omega)
   go_wp2
   go_ret
   exact⟨_,rfl,by have h1:=HO.out;rwa [take_all _ _ (by have:=HI.out;omega)]at h1,HB.out⟩
  | succ k1=>
   have c4b:decide (i<(ws.length:Int))=true:=deT (by have:=HI.out;omega)
   have e4a:=eq_true (show 0≤i by have:=HI.out;omega)
   have e4b:=eq_true (show i<(ws.length:Int)by have:=HI.out;omega)
   obtain⟨ad2,e,hz0,hz1⟩:=at_T60 HR.out i (by have:=HI.out;omega) (by have:=HI.out;omega)
   subst e
   replace hz0:=pcb HB.out hz0
   replace hz1:=pcb HB.out hz1
   have hw:=HW.out _ (getD_mem ws z60 i (by have:=HI.out;omega) (by have:=HI.out;omega))
   have HT:=AK (movedW_take x ws i (by have:=HI.out;omega) (by have:=HI.out;omega))
   obtain⟨z,ez⟩:∃z,z=rd_T60 ws i:=⟨_,rfl⟩
   have hw':(0≤z.f0∧z.f0<pl.length)∧0≤z.f1∧z.f1<pl.length:=by rw[ez];exact hw
   rw[←ez]at hz0 hz1 HT
   obtain⟨m,em⟩:∃m,m=movedW x (ws.take i.toNat):=⟨_,rfl⟩
   have HLS:=AK (show m.length≤ws.length by rw[em];exact Nat.le_trans (movedW_len x (ws.take i.toNat)) (by rw[List.length_take];omega))
   rw[←em]at HO HT
   clear em
   obtain⟨⟨hw0,hw1⟩,hw2,hw3⟩:=hw'
   obtain⟨ad3,e3,hy0⟩:=Kd.at_int HP.out z.f0 hw0 hw1
   obtain⟨ad4,e4,hy1⟩:=Kd.at_int HP.out z.f1 hw2 hw3
   subst e3
   injection e4 with e4
   subst e4
   rw[HX.out _ hw0 hw1]at hy0
   rw[HX.out _ hw2 hw3]at hy1
   have CS:=AK (And.intro (box1 HBP.out).1 (And.intro hy0 hy1))
   have hyb:∀o:Obj,(wr.alloc o).cell? ⟨bp,0,none⟩=some (.slice (some ad3) pl.length d):=fun o=>pcb (below_alloc HB.out o) CS.out.1
   replace hy0:∀o:Obj,(wr.alloc o).cell? (ad3.add z.f0.toNat)=some (.int .i64 (idxL x z.f0)):=fun o=>pcb (below_alloc HB.out o) hy0
   replace hy1:∀o:Obj,(wr.alloc o).cell? (ad3.add z.f1.toNat)=some (.int .i64 (idxL x z.f1)):=fun o=>pcb (below_alloc HB.out o) hy1
   have hbl:=Nat.lt_of_lt_of_le (blk_lt HBP.out) HB.out.size
   have f0:=eq_true hw0
   have f1:=eq_true hw1
   have f2:=eq_true hw2
   have f3:=eq_true hw3
   obtain⟨Om,cm,e⟩:=Kd.R_slice HO.out
   subst e
   clear ez hw hw0 hw1 hw2 hw3
   have HO2:=AK (Kd.R_alloc HO.out (.cells #[.int .i64 z.f0,.int .i64 z.f1] 71 (0,0)))
   have HB2:=AK (below_alloc HB.out (.cells #[.int .i64 z.f0,.int .i64 z.f1] 71 (0,0)))
   have K6:=AK (blk_new wr (.cells #[.int .i64 z.f0,.int .i64 z.f1] 71 (0,0)))
   have HLT:=AK (fun k (e:(Value.slice Om m.length cm).ownBlock=some k)=>Kd.R_lt HO.out k e)
   by_cases hv:0≤idxL x z.f0
   ·have c6:decide (idxL x z.f0≥0)=true:=deT hv
    have c6':decide (0≤idxL x z.f0)=true:=deT hv
    have HV:=AK hv
    clear hv
    by_cases hv:0≤idxL x z.f1
    ·have c7:decide (idxL x z.f1≥0)=true:=deT hv
     have c7':decide (0≤idxL x z.f1)=true:=deT hv
     have HT2:=AK (show movedW x (ws.take (i+1).toNat)=m++[⟨idxL x z.f0,idxL x z.f1⟩]by rw[HT.out];unfold keptB;rw[deT HV.out,deT hv];rfl)
     clear hv
     go_wp2_with fail
     clear hyb hy0 hy1 hz0 hz1 HO HB
     replace HB2:=AK (below_drew HB2.out)
     replace HO2:=AK (Kd.R_drew HO2.out)
     replace K6:=AK (blk_drew K6.out)
     refine start_ (n:=15) (S:=(fun w'=>w'.cell? ⟨bp,0,none⟩=some (.slice (some ad3) pl.length d)∧w'.cell? (ad3.add z.f0.toNat)=some (.int .i64 (idxL x z.f0))∧w'.cell? (ad3.add z.f1.toNat)=some (.int .i64 (idxL x z.f1))∧w'.cell? ⟨wr.heap.size,0,none⟩=some (.int .i64 z.f0)∧w'.cell? ⟨wr.heap.size,1,none⟩=some (.int .i64 z.f1))) (ds:=[]) #[fF,fF,fF,fF,fF,fF,fF,fF,fF,fF,fF,fF,fF,fF,fF] (by kernel_rfl) rfl rfl ⟨pcb HB2.out CS.out.1,pcb HB2.out CS.out.2.1,pcb HB2.out CS.out.2.2,(box2 K6.out).1,(box2 K6.out).2⟩ (fun hHeld=>?_);refine with_tabW kept6_tab kept6_bits (fun HT_ HW_=>?_)
     generalize (wr.alloc (.cells #[.int .i64 z.f0,.int .i64 z.f1] 71 (0,0))).drew=w2 at HB2 HO2 K6 hHeld ⊢
     refine pU HT_ 0 (some 27) (bM 15 1) ?_
     refine tU HT_ HW_ 1 (some 28) (bM 15 3) hHeld rfl (by refine Or.inl ⟨by rfl,?_⟩;rintro w' ⟨s0,s1,s2',s3',s4⟩;go_simp;with_reducible rfl) ?_
     refine pU HT_ 2 (some 29) (bM 15 7) ?_
     refine tU HT_ HW_ 3 (some 30) (bM 15 15) hHeld rfl (by refine Or.inl ⟨by rfl,?_⟩;rintro w' ⟨s0,s1,s2',s3',s4⟩;go_simp;with_reducible rfl) ?_
     refine pU HT_ 4 (some 31) (bM 15 31) ?_
     refine tU HT_ HW_ 5 (some 32) (bM 15 63) hHeld rfl (by refine Or.inl ⟨by rfl,?_⟩;rintro w' ⟨s0,s1,s2',s3',s4⟩;go_simp;with_reducible rfl) ?_
     refine tU HT_ HW_ 6 (some 33) (bM 15 127) hHeld rfl (by refine Or.inl ⟨by rfl,?_⟩;rintro w' ⟨s0,s1,s2',s3',s4⟩;go_simp;with_reducible rfl) ?_
     refine pU HT_ 7 (some 34) (bM 15 255) ?_
     refine tU HT_ HW_ 8 (some 35) (bM 15 511) hHeld rfl (by refine Or.inl ⟨by rfl,?_⟩;rintro w' ⟨s0,s1,s2',s3',s4⟩;go_simp;with_reducible rfl) ?_
     refine pU HT_ 9 (some 36) (bM 15 1023) ?_
     refine tU HT_ HW_ 10 (some 37) (bM 15 2047) hHeld rfl (by refine Or.inl ⟨by rfl,?_⟩;rintro w' ⟨s0,s1,s2',s3',s4⟩;go_simp;with_reducible rfl) ?_
     refine pU HT_ 11 (some 38) (bM 15 4095) ?_
     refine one_ (i:=12) (N:=some 39) (bM 15 8191) rfl rfl (one_of HT_.out (by kernel_rfl)) (by decide) (fun K hK=>?_)
     refine value_ (v:=.slice (some ⟨w2.heap.size,0,none⟩) 1 1) (w1:=w2.alloc (.cells #[.int .i64 (idxL x z.f0),.int .i64 (idxL x z.f1)] 71 (0,0))) (by rfl) rfl ?hr ?_;(case hr=>first|(go_simp;done)|(go_simp;rfl))
     refine hK.out _ _ ⟨pcb (below_alloc HB2.out _) CS.out.1,pcb (below_alloc HB2.out _) CS.out.2.1,pcb (below_alloc HB2.out _) CS.out.2.2,(box2 (blk_alloc K6.out _)).1,(box2 (blk_alloc K6.out _)).2⟩ (fun hHeld=>?_)
     clear hK K
     refine nO (some 39) ?_
     refine one_ (i:=13) (N:=some 40) (bM 15 16383) rfl rfl (one_of HT_.out (by kernel_rfl)) (by decide) (fun K hK=>?_)
     refine Kd.R_append_step k60 (w0:=w) (W:=w2) w.heap.size (by rfl) (.tmp 27) (.tmp 39) 31 71 (.agg #[(.int .i64 0),(.int .i64 0)]) 16 rfl Tryd.underlying31 info60 rfl (by decide) (by omega) (.slice Om m.length cm) m (⟨idxL x z.f0,idxL x z.f1⟩:S60) [.int .i64 (idxL x z.f0),.int .i64 (idxL x z.f1)] (fun _=>True) (fun _=>False) rfl rfl ?aP (fun _ hk=>hk.elim) ?aF ?aO ?aB ?aS ?aL ?_;(case aP=>exact k60_mkM _ _ _ (⟨idxL x z.f0,idxL x z.f1⟩:S60));(case aF=>exact fun _ _=>trivial);(case aO=>exact HO2.out);(case aB=>exact HB2.out);(case aS=>exact HB2.out.size);(case aL=>have:=HL.out;have:=HLS.out;omega)
     intro v5 w5 ho hb hg hat
     have HO5:=AK ho
     have HB5:=AK hb
     have K5:=AK (blk_grown K6.out hg (fun e=>Nat.lt_irrefl _ (HLT.out _ e.symm)))
     clear ho hb hg hat
     refine hK.out _ _ ⟨pcb HB5.out CS.out.1,pcb HB5.out CS.out.2.1,pcb HB5.out CS.out.2.2,(box2 K5.out).1,(box2 K5.out).2⟩ (fun hHeld=>?_)
     clear hK K
     refine nO (some 40) ?_
     refine pU HT_ 14 (some 4) (bM 15 32767) ?_
     refine done_ (done_of HT_.out (by kernel_rfl)) ?_
     clear HT_ HW_ hHeld
     go_wp2
     go_roundg k1
     case measure=>omega
     case rel=>
      have h1:=HI.out
      have h2:=HL.out
      rw[wrap_succ i (by omega) (by omega)]
      exact⟨i+1,rfl,⟨by omega,by omega⟩,⟨by rw[HT2.out];exact HO5.out⟩,HB5⟩
    ·have c7:decide (idxL x z.f1≥0)=false:=deF hv
     have c7':decide (0≤idxL x z.f1)=false:=deF hv
     have HT2:=AK (show movedW x (ws.take (i+1).toNat)=m by rw[HT.out];unfold keptB;rw[deF hv];simp)
     clear hv
     go_wp2
     go_roundg k1
     case measure=>omega
     case rel=>
      have h1:=HI.out
      have h2:=HL.out
      rw[wrap_succ i (by omega) (by omega)]
      exact⟨i+1,rfl,⟨by omega,by omega⟩,⟨by rw[HT2.out];exact HO2.out⟩,HB2⟩
   ·have c6:decide (idxL x z.f0≥0)=false:=deF hv
    have c6':decide (0≤idxL x z.f0)=false:=deF hv
    have HT2:=AK (show movedW x (ws.take (i+1).toNat)=m by rw[HT.out];unfold keptB;rw[deF hv];simp)
    clear hv
    go_wp2
    go_roundg k1
    case measure=>omega
    case rel=>
     have h1:=HI.out
     have h2:=HL.out
     rw[wrap_succ i (by omega) (by omega)]
     exact⟨i+1,rfl,⟨by omega,by omega⟩,⟨by rw[HT2.out];exact HO2.out⟩,HB2⟩
end Go.Proofs.YtigjhfijkdlldaaDoor.H
end
section
namespace Go.Proofs.YtigjhfijkdlldaaDoor.H
open Go.RowKit Go.Proofs.YtigjhfijkdlldaaDoorW.PrintWords Go.Proofs.YtigjhfijkdlldaaDoorW.PrintLast Go.Proofs.YtigjhfijkdlldaaDoorW.PrintMore Go.Proofs.YtigjhfijkdlldaaDoor.Q
set_option linter.unusedVariables false
theorem memAt_w {w:World} {P:Option Addr} {d:Nat} {pl x:List Int} (hp:Kd.C (Kd.int .i64) w P pl.length pl) (hd:pl.length≤d) (hx:∀p:Int,0≤p→p<pl.length→rd pl p=idxL x p) (p:Int) (h1:p<pl.length) :
    Calls Tryd.prog 81 #[.slice P pl.length d,.int .i64 p] w fun e w'=>e=.returned (.int .i64 (wh x p))∧Drawn0 w w':=by
  refine(memAt_c hp h1).mono (fun e w' h=>⟨?_,by rw[h.2];exact Drawn0.refl _⟩)
  rw[h.1]
  unfold wh
  by_cases c:p<0
  · rw[if_pos c,if_pos c]
  · rw[if_neg c,if_neg c,hx p (by omega) h1]
end Go.Proofs.YtigjhfijkdlldaaDoor.H
end
section
namespace Go.Proofs.YtigjhfijkdlldaaDoor.H
open Go.RowKit Go.Proofs.YtigjhfijkdlldaaDoorW.PrintWords Go.Proofs.YtigjhfijkdlldaaDoorW.PrintLast Go.Proofs.YtigjhfijkdlldaaDoorW.PrintMore Go.Proofs.YtigjhfijkdlldaaDoor.Q
set_option linter.unusedVariables false
theorem cell_of_heap {w w1:World} {g o:Nat} (h:w1.heap[g]?=w.heap[g]?):w1.cell? ⟨g,o,none⟩=w.cell? ⟨g,o,none⟩:=by
  simp only[World.cell?,h]
def U (w:World) (base g:Nat) (okM:Nat→Prop) (f:Nat→Nat) (p:Int) (o:S38):Prop:=
  ∃A2 c2,w.cell? ⟨g,p.toNat*3,none⟩=some (.int .i64 o.f0)∧w.cell? ⟨g,p.toNat*3+1,none⟩=some (.string o.f1)∧w.cell? ⟨g,p.toNat*3+2,none⟩=some (.slice A2 o.f2.length c2) ∧
    Kd.R (Kd.int .i64) 3 w base (fun k=>okM k∧f k=p.toNat) (.slice A2 o.f2.length c2) o.f2
theorem U.keep {w w1:World} {base g:Nat} {okM:Nat→Prop} {f:Nat→Nat} {p:Int} {o:S38} (h:U w base g okM f p o) (hg:w1.heap[g]?=w.heap[g]?) (hm:∀k,okM k∧f k=p.toNat→k<w.heap.size→w1.heap[k]?=w.heap[k]?) :
    U w1 base g okM f p o:=by
  obtain⟨A2,c2,h0,h1,h2,h3⟩:=h
  exact⟨A2,c2,by rw[cell_of_heap hg];exact h0,by rw[cell_of_heap hg];exact h1,by rw[cell_of_heap hg];exact h2,Kd.R_step h3 hm⟩
theorem lt_of_cell {w:World} {g o:Nat} {v:Value} (h:w.cell? ⟨g,o,none⟩=some v):g<w.heap.size:=World.block_lt_of_cell? w ⟨g,o,none⟩ h
theorem U.lt {w:World} {base g:Nat} {okM:Nat→Prop} {f:Nat→Nat} {p:Int} {o:S38} (h:U w base g okM f p o):g<w.heap.size:=by
  obtain⟨A2,c2,h0,_⟩:=h;exact lt_of_cell h0
theorem U.below {w w1:World} {base g:Nat} {okM:Nat→Prop} {f:Nat→Nat} {p:Int} {o:S38} (h:U w base g okM f p o) (hb:Below w.heap.size w w1):U w1 base g okM f p o:=
  h.keep (hb.block g h.lt) (fun k _ hk=>hb.block k hk)
theorem U.set {w:World} {base g:Nat} {okM:Nat→Prop} {f:Nat→Nat} {p:Int} {o:S38} (h:U w base g okM f p o) {b:Nat} (h1:g≠b) (h2:∀k,okM k→f k=p.toNat→k≠b) (j:Nat) (u:Value):U (w.setCell ⟨b,j,none⟩ u) base g okM f p o:=
  h.keep (Below.heap_setCell w ⟨b,j,none⟩ u g h1) (fun k hk _=>Below.heap_setCell w ⟨b,j,none⟩ u k (h2 k hk.1 hk.2))
theorem U.grown {w w1:World} {base g:Nat} {okM:Nat→Prop} {f:Nat→Nat} {p:Int} {o:S38} (h:U w base g okM f p o) {row:Option Nat} (hg:w.grownBy w1 row) (h1:some g≠row) (h2:∀k,okM k→some k≠row):U w1 base g okM f p o:=
  h.keep (hg.block g h.lt h1) (fun k hk hl=>hg.block k hl (h2 k hk.1))
theorem S_open {w:World} {base g c n:Nat} {ok:Nat→Prop} {l:List S38} (h:Kd.S k38 35 w base ok (.slice (some ⟨g,0,none⟩) n c) l) :
    ∃f:Nat→Nat,∀p:Int,0≤p→p<l.length→U w base g (fun k=>ok k∧k≠g) f p (rd_T38 l p):=by
  obtain⟨f,hR⟩:=h
  refine⟨f,fun p h0 h1=>?_⟩
  have hn:=(Kd.R_reads' hR).1
  rw[List.length_zipIdx]at hn
  obtain⟨ce,hcl,hM,hcc,_⟩:=Kd.R_elem hR (z38,p.toNat) p h0 (by omega)
  have e:l.zipIdx.getD p.toNat (z38,p.toNat)=(rd_T38 l p,p.toNat):=by
    have h2:p.toNat<l.length:=by omega
    rw[List.getD_eq_getElem?_getD,List.getElem?_zipIdx,Nat.zero_add,List.getElem?_eq_getElem h2]
    simp[rd_T38,List.getD_eq_getElem?_getD,List.getElem?_eq_getElem h2]
  rw[e]at hM
  obtain⟨v2,rfl,hv⟩:=k38_openM (show k38.M w base (fun k=>(ok k∧k≠g)∧f k=p.toNat) (rd_T38 l p) ce from hM)
  obtain⟨A2,c2,rfl⟩:=Kd.R_slice hv
  exact⟨A2,c2,hcc 0 _ rfl,hcc 1 _ rfl,hcc 2 _ rfl,hv⟩
structure OwnM (w:World) (base:Nat) (A0:Option Addr) (c0:Nat) (A1:Option Addr) (c1:Nat) (A2:Option Addr) (c2:Nat) (A3:Option Addr) (c3:Nat) (E:Option Addr) (e:Nat) (h:Hp) (m:List Int):Prop where
  s0:Kd.S k38 35 w base (fun k=>some k≠(Value.slice A1 h.r.length c1).ownBlock∧some k≠(Value.slice E m.length e).ownBlock) (.slice A0 h.o.length c0) h.o
  s1:Kd.R (Kd.int .i64) 3 w base (fun k=>some k≠(Value.slice E m.length e).ownBlock) (.slice A1 h.r.length c1) h.r
  s2:Kd.R k60 71 w base (fun k=>some k≠(Value.slice A3 h.d.length c3).ownBlock) (.slice A2 h.w.length c2) h.w
  s3:Kd.R k60 71 w base (fun k=>some k≠(Value.slice A2 h.w.length c2).ownBlock) (.slice A3 h.d.length c3) h.d
  m:Kd.R (Kd.int .i64) 3 w base (fun _=>True) (.slice E m.length e) m
theorem OwnM.below {w w1:World} {base:Nat} {A0 A1 A2 A3 E:Option Addr} {c0 c1 c2 c3 e:Nat} {h:Hp} {m:List Int} (ho:OwnM w base A0 c0 A1 c1 A2 c2 A3 c3 E e h m) (hb:Below w.heap.size w w1):OwnM w1 base A0 c0 A1 c1 A2 c2 A3 c3 E e h m:=
  ⟨Kd.S_below ho.s0 hb,Kd.R_below ho.s1 hb,Kd.R_below ho.s2 hb,Kd.R_below ho.s3 hb,Kd.R_below ho.m hb⟩
theorem OwnM.own {w:World} {base:Nat} {A0 A1 A2 A3 E:Option Addr} {c0 c1 c2 c3 e:Nat} {h:Hp} {m:List Int} (ho:OwnM w base A0 c0 A1 c1 A2 c2 A3 c3 E e h m):OwnH w base A0 c0 A1 c1 A2 c2 A3 c3 h.o h.r h.w h.d:=
  ⟨Kd.S_mono ho.s0 (fun _ hk=>hk.1),Kd.R_mono ho.s1 (fun _ _=>trivial),ho.s2,ho.s3⟩
end Go.Proofs.YtigjhfijkdlldaaDoor.H
end
