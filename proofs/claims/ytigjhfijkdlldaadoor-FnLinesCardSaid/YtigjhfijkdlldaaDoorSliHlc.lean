import Derived.Test.YtigjhfijkdlldaaDoorSliYob
namespace Go.Proofs.YtigjhfijkdlldaaDoor.H
open Go.RowKit Go.Proofs.YtigjhfijkdlldaaDoorW.PrintWords Go.Proofs.YtigjhfijkdlldaaDoorW.PrintLast Go.Proofs.YtigjhfijkdlldaaDoorW.PrintMore Go.Proofs.YtigjhfijkdlldaaDoor.Q
set_option linter.unusedVariables false
set_option linter.unusedSimpArgs false
structure CL (w:World) (n bo:Nat) (XA:Array Value) (V:Value) (l:List S38) (R1 R2 R3:Option Addr) (e1 e2 e3:Nat) (l1:List Int) (l2 l3:List S60) (w':World):Prop where
 b:Below w.heap.size w w'
 x:w'.heap[w.heap.size]?=some (.cells XA 33 (0,0))
 z:w'.heap[w.heap.size+1]?=some (.cells #[.slice none 0 0,.slice none 0 0,.slice none 0 0,.slice none 0 0] 33 (0,0))
 o:w'.heap[bo]?=some (.cells #[V,.slice R1 l1.length e1,.slice R2 l2.length e2,.slice R3 l3.length e3] 33 (0,0))
 s:Kd.S k38 35 w' w.heap.size (fun k=>n≤k) V l
 r1:Kd.R (Kd.int .i64) 3 w' w.heap.size (fun k=>k<n) (.slice R1 l1.length e1) l1
 r2:Kd.R k60 71 w' w.heap.size (fun _=>True) (.slice R2 l2.length e2) l2
 r3:Kd.R k60 71 w' w.heap.size (fun _=>True) (.slice R3 l3.length e3) l3
 nb:w.heap.size+1<bo
theorem CL.below {w w1 w2:World} {n bo:Nat} {XA:Array Value} {V:Value} {l:List S38} {R1 R2 R3:Option Addr} {e1 e2 e3:Nat} {l1:List Int} {l2 l3:List S60} (h:CL w n bo XA V l R1 R2 R3 e1 e2 e3 l1 l2 l3 w1) (hb:Below w1.heap.size w1 w2):CL w n bo XA V l R1 R2 R3 e1 e2 e3 l1 l2 l3 w2:=
 ⟨bst h.b hb,bbl h.x hb,bbl h.z hb,bbl h.o hb,Kd.S_below h.s hb,Kd.R_below h.r1 hb,Kd.R_below h.r2 hb,Kd.R_below h.r3 hb,h.nb⟩
theorem CL.push {w w1 w2:World} {n bo:Nat} {XA:Array Value} {V V2:Value} {l l':List S38} {R1 R2 R3:Option Addr} {e1 e2 e3:Nat} {l1:List Int} {l2 l3:List S60} (h:CL w n bo XA V l R1 R2 R3 e1 e2 e3 l1 l2 l3 w1)
  (hs:Kd.S k38 35 w2 w.heap.size (fun k=>n≤k) V2 l') (hb:Below w.heap.size w w2) (hg:w1.grownBy w2 V.ownBlock):CL w n bo XA V2 l' R1 R2 R3 e1 e2 e3 l1 l2 l3 (w2.setCell ⟨bo,0,none⟩ V2):=by
 have hno:∀{k:Nat} {cs:Array Value} {t:TypeId},w1.heap[k]?=some (.cells cs t (0,0))→(35:Nat)≠t→some k≠V.ownBlock:=fun hk h3=>Kd.S_ne h.s hk h3
 have ho2:=blk_grown h.o hg (hno h.o (by decide))
 have ty:=Kd.S_typed h.s
 have hn:=h.nb
 exact⟨below_set hb (by omega),blk_far (blk_grown h.x hg (hno h.x (by decide))) (p:=⟨bo,0,none⟩) (show w.heap.size≠bo by omega) _,blk_far (blk_grown h.z hg (hno h.z (by decide))) (p:=⟨bo,0,none⟩) (show w.heap.size+1≠bo by omega) _,blk_put ho2 0 _ rfl,
  Kd.S_set hs ho2 (k38_ap 33 (by decide) (by decide)) 0 _,Kd.R_set (Kd.R_over' h.r1 ty (int_ap 35 (by decide)) hg) ho2 (int_ap 33 (by decide)) 0 _,Kd.R_set (Kd.R_over' h.r2 ty (k60_ap 35 (by decide)) hg) ho2 (k60_ap 33 (by decide)) 0 _,Kd.R_set (Kd.R_over' h.r3 ty (k60_ap 35 (by decide)) hg) ho2 (k60_ap 33 (by decide)) 0 _,hn⟩
theorem own_laid2 {w:World} {base:Nat} {A0 A1 A2 A3:Option Addr} {c0 c1 c2 c3:Nat} {l0:List S38} {l1:List Int} {l2 l3:List S60} {n:Nat} (h0:Kd.S k38 35 w base (fun k=>n≤k) (.slice A0 l0.length c0) l0)
  (h1:Kd.R (Kd.int .i64) 3 w base (fun k=>k<n) (.slice A1 l1.length c1) l1) (h2:Kd.R k60 71 w base (fun _=>True) (.slice A2 l2.length c2) l2) (h3:Kd.R k60 71 w base (fun _=>True) (.slice A3 l3.length c3) l3)
  (hne:NeRow (.slice A2 l2.length c2) (.slice A3 l3.length c3)):OwnH w base A0 c0 A1 c1 A2 c2 A3 c3 l0 l1 l2 l3:=
 ⟨Kd.S_mono h0 (fun k hk e=>by have:=h1.1 k e.symm;omega),Kd.R_mono h1 (fun _ _=>trivial),Kd.R_mono (Kd.R_tight rfl h2) (fun k hk e=>hne k hk.symm e.symm),Kd.R_mono (Kd.R_tight rfl h3) (fun k hk e=>hne k e.symm hk.symm)⟩
theorem below_grownU {w W w1:World} {u:Value} (h:Below w.heap.size w W) (hg:W.grownBy w1 u.ownBlock) (hu:∀j,u.ownBlock=some j→w.heap.size≤j):Below w.heap.size w w1:=
 pw_below_grown h u.ownBlock h.size hg (fun k hk=>hu k hk)
theorem fresh_after {u v:Value} {n m:Nat} (hu:∀j,u.ownBlock=some j→n≤j) (hm:n≤m) (hat:v.ownBlock=u.ownBlock∨∃b,v.ownBlock=some b∧m≤b):∀j,v.ownBlock=some j→n≤j:=by
 intro j hj
 rcases hat with e|⟨b,e,hb⟩
 ·rw[e]at hj;exact hu j hj
 ·rw[e]at hj;injection hj with hj;omega
theorem fresh_new {u:Value} {n m:Nat} (hm:n≤m) (hn:∃b,u.ownBlock=some b∧m≤b):∀j,u.ownBlock=some j→n≤j:=by
 intro j hj
 obtain⟨b,e,hb⟩:=hn
 rw[e]at hj;injection hj with hj;omega
theorem lcopy1_tab:rtab .any (opsOf Tryd.f21 1)=(true,[([],[]),([],[]),([1],[1]),([0,2],[0,2]),([],[]),([],[]),([5],[5]),([4,6,3],[4,6]),([],[]),([],[]),([9],[9]),([8,10,7],[8,10]),([3,7,11],[3,7,11]),([],[]),([13,12,11,0,1,2,3,4,5,6,7,8,9,10,11,12,13],[12,13])]):=by kernel_rfl
theorem lcopy1_bits:waitsOk [([],[]),([],[]),([1],[1]),([0,2],[0,2]),([],[]),([],[]),([5],[5]),([4,6,3],[4,6]),([],[]),([],[]),([9],[9]),([8,10,7],[8,10]),([3,7,11],[3,7,11]),([],[]),([13,12,11,0,1,2,3,4,5,6,7,8,9,10,11,12,13],[12,13])] [0,0,2,7,0,0,32,127,0,0,512,2047,4095,0,16383]=true:=by kernel_rfl
theorem lcopy5_tab:rtab .any (opsOf Tryd.f21 5)=(true,[([],[]),([0],[0]),([],[]),([2],[2]),([],[]),([3,4],[3,4]),([5],[5]),([6],[6]),([7],[7]),([1,8,7],[1,8]),([0,1,2,3,4,5,6,7,8,9],[]),([10,9,9,0,1,2,3,4,5,6,7,8,9],[9,10])]):=by kernel_rfl
theorem lcopy5_bits:waitsOk [([],[]),([0],[0]),([],[]),([2],[2]),([],[]),([3,4],[3,4]),([5],[5]),([6],[6]),([7],[7]),([1,8,7],[1,8]),([0,1,2,3,4,5,6,7,8,9],[]),([10,9,9,0,1,2,3,4,5,6,7,8,9],[9,10])] [0,1,0,4,0,28,60,124,252,511,1023,2047]=true:=by kernel_rfl
set_option maxHeartbeats 4000000 in
set_option maxRecDepth 100000 in
theorem l1Copy_calls (A0 A1 A2 A3:Option Addr) (c0 c1 c2 c3:Nat) (l0:List S38) (l1:List Int) (l2 l3:List S60) (w:World) (h:InH w A0 c0 A1 c1 A2 c2 A3 c3 l0 l1 l2 l3) (hl:Lim l0 l1 l2 l3) :
  Calls Tryd.prog 21 #[.agg #[.slice A0 l0.length c0,.slice A1 l1.length c1,.slice A2 l2.length c2,.slice A3 l3.length c3]] w fun e w'=>
   ∃B0 d0 B1 d1 B2 d2 B3 d3,e=.returned (.agg #[.slice B0 l0.length d0,.slice B1 l1.length d1,.slice B2 l2.length d2,.slice B3 l3.length d3]) ∧
    OwnH w' w.heap.size B0 d0 B1 d1 B2 d2 B3 d3 l0 l1 l2 l3∧Below w.heap.size w w':=by
 have HI0:=AK h
 have HL:=AK hl
 have HW1:=AK (show Below w.heap.size w ((w.alloc (.cells #[.slice A0 l0.length c0,.slice A1 l1.length c1,.slice A2 l2.length c2,.slice A3 l3.length c3] 33 (0,0))).alloc (.cells #[.slice none 0 0,.slice none 0 0,.slice none 0 0,.slice none 0 0] 33 (0,0)))∧((w.alloc (.cells #[.slice A0 l0.length c0,.slice A1 l1.length c1,.slice A2 l2.length c2,.slice A3 l3.length c3] 33 (0,0))).alloc (.cells #[.slice none 0 0,.slice none 0 0,.slice none 0 0,.slice none 0 0] 33 (0,0))).heap[w.heap.size]?=some (.cells #[.slice A0 l0.length c0,.slice A1 l1.length c1,.slice A2 l2.length c2,.slice A3 l3.length c3] 33 (0,0))∧((w.alloc (.cells #[.slice A0 l0.length c0,.slice A1 l1.length c1,.slice A2 l2.length c2,.slice A3 l3.length c3] 33 (0,0))).alloc (.cells #[.slice none 0 0,.slice none 0 0,.slice none 0 0,.slice none 0 0] 33 (0,0))).heap[w.heap.size+1]?=some (.cells #[.slice none 0 0,.slice none 0 0,.slice none 0 0,.slice none 0 0] 33 (0,0))from⟨below_alloc (below_alloc (Below.refl w.heap.size w) _) _,blk_alloc (blk_new w _) _,blk_new1 w _ _⟩)
 clear h hl
 go_enter Tryd.func21,Tryd.ntmps21
 go_wp2_with fail
 generalize ((w.alloc (.cells #[.slice A0 l0.length c0,.slice A1 l1.length c1,.slice A2 l2.length c2,.slice A3 l3.length c3] 33 (0,0))).alloc (.cells #[.slice none 0 0,.slice none 0 0,.slice none 0 0,.slice none 0 0] 33 (0,0)))=w1 at HW1 ⊢
 replace HW1:=AK (show Below w.heap.size w w1.drew∧w1.drew.heap[w.heap.size]?=some (.cells #[.slice A0 l0.length c0,.slice A1 l1.length c1,.slice A2 l2.length c2,.slice A3 l3.length c3] 33 (0,0))∧w1.drew.heap[w.heap.size+1]?=some (.cells #[.slice none 0 0,.slice none 0 0,.slice none 0 0,.slice none 0 0] 33 (0,0))from⟨below_drew HW1.out.1,blk_drew HW1.out.2.1,blk_drew HW1.out.2.2⟩)
 refine start_ (n:=15) (S:=(fun w'=>w'.cell? ⟨w.heap.size,1,none⟩=some (.slice A1 l1.length c1)∧w'.cell? ⟨w.heap.size,2,none⟩=some (.slice A2 l2.length c2)∧w'.cell? ⟨w.heap.size,3,none⟩=some (.slice A3 l3.length c3))) (ds:=[]) #[fF,fF,fF,fF,fF,fF,fF,fF,fF,fF,fF,fF,fF,fF,fF] (by kernel_rfl) rfl rfl ⟨(box4 HW1.out.2.1).2.1,(box4 HW1.out.2.1).2.2.1,(box4 HW1.out.2.1).2.2.2⟩ (fun hHeld=>?_);refine with_tabW lcopy1_tab lcopy1_bits (fun HT_ HW_=>?_)
 generalize w1.drew=w2 at HW1 hHeld ⊢
 refine pU HT_ 1 (some 6) (bM 15 2) ?_
 refine tU HT_ HW_ 2 (some 7) (bM 15 6) hHeld rfl (by refine Or.inl ⟨by rfl,?_⟩;rintro w' ⟨s_0,s_1,s_2⟩;go_simp;with_reducible rfl) ?_
 refine pU HT_ 5 (some 10) (bM 15 38) ?_
 refine tU HT_ HW_ 6 (some 11) (bM 15 102) hHeld rfl (by refine Or.inl ⟨by rfl,?_⟩;rintro w' ⟨s_0,s_1,s_2⟩;go_simp;with_reducible rfl) ?_
 refine pU HT_ 9 (some 14) (bM 15 614) ?_
 refine tU HT_ HW_ 10 (some 15) (bM 15 1638) hHeld rfl (by refine Or.inl ⟨by rfl,?_⟩;rintro w' ⟨s_0,s_1,s_2⟩;go_simp;with_reducible rfl) ?_
 refine join_ (σ:=Value × Option Addr × Nat × Value × Option Addr × Nat × Value × Option Addr × Nat × Nat) 1 #[tT,tT,tT,tT,tT,tT,tT,tT,tT,tT,tT,tT,tT,tT,fF] (fun s=>[(5,s.1),(8,(Value.slice s.2.1 l1.length s.2.2.1)),(9,s.2.2.2.1),(12,(Value.slice s.2.2.2.2.1 l2.length s.2.2.2.2.2.1)),(13,s.2.2.2.2.2.2.1),(16,(Value.slice s.2.2.2.2.2.2.2.1 l3.length s.2.2.2.2.2.2.2.2.1)),(3,(.pointer (some ⟨s.2.2.2.2.2.2.2.2.2,0,none⟩))),(17,(.agg #[.slice none 0 0,(Value.slice s.2.1 l1.length s.2.2.1),(Value.slice s.2.2.2.2.1 l2.length s.2.2.2.2.2.1),(Value.slice s.2.2.2.2.2.2.2.1 l3.length s.2.2.2.2.2.2.2.2.1)]))]) (fun s w'=>Below w2.heap.size w2 w'∧Kd.R (Kd.int .i64) 3 w' w.heap.size (fun _=>True) (Value.slice s.2.1 l1.length s.2.2.1) l1∧Kd.R k60 71 w' w.heap.size (fun _=>True) (Value.slice s.2.2.2.2.1 l2.length s.2.2.2.2.2.1) l2∧Kd.R k60 71 w' w.heap.size (fun _=>True) (Value.slice s.2.2.2.2.2.2.2.1 l3.length s.2.2.2.2.2.2.2.2.1) l3∧NeRow (Value.slice s.2.2.2.2.1 l2.length s.2.2.2.2.2.1) (Value.slice s.2.2.2.2.2.2.2.1 l3.length s.2.2.2.2.2.2.2.2.1)∧(w'.heap[s.2.2.2.2.2.2.2.2.2]?=some (.cells #[.slice none 0 0,.slice none 0 0,.slice none 0 0,.slice none 0 0] 33 (0,0))∧w2.heap.size≤s.2.2.2.2.2.2.2.2.2)∧(∀j,Value.ownBlock (Value.slice s.2.1 l1.length s.2.2.1)=some j→w2.heap.size≤j)∧(∀j,Value.ownBlock (Value.slice s.2.2.2.2.1 l2.length s.2.2.2.2.2.1)=some j→w2.heap.size≤j)∧(∀j,Value.ownBlock (Value.slice s.2.2.2.2.2.2.2.1 l3.length s.2.2.2.2.2.2.2.2.1)=some j→w2.heap.size≤j)) ?_ ?_
 rotate_left
 ·intro hC0
  clear hHeld
  refine join_ (σ:=Value × Option Addr × Nat × Value × Option Addr × Nat × Value × Nat) 3 #[tT,tT,tT,tT,tT,tT,tT,tT,tT,tT,tT,fF,fF,tT,fF] (fun s=>[(5,s.1),(8,(Value.slice s.2.1 l1.length s.2.2.1)),(9,s.2.2.2.1),(12,(Value.slice s.2.2.2.2.1 l2.length s.2.2.2.2.2.1)),(13,s.2.2.2.2.2.2.1),(3,(.pointer (some ⟨s.2.2.2.2.2.2.2,0,none⟩)))]) (fun s w'=>Below w2.heap.size w2 w'∧Kd.R (Kd.int .i64) 3 w' w.heap.size (fun _=>True) (Value.slice s.2.1 l1.length s.2.2.1) l1∧Kd.R k60 71 w' w.heap.size (fun _=>True) (Value.slice s.2.2.2.2.1 l2.length s.2.2.2.2.2.1) l2∧Kd.R k60 71 w' w.heap.size (fun _=>True) s.2.2.2.2.2.2.1 []∧NeRow (Value.slice s.2.2.2.2.1 l2.length s.2.2.2.2.2.1) s.2.2.2.2.2.2.1∧(w'.heap[s.2.2.2.2.2.2.2]?=some (.cells #[.slice none 0 0,.slice none 0 0,.slice none 0 0,.slice none 0 0] 33 (0,0))∧w2.heap.size≤s.2.2.2.2.2.2.2)∧(∀j,Value.ownBlock (Value.slice s.2.1 l1.length s.2.2.1)=some j→w2.heap.size≤j)∧(∀j,Value.ownBlock (Value.slice s.2.2.2.2.1 l2.length s.2.2.2.2.2.1)=some j→w2.heap.size≤j)∧(∀j,Value.ownBlock s.2.2.2.2.2.2.1=some j→w2.heap.size≤j)) ?_ ?_
  ·skip
   rintro⟨u1,R1,e1,u2,R2,e2,u3,b3⟩ x0 ⟨h_0,h_1,h_2,h_3,h_4,h_5,h_6,h_7,h_8⟩
   have HB:=AK (show Below w2.heap.size w2 x0 from h_0)
   have H1:=AK (show Kd.R (Kd.int .i64) 3 x0 w.heap.size (fun _=>True) (Value.slice R1 l1.length e1) l1 from h_1)
   have H2:=AK (show Kd.R k60 71 x0 w.heap.size (fun _=>True) (Value.slice R2 l2.length e2) l2 from h_2)
   have H3:=AK (show Kd.R k60 71 x0 w.heap.size (fun _=>True) u3 []from h_3)
   have HN:=AK (show NeRow (Value.slice R2 l2.length e2) u3 from h_4)
   have HZ:=AK (show (x0.heap[b3]?=some (.cells #[.slice none 0 0,.slice none 0 0,.slice none 0 0,.slice none 0 0] 33 (0,0))∧w2.heap.size≤b3)from h_5)
   have HK1:=AK (show (∀j,Value.ownBlock (Value.slice R1 l1.length e1)=some j→w2.heap.size≤j)from h_6)
   have HK2:=AK (show (∀j,Value.ownBlock (Value.slice R2 l2.length e2)=some j→w2.heap.size≤j)from h_7)
   have HK3:=AK (show (∀j,Value.ownBlock u3=some j→w2.heap.size≤j)from h_8)
   clear h_0 h_1 h_2 h_3 h_4 h_5 h_6 h_7 h_8
   refine norm_ (a':=?_) ?_ ?_
   rotate_left
   ·show (Act.put (Act.put (Act.put (Act.put (Act.put (Act.put _ (some 5) _) (some 8) _) (some 9) _) (some 12) _) (some 13) _) (some 3) _)=_
    exact zP
   refine one_ (i:=11) (N:=some 16) (bM 15 12287) rfl rfl (one_of HT_.out (by kernel_rfl)) (by decide) (fun K hK=>?_)
   refine app0_step k60 (w0:=w) (W:=x0) w.heap.size (by rfl) (.tmp 13) (.tmp 15) 31 71 (.agg #[.int .i64 0,.int .i64 0]) 16 rfl Tryd.underlying31 info60 rfl (by decide) (by omega) u3 l3 A3 c3 rfl rfl H3.out (HI0.out.below (bst HW1.out.1 HB.out)).r3 (fun _ _ h=>h) (bst HW1.out.1 HB.out) (bst HW1.out.1 HB.out).size (by have:=HL.out.d;omega) ?_
   intro v3 x1 hr hb hg hat
   obtain⟨R3,e3,e⟩:=Kd.R_slice hr
   subst e
   have N0:=AK (below_grownU HB.out hg HK3.out)
   have N1:=AK (Kd.R_over' H1.out (Kd.R_typed H3.out) (int_ap 71 (by decide)) hg)
   have N2:=AK (R_beside rfl H2.out hg HN.out)
   have NN:=AK (show NeRow (Value.slice R2 l2.length e2) (Value.slice R3 l3.length e3)from NeRow_after HN.out (Kd.R_lt H2.out) hat)
   have NZ:=AK (show _∧_ from⟨blk_grown HZ.out.1 hg (Kd.R_ne H3.out HZ.out.1 (by decide)),HZ.out.2⟩)
   have NK3:=AK (fresh_after HK3.out HB.out.size hat)
   clear H1;have H1:=N1;clear N1
   clear H2;have H2:=N2;clear N2
   clear HN;have HN:=NN;clear NN
   clear HZ;have HZ:=NZ;clear NZ
   clear HB H3;have HB:=N0;have H3:=AK hr;clear N0 hr hb hg hat;clear HK3;have HK3:=NK3;clear NK3
   refine hK.out _ _ ⟨pcb HB.out (box4 HW1.out.2.1).2.1,pcb HB.out (box4 HW1.out.2.1).2.2.1,pcb HB.out (box4 HW1.out.2.1).2.2.2⟩ (fun hHeld=>?_)
   clear hK K
   refine nO (some 16) ?_
   refine pU HT_ 12 (some 17) (bM 15 16383) ?_
   exact norm_ zJ (hC0 (u1,R1,e1,u2,R2,e2,u3,R3,e3,b3) _ ⟨HB.out,H1.out,H2.out,H3.out,HN.out,HZ.out,HK1.out,HK2.out,HK3.out⟩)
  intro hC1
  refine join_ (σ:=Value × Option Addr × Nat × Value × Option Addr × Nat × Value × Option Addr × Nat) 2 #[tT,tT,tT,tT,tT,tT,tT,tT,tT,tT,tT,tT,tT,fF,fF] (fun s=>[(5,s.1),(8,(Value.slice s.2.1 l1.length s.2.2.1)),(9,s.2.2.2.1),(12,(Value.slice s.2.2.2.2.1 l2.length s.2.2.2.2.2.1)),(13,s.2.2.2.2.2.2.1),(16,(Value.slice s.2.2.2.2.2.2.2.1 l3.length s.2.2.2.2.2.2.2.2)),(17,(.agg #[.slice none 0 0,(Value.slice s.2.1 l1.length s.2.2.1),(Value.slice s.2.2.2.2.1 l2.length s.2.2.2.2.2.1),(Value.slice s.2.2.2.2.2.2.2.1 l3.length s.2.2.2.2.2.2.2.2)]))]) (fun s w'=>Below w2.heap.size w2 w'∧Kd.R (Kd.int .i64) 3 w' w.heap.size (fun _=>True) (Value.slice s.2.1 l1.length s.2.2.1) l1∧Kd.R k60 71 w' w.heap.size (fun _=>True) (Value.slice s.2.2.2.2.1 l2.length s.2.2.2.2.2.1) l2∧Kd.R k60 71 w' w.heap.size (fun _=>True) (Value.slice s.2.2.2.2.2.2.2.1 l3.length s.2.2.2.2.2.2.2.2) l3∧NeRow (Value.slice s.2.2.2.2.1 l2.length s.2.2.2.2.2.1) (Value.slice s.2.2.2.2.2.2.2.1 l3.length s.2.2.2.2.2.2.2.2)∧(∀j,Value.ownBlock (Value.slice s.2.1 l1.length s.2.2.1)=some j→w2.heap.size≤j)∧(∀j,Value.ownBlock (Value.slice s.2.2.2.2.1 l2.length s.2.2.2.2.2.1)=some j→w2.heap.size≤j)∧(∀j,Value.ownBlock (Value.slice s.2.2.2.2.2.2.2.1 l3.length s.2.2.2.2.2.2.2.2)=some j→w2.heap.size≤j)) ?_ ?_
  ·skip
   rintro⟨u1,R1,e1,u2,R2,e2,u3,R3,e3⟩ x0 ⟨h_0,h_1,h_2,h_3,h_4,h_5,h_6,h_7⟩
   have HB:=AK (show Below w2.heap.size w2 x0 from h_0)
   have H1:=AK (show Kd.R (Kd.int .i64) 3 x0 w.heap.size (fun _=>True) (Value.slice R1 l1.length e1) l1 from h_1)
   have H2:=AK (show Kd.R k60 71 x0 w.heap.size (fun _=>True) (Value.slice R2 l2.length e2) l2 from h_2)
   have H3:=AK (show Kd.R k60 71 x0 w.heap.size (fun _=>True) (Value.slice R3 l3.length e3) l3 from h_3)
   have HN:=AK (show NeRow (Value.slice R2 l2.length e2) (Value.slice R3 l3.length e3)from h_4)
   have HK1:=AK (show (∀j,Value.ownBlock (Value.slice R1 l1.length e1)=some j→w2.heap.size≤j)from h_5)
   have HK2:=AK (show (∀j,Value.ownBlock (Value.slice R2 l2.length e2)=some j→w2.heap.size≤j)from h_6)
   have HK3:=AK (show (∀j,Value.ownBlock (Value.slice R3 l3.length e3)=some j→w2.heap.size≤j)from h_7)
   clear h_0 h_1 h_2 h_3 h_4 h_5 h_6 h_7
   refine norm_ (a':=?_) ?_ ?_
   rotate_left
   ·show (Act.put (Act.put (Act.put (Act.put (Act.put (Act.put (Act.put _ (some 5) _) (some 8) _) (some 9) _) (some 12) _) (some 13) _) (some 16) _) (some 17) _)=_
    exact zP
   refine one_ (i:=13) (N:=some 3) (bM 15 16383) rfl rfl (one_of HT_.out (by kernel_rfl)) (by decide) (fun K hK=>?_)
   refine box_step ?hg (N:=3) ?hd (cs:=#[.slice none 0 0,.slice none 0 0,.slice none 0 0,.slice none 0 0]) (t:=33) ?hr ?_;(case hd=>rfl);(case hg=>rfl);(case hr=>first|(go_simp;done)|(go_simp;rfl))
   intro b3 hg x1 hbox hb
   have HZ:=AK (show _∧_ from⟨hbox,show w2.heap.size≤b3 by rw[hg];exact HB.out.size⟩)
   clear hg hbox
   replace H1:=AK (Kd.R_below H1.out hb)
   replace H2:=AK (Kd.R_below H2.out hb)
   replace H3:=AK (Kd.R_below H3.out hb)
   replace HB:=AK (bst HB.out hb)
   clear hb
   refine hK.out _ _ ⟨pcb HB.out (box4 HW1.out.2.1).2.1,pcb HB.out (box4 HW1.out.2.1).2.2.1,pcb HB.out (box4 HW1.out.2.1).2.2.2⟩ (fun hHeld=>?_)
   clear hK K
   refine nO (some 3) ?_
   exact norm_ zJ (hC0 (u1,R1,e1,u2,R2,e2,u3,R3,e3,b3) _ ⟨HB.out,H1.out,H2.out,H3.out,HN.out,HZ.out,HK1.out,HK2.out,HK3.out⟩)
  intro hC2
  refine join_ (σ:=Value × Option Addr × Nat × Value × Value × Nat) 4 #[tT,tT,tT,tT,tT,tT,tT,fF,tT,tT,tT,fF,fF,tT,fF] (fun s=>[(5,s.1),(8,(Value.slice s.2.1 l1.length s.2.2.1)),(9,s.2.2.2.1),(13,s.2.2.2.2.1),(3,(.pointer (some ⟨s.2.2.2.2.2,0,none⟩)))]) (fun s w'=>Below w2.heap.size w2 w'∧Kd.R (Kd.int .i64) 3 w' w.heap.size (fun _=>True) (Value.slice s.2.1 l1.length s.2.2.1) l1∧Kd.R k60 71 w' w.heap.size (fun _=>True) s.2.2.2.1 []∧Kd.R k60 71 w' w.heap.size (fun _=>True) s.2.2.2.2.1 []∧NeRow s.2.2.2.1 s.2.2.2.2.1∧(w'.heap[s.2.2.2.2.2]?=some (.cells #[.slice none 0 0,.slice none 0 0,.slice none 0 0,.slice none 0 0] 33 (0,0))∧w2.heap.size≤s.2.2.2.2.2)∧(∀j,Value.ownBlock (Value.slice s.2.1 l1.length s.2.2.1)=some j→w2.heap.size≤j)∧(∀j,Value.ownBlock s.2.2.2.1=some j→w2.heap.size≤j)∧(∀j,Value.ownBlock s.2.2.2.2.1=some j→w2.heap.size≤j)) ?_ ?_
  ·skip
   rintro⟨u1,R1,e1,u2,u3,b3⟩ x0 ⟨h_0,h_1,h_2,h_3,h_4,h_5,h_6,h_7,h_8⟩
   have HB:=AK (show Below w2.heap.size w2 x0 from h_0)
   have H1:=AK (show Kd.R (Kd.int .i64) 3 x0 w.heap.size (fun _=>True) (Value.slice R1 l1.length e1) l1 from h_1)
   have H2:=AK (show Kd.R k60 71 x0 w.heap.size (fun _=>True) u2 []from h_2)
   have H3:=AK (show Kd.R k60 71 x0 w.heap.size (fun _=>True) u3 []from h_3)
   have HN:=AK (show NeRow u2 u3 from h_4)
   have HZ:=AK (show (x0.heap[b3]?=some (.cells #[.slice none 0 0,.slice none 0 0,.slice none 0 0,.slice none 0 0] 33 (0,0))∧w2.heap.size≤b3)from h_5)
   have HK1:=AK (show (∀j,Value.ownBlock (Value.slice R1 l1.length e1)=some j→w2.heap.size≤j)from h_6)
   have HK2:=AK (show (∀j,Value.ownBlock u2=some j→w2.heap.size≤j)from h_7)
   have HK3:=AK (show (∀j,Value.ownBlock u3=some j→w2.heap.size≤j)from h_8)
   clear h_0 h_1 h_2 h_3 h_4 h_5 h_6 h_7 h_8
   refine norm_ (a':=?_) ?_ ?_
   rotate_left
   ·show (Act.put (Act.put (Act.put (Act.put (Act.put _ (some 5) _) (some 8) _) (some 9) _) (some 13) _) (some 3) _)=_
    exact zP
   refine one_ (i:=7) (N:=some 12) (bM 15 10239) rfl rfl (one_of HT_.out (by kernel_rfl)) (by decide) (fun K hK=>?_)
   refine app0_step k60 (w0:=w) (W:=x0) w.heap.size (by rfl) (.tmp 9) (.tmp 11) 31 71 (.agg #[.int .i64 0,.int .i64 0]) 16 rfl Tryd.underlying31 info60 rfl (by decide) (by omega) u2 l2 A2 c2 rfl rfl H2.out (HI0.out.below (bst HW1.out.1 HB.out)).r2 (fun _ _ h=>h) (bst HW1.out.1 HB.out) (bst HW1.out.1 HB.out).size (by have:=HL.out.w;omega) ?_
   intro v2 x1 hr hb hg hat
   obtain⟨R2,e2,e⟩:=Kd.R_slice hr
   subst e
   have N0:=AK (below_grownU HB.out hg HK2.out)
   have N1:=AK (Kd.R_over' H1.out (Kd.R_typed H2.out) (int_ap 71 (by decide)) hg)
   have N3:=AK (R_beside rfl H3.out hg (ne_symm HN.out))
   have NN:=AK (show NeRow (Value.slice R2 l2.length e2) u3 from ne_symm (NeRow_after (ne_symm HN.out) (Kd.R_lt H3.out) hat))
   have NZ:=AK (show _∧_ from⟨blk_grown HZ.out.1 hg (Kd.R_ne H2.out HZ.out.1 (by decide)),HZ.out.2⟩)
   have NK2:=AK (fresh_after HK2.out HB.out.size hat)
   clear H1;have H1:=N1;clear N1
   clear H3;have H3:=N3;clear N3
   clear HN;have HN:=NN;clear NN
   clear HZ;have HZ:=NZ;clear NZ
   clear HB H2;have HB:=N0;have H2:=AK hr;clear N0 hr hb hg hat;clear HK2;have HK2:=NK2;clear NK2
   refine hK.out _ _ ⟨pcb HB.out (box4 HW1.out.2.1).2.1,pcb HB.out (box4 HW1.out.2.1).2.2.1,pcb HB.out (box4 HW1.out.2.1).2.2.2⟩ (fun hHeld=>?_)
   clear hK K
   refine nO (some 12) ?_
   exact norm_ zJ (hC1 (u1,R1,e1,u2,R2,e2,u3,b3) _ ⟨HB.out,H1.out,H2.out,H3.out,HN.out,HZ.out,HK1.out,HK2.out,HK3.out⟩)
  intro hC3
  refine join_ (σ:=Value × Option Addr × Nat × Value × Option Addr × Nat × Nat) 4 #[tT,tT,tT,tT,tT,tT,tT,tT,fF,tT,tT,fF,fF,tT,fF] (fun s=>[(5,s.1),(8,(Value.slice s.2.1 l1.length s.2.2.1)),(9,s.2.2.2.1),(12,(Value.slice s.2.2.2.2.1 l2.length s.2.2.2.2.2.1)),(3,(.pointer (some ⟨s.2.2.2.2.2.2,0,none⟩)))]) (fun s w'=>Below w2.heap.size w2 w'∧Kd.R (Kd.int .i64) 3 w' w.heap.size (fun _=>True) (Value.slice s.2.1 l1.length s.2.2.1) l1∧Kd.R k60 71 w' w.heap.size (fun _=>True) (Value.slice s.2.2.2.2.1 l2.length s.2.2.2.2.2.1) l2∧(w'.heap[s.2.2.2.2.2.2]?=some (.cells #[.slice none 0 0,.slice none 0 0,.slice none 0 0,.slice none 0 0] 33 (0,0))∧w2.heap.size≤s.2.2.2.2.2.2)∧(∀j,Value.ownBlock (Value.slice s.2.1 l1.length s.2.2.1)=some j→w2.heap.size≤j)∧(∀j,Value.ownBlock (Value.slice s.2.2.2.2.1 l2.length s.2.2.2.2.2.1)=some j→w2.heap.size≤j)) ?_ ?_
  ·skip
   rintro⟨u1,R1,e1,u2,R2,e2,b3⟩ x0 ⟨h_0,h_1,h_2,h_3,h_4,h_5⟩
   have HB:=AK (show Below w2.heap.size w2 x0 from h_0)
   have H1:=AK (show Kd.R (Kd.int .i64) 3 x0 w.heap.size (fun _=>True) (Value.slice R1 l1.length e1) l1 from h_1)
   have H2:=AK (show Kd.R k60 71 x0 w.heap.size (fun _=>True) (Value.slice R2 l2.length e2) l2 from h_2)
   have HZ:=AK (show (x0.heap[b3]?=some (.cells #[.slice none 0 0,.slice none 0 0,.slice none 0 0,.slice none 0 0] 33 (0,0))∧w2.heap.size≤b3)from h_3)
   have HK1:=AK (show (∀j,Value.ownBlock (Value.slice R1 l1.length e1)=some j→w2.heap.size≤j)from h_4)
   have HK2:=AK (show (∀j,Value.ownBlock (Value.slice R2 l2.length e2)=some j→w2.heap.size≤j)from h_5)
   clear h_0 h_1 h_2 h_3 h_4 h_5
   refine norm_ (a':=?_) ?_ ?_
   rotate_left
   ·show (Act.put (Act.put (Act.put (Act.put (Act.put _ (some 5) _) (some 8) _) (some 9) _) (some 12) _) (some 3) _)=_
    exact zP
   refine one_ (i:=8) (N:=some 13) (bM 15 10239) rfl rfl (one_of HT_.out (by kernel_rfl)) (by decide) (fun K hK=>?_)
   refine lit0_step k60 (W:=x0) w.heap.size 71 (by rfl) (N:=13) rfl ?hr (bst HW1.out.1 HB.out).size ?_;(case hr=>first|(go_simp;done)|(go_simp;rfl))
   intro u3 x1 hr hb hn
   have HN:=AK (show NeRow (Value.slice R2 l2.length e2) u3 from NeRow_new (Kd.R_lt H2.out) hn)
   have HK3:=AK (fresh_new HB.out.size hn)
   replace H1:=AK (Kd.R_below H1.out hb)
   replace H2:=AK (Kd.R_below H2.out hb)
   replace HZ:=AK (show _∧_ from⟨bbl HZ.out.1 hb,HZ.out.2⟩)
   replace HB:=AK (bst HB.out hb)
   have H3:=AK hr
   clear hr hb hn
   refine hK.out _ _ ⟨pcb HB.out (box4 HW1.out.2.1).2.1,pcb HB.out (box4 HW1.out.2.1).2.2.1,pcb HB.out (box4 HW1.out.2.1).2.2.2⟩ (fun hHeld=>?_)
   clear hK K
   refine nO (some 13) ?_
   exact norm_ zJ (hC1 (u1,R1,e1,u2,R2,e2,u3,b3) _ ⟨HB.out,H1.out,H2.out,H3.out,HN.out,HZ.out,HK1.out,HK2.out,HK3.out⟩)
  intro hC4
  refine join_ (σ:=Value × Option Addr × Nat × Value × Option Addr × Nat × Value) 4 #[tT,tT,tT,tT,tT,tT,tT,tT,tT,tT,tT,fF,fF,fF,fF] (fun s=>[(5,s.1),(8,(Value.slice s.2.1 l1.length s.2.2.1)),(9,s.2.2.2.1),(12,(Value.slice s.2.2.2.2.1 l2.length s.2.2.2.2.2.1)),(13,s.2.2.2.2.2.2)]) (fun s w'=>Below w2.heap.size w2 w'∧Kd.R (Kd.int .i64) 3 w' w.heap.size (fun _=>True) (Value.slice s.2.1 l1.length s.2.2.1) l1∧Kd.R k60 71 w' w.heap.size (fun _=>True) (Value.slice s.2.2.2.2.1 l2.length s.2.2.2.2.2.1) l2∧Kd.R k60 71 w' w.heap.size (fun _=>True) s.2.2.2.2.2.2 []∧NeRow (Value.slice s.2.2.2.2.1 l2.length s.2.2.2.2.2.1) s.2.2.2.2.2.2∧(∀j,Value.ownBlock (Value.slice s.2.1 l1.length s.2.2.1)=some j→w2.heap.size≤j)∧(∀j,Value.ownBlock (Value.slice s.2.2.2.2.1 l2.length s.2.2.2.2.2.1)=some j→w2.heap.size≤j)∧(∀j,Value.ownBlock s.2.2.2.2.2.2=some j→w2.heap.size≤j)) ?_ ?_
  ·skip
   rintro⟨u1,R1,e1,u2,R2,e2,u3⟩ x0 ⟨h_0,h_1,h_2,h_3,h_4,h_5,h_6,h_7⟩
   have HB:=AK (show Below w2.heap.size w2 x0 from h_0)
   have H1:=AK (show Kd.R (Kd.int .i64) 3 x0 w.heap.size (fun _=>True) (Value.slice R1 l1.length e1) l1 from h_1)
   have H2:=AK (show Kd.R k60 71 x0 w.heap.size (fun _=>True) (Value.slice R2 l2.length e2) l2 from h_2)
   have H3:=AK (show Kd.R k60 71 x0 w.heap.size (fun _=>True) u3 []from h_3)
   have HN:=AK (show NeRow (Value.slice R2 l2.length e2) u3 from h_4)
   have HK1:=AK (show (∀j,Value.ownBlock (Value.slice R1 l1.length e1)=some j→w2.heap.size≤j)from h_5)
   have HK2:=AK (show (∀j,Value.ownBlock (Value.slice R2 l2.length e2)=some j→w2.heap.size≤j)from h_6)
   have HK3:=AK (show (∀j,Value.ownBlock u3=some j→w2.heap.size≤j)from h_7)
   clear h_0 h_1 h_2 h_3 h_4 h_5 h_6 h_7
   refine norm_ (a':=?_) ?_ ?_
   rotate_left
   ·show (Act.put (Act.put (Act.put (Act.put (Act.put _ (some 5) _) (some 8) _) (some 9) _) (some 12) _) (some 13) _)=_
    exact zP
   refine two_ (i:=11) (j:=13) (Ni:=some 16) (Nj:=some 3) (bM 15 4095) (bM 15 10239) rfl rfl rfl rfl (two_of HT_.out (by kernel_rfl)) (by decide) (by decide) (fun K hK=>?_) (fun K hK=>?_)
   ·skip
    refine app0_step k60 (w0:=w) (W:=x0) w.heap.size (by rfl) (.tmp 13) (.tmp 15) 31 71 (.agg #[.int .i64 0,.int .i64 0]) 16 rfl Tryd.underlying31 info60 rfl (by decide) (by omega) u3 l3 A3 c3 rfl rfl H3.out (HI0.out.below (bst HW1.out.1 HB.out)).r3 (fun _ _ h=>h) (bst HW1.out.1 HB.out) (bst HW1.out.1 HB.out).size (by have:=HL.out.d;omega) ?_
    intro v3 x1 hr hb hg hat
    obtain⟨R3,e3,e⟩:=Kd.R_slice hr
    subst e
    have N0:=AK (below_grownU HB.out hg HK3.out)
    have N1:=AK (Kd.R_over' H1.out (Kd.R_typed H3.out) (int_ap 71 (by decide)) hg)
    have N2:=AK (R_beside rfl H2.out hg HN.out)
    have NN:=AK (show NeRow (Value.slice R2 l2.length e2) (Value.slice R3 l3.length e3)from NeRow_after HN.out (Kd.R_lt H2.out) hat)
    have NK3:=AK (fresh_after HK3.out HB.out.size hat)
    clear H1;have H1:=N1;clear N1
    clear H2;have H2:=N2;clear N2
    clear HN;have HN:=NN;clear NN
    clear HB H3;have HB:=N0;have H3:=AK hr;clear N0 hr hb hg hat;clear HK3;have HK3:=NK3;clear NK3
    refine hK.out _ _ ⟨pcb HB.out (box4 HW1.out.2.1).2.1,pcb HB.out (box4 HW1.out.2.1).2.2.1,pcb HB.out (box4 HW1.out.2.1).2.2.2⟩ (fun hHeld=>?_)
    clear hK K
    refine nO (some 16) ?_
    refine pU HT_ 12 (some 17) (bM 15 8191) ?_
    exact norm_ zJ (hC2 (u1,R1,e1,u2,R2,e2,u3,R3,e3) _ ⟨HB.out,H1.out,H2.out,H3.out,HN.out,HK1.out,HK2.out,HK3.out⟩)
   ·skip
    refine box_step ?hg (N:=3) ?hd (cs:=#[.slice none 0 0,.slice none 0 0,.slice none 0 0,.slice none 0 0]) (t:=33) ?hr ?_;(case hd=>rfl);(case hg=>rfl);(case hr=>first|(go_simp;done)|(go_simp;rfl))
    intro b3 hg x1 hbox hb
    have HZ:=AK (show _∧_ from⟨hbox,show w2.heap.size≤b3 by rw[hg];exact HB.out.size⟩)
    clear hg hbox
    replace H1:=AK (Kd.R_below H1.out hb)
    replace H2:=AK (Kd.R_below H2.out hb)
    replace H3:=AK (Kd.R_below H3.out hb)
    replace HB:=AK (bst HB.out hb)
    clear hb
    refine hK.out _ _ ⟨pcb HB.out (box4 HW1.out.2.1).2.1,pcb HB.out (box4 HW1.out.2.1).2.2.1,pcb HB.out (box4 HW1.out.2.1).2.2.2⟩ (fun hHeld=>?_)
    clear hK K
    refine nO (some 3) ?_
    exact norm_ zJ (hC1 (u1,R1,e1,u2,R2,e2,u3,b3) _ ⟨HB.out,H1.out,H2.out,H3.out,HN.out,HZ.out,HK1.out,HK2.out,HK3.out⟩)
  intro hC5
  refine join_ (σ:=Value × Option Addr × Nat × Value × Nat) 5 #[tT,tT,tT,tT,fF,tT,tT,fF,tT,tT,tT,fF,fF,tT,fF] (fun s=>[(5,s.1),(8,(Value.slice s.2.1 l1.length s.2.2.1)),(13,s.2.2.2.1),(3,(.pointer (some ⟨s.2.2.2.2,0,none⟩)))]) (fun s w'=>Below w2.heap.size w2 w'∧Kd.R (Kd.int .i64) 3 w' w.heap.size (fun _=>True) (Value.slice s.2.1 l1.length s.2.2.1) l1∧Kd.R k60 71 w' w.heap.size (fun _=>True) s.2.2.2.1 []∧(w'.heap[s.2.2.2.2]?=some (.cells #[.slice none 0 0,.slice none 0 0,.slice none 0 0,.slice none 0 0] 33 (0,0))∧w2.heap.size≤s.2.2.2.2)∧(∀j,Value.ownBlock (Value.slice s.2.1 l1.length s.2.2.1)=some j→w2.heap.size≤j)∧(∀j,Value.ownBlock s.2.2.2.1=some j→w2.heap.size≤j)) ?_ ?_
  ·skip
   rintro⟨u1,R1,e1,u3,b3⟩ x0 ⟨h_0,h_1,h_2,h_3,h_4,h_5⟩
   have HB:=AK (show Below w2.heap.size w2 x0 from h_0)
   have H1:=AK (show Kd.R (Kd.int .i64) 3 x0 w.heap.size (fun _=>True) (Value.slice R1 l1.length e1) l1 from h_1)
   have H3:=AK (show Kd.R k60 71 x0 w.heap.size (fun _=>True) u3 []from h_2)
   have HZ:=AK (show (x0.heap[b3]?=some (.cells #[.slice none 0 0,.slice none 0 0,.slice none 0 0,.slice none 0 0] 33 (0,0))∧w2.heap.size≤b3)from h_3)
   have HK1:=AK (show (∀j,Value.ownBlock (Value.slice R1 l1.length e1)=some j→w2.heap.size≤j)from h_4)
   have HK3:=AK (show (∀j,Value.ownBlock u3=some j→w2.heap.size≤j)from h_5)
   clear h_0 h_1 h_2 h_3 h_4 h_5
   refine norm_ (a':=?_) ?_ ?_
   rotate_left
   ·show (Act.put (Act.put (Act.put (Act.put _ (some 5) _) (some 8) _) (some 13) _) (some 3) _)=_
    exact zP
   refine one_ (i:=4) (N:=some 9) (bM 15 10111) rfl rfl (one_of HT_.out (by kernel_rfl)) (by decide) (fun K hK=>?_)
   refine lit0_step k60 (W:=x0) w.heap.size 71 (by rfl) (N:=9) rfl ?hr (bst HW1.out.1 HB.out).size ?_;(case hr=>first|(go_simp;done)|(go_simp;rfl))
   intro u2 x1 hr hb hn
   have HN:=AK (show NeRow u2 u3 from ne_symm (NeRow_new (Kd.R_lt H3.out) hn))
   have HK2:=AK (fresh_new HB.out.size hn)
   replace H1:=AK (Kd.R_below H1.out hb)
   replace H3:=AK (Kd.R_below H3.out hb)
   replace HZ:=AK (show _∧_ from⟨bbl HZ.out.1 hb,HZ.out.2⟩)
   replace HB:=AK (bst HB.out hb)
   have H2:=AK hr
   clear hr hb hn
   refine hK.out _ _ ⟨pcb HB.out (box4 HW1.out.2.1).2.1,pcb HB.out (box4 HW1.out.2.1).2.2.1,pcb HB.out (box4 HW1.out.2.1).2.2.2⟩ (fun hHeld=>?_)
   clear hK K
   refine nO (some 9) ?_
   exact norm_ zJ (hC3 (u1,R1,e1,u2,u3,b3) _ ⟨HB.out,H1.out,H2.out,H3.out,HN.out,HZ.out,HK1.out,HK2.out,HK3.out⟩)
  intro hC6
  refine join_ (σ:=Value × Option Addr × Nat × Value × Option Addr × Nat) 5 #[tT,tT,tT,tT,tT,tT,tT,tT,fF,tT,tT,fF,fF,fF,fF] (fun s=>[(5,s.1),(8,(Value.slice s.2.1 l1.length s.2.2.1)),(9,s.2.2.2.1),(12,(Value.slice s.2.2.2.2.1 l2.length s.2.2.2.2.2))]) (fun s w'=>Below w2.heap.size w2 w'∧Kd.R (Kd.int .i64) 3 w' w.heap.size (fun _=>True) (Value.slice s.2.1 l1.length s.2.2.1) l1∧Kd.R k60 71 w' w.heap.size (fun _=>True) (Value.slice s.2.2.2.2.1 l2.length s.2.2.2.2.2) l2∧(∀j,Value.ownBlock (Value.slice s.2.1 l1.length s.2.2.1)=some j→w2.heap.size≤j)∧(∀j,Value.ownBlock (Value.slice s.2.2.2.2.1 l2.length s.2.2.2.2.2)=some j→w2.heap.size≤j)) ?_ ?_
  ·skip
   rintro⟨u1,R1,e1,u2,R2,e2⟩ x0 ⟨h_0,h_1,h_2,h_3,h_4⟩
   have HB:=AK (show Below w2.heap.size w2 x0 from h_0)
   have H1:=AK (show Kd.R (Kd.int .i64) 3 x0 w.heap.size (fun _=>True) (Value.slice R1 l1.length e1) l1 from h_1)
   have H2:=AK (show Kd.R k60 71 x0 w.heap.size (fun _=>True) (Value.slice R2 l2.length e2) l2 from h_2)
   have HK1:=AK (show (∀j,Value.ownBlock (Value.slice R1 l1.length e1)=some j→w2.heap.size≤j)from h_3)
   have HK2:=AK (show (∀j,Value.ownBlock (Value.slice R2 l2.length e2)=some j→w2.heap.size≤j)from h_4)
   clear h_0 h_1 h_2 h_3 h_4
   refine norm_ (a':=?_) ?_ ?_
   rotate_left
   ·show (Act.put (Act.put (Act.put (Act.put _ (some 5) _) (some 8) _) (some 9) _) (some 12) _)=_
    exact zP
   refine two_ (i:=8) (j:=13) (Ni:=some 13) (Nj:=some 3) (bM 15 2047) (bM 15 9983) rfl rfl rfl rfl (two_of HT_.out (by kernel_rfl)) (by decide) (by decide) (fun K hK=>?_) (fun K hK=>?_)
   ·skip
    refine lit0_step k60 (W:=x0) w.heap.size 71 (by rfl) (N:=13) rfl ?hr (bst HW1.out.1 HB.out).size ?_;(case hr=>first|(go_simp;done)|(go_simp;rfl))
    intro u3 x1 hr hb hn
    have HN:=AK (show NeRow (Value.slice R2 l2.length e2) u3 from NeRow_new (Kd.R_lt H2.out) hn)
    have HK3:=AK (fresh_new HB.out.size hn)
    replace H1:=AK (Kd.R_below H1.out hb)
    replace H2:=AK (Kd.R_below H2.out hb)
    replace HB:=AK (bst HB.out hb)
    have H3:=AK hr
    clear hr hb hn
    refine hK.out _ _ ⟨pcb HB.out (box4 HW1.out.2.1).2.1,pcb HB.out (box4 HW1.out.2.1).2.2.1,pcb HB.out (box4 HW1.out.2.1).2.2.2⟩ (fun hHeld=>?_)
    clear hK K
    refine nO (some 13) ?_
    exact norm_ zJ (hC5 (u1,R1,e1,u2,R2,e2,u3) _ ⟨HB.out,H1.out,H2.out,H3.out,HN.out,HK1.out,HK2.out,HK3.out⟩)
   ·skip
    refine box_step ?hg (N:=3) ?hd (cs:=#[.slice none 0 0,.slice none 0 0,.slice none 0 0,.slice none 0 0]) (t:=33) ?hr ?_;(case hd=>rfl);(case hg=>rfl);(case hr=>first|(go_simp;done)|(go_simp;rfl))
    intro b3 hg x1 hbox hb
    have HZ:=AK (show _∧_ from⟨hbox,show w2.heap.size≤b3 by rw[hg];exact HB.out.size⟩)
    clear hg hbox
    replace H1:=AK (Kd.R_below H1.out hb)
    replace H2:=AK (Kd.R_below H2.out hb)
    replace HB:=AK (bst HB.out hb)
    clear hb
    refine hK.out _ _ ⟨pcb HB.out (box4 HW1.out.2.1).2.1,pcb HB.out (box4 HW1.out.2.1).2.2.1,pcb HB.out (box4 HW1.out.2.1).2.2.2⟩ (fun hHeld=>?_)
    clear hK K
    refine nO (some 3) ?_
    exact norm_ zJ (hC4 (u1,R1,e1,u2,R2,e2,b3) _ ⟨HB.out,H1.out,H2.out,HZ.out,HK1.out,HK2.out⟩)
  intro hC7
  refine join_ (σ:=Value × Option Addr × Nat × Value × Nat) 5 #[tT,tT,tT,tT,tT,tT,tT,fF,fF,tT,tT,fF,fF,tT,fF] (fun s=>[(5,s.1),(8,(Value.slice s.2.1 l1.length s.2.2.1)),(9,s.2.2.2.1),(3,(.pointer (some ⟨s.2.2.2.2,0,none⟩)))]) (fun s w'=>Below w2.heap.size w2 w'∧Kd.R (Kd.int .i64) 3 w' w.heap.size (fun _=>True) (Value.slice s.2.1 l1.length s.2.2.1) l1∧Kd.R k60 71 w' w.heap.size (fun _=>True) s.2.2.2.1 []∧(w'.heap[s.2.2.2.2]?=some (.cells #[.slice none 0 0,.slice none 0 0,.slice none 0 0,.slice none 0 0] 33 (0,0))∧w2.heap.size≤s.2.2.2.2)∧(∀j,Value.ownBlock (Value.slice s.2.1 l1.length s.2.2.1)=some j→w2.heap.size≤j)∧(∀j,Value.ownBlock s.2.2.2.1=some j→w2.heap.size≤j)) ?_ ?_
  ·skip
   rintro⟨u1,R1,e1,u2,b3⟩ x0 ⟨h_0,h_1,h_2,h_3,h_4,h_5⟩
   have HB:=AK (show Below w2.heap.size w2 x0 from h_0)
   have H1:=AK (show Kd.R (Kd.int .i64) 3 x0 w.heap.size (fun _=>True) (Value.slice R1 l1.length e1) l1 from h_1)
   have H2:=AK (show Kd.R k60 71 x0 w.heap.size (fun _=>True) u2 []from h_2)
   have HZ:=AK (show (x0.heap[b3]?=some (.cells #[.slice none 0 0,.slice none 0 0,.slice none 0 0,.slice none 0 0] 33 (0,0))∧w2.heap.size≤b3)from h_3)
   have HK1:=AK (show (∀j,Value.ownBlock (Value.slice R1 l1.length e1)=some j→w2.heap.size≤j)from h_4)
   have HK2:=AK (show (∀j,Value.ownBlock u2=some j→w2.heap.size≤j)from h_5)
   clear h_0 h_1 h_2 h_3 h_4 h_5
   refine norm_ (a':=?_) ?_ ?_
   rotate_left
   ·show (Act.put (Act.put (Act.put (Act.put _ (some 5) _) (some 8) _) (some 9) _) (some 3) _)=_
    exact zP
   refine two_ (i:=7) (j:=8) (Ni:=some 12) (Nj:=some 13) (bM 15 9983) (bM 15 10111) rfl rfl rfl rfl (two_of HT_.out (by kernel_rfl)) (by decide) (by decide) (fun K hK=>?_) (fun K hK=>?_)
   ·skip
    refine app0_step k60 (w0:=w) (W:=x0) w.heap.size (by rfl) (.tmp 9) (.tmp 11) 31 71 (.agg #[.int .i64 0,.int .i64 0]) 16 rfl Tryd.underlying31 info60 rfl (by decide) (by omega) u2 l2 A2 c2 rfl rfl H2.out (HI0.out.below (bst HW1.out.1 HB.out)).r2 (fun _ _ h=>h) (bst HW1.out.1 HB.out) (bst HW1.out.1 HB.out).size (by have:=HL.out.w;omega) ?_
    intro v2 x1 hr hb hg hat
    obtain⟨R2,e2,e⟩:=Kd.R_slice hr
    subst e
    have N0:=AK (below_grownU HB.out hg HK2.out)
    have N1:=AK (Kd.R_over' H1.out (Kd.R_typed H2.out) (int_ap 71 (by decide)) hg)
    have NZ:=AK (show _∧_ from⟨blk_grown HZ.out.1 hg (Kd.R_ne H2.out HZ.out.1 (by decide)),HZ.out.2⟩)
    have NK2:=AK (fresh_after HK2.out HB.out.size hat)
    clear H1;have H1:=N1;clear N1
    clear HZ;have HZ:=NZ;clear NZ
    clear HB H2;have HB:=N0;have H2:=AK hr;clear N0 hr hb hg hat;clear HK2;have HK2:=NK2;clear NK2
    refine hK.out _ _ ⟨pcb HB.out (box4 HW1.out.2.1).2.1,pcb HB.out (box4 HW1.out.2.1).2.2.1,pcb HB.out (box4 HW1.out.2.1).2.2.2⟩ (fun hHeld=>?_)
    clear hK K
    refine nO (some 12) ?_
    exact norm_ zJ (hC4 (u1,R1,e1,u2,R2,e2,b3) _ ⟨HB.out,H1.out,H2.out,HZ.out,HK1.out,HK2.out⟩)
   ·skip
    refine lit0_step k60 (W:=x0) w.heap.size 71 (by rfl) (N:=13) rfl ?hr (bst HW1.out.1 HB.out).size ?_;(case hr=>first|(go_simp;done)|(go_simp;rfl))
    intro u3 x1 hr hb hn
    have HN:=AK (show NeRow u2 u3 from NeRow_new (Kd.R_lt H2.out) hn)
    have HK3:=AK (fresh_new HB.out.size hn)
    replace H1:=AK (Kd.R_below H1.out hb)
    replace H2:=AK (Kd.R_below H2.out hb)
    replace HZ:=AK (show _∧_ from⟨bbl HZ.out.1 hb,HZ.out.2⟩)
    replace HB:=AK (bst HB.out hb)
    have H3:=AK hr
    clear hr hb hn
    refine hK.out _ _ ⟨pcb HB.out (box4 HW1.out.2.1).2.1,pcb HB.out (box4 HW1.out.2.1).2.2.1,pcb HB.out (box4 HW1.out.2.1).2.2.2⟩ (fun hHeld=>?_)
    clear hK K
    refine nO (some 13) ?_
    exact norm_ zJ (hC3 (u1,R1,e1,u2,u3,b3) _ ⟨HB.out,H1.out,H2.out,H3.out,HN.out,HZ.out,HK1.out,HK2.out,HK3.out⟩)
  intro hC8
  refine join_ (σ:=Value × Value × Value × Nat) 5 #[tT,tT,tT,fF,tT,tT,tT,fF,tT,tT,tT,fF,fF,tT,fF] (fun s=>[(5,s.1),(9,s.2.1),(13,s.2.2.1),(3,(.pointer (some ⟨s.2.2.2,0,none⟩)))]) (fun s w'=>Below w2.heap.size w2 w'∧Kd.R (Kd.int .i64) 3 w' w.heap.size (fun _=>True) s.1 []∧Kd.R k60 71 w' w.heap.size (fun _=>True) s.2.1 []∧Kd.R k60 71 w' w.heap.size (fun _=>True) s.2.2.1 []∧NeRow s.2.1 s.2.2.1∧(w'.heap[s.2.2.2]?=some (.cells #[.slice none 0 0,.slice none 0 0,.slice none 0 0,.slice none 0 0] 33 (0,0))∧w2.heap.size≤s.2.2.2)∧(∀j,Value.ownBlock s.1=some j→w2.heap.size≤j)∧(∀j,Value.ownBlock s.2.1=some j→w2.heap.size≤j)∧(∀j,Value.ownBlock s.2.2.1=some j→w2.heap.size≤j)) ?_ ?_
  ·skip
   rintro⟨u1,u2,u3,b3⟩ x0 ⟨h_0,h_1,h_2,h_3,h_4,h_5,h_6,h_7,h_8⟩
   have HB:=AK (show Below w2.heap.size w2 x0 from h_0)
   have H1:=AK (show Kd.R (Kd.int .i64) 3 x0 w.heap.size (fun _=>True) u1 []from h_1)
   have H2:=AK (show Kd.R k60 71 x0 w.heap.size (fun _=>True) u2 []from h_2)
   have H3:=AK (show Kd.R k60 71 x0 w.heap.size (fun _=>True) u3 []from h_3)
   have HN:=AK (show NeRow u2 u3 from h_4)
   have HZ:=AK (show (x0.heap[b3]?=some (.cells #[.slice none 0 0,.slice none 0 0,.slice none 0 0,.slice none 0 0] 33 (0,0))∧w2.heap.size≤b3)from h_5)
   have HK1:=AK (show (∀j,Value.ownBlock u1=some j→w2.heap.size≤j)from h_6)
   have HK2:=AK (show (∀j,Value.ownBlock u2=some j→w2.heap.size≤j)from h_7)
   have HK3:=AK (show (∀j,Value.ownBlock u3=some j→w2.heap.size≤j)from h_8)
   clear h_0 h_1 h_2 h_3 h_4 h_5 h_6 h_7 h_8
   refine norm_ (a':=?_) ?_ ?_
   rotate_left
   ·show (Act.put (Act.put (Act.put (Act.put _ (some 5) _) (some 9) _) (some 13) _) (some 3) _)=_
    exact zP
   refine one_ (i:=3) (N:=some 8) (bM 15 10111) rfl rfl (one_of HT_.out (by kernel_rfl)) (by decide) (fun K hK=>?_)
   refine app0_step (Kd.int .i64) (w0:=w) (W:=x0) w.heap.size (by rfl) (.tmp 5) (.tmp 7) 29 3 (.int .i64 0) 8 rfl Tryd.underlying29 info3 rfl (by decide) (by omega) u1 l1 A1 c1 rfl rfl H1.out (HI0.out.below (bst HW1.out.1 HB.out)).r1 (fun _ _ h=>h) (bst HW1.out.1 HB.out) (bst HW1.out.1 HB.out).size (by have:=HL.out.r;omega) ?_
   intro v1 x1 hr hb hg hat
   obtain⟨R1,e1,e⟩:=Kd.R_slice hr
   subst e
   have N0:=AK (below_grownU HB.out hg HK1.out)
   have N2:=AK (Kd.R_over' H2.out (Kd.R_typed H1.out) (k60_ap 3 (by decide)) hg)
   have N3:=AK (Kd.R_over' H3.out (Kd.R_typed H1.out) (k60_ap 3 (by decide)) hg)
   have NZ:=AK (show _∧_ from⟨blk_grown HZ.out.1 hg (Kd.R_ne H1.out HZ.out.1 (by decide)),HZ.out.2⟩)
   have NK1:=AK (fresh_after HK1.out HB.out.size hat)
   clear H2;have H2:=N2;clear N2
   clear H3;have H3:=N3;clear N3
   clear HZ;have HZ:=NZ;clear NZ
   clear HB H1;have HB:=N0;have H1:=AK hr;clear N0 hr hb hg hat;clear HK1;have HK1:=NK1;clear NK1
   refine hK.out _ _ ⟨pcb HB.out (box4 HW1.out.2.1).2.1,pcb HB.out (box4 HW1.out.2.1).2.2.1,pcb HB.out (box4 HW1.out.2.1).2.2.2⟩ (fun hHeld=>?_)
   clear hK K
   refine nO (some 8) ?_
   exact norm_ zJ (hC3 (u1,R1,e1,u2,u3,b3) _ ⟨HB.out,H1.out,H2.out,H3.out,HN.out,HZ.out,HK1.out,HK2.out,HK3.out⟩)
  intro hC9
  refine join_ (σ:=Value × Option Addr × Nat × Value × Value) 5 #[tT,tT,tT,tT,tT,tT,tT,fF,tT,tT,tT,fF,fF,fF,fF] (fun s=>[(5,s.1),(8,(Value.slice s.2.1 l1.length s.2.2.1)),(9,s.2.2.2.1),(13,s.2.2.2.2)]) (fun s w'=>Below w2.heap.size w2 w'∧Kd.R (Kd.int .i64) 3 w' w.heap.size (fun _=>True) (Value.slice s.2.1 l1.length s.2.2.1) l1∧Kd.R k60 71 w' w.heap.size (fun _=>True) s.2.2.2.1 []∧Kd.R k60 71 w' w.heap.size (fun _=>True) s.2.2.2.2 []∧NeRow s.2.2.2.1 s.2.2.2.2∧(∀j,Value.ownBlock (Value.slice s.2.1 l1.length s.2.2.1)=some j→w2.heap.size≤j)∧(∀j,Value.ownBlock s.2.2.2.1=some j→w2.heap.size≤j)∧(∀j,Value.ownBlock s.2.2.2.2=some j→w2.heap.size≤j)) ?_ ?_
  ·skip
   rintro⟨u1,R1,e1,u2,u3⟩ x0 ⟨h_0,h_1,h_2,h_3,h_4,h_5,h_6,h_7⟩
   have HB:=AK (show Below w2.heap.size w2 x0 from h_0)
   have H1:=AK (show Kd.R (Kd.int .i64) 3 x0 w.heap.size (fun _=>True) (Value.slice R1 l1.length e1) l1 from h_1)
   have H2:=AK (show Kd.R k60 71 x0 w.heap.size (fun _=>True) u2 []from h_2)
   have H3:=AK (show Kd.R k60 71 x0 w.heap.size (fun _=>True) u3 []from h_3)
   have HN:=AK (show NeRow u2 u3 from h_4)
   have HK1:=AK (show (∀j,Value.ownBlock (Value.slice R1 l1.length e1)=some j→w2.heap.size≤j)from h_5)
   have HK2:=AK (show (∀j,Value.ownBlock u2=some j→w2.heap.size≤j)from h_6)
   have HK3:=AK (show (∀j,Value.ownBlock u3=some j→w2.heap.size≤j)from h_7)
   clear h_0 h_1 h_2 h_3 h_4 h_5 h_6 h_7
   refine norm_ (a':=?_) ?_ ?_
   rotate_left
   ·show (Act.put (Act.put (Act.put (Act.put _ (some 5) _) (some 8) _) (some 9) _) (some 13) _)=_
    exact zP
   refine two_ (i:=7) (j:=13) (Ni:=some 12) (Nj:=some 3) (bM 15 2047) (bM 15 10111) rfl rfl rfl rfl (two_of HT_.out (by kernel_rfl)) (by decide) (by decide) (fun K hK=>?_) (fun K hK=>?_)
   ·skip
    refine app0_step k60 (w0:=w) (W:=x0) w.heap.size (by rfl) (.tmp 9) (.tmp 11) 31 71 (.agg #[.int .i64 0,.int .i64 0]) 16 rfl Tryd.underlying31 info60 rfl (by decide) (by omega) u2 l2 A2 c2 rfl rfl H2.out (HI0.out.below (bst HW1.out.1 HB.out)).r2 (fun _ _ h=>h) (bst HW1.out.1 HB.out) (bst HW1.out.1 HB.out).size (by have:=HL.out.w;omega) ?_
    intro v2 x1 hr hb hg hat
    obtain⟨R2,e2,e⟩:=Kd.R_slice hr
    subst e
    have N0:=AK (below_grownU HB.out hg HK2.out)
    have N1:=AK (Kd.R_over' H1.out (Kd.R_typed H2.out) (int_ap 71 (by decide)) hg)
    have N3:=AK (R_beside rfl H3.out hg (ne_symm HN.out))
    have NN:=AK (show NeRow (Value.slice R2 l2.length e2) u3 from ne_symm (NeRow_after (ne_symm HN.out) (Kd.R_lt H3.out) hat))
    have NK2:=AK (fresh_after HK2.out HB.out.size hat)
    clear H1;have H1:=N1;clear N1
    clear H3;have H3:=N3;clear N3
    clear HN;have HN:=NN;clear NN
    clear HB H2;have HB:=N0;have H2:=AK hr;clear N0 hr hb hg hat;clear HK2;have HK2:=NK2;clear NK2
    refine hK.out _ _ ⟨pcb HB.out (box4 HW1.out.2.1).2.1,pcb HB.out (box4 HW1.out.2.1).2.2.1,pcb HB.out (box4 HW1.out.2.1).2.2.2⟩ (fun hHeld=>?_)
    clear hK K
    refine nO (some 12) ?_
    exact norm_ zJ (hC5 (u1,R1,e1,u2,R2,e2,u3) _ ⟨HB.out,H1.out,H2.out,H3.out,HN.out,HK1.out,HK2.out,HK3.out⟩)
   ·skip
    refine box_step ?hg (N:=3) ?hd (cs:=#[.slice none 0 0,.slice none 0 0,.slice none 0 0,.slice none 0 0]) (t:=33) ?hr ?_;(case hd=>rfl);(case hg=>rfl);(case hr=>first|(go_simp;done)|(go_simp;rfl))
    intro b3 hg x1 hbox hb
    have HZ:=AK (show _∧_ from⟨hbox,show w2.heap.size≤b3 by rw[hg];exact HB.out.size⟩)
    clear hg hbox
    replace H1:=AK (Kd.R_below H1.out hb)
    replace H2:=AK (Kd.R_below H2.out hb)
    replace H3:=AK (Kd.R_below H3.out hb)
    replace HB:=AK (bst HB.out hb)
    clear hb
    refine hK.out _ _ ⟨pcb HB.out (box4 HW1.out.2.1).2.1,pcb HB.out (box4 HW1.out.2.1).2.2.1,pcb HB.out (box4 HW1.out.2.1).2.2.2⟩ (fun hHeld=>?_)
    clear hK K
    refine nO (some 3) ?_
    exact norm_ zJ (hC3 (u1,R1,e1,u2,u3,b3) _ ⟨HB.out,H1.out,H2.out,H3.out,HN.out,HZ.out,HK1.out,HK2.out,HK3.out⟩)
  intro hC10
  refine join_ (σ:=Value × Value × Nat) 6 #[tT,tT,tT,fF,tT,tT,tT,fF,fF,tT,tT,fF,fF,tT,fF] (fun s=>[(5,s.1),(9,s.2.1),(3,(.pointer (some ⟨s.2.2,0,none⟩)))]) (fun s w'=>Below w2.heap.size w2 w'∧Kd.R (Kd.int .i64) 3 w' w.heap.size (fun _=>True) s.1 []∧Kd.R k60 71 w' w.heap.size (fun _=>True) s.2.1 []∧(w'.heap[s.2.2]?=some (.cells #[.slice none 0 0,.slice none 0 0,.slice none 0 0,.slice none 0 0] 33 (0,0))∧w2.heap.size≤s.2.2)∧(∀j,Value.ownBlock s.1=some j→w2.heap.size≤j)∧(∀j,Value.ownBlock s.2.1=some j→w2.heap.size≤j)) ?_ ?_
  ·skip
   rintro⟨u1,u2,b3⟩ x0 ⟨h_0,h_1,h_2,h_3,h_4,h_5⟩
   have HB:=AK (show Below w2.heap.size w2 x0 from h_0)
   have H1:=AK (show Kd.R (Kd.int .i64) 3 x0 w.heap.size (fun _=>True) u1 []from h_1)
   have H2:=AK (show Kd.R k60 71 x0 w.heap.size (fun _=>True) u2 []from h_2)
   have HZ:=AK (show (x0.heap[b3]?=some (.cells #[.slice none 0 0,.slice none 0 0,.slice none 0 0,.slice none 0 0] 33 (0,0))∧w2.heap.size≤b3)from h_3)
   have HK1:=AK (show (∀j,Value.ownBlock u1=some j→w2.heap.size≤j)from h_4)
   have HK2:=AK (show (∀j,Value.ownBlock u2=some j→w2.heap.size≤j)from h_5)
   clear h_0 h_1 h_2 h_3 h_4 h_5
   refine norm_ (a':=?_) ?_ ?_
   rotate_left
   ·show (Act.put (Act.put (Act.put _ (some 5) _) (some 9) _) (some 3) _)=_
    exact zP
   refine two_ (i:=3) (j:=8) (Ni:=some 8) (Nj:=some 13) (bM 15 9855) (bM 15 10103) rfl rfl rfl rfl (two_of HT_.out (by kernel_rfl)) (by decide) (by decide) (fun K hK=>?_) (fun K hK=>?_)
   ·skip
    refine app0_step (Kd.int .i64) (w0:=w) (W:=x0) w.heap.size (by rfl) (.tmp 5) (.tmp 7) 29 3 (.int .i64 0) 8 rfl Tryd.underlying29 info3 rfl (by decide) (by omega) u1 l1 A1 c1 rfl rfl H1.out (HI0.out.below (bst HW1.out.1 HB.out)).r1 (fun _ _ h=>h) (bst HW1.out.1 HB.out) (bst HW1.out.1 HB.out).size (by have:=HL.out.r;omega) ?_
    intro v1 x1 hr hb hg hat
    obtain⟨R1,e1,e⟩:=Kd.R_slice hr
    subst e
    have N0:=AK (below_grownU HB.out hg HK1.out)
    have N2:=AK (Kd.R_over' H2.out (Kd.R_typed H1.out) (k60_ap 3 (by decide)) hg)
    have NZ:=AK (show _∧_ from⟨blk_grown HZ.out.1 hg (Kd.R_ne H1.out HZ.out.1 (by decide)),HZ.out.2⟩)
    have NK1:=AK (fresh_after HK1.out HB.out.size hat)
    clear H2;have H2:=N2;clear N2
    clear HZ;have HZ:=NZ;clear NZ
    clear HB H1;have HB:=N0;have H1:=AK hr;clear N0 hr hb hg hat;clear HK1;have HK1:=NK1;clear NK1
    refine hK.out _ _ ⟨pcb HB.out (box4 HW1.out.2.1).2.1,pcb HB.out (box4 HW1.out.2.1).2.2.1,pcb HB.out (box4 HW1.out.2.1).2.2.2⟩ (fun hHeld=>?_)
    clear hK K
    refine nO (some 8) ?_
    exact norm_ zJ (hC8 (u1,R1,e1,u2,b3) _ ⟨HB.out,H1.out,H2.out,HZ.out,HK1.out,HK2.out⟩)
   ·skip
    refine lit0_step k60 (W:=x0) w.heap.size 71 (by rfl) (N:=13) rfl ?hr (bst HW1.out.1 HB.out).size ?_;(case hr=>first|(go_simp;done)|(go_simp;rfl))
    intro u3 x1 hr hb hn
    have HN:=AK (show NeRow u2 u3 from NeRow_new (Kd.R_lt H2.out) hn)
    have HK3:=AK (fresh_new HB.out.size hn)
    replace H1:=AK (Kd.R_below H1.out hb)
    replace H2:=AK (Kd.R_below H2.out hb)
    replace HZ:=AK (show _∧_ from⟨bbl HZ.out.1 hb,HZ.out.2⟩)
    replace HB:=AK (bst HB.out hb)
    have H3:=AK hr
    clear hr hb hn
    refine hK.out _ _ ⟨pcb HB.out (box4 HW1.out.2.1).2.1,pcb HB.out (box4 HW1.out.2.1).2.2.1,pcb HB.out (box4 HW1.out.2.1).2.2.2⟩ (fun hHeld=>?_)
    clear hK K
    refine nO (some 13) ?_
    exact norm_ zJ (hC9 (u1,u2,u3,b3) _ ⟨HB.out,H1.out,H2.out,H3.out,HN.out,HZ.out,HK1.out,HK2.out,HK3.out⟩)
  intro hC11
  refine join_ (σ:=Value × Value × Nat) 6 #[tT,tT,tT,fF,fF,tT,tT,fF,tT,tT,tT,fF,fF,tT,fF] (fun s=>[(5,s.1),(13,s.2.1),(3,(.pointer (some ⟨s.2.2,0,none⟩)))]) (fun s w'=>Below w2.heap.size w2 w'∧Kd.R (Kd.int .i64) 3 w' w.heap.size (fun _=>True) s.1 []∧Kd.R k60 71 w' w.heap.size (fun _=>True) s.2.1 []∧(w'.heap[s.2.2]?=some (.cells #[.slice none 0 0,.slice none 0 0,.slice none 0 0,.slice none 0 0] 33 (0,0))∧w2.heap.size≤s.2.2)∧(∀j,Value.ownBlock s.1=some j→w2.heap.size≤j)∧(∀j,Value.ownBlock s.2.1=some j→w2.heap.size≤j)) ?_ ?_
  ·skip
   rintro⟨u1,u3,b3⟩ x0 ⟨h_0,h_1,h_2,h_3,h_4,h_5⟩
   have HB:=AK (show Below w2.heap.size w2 x0 from h_0)
   have H1:=AK (show Kd.R (Kd.int .i64) 3 x0 w.heap.size (fun _=>True) u1 []from h_1)
   have H3:=AK (show Kd.R k60 71 x0 w.heap.size (fun _=>True) u3 []from h_2)
   have HZ:=AK (show (x0.heap[b3]?=some (.cells #[.slice none 0 0,.slice none 0 0,.slice none 0 0,.slice none 0 0] 33 (0,0))∧w2.heap.size≤b3)from h_3)
   have HK1:=AK (show (∀j,Value.ownBlock u1=some j→w2.heap.size≤j)from h_4)
   have HK3:=AK (show (∀j,Value.ownBlock u3=some j→w2.heap.size≤j)from h_5)
   clear h_0 h_1 h_2 h_3 h_4 h_5
   refine norm_ (a':=?_) ?_ ?_
   rotate_left
   ·show (Act.put (Act.put (Act.put _ (some 5) _) (some 13) _) (some 3) _)=_
    exact zP
   refine two_ (i:=3) (j:=4) (Ni:=some 8) (Nj:=some 9) (bM 15 10095) (bM 15 10103) rfl rfl rfl rfl (two_of HT_.out (by kernel_rfl)) (by decide) (by decide) (fun K hK=>?_) (fun K hK=>?_)
   ·skip
    refine app0_step (Kd.int .i64) (w0:=w) (W:=x0) w.heap.size (by rfl) (.tmp 5) (.tmp 7) 29 3 (.int .i64 0) 8 rfl Tryd.underlying29 info3 rfl (by decide) (by omega) u1 l1 A1 c1 rfl rfl H1.out (HI0.out.below (bst HW1.out.1 HB.out)).r1 (fun _ _ h=>h) (bst HW1.out.1 HB.out) (bst HW1.out.1 HB.out).size (by have:=HL.out.r;omega) ?_
    intro v1 x1 hr hb hg hat
    obtain⟨R1,e1,e⟩:=Kd.R_slice hr
    subst e
    have N0:=AK (below_grownU HB.out hg HK1.out)
    have N3:=AK (Kd.R_over' H3.out (Kd.R_typed H1.out) (k60_ap 3 (by decide)) hg)
    have NZ:=AK (show _∧_ from⟨blk_grown HZ.out.1 hg (Kd.R_ne H1.out HZ.out.1 (by decide)),HZ.out.2⟩)
    have NK1:=AK (fresh_after HK1.out HB.out.size hat)
    clear H3;have H3:=N3;clear N3
    clear HZ;have HZ:=NZ;clear NZ
    clear HB H1;have HB:=N0;have H1:=AK hr;clear N0 hr hb hg hat;clear HK1;have HK1:=NK1;clear NK1
    refine hK.out _ _ ⟨pcb HB.out (box4 HW1.out.2.1).2.1,pcb HB.out (box4 HW1.out.2.1).2.2.1,pcb HB.out (box4 HW1.out.2.1).2.2.2⟩ (fun hHeld=>?_)
    clear hK K
    refine nO (some 8) ?_
    exact norm_ zJ (hC6 (u1,R1,e1,u3,b3) _ ⟨HB.out,H1.out,H3.out,HZ.out,HK1.out,HK3.out⟩)
   ·skip
    refine lit0_step k60 (W:=x0) w.heap.size 71 (by rfl) (N:=9) rfl ?hr (bst HW1.out.1 HB.out).size ?_;(case hr=>first|(go_simp;done)|(go_simp;rfl))
    intro u2 x1 hr hb hn
    have HN:=AK (show NeRow u2 u3 from ne_symm (NeRow_new (Kd.R_lt H3.out) hn))
    have HK2:=AK (fresh_new HB.out.size hn)
    replace H1:=AK (Kd.R_below H1.out hb)
    replace H3:=AK (Kd.R_below H3.out hb)
    replace HZ:=AK (show _∧_ from⟨bbl HZ.out.1 hb,HZ.out.2⟩)
    replace HB:=AK (bst HB.out hb)
    have H2:=AK hr
    clear hr hb hn
    refine hK.out _ _ ⟨pcb HB.out (box4 HW1.out.2.1).2.1,pcb HB.out (box4 HW1.out.2.1).2.2.1,pcb HB.out (box4 HW1.out.2.1).2.2.2⟩ (fun hHeld=>?_)
    clear hK K
    refine nO (some 9) ?_
    exact norm_ zJ (hC9 (u1,u2,u3,b3) _ ⟨HB.out,H1.out,H2.out,H3.out,HN.out,HZ.out,HK1.out,HK2.out,HK3.out⟩)
  intro hC12
  refine join_ (σ:=Value × Option Addr × Nat × Value) 6 #[tT,tT,tT,tT,tT,tT,tT,fF,fF,tT,tT,fF,fF,fF,fF] (fun s=>[(5,s.1),(8,(Value.slice s.2.1 l1.length s.2.2.1)),(9,s.2.2.2)]) (fun s w'=>Below w2.heap.size w2 w'∧Kd.R (Kd.int .i64) 3 w' w.heap.size (fun _=>True) (Value.slice s.2.1 l1.length s.2.2.1) l1∧Kd.R k60 71 w' w.heap.size (fun _=>True) s.2.2.2 []∧(∀j,Value.ownBlock (Value.slice s.2.1 l1.length s.2.2.1)=some j→w2.heap.size≤j)∧(∀j,Value.ownBlock s.2.2.2=some j→w2.heap.size≤j)) ?_ ?_
  ·skip
   rintro⟨u1,R1,e1,u2⟩ x0 ⟨h_0,h_1,h_2,h_3,h_4⟩
   have HB:=AK (show Below w2.heap.size w2 x0 from h_0)
   have H1:=AK (show Kd.R (Kd.int .i64) 3 x0 w.heap.size (fun _=>True) (Value.slice R1 l1.length e1) l1 from h_1)
   have H2:=AK (show Kd.R k60 71 x0 w.heap.size (fun _=>True) u2 []from h_2)
   have HK1:=AK (show (∀j,Value.ownBlock (Value.slice R1 l1.length e1)=some j→w2.heap.size≤j)from h_3)
   have HK2:=AK (show (∀j,Value.ownBlock u2=some j→w2.heap.size≤j)from h_4)
   clear h_0 h_1 h_2 h_3 h_4
   refine norm_ (a':=?_) ?_ ?_
   rotate_left
   ·show (Act.put (Act.put (Act.put _ (some 5) _) (some 8) _) (some 9) _)=_
    exact zP
   refine three_ (i:=7) (j:=8) (k:=13) (Ni:=some 12) (Nj:=some 13) (Nk:=some 3) (bM 15 1791) (bM 15 1919) (bM 15 9855) rfl rfl rfl rfl rfl rfl (three_of HT_.out (by kernel_rfl)) (by decide) (by decide) (by decide) (fun K hK=>?_) (fun K hK=>?_) (fun K hK=>?_)
   ·skip
    refine app0_step k60 (w0:=w) (W:=x0) w.heap.size (by rfl) (.tmp 9) (.tmp 11) 31 71 (.agg #[.int .i64 0,.int .i64 0]) 16 rfl Tryd.underlying31 info60 rfl (by decide) (by omega) u2 l2 A2 c2 rfl rfl H2.out (HI0.out.below (bst HW1.out.1 HB.out)).r2 (fun _ _ h=>h) (bst HW1.out.1 HB.out) (bst HW1.out.1 HB.out).size (by have:=HL.out.w;omega) ?_
    intro v2 x1 hr hb hg hat
    obtain⟨R2,e2,e⟩:=Kd.R_slice hr
    subst e
    have N0:=AK (below_grownU HB.out hg HK2.out)
    have N1:=AK (Kd.R_over' H1.out (Kd.R_typed H2.out) (int_ap 71 (by decide)) hg)
    have NK2:=AK (fresh_after HK2.out HB.out.size hat)
    clear H1;have H1:=N1;clear N1
    clear HB H2;have HB:=N0;have H2:=AK hr;clear N0 hr hb hg hat;clear HK2;have HK2:=NK2;clear NK2
    refine hK.out _ _ ⟨pcb HB.out (box4 HW1.out.2.1).2.1,pcb HB.out (box4 HW1.out.2.1).2.2.1,pcb HB.out (box4 HW1.out.2.1).2.2.2⟩ (fun hHeld=>?_)
    clear hK K
    refine nO (some 12) ?_
    exact norm_ zJ (hC7 (u1,R1,e1,u2,R2,e2) _ ⟨HB.out,H1.out,H2.out,HK1.out,HK2.out⟩)
   ·skip
    refine lit0_step k60 (W:=x0) w.heap.size 71 (by rfl) (N:=13) rfl ?hr (bst HW1.out.1 HB.out).size ?_;(case hr=>first|(go_simp;done)|(go_simp;rfl))
    intro u3 x1 hr hb hn
    have HN:=AK (show NeRow u2 u3 from NeRow_new (Kd.R_lt H2.out) hn)
    have HK3:=AK (fresh_new HB.out.size hn)
    replace H1:=AK (Kd.R_below H1.out hb)
    replace H2:=AK (Kd.R_below H2.out hb)
    replace HB:=AK (bst HB.out hb)
    have H3:=AK hr
    clear hr hb hn
    refine hK.out _ _ ⟨pcb HB.out (box4 HW1.out.2.1).2.1,pcb HB.out (box4 HW1.out.2.1).2.2.1,pcb HB.out (box4 HW1.out.2.1).2.2.2⟩ (fun hHeld=>?_)
    clear hK K
    refine nO (some 13) ?_
    exact norm_ zJ (hC10 (u1,R1,e1,u2,u3) _ ⟨HB.out,H1.out,H2.out,H3.out,HN.out,HK1.out,HK2.out,HK3.out⟩)
   ·skip
    refine box_step ?hg (N:=3) ?hd (cs:=#[.slice none 0 0,.slice none 0 0,.slice none 0 0,.slice none 0 0]) (t:=33) ?hr ?_;(case hd=>rfl);(case hg=>rfl);(case hr=>first|(go_simp;done)|(go_simp;rfl))
    intro b3 hg x1 hbox hb
    have HZ:=AK (show _∧_ from⟨hbox,show w2.heap.size≤b3 by rw[hg];exact HB.out.size⟩)
    clear hg hbox
    replace H1:=AK (Kd.R_below H1.out hb)
    replace H2:=AK (Kd.R_below H2.out hb)
    replace HB:=AK (bst HB.out hb)
    clear hb
    refine hK.out _ _ ⟨pcb HB.out (box4 HW1.out.2.1).2.1,pcb HB.out (box4 HW1.out.2.1).2.2.1,pcb HB.out (box4 HW1.out.2.1).2.2.2⟩ (fun hHeld=>?_)
    clear hK K
    refine nO (some 3) ?_
    exact norm_ zJ (hC8 (u1,R1,e1,u2,b3) _ ⟨HB.out,H1.out,H2.out,HZ.out,HK1.out,HK2.out⟩)
  intro hC13
  refine join_ (σ:=Value × Option Addr × Nat × Nat) 6 #[tT,tT,tT,tT,fF,tT,tT,fF,fF,tT,tT,fF,fF,tT,fF] (fun s=>[(5,s.1),(8,(Value.slice s.2.1 l1.length s.2.2.1)),(3,(.pointer (some ⟨s.2.2.2,0,none⟩)))]) (fun s w'=>Below w2.heap.size w2 w'∧Kd.R (Kd.int .i64) 3 w' w.heap.size (fun _=>True) (Value.slice s.2.1 l1.length s.2.2.1) l1∧(w'.heap[s.2.2.2]?=some (.cells #[.slice none 0 0,.slice none 0 0,.slice none 0 0,.slice none 0 0] 33 (0,0))∧w2.heap.size≤s.2.2.2)∧(∀j,Value.ownBlock (Value.slice s.2.1 l1.length s.2.2.1)=some j→w2.heap.size≤j)) ?_ ?_
  ·skip
   rintro⟨u1,R1,e1,b3⟩ x0 ⟨h_0,h_1,h_2,h_3⟩
   have HB:=AK (show Below w2.heap.size w2 x0 from h_0)
   have H1:=AK (show Kd.R (Kd.int .i64) 3 x0 w.heap.size (fun _=>True) (Value.slice R1 l1.length e1) l1 from h_1)
   have HZ:=AK (show (x0.heap[b3]?=some (.cells #[.slice none 0 0,.slice none 0 0,.slice none 0 0,.slice none 0 0] 33 (0,0))∧w2.heap.size≤b3)from h_2)
   have HK1:=AK (show (∀j,Value.ownBlock (Value.slice R1 l1.length e1)=some j→w2.heap.size≤j)from h_3)
   clear h_0 h_1 h_2 h_3
   refine norm_ (a':=?_) ?_ ?_
   rotate_left
   ·show (Act.put (Act.put (Act.put _ (some 5) _) (some 8) _) (some 3) _)=_
    exact zP
   refine two_ (i:=4) (j:=8) (Ni:=some 9) (Nj:=some 13) (bM 15 9855) (bM 15 10095) rfl rfl rfl rfl (two_of HT_.out (by kernel_rfl)) (by decide) (by decide) (fun K hK=>?_) (fun K hK=>?_)
   ·skip
    refine lit0_step k60 (W:=x0) w.heap.size 71 (by rfl) (N:=9) rfl ?hr (bst HW1.out.1 HB.out).size ?_;(case hr=>first|(go_simp;done)|(go_simp;rfl))
    intro u2 x1 hr hb hn
    have HK2:=AK (fresh_new HB.out.size hn)
    replace H1:=AK (Kd.R_below H1.out hb)
    replace HZ:=AK (show _∧_ from⟨bbl HZ.out.1 hb,HZ.out.2⟩)
    replace HB:=AK (bst HB.out hb)
    have H2:=AK hr
    clear hr hb hn
    refine hK.out _ _ ⟨pcb HB.out (box4 HW1.out.2.1).2.1,pcb HB.out (box4 HW1.out.2.1).2.2.1,pcb HB.out (box4 HW1.out.2.1).2.2.2⟩ (fun hHeld=>?_)
    clear hK K
    refine nO (some 9) ?_
    exact norm_ zJ (hC8 (u1,R1,e1,u2,b3) _ ⟨HB.out,H1.out,H2.out,HZ.out,HK1.out,HK2.out⟩)
   ·skip
    refine lit0_step k60 (W:=x0) w.heap.size 71 (by rfl) (N:=13) rfl ?hr (bst HW1.out.1 HB.out).size ?_;(case hr=>first|(go_simp;done)|(go_simp;rfl))
    intro u3 x1 hr hb hn
    have HK3:=AK (fresh_new HB.out.size hn)
    replace H1:=AK (Kd.R_below H1.out hb)
    replace HZ:=AK (show _∧_ from⟨bbl HZ.out.1 hb,HZ.out.2⟩)
    replace HB:=AK (bst HB.out hb)
    have H3:=AK hr
    clear hr hb hn
    refine hK.out _ _ ⟨pcb HB.out (box4 HW1.out.2.1).2.1,pcb HB.out (box4 HW1.out.2.1).2.2.1,pcb HB.out (box4 HW1.out.2.1).2.2.2⟩ (fun hHeld=>?_)
    clear hK K
    refine nO (some 13) ?_
    exact norm_ zJ (hC6 (u1,R1,e1,u3,b3) _ ⟨HB.out,H1.out,H3.out,HZ.out,HK1.out,HK3.out⟩)
  intro hC14
  refine join_ (σ:=Value × Value × Value) 6 #[tT,tT,tT,fF,tT,tT,tT,fF,tT,tT,tT,fF,fF,fF,fF] (fun s=>[(5,s.1),(9,s.2.1),(13,s.2.2)]) (fun s w'=>Below w2.heap.size w2 w'∧Kd.R (Kd.int .i64) 3 w' w.heap.size (fun _=>True) s.1 []∧Kd.R k60 71 w' w.heap.size (fun _=>True) s.2.1 []∧Kd.R k60 71 w' w.heap.size (fun _=>True) s.2.2 []∧NeRow s.2.1 s.2.2∧(∀j,Value.ownBlock s.1=some j→w2.heap.size≤j)∧(∀j,Value.ownBlock s.2.1=some j→w2.heap.size≤j)∧(∀j,Value.ownBlock s.2.2=some j→w2.heap.size≤j)) ?_ ?_
  ·skip
   rintro⟨u1,u2,u3⟩ x0 ⟨h_0,h_1,h_2,h_3,h_4,h_5,h_6,h_7⟩
   have HB:=AK (show Below w2.heap.size w2 x0 from h_0)
   have H1:=AK (show Kd.R (Kd.int .i64) 3 x0 w.heap.size (fun _=>True) u1 []from h_1)
   have H2:=AK (show Kd.R k60 71 x0 w.heap.size (fun _=>True) u2 []from h_2)
   have H3:=AK (show Kd.R k60 71 x0 w.heap.size (fun _=>True) u3 []from h_3)
   have HN:=AK (show NeRow u2 u3 from h_4)
   have HK1:=AK (show (∀j,Value.ownBlock u1=some j→w2.heap.size≤j)from h_5)
   have HK2:=AK (show (∀j,Value.ownBlock u2=some j→w2.heap.size≤j)from h_6)
   have HK3:=AK (show (∀j,Value.ownBlock u3=some j→w2.heap.size≤j)from h_7)
   clear h_0 h_1 h_2 h_3 h_4 h_5 h_6 h_7
   refine norm_ (a':=?_) ?_ ?_
   rotate_left
   ·show (Act.put (Act.put (Act.put _ (some 5) _) (some 9) _) (some 13) _)=_
    exact zP
   refine two_ (i:=3) (j:=13) (Ni:=some 8) (Nj:=some 3) (bM 15 1919) (bM 15 10103) rfl rfl rfl rfl (two_of HT_.out (by kernel_rfl)) (by decide) (by decide) (fun K hK=>?_) (fun K hK=>?_)
   ·skip
    refine app0_step (Kd.int .i64) (w0:=w) (W:=x0) w.heap.size (by rfl) (.tmp 5) (.tmp 7) 29 3 (.int .i64 0) 8 rfl Tryd.underlying29 info3 rfl (by decide) (by omega) u1 l1 A1 c1 rfl rfl H1.out (HI0.out.below (bst HW1.out.1 HB.out)).r1 (fun _ _ h=>h) (bst HW1.out.1 HB.out) (bst HW1.out.1 HB.out).size (by have:=HL.out.r;omega) ?_
    intro v1 x1 hr hb hg hat
    obtain⟨R1,e1,e⟩:=Kd.R_slice hr
    subst e
    have N0:=AK (below_grownU HB.out hg HK1.out)
    have N2:=AK (Kd.R_over' H2.out (Kd.R_typed H1.out) (k60_ap 3 (by decide)) hg)
    have N3:=AK (Kd.R_over' H3.out (Kd.R_typed H1.out) (k60_ap 3 (by decide)) hg)
    have NK1:=AK (fresh_after HK1.out HB.out.size hat)
    clear H2;have H2:=N2;clear N2
    clear H3;have H3:=N3;clear N3
    clear HB H1;have HB:=N0;have H1:=AK hr;clear N0 hr hb hg hat;clear HK1;have HK1:=NK1;clear NK1
    refine hK.out _ _ ⟨pcb HB.out (box4 HW1.out.2.1).2.1,pcb HB.out (box4 HW1.out.2.1).2.2.1,pcb HB.out (box4 HW1.out.2.1).2.2.2⟩ (fun hHeld=>?_)
    clear hK K
    refine nO (some 8) ?_
    exact norm_ zJ (hC10 (u1,R1,e1,u2,u3) _ ⟨HB.out,H1.out,H2.out,H3.out,HN.out,HK1.out,HK2.out,HK3.out⟩)
   ·skip
    refine box_step ?hg (N:=3) ?hd (cs:=#[.slice none 0 0,.slice none 0 0,.slice none 0 0,.slice none 0 0]) (t:=33) ?hr ?_;(case hd=>rfl);(case hg=>rfl);(case hr=>first|(go_simp;done)|(go_simp;rfl))
    intro b3 hg x1 hbox hb
    have HZ:=AK (show _∧_ from⟨hbox,show w2.heap.size≤b3 by rw[hg];exact HB.out.size⟩)
    clear hg hbox
    replace H1:=AK (Kd.R_below H1.out hb)
    replace H2:=AK (Kd.R_below H2.out hb)
    replace H3:=AK (Kd.R_below H3.out hb)
    replace HB:=AK (bst HB.out hb)
    clear hb
    refine hK.out _ _ ⟨pcb HB.out (box4 HW1.out.2.1).2.1,pcb HB.out (box4 HW1.out.2.1).2.2.1,pcb HB.out (box4 HW1.out.2.1).2.2.2⟩ (fun hHeld=>?_)
    clear hK K
    refine nO (some 3) ?_
    exact norm_ zJ (hC9 (u1,u2,u3,b3) _ ⟨HB.out,H1.out,H2.out,H3.out,HN.out,HZ.out,HK1.out,HK2.out,HK3.out⟩)
  intro hC15
  refine join_ (σ:=Value × Value × Nat) 6 #[fF,tT,tT,fF,tT,tT,tT,fF,tT,tT,tT,fF,fF,tT,fF] (fun s=>[(9,s.1),(13,s.2.1),(3,(.pointer (some ⟨s.2.2,0,none⟩)))]) (fun s w'=>Below w2.heap.size w2 w'∧Kd.R k60 71 w' w.heap.size (fun _=>True) s.1 []∧Kd.R k60 71 w' w.heap.size (fun _=>True) s.2.1 []∧NeRow s.1 s.2.1∧(w'.heap[s.2.2]?=some (.cells #[.slice none 0 0,.slice none 0 0,.slice none 0 0,.slice none 0 0] 33 (0,0))∧w2.heap.size≤s.2.2)∧(∀j,Value.ownBlock s.1=some j→w2.heap.size≤j)∧(∀j,Value.ownBlock s.2.1=some j→w2.heap.size≤j)) ?_ ?_
  ·skip
   rintro⟨u2,u3,b3⟩ x0 ⟨h_0,h_1,h_2,h_3,h_4,h_5,h_6⟩
   have HB:=AK (show Below w2.heap.size w2 x0 from h_0)
   have H2:=AK (show Kd.R k60 71 x0 w.heap.size (fun _=>True) u2 []from h_1)
   have H3:=AK (show Kd.R k60 71 x0 w.heap.size (fun _=>True) u3 []from h_2)
   have HN:=AK (show NeRow u2 u3 from h_3)
   have HZ:=AK (show (x0.heap[b3]?=some (.cells #[.slice none 0 0,.slice none 0 0,.slice none 0 0,.slice none 0 0] 33 (0,0))∧w2.heap.size≤b3)from h_4)
   have HK2:=AK (show (∀j,Value.ownBlock u2=some j→w2.heap.size≤j)from h_5)
   have HK3:=AK (show (∀j,Value.ownBlock u3=some j→w2.heap.size≤j)from h_6)
   clear h_0 h_1 h_2 h_3 h_4 h_5 h_6
   refine norm_ (a':=?_) ?_ ?_
   rotate_left
   ·show (Act.put (Act.put (Act.put _ (some 9) _) (some 13) _) (some 3) _)=_
    exact zP
   refine one_ (i:=0) (N:=some 5) (bM 15 10103) rfl rfl (one_of HT_.out (by kernel_rfl)) (by decide) (fun K hK=>?_)
   refine lit0_step (Kd.int .i64) (W:=x0) w.heap.size 3 (by rfl) (N:=5) rfl ?hr (bst HW1.out.1 HB.out).size ?_;(case hr=>first|(go_simp;done)|(go_simp;rfl))
   intro u1 x1 hr hb hn
   have HK1:=AK (fresh_new HB.out.size hn)
   replace H2:=AK (Kd.R_below H2.out hb)
   replace H3:=AK (Kd.R_below H3.out hb)
   replace HZ:=AK (show _∧_ from⟨bbl HZ.out.1 hb,HZ.out.2⟩)
   replace HB:=AK (bst HB.out hb)
   have H1:=AK hr
   clear hr hb hn
   refine hK.out _ _ ⟨pcb HB.out (box4 HW1.out.2.1).2.1,pcb HB.out (box4 HW1.out.2.1).2.2.1,pcb HB.out (box4 HW1.out.2.1).2.2.2⟩ (fun hHeld=>?_)
   clear hK K
   refine nO (some 5) ?_
   exact norm_ zJ (hC9 (u1,u2,u3,b3) _ ⟨HB.out,H1.out,H2.out,H3.out,HN.out,HZ.out,HK1.out,HK2.out,HK3.out⟩)
  intro hC16
  refine join_ (σ:=Value × Option Addr × Nat × Value) 6 #[tT,tT,tT,tT,fF,tT,tT,fF,tT,tT,tT,fF,fF,fF,fF] (fun s=>[(5,s.1),(8,(Value.slice s.2.1 l1.length s.2.2.1)),(13,s.2.2.2)]) (fun s w'=>Below w2.heap.size w2 w'∧Kd.R (Kd.int .i64) 3 w' w.heap.size (fun _=>True) (Value.slice s.2.1 l1.length s.2.2.1) l1∧Kd.R k60 71 w' w.heap.size (fun _=>True) s.2.2.2 []∧(∀j,Value.ownBlock (Value.slice s.2.1 l1.length s.2.2.1)=some j→w2.heap.size≤j)∧(∀j,Value.ownBlock s.2.2.2=some j→w2.heap.size≤j)) ?_ ?_
  ·skip
   rintro⟨u1,R1,e1,u3⟩ x0 ⟨h_0,h_1,h_2,h_3,h_4⟩
   have HB:=AK (show Below w2.heap.size w2 x0 from h_0)
   have H1:=AK (show Kd.R (Kd.int .i64) 3 x0 w.heap.size (fun _=>True) (Value.slice R1 l1.length e1) l1 from h_1)
   have H3:=AK (show Kd.R k60 71 x0 w.heap.size (fun _=>True) u3 []from h_2)
   have HK1:=AK (show (∀j,Value.ownBlock (Value.slice R1 l1.length e1)=some j→w2.heap.size≤j)from h_3)
   have HK3:=AK (show (∀j,Value.ownBlock u3=some j→w2.heap.size≤j)from h_4)
   clear h_0 h_1 h_2 h_3 h_4
   refine norm_ (a':=?_) ?_ ?_
   rotate_left
   ·show (Act.put (Act.put (Act.put _ (some 5) _) (some 8) _) (some 13) _)=_
    exact zP
   refine two_ (i:=4) (j:=13) (Ni:=some 9) (Nj:=some 3) (bM 15 1919) (bM 15 10095) rfl rfl rfl rfl (two_of HT_.out (by kernel_rfl)) (by decide) (by decide) (fun K hK=>?_) (fun K hK=>?_)
   ·skip
    refine lit0_step k60 (W:=x0) w.heap.size 71 (by rfl) (N:=9) rfl ?hr (bst HW1.out.1 HB.out).size ?_;(case hr=>first|(go_simp;done)|(go_simp;rfl))
    intro u2 x1 hr hb hn
    have HN:=AK (show NeRow u2 u3 from ne_symm (NeRow_new (Kd.R_lt H3.out) hn))
    have HK2:=AK (fresh_new HB.out.size hn)
    replace H1:=AK (Kd.R_below H1.out hb)
    replace H3:=AK (Kd.R_below H3.out hb)
    replace HB:=AK (bst HB.out hb)
    have H2:=AK hr
    clear hr hb hn
    refine hK.out _ _ ⟨pcb HB.out (box4 HW1.out.2.1).2.1,pcb HB.out (box4 HW1.out.2.1).2.2.1,pcb HB.out (box4 HW1.out.2.1).2.2.2⟩ (fun hHeld=>?_)
    clear hK K
    refine nO (some 9) ?_
    exact norm_ zJ (hC10 (u1,R1,e1,u2,u3) _ ⟨HB.out,H1.out,H2.out,H3.out,HN.out,HK1.out,HK2.out,HK3.out⟩)
   ·skip
    refine box_step ?hg (N:=3) ?hd (cs:=#[.slice none 0 0,.slice none 0 0,.slice none 0 0,.slice none 0 0]) (t:=33) ?hr ?_;(case hd=>rfl);(case hg=>rfl);(case hr=>first|(go_simp;done)|(go_simp;rfl))
    intro b3 hg x1 hbox hb
    have HZ:=AK (show _∧_ from⟨hbox,show w2.heap.size≤b3 by rw[hg];exact HB.out.size⟩)
    clear hg hbox
    replace H1:=AK (Kd.R_below H1.out hb)
    replace H3:=AK (Kd.R_below H3.out hb)
    replace HB:=AK (bst HB.out hb)
    clear hb
    refine hK.out _ _ ⟨pcb HB.out (box4 HW1.out.2.1).2.1,pcb HB.out (box4 HW1.out.2.1).2.2.1,pcb HB.out (box4 HW1.out.2.1).2.2.2⟩ (fun hHeld=>?_)
    clear hK K
    refine nO (some 3) ?_
    exact norm_ zJ (hC6 (u1,R1,e1,u3,b3) _ ⟨HB.out,H1.out,H3.out,HZ.out,HK1.out,HK3.out⟩)
  intro hC17
  refine join_ (σ:=Value × Nat) 7 #[tT,tT,tT,fF,fF,tT,tT,fF,fF,tT,tT,fF,fF,tT,fF] (fun s=>[(5,s.1),(3,(.pointer (some ⟨s.2,0,none⟩)))]) (fun s w'=>Below w2.heap.size w2 w'∧Kd.R (Kd.int .i64) 3 w' w.heap.size (fun _=>True) s.1 []∧(w'.heap[s.2]?=some (.cells #[.slice none 0 0,.slice none 0 0,.slice none 0 0,.slice none 0 0] 33 (0,0))∧w2.heap.size≤s.2)∧(∀j,Value.ownBlock s.1=some j→w2.heap.size≤j)) ?_ ?_
  ·skip
   rintro⟨u1,b3⟩ x0 ⟨h_0,h_1,h_2,h_3⟩
   have HB:=AK (show Below w2.heap.size w2 x0 from h_0)
   have H1:=AK (show Kd.R (Kd.int .i64) 3 x0 w.heap.size (fun _=>True) u1 []from h_1)
   have HZ:=AK (show (x0.heap[b3]?=some (.cells #[.slice none 0 0,.slice none 0 0,.slice none 0 0,.slice none 0 0] 33 (0,0))∧w2.heap.size≤b3)from h_2)
   have HK1:=AK (show (∀j,Value.ownBlock u1=some j→w2.heap.size≤j)from h_3)
   clear h_0 h_1 h_2 h_3
   refine norm_ (a':=?_) ?_ ?_
   rotate_left
   ·show (Act.put (Act.put _ (some 5) _) (some 3) _)=_
    exact zP
   refine three_ (i:=3) (j:=4) (k:=8) (Ni:=some 8) (Nj:=some 9) (Nk:=some 13) (bM 15 9839) (bM 15 9847) (bM 15 10087) rfl rfl rfl rfl rfl rfl (three_of HT_.out (by kernel_rfl)) (by decide) (by decide) (by decide) (fun K hK=>?_) (fun K hK=>?_) (fun K hK=>?_)
   ·skip
    refine app0_step (Kd.int .i64) (w0:=w) (W:=x0) w.heap.size (by rfl) (.tmp 5) (.tmp 7) 29 3 (.int .i64 0) 8 rfl Tryd.underlying29 info3 rfl (by decide) (by omega) u1 l1 A1 c1 rfl rfl H1.out (HI0.out.below (bst HW1.out.1 HB.out)).r1 (fun _ _ h=>h) (bst HW1.out.1 HB.out) (bst HW1.out.1 HB.out).size (by have:=HL.out.r;omega) ?_
    intro v1 x1 hr hb hg hat
    obtain⟨R1,e1,e⟩:=Kd.R_slice hr
    subst e
    have N0:=AK (below_grownU HB.out hg HK1.out)
    have NZ:=AK (show _∧_ from⟨blk_grown HZ.out.1 hg (Kd.R_ne H1.out HZ.out.1 (by decide)),HZ.out.2⟩)
    have NK1:=AK (fresh_after HK1.out HB.out.size hat)
    clear HZ;have HZ:=NZ;clear NZ
    clear HB H1;have HB:=N0;have H1:=AK hr;clear N0 hr hb hg hat;clear HK1;have HK1:=NK1;clear NK1
    refine hK.out _ _ ⟨pcb HB.out (box4 HW1.out.2.1).2.1,pcb HB.out (box4 HW1.out.2.1).2.2.1,pcb HB.out (box4 HW1.out.2.1).2.2.2⟩ (fun hHeld=>?_)
    clear hK K
    refine nO (some 8) ?_
    exact norm_ zJ (hC14 (u1,R1,e1,b3) _ ⟨HB.out,H1.out,HZ.out,HK1.out⟩)
   ·skip
    refine lit0_step k60 (W:=x0) w.heap.size 71 (by rfl) (N:=9) rfl ?hr (bst HW1.out.1 HB.out).size ?_;(case hr=>first|(go_simp;done)|(go_simp;rfl))
    intro u2 x1 hr hb hn
    have HK2:=AK (fresh_new HB.out.size hn)
    replace H1:=AK (Kd.R_below H1.out hb)
    replace HZ:=AK (show _∧_ from⟨bbl HZ.out.1 hb,HZ.out.2⟩)
    replace HB:=AK (bst HB.out hb)
    have H2:=AK hr
    clear hr hb hn
    refine hK.out _ _ ⟨pcb HB.out (box4 HW1.out.2.1).2.1,pcb HB.out (box4 HW1.out.2.1).2.2.1,pcb HB.out (box4 HW1.out.2.1).2.2.2⟩ (fun hHeld=>?_)
    clear hK K
    refine nO (some 9) ?_
    exact norm_ zJ (hC11 (u1,u2,b3) _ ⟨HB.out,H1.out,H2.out,HZ.out,HK1.out,HK2.out⟩)
   ·skip
    refine lit0_step k60 (W:=x0) w.heap.size 71 (by rfl) (N:=13) rfl ?hr (bst HW1.out.1 HB.out).size ?_;(case hr=>first|(go_simp;done)|(go_simp;rfl))
    intro u3 x1 hr hb hn
    have HK3:=AK (fresh_new HB.out.size hn)
    replace H1:=AK (Kd.R_below H1.out hb)
    replace HZ:=AK (show _∧_ from⟨bbl HZ.out.1 hb,HZ.out.2⟩)
    replace HB:=AK (bst HB.out hb)
    have H3:=AK hr
    clear hr hb hn
    refine hK.out _ _ ⟨pcb HB.out (box4 HW1.out.2.1).2.1,pcb HB.out (box4 HW1.out.2.1).2.2.1,pcb HB.out (box4 HW1.out.2.1).2.2.2⟩ (fun hHeld=>?_)
    clear hK K
    refine nO (some 13) ?_
    exact norm_ zJ (hC12 (u1,u3,b3) _ ⟨HB.out,H1.out,H3.out,HZ.out,HK1.out,HK3.out⟩)
  intro hC18
  refine join_ (σ:=Value × Nat) 7 #[fF,tT,tT,fF,tT,tT,tT,fF,fF,tT,tT,fF,fF,tT,fF] (fun s=>[(9,s.1),(3,(.pointer (some ⟨s.2,0,none⟩)))]) (fun s w'=>Below w2.heap.size w2 w'∧Kd.R k60 71 w' w.heap.size (fun _=>True) s.1 []∧(w'.heap[s.2]?=some (.cells #[.slice none 0 0,.slice none 0 0,.slice none 0 0,.slice none 0 0] 33 (0,0))∧w2.heap.size≤s.2)∧(∀j,Value.ownBlock s.1=some j→w2.heap.size≤j)) ?_ ?_
  ·skip
   rintro⟨u2,b3⟩ x0 ⟨h_0,h_1,h_2,h_3⟩
   have HB:=AK (show Below w2.heap.size w2 x0 from h_0)
   have H2:=AK (show Kd.R k60 71 x0 w.heap.size (fun _=>True) u2 []from h_1)
   have HZ:=AK (show (x0.heap[b3]?=some (.cells #[.slice none 0 0,.slice none 0 0,.slice none 0 0,.slice none 0 0] 33 (0,0))∧w2.heap.size≤b3)from h_2)
   have HK2:=AK (show (∀j,Value.ownBlock u2=some j→w2.heap.size≤j)from h_3)
   clear h_0 h_1 h_2 h_3
   refine norm_ (a':=?_) ?_ ?_
   rotate_left
   ·show (Act.put (Act.put _ (some 9) _) (some 3) _)=_
    exact zP
   refine two_ (i:=0) (j:=8) (Ni:=some 5) (Nj:=some 13) (bM 15 9847) (bM 15 10102) rfl rfl rfl rfl (two_of HT_.out (by kernel_rfl)) (by decide) (by decide) (fun K hK=>?_) (fun K hK=>?_)
   ·skip
    refine lit0_step (Kd.int .i64) (W:=x0) w.heap.size 3 (by rfl) (N:=5) rfl ?hr (bst HW1.out.1 HB.out).size ?_;(case hr=>first|(go_simp;done)|(go_simp;rfl))
    intro u1 x1 hr hb hn
    have HK1:=AK (fresh_new HB.out.size hn)
    replace H2:=AK (Kd.R_below H2.out hb)
    replace HZ:=AK (show _∧_ from⟨bbl HZ.out.1 hb,HZ.out.2⟩)
    replace HB:=AK (bst HB.out hb)
    have H1:=AK hr
    clear hr hb hn
    refine hK.out _ _ ⟨pcb HB.out (box4 HW1.out.2.1).2.1,pcb HB.out (box4 HW1.out.2.1).2.2.1,pcb HB.out (box4 HW1.out.2.1).2.2.2⟩ (fun hHeld=>?_)
    clear hK K
    refine nO (some 5) ?_
    exact norm_ zJ (hC11 (u1,u2,b3) _ ⟨HB.out,H1.out,H2.out,HZ.out,HK1.out,HK2.out⟩)
   ·skip
    refine lit0_step k60 (W:=x0) w.heap.size 71 (by rfl) (N:=13) rfl ?hr (bst HW1.out.1 HB.out).size ?_;(case hr=>first|(go_simp;done)|(go_simp;rfl))
    intro u3 x1 hr hb hn
    have HN:=AK (show NeRow u2 u3 from NeRow_new (Kd.R_lt H2.out) hn)
    have HK3:=AK (fresh_new HB.out.size hn)
    replace H2:=AK (Kd.R_below H2.out hb)
    replace HZ:=AK (show _∧_ from⟨bbl HZ.out.1 hb,HZ.out.2⟩)
    replace HB:=AK (bst HB.out hb)
    have H3:=AK hr
    clear hr hb hn
    refine hK.out _ _ ⟨pcb HB.out (box4 HW1.out.2.1).2.1,pcb HB.out (box4 HW1.out.2.1).2.2.1,pcb HB.out (box4 HW1.out.2.1).2.2.2⟩ (fun hHeld=>?_)
    clear hK K
    refine nO (some 13) ?_
    exact norm_ zJ (hC16 (u2,u3,b3) _ ⟨HB.out,H2.out,H3.out,HN.out,HZ.out,HK2.out,HK3.out⟩)
  intro hC19
  refine join_ (σ:=Value × Option Addr × Nat) 7 #[tT,tT,tT,tT,fF,tT,tT,fF,fF,tT,tT,fF,fF,fF,fF] (fun s=>[(5,s.1),(8,(Value.slice s.2.1 l1.length s.2.2))]) (fun s w'=>Below w2.heap.size w2 w'∧Kd.R (Kd.int .i64) 3 w' w.heap.size (fun _=>True) (Value.slice s.2.1 l1.length s.2.2) l1∧(∀j,Value.ownBlock (Value.slice s.2.1 l1.length s.2.2)=some j→w2.heap.size≤j)) ?_ ?_
  ·skip
   rintro⟨u1,R1,e1⟩ x0 ⟨h_0,h_1,h_2⟩
   have HB:=AK (show Below w2.heap.size w2 x0 from h_0)
   have H1:=AK (show Kd.R (Kd.int .i64) 3 x0 w.heap.size (fun _=>True) (Value.slice R1 l1.length e1) l1 from h_1)
   have HK1:=AK (show (∀j,Value.ownBlock (Value.slice R1 l1.length e1)=some j→w2.heap.size≤j)from h_2)
   clear h_0 h_1 h_2
   refine norm_ (a':=?_) ?_ ?_
   rotate_left
   ·show (Act.put (Act.put _ (some 5) _) (some 8) _)=_
    exact zP
   refine three_ (i:=4) (j:=8) (k:=13) (Ni:=some 9) (Nj:=some 13) (Nk:=some 3) (bM 15 1663) (bM 15 1903) (bM 15 9839) rfl rfl rfl rfl rfl rfl (three_of HT_.out (by kernel_rfl)) (by decide) (by decide) (by decide) (fun K hK=>?_) (fun K hK=>?_) (fun K hK=>?_)
   ·skip
    refine lit0_step k60 (W:=x0) w.heap.size 71 (by rfl) (N:=9) rfl ?hr (bst HW1.out.1 HB.out).size ?_;(case hr=>first|(go_simp;done)|(go_simp;rfl))
    intro u2 x1 hr hb hn
    have HK2:=AK (fresh_new HB.out.size hn)
    replace H1:=AK (Kd.R_below H1.out hb)
    replace HB:=AK (bst HB.out hb)
    have H2:=AK hr
    clear hr hb hn
    refine hK.out _ _ ⟨pcb HB.out (box4 HW1.out.2.1).2.1,pcb HB.out (box4 HW1.out.2.1).2.2.1,pcb HB.out (box4 HW1.out.2.1).2.2.2⟩ (fun hHeld=>?_)
    clear hK K
    refine nO (some 9) ?_
    exact norm_ zJ (hC13 (u1,R1,e1,u2) _ ⟨HB.out,H1.out,H2.out,HK1.out,HK2.out⟩)
   ·skip
    refine lit0_step k60 (W:=x0) w.heap.size 71 (by rfl) (N:=13) rfl ?hr (bst HW1.out.1 HB.out).size ?_;(case hr=>first|(go_simp;done)|(go_simp;rfl))
    intro u3 x1 hr hb hn
    have HK3:=AK (fresh_new HB.out.size hn)
    replace H1:=AK (Kd.R_below H1.out hb)
    replace HB:=AK (bst HB.out hb)
    have H3:=AK hr
    clear hr hb hn
    refine hK.out _ _ ⟨pcb HB.out (box4 HW1.out.2.1).2.1,pcb HB.out (box4 HW1.out.2.1).2.2.1,pcb HB.out (box4 HW1.out.2.1).2.2.2⟩ (fun hHeld=>?_)
    clear hK K
    refine nO (some 13) ?_
    exact norm_ zJ (hC17 (u1,R1,e1,u3) _ ⟨HB.out,H1.out,H3.out,HK1.out,HK3.out⟩)
   ·skip
    refine box_step ?hg (N:=3) ?hd (cs:=#[.slice none 0 0,.slice none 0 0,.slice none 0 0,.slice none 0 0]) (t:=33) ?hr ?_;(case hd=>rfl);(case hg=>rfl);(case hr=>first|(go_simp;done)|(go_simp;rfl))
    intro b3 hg x1 hbox hb
    have HZ:=AK (show _∧_ from⟨hbox,show w2.heap.size≤b3 by rw[hg];exact HB.out.size⟩)
    clear hg hbox
    replace H1:=AK (Kd.R_below H1.out hb)
    replace HB:=AK (bst HB.out hb)
    clear hb
    refine hK.out _ _ ⟨pcb HB.out (box4 HW1.out.2.1).2.1,pcb HB.out (box4 HW1.out.2.1).2.2.1,pcb HB.out (box4 HW1.out.2.1).2.2.2⟩ (fun hHeld=>?_)
    clear hK K
    refine nO (some 3) ?_
    exact norm_ zJ (hC14 (u1,R1,e1,b3) _ ⟨HB.out,H1.out,HZ.out,HK1.out⟩)
  intro hC20
  refine join_ (σ:=Value × Value) 7 #[tT,tT,tT,fF,tT,tT,tT,fF,fF,tT,tT,fF,fF,fF,fF] (fun s=>[(5,s.1),(9,s.2)]) (fun s w'=>Below w2.heap.size w2 w'∧Kd.R (Kd.int .i64) 3 w' w.heap.size (fun _=>True) s.1 []∧Kd.R k60 71 w' w.heap.size (fun _=>True) s.2 []∧(∀j,Value.ownBlock s.1=some j→w2.heap.size≤j)∧(∀j,Value.ownBlock s.2=some j→w2.heap.size≤j)) ?_ ?_
  ·skip
   rintro⟨u1,u2⟩ x0 ⟨h_0,h_1,h_2,h_3,h_4⟩
   have HB:=AK (show Below w2.heap.size w2 x0 from h_0)
   have H1:=AK (show Kd.R (Kd.int .i64) 3 x0 w.heap.size (fun _=>True) u1 []from h_1)
   have H2:=AK (show Kd.R k60 71 x0 w.heap.size (fun _=>True) u2 []from h_2)
   have HK1:=AK (show (∀j,Value.ownBlock u1=some j→w2.heap.size≤j)from h_3)
   have HK2:=AK (show (∀j,Value.ownBlock u2=some j→w2.heap.size≤j)from h_4)
   clear h_0 h_1 h_2 h_3 h_4
   refine norm_ (a':=?_) ?_ ?_
   rotate_left
   ·show (Act.put (Act.put _ (some 5) _) (some 9) _)=_
    exact zP
   refine three_ (i:=3) (j:=8) (k:=13) (Ni:=some 8) (Nj:=some 13) (Nk:=some 3) (bM 15 1663) (bM 15 1911) (bM 15 9847) rfl rfl rfl rfl rfl rfl (three_of HT_.out (by kernel_rfl)) (by decide) (by decide) (by decide) (fun K hK=>?_) (fun K hK=>?_) (fun K hK=>?_)
   ·skip
    refine app0_step (Kd.int .i64) (w0:=w) (W:=x0) w.heap.size (by rfl) (.tmp 5) (.tmp 7) 29 3 (.int .i64 0) 8 rfl Tryd.underlying29 info3 rfl (by decide) (by omega) u1 l1 A1 c1 rfl rfl H1.out (HI0.out.below (bst HW1.out.1 HB.out)).r1 (fun _ _ h=>h) (bst HW1.out.1 HB.out) (bst HW1.out.1 HB.out).size (by have:=HL.out.r;omega) ?_
    intro v1 x1 hr hb hg hat
    obtain⟨R1,e1,e⟩:=Kd.R_slice hr
    subst e
    have N0:=AK (below_grownU HB.out hg HK1.out)
    have N2:=AK (Kd.R_over' H2.out (Kd.R_typed H1.out) (k60_ap 3 (by decide)) hg)
    have NK1:=AK (fresh_after HK1.out HB.out.size hat)
    clear H2;have H2:=N2;clear N2
    clear HB H1;have HB:=N0;have H1:=AK hr;clear N0 hr hb hg hat;clear HK1;have HK1:=NK1;clear NK1
    refine hK.out _ _ ⟨pcb HB.out (box4 HW1.out.2.1).2.1,pcb HB.out (box4 HW1.out.2.1).2.2.1,pcb HB.out (box4 HW1.out.2.1).2.2.2⟩ (fun hHeld=>?_)
    clear hK K
    refine nO (some 8) ?_
    exact norm_ zJ (hC13 (u1,R1,e1,u2) _ ⟨HB.out,H1.out,H2.out,HK1.out,HK2.out⟩)
   ·skip
    refine lit0_step k60 (W:=x0) w.heap.size 71 (by rfl) (N:=13) rfl ?hr (bst HW1.out.1 HB.out).size ?_;(case hr=>first|(go_simp;done)|(go_simp;rfl))
    intro u3 x1 hr hb hn
    have HN:=AK (show NeRow u2 u3 from NeRow_new (Kd.R_lt H2.out) hn)
    have HK3:=AK (fresh_new HB.out.size hn)
    replace H1:=AK (Kd.R_below H1.out hb)
    replace H2:=AK (Kd.R_below H2.out hb)
    replace HB:=AK (bst HB.out hb)
    have H3:=AK hr
    clear hr hb hn
    refine hK.out _ _ ⟨pcb HB.out (box4 HW1.out.2.1).2.1,pcb HB.out (box4 HW1.out.2.1).2.2.1,pcb HB.out (box4 HW1.out.2.1).2.2.2⟩ (fun hHeld=>?_)
    clear hK K
    refine nO (some 13) ?_
    exact norm_ zJ (hC15 (u1,u2,u3) _ ⟨HB.out,H1.out,H2.out,H3.out,HN.out,HK1.out,HK2.out,HK3.out⟩)
   ·skip
    refine box_step ?hg (N:=3) ?hd (cs:=#[.slice none 0 0,.slice none 0 0,.slice none 0 0,.slice none 0 0]) (t:=33) ?hr ?_;(case hd=>rfl);(case hg=>rfl);(case hr=>first|(go_simp;done)|(go_simp;rfl))
    intro b3 hg x1 hbox hb
    have HZ:=AK (show _∧_ from⟨hbox,show w2.heap.size≤b3 by rw[hg];exact HB.out.size⟩)
    clear hg hbox
    replace H1:=AK (Kd.R_below H1.out hb)
    replace H2:=AK (Kd.R_below H2.out hb)
    replace HB:=AK (bst HB.out hb)
    clear hb
    refine hK.out _ _ ⟨pcb HB.out (box4 HW1.out.2.1).2.1,pcb HB.out (box4 HW1.out.2.1).2.2.1,pcb HB.out (box4 HW1.out.2.1).2.2.2⟩ (fun hHeld=>?_)
    clear hK K
    refine nO (some 3) ?_
    exact norm_ zJ (hC11 (u1,u2,b3) _ ⟨HB.out,H1.out,H2.out,HZ.out,HK1.out,HK2.out⟩)
  intro hC21
  refine join_ (σ:=Value × Nat) 7 #[fF,tT,tT,fF,fF,tT,tT,fF,tT,tT,tT,fF,fF,tT,fF] (fun s=>[(13,s.1),(3,(.pointer (some ⟨s.2,0,none⟩)))]) (fun s w'=>Below w2.heap.size w2 w'∧Kd.R k60 71 w' w.heap.size (fun _=>True) s.1 []∧(w'.heap[s.2]?=some (.cells #[.slice none 0 0,.slice none 0 0,.slice none 0 0,.slice none 0 0] 33 (0,0))∧w2.heap.size≤s.2)∧(∀j,Value.ownBlock s.1=some j→w2.heap.size≤j)) ?_ ?_
  ·skip
   rintro⟨u3,b3⟩ x0 ⟨h_0,h_1,h_2,h_3⟩
   have HB:=AK (show Below w2.heap.size w2 x0 from h_0)
   have H3:=AK (show Kd.R k60 71 x0 w.heap.size (fun _=>True) u3 []from h_1)
   have HZ:=AK (show (x0.heap[b3]?=some (.cells #[.slice none 0 0,.slice none 0 0,.slice none 0 0,.slice none 0 0] 33 (0,0))∧w2.heap.size≤b3)from h_2)
   have HK3:=AK (show (∀j,Value.ownBlock u3=some j→w2.heap.size≤j)from h_3)
   clear h_0 h_1 h_2 h_3
   refine norm_ (a':=?_) ?_ ?_
   rotate_left
   ·show (Act.put (Act.put _ (some 13) _) (some 3) _)=_
    exact zP
   refine two_ (i:=0) (j:=4) (Ni:=some 5) (Nj:=some 9) (bM 15 10087) (bM 15 10102) rfl rfl rfl rfl (two_of HT_.out (by kernel_rfl)) (by decide) (by decide) (fun K hK=>?_) (fun K hK=>?_)
   ·skip
    refine lit0_step (Kd.int .i64) (W:=x0) w.heap.size 3 (by rfl) (N:=5) rfl ?hr (bst HW1.out.1 HB.out).size ?_;(case hr=>first|(go_simp;done)|(go_simp;rfl))
    intro u1 x1 hr hb hn
    have HK1:=AK (fresh_new HB.out.size hn)
    replace H3:=AK (Kd.R_below H3.out hb)
    replace HZ:=AK (show _∧_ from⟨bbl HZ.out.1 hb,HZ.out.2⟩)
    replace HB:=AK (bst HB.out hb)
    have H1:=AK hr
    clear hr hb hn
    refine hK.out _ _ ⟨pcb HB.out (box4 HW1.out.2.1).2.1,pcb HB.out (box4 HW1.out.2.1).2.2.1,pcb HB.out (box4 HW1.out.2.1).2.2.2⟩ (fun hHeld=>?_)
    clear hK K
    refine nO (some 5) ?_
    exact norm_ zJ (hC12 (u1,u3,b3) _ ⟨HB.out,H1.out,H3.out,HZ.out,HK1.out,HK3.out⟩)
   ·skip
    refine lit0_step k60 (W:=x0) w.heap.size 71 (by rfl) (N:=9) rfl ?hr (bst HW1.out.1 HB.out).size ?_;(case hr=>first|(go_simp;done)|(go_simp;rfl))
    intro u2 x1 hr hb hn
    have HN:=AK (show NeRow u2 u3 from ne_symm (NeRow_new (Kd.R_lt H3.out) hn))
    have HK2:=AK (fresh_new HB.out.size hn)
    replace H3:=AK (Kd.R_below H3.out hb)
    replace HZ:=AK (show _∧_ from⟨bbl HZ.out.1 hb,HZ.out.2⟩)
    replace HB:=AK (bst HB.out hb)
    have H2:=AK hr
    clear hr hb hn
    refine hK.out _ _ ⟨pcb HB.out (box4 HW1.out.2.1).2.1,pcb HB.out (box4 HW1.out.2.1).2.2.1,pcb HB.out (box4 HW1.out.2.1).2.2.2⟩ (fun hHeld=>?_)
    clear hK K
    refine nO (some 9) ?_
    exact norm_ zJ (hC16 (u2,u3,b3) _ ⟨HB.out,H2.out,H3.out,HN.out,HZ.out,HK2.out,HK3.out⟩)
  intro hC22
  refine join_ (σ:=Value × Value) 7 #[tT,tT,tT,fF,fF,tT,tT,fF,tT,tT,tT,fF,fF,fF,fF] (fun s=>[(5,s.1),(13,s.2)]) (fun s w'=>Below w2.heap.size w2 w'∧Kd.R (Kd.int .i64) 3 w' w.heap.size (fun _=>True) s.1 []∧Kd.R k60 71 w' w.heap.size (fun _=>True) s.2 []∧(∀j,Value.ownBlock s.1=some j→w2.heap.size≤j)∧(∀j,Value.ownBlock s.2=some j→w2.heap.size≤j)) ?_ ?_
  ·skip
   rintro⟨u1,u3⟩ x0 ⟨h_0,h_1,h_2,h_3,h_4⟩
   have HB:=AK (show Below w2.heap.size w2 x0 from h_0)
   have H1:=AK (show Kd.R (Kd.int .i64) 3 x0 w.heap.size (fun _=>True) u1 []from h_1)
   have H3:=AK (show Kd.R k60 71 x0 w.heap.size (fun _=>True) u3 []from h_2)
   have HK1:=AK (show (∀j,Value.ownBlock u1=some j→w2.heap.size≤j)from h_3)
   have HK3:=AK (show (∀j,Value.ownBlock u3=some j→w2.heap.size≤j)from h_4)
   clear h_0 h_1 h_2 h_3 h_4
   refine norm_ (a':=?_) ?_ ?_
   rotate_left
   ·show (Act.put (Act.put _ (some 5) _) (some 13) _)=_
    exact zP
   refine three_ (i:=3) (j:=4) (k:=13) (Ni:=some 8) (Nj:=some 9) (Nk:=some 3) (bM 15 1903) (bM 15 1911) (bM 15 10087) rfl rfl rfl rfl rfl rfl (three_of HT_.out (by kernel_rfl)) (by decide) (by decide) (by decide) (fun K hK=>?_) (fun K hK=>?_) (fun K hK=>?_)
   ·skip
    refine app0_step (Kd.int .i64) (w0:=w) (W:=x0) w.heap.size (by rfl) (.tmp 5) (.tmp 7) 29 3 (.int .i64 0) 8 rfl Tryd.underlying29 info3 rfl (by decide) (by omega) u1 l1 A1 c1 rfl rfl H1.out (HI0.out.below (bst HW1.out.1 HB.out)).r1 (fun _ _ h=>h) (bst HW1.out.1 HB.out) (bst HW1.out.1 HB.out).size (by have:=HL.out.r;omega) ?_
    intro v1 x1 hr hb hg hat
    obtain⟨R1,e1,e⟩:=Kd.R_slice hr
    subst e
    have N0:=AK (below_grownU HB.out hg HK1.out)
    have N3:=AK (Kd.R_over' H3.out (Kd.R_typed H1.out) (k60_ap 3 (by decide)) hg)
    have NK1:=AK (fresh_after HK1.out HB.out.size hat)
    clear H3;have H3:=N3;clear N3
    clear HB H1;have HB:=N0;have H1:=AK hr;clear N0 hr hb hg hat;clear HK1;have HK1:=NK1;clear NK1
    refine hK.out _ _ ⟨pcb HB.out (box4 HW1.out.2.1).2.1,pcb HB.out (box4 HW1.out.2.1).2.2.1,pcb HB.out (box4 HW1.out.2.1).2.2.2⟩ (fun hHeld=>?_)
    clear hK K
    refine nO (some 8) ?_
    exact norm_ zJ (hC17 (u1,R1,e1,u3) _ ⟨HB.out,H1.out,H3.out,HK1.out,HK3.out⟩)
   ·skip
    refine lit0_step k60 (W:=x0) w.heap.size 71 (by rfl) (N:=9) rfl ?hr (bst HW1.out.1 HB.out).size ?_;(case hr=>first|(go_simp;done)|(go_simp;rfl))
    intro u2 x1 hr hb hn
    have HN:=AK (show NeRow u2 u3 from ne_symm (NeRow_new (Kd.R_lt H3.out) hn))
    have HK2:=AK (fresh_new HB.out.size hn)
    replace H1:=AK (Kd.R_below H1.out hb)
    replace H3:=AK (Kd.R_below H3.out hb)
    replace HB:=AK (bst HB.out hb)
    have H2:=AK hr
    clear hr hb hn
    refine hK.out _ _ ⟨pcb HB.out (box4 HW1.out.2.1).2.1,pcb HB.out (box4 HW1.out.2.1).2.2.1,pcb HB.out (box4 HW1.out.2.1).2.2.2⟩ (fun hHeld=>?_)
    clear hK K
    refine nO (some 9) ?_
    exact norm_ zJ (hC15 (u1,u2,u3) _ ⟨HB.out,H1.out,H2.out,H3.out,HN.out,HK1.out,HK2.out,HK3.out⟩)
   ·skip
    refine box_step ?hg (N:=3) ?hd (cs:=#[.slice none 0 0,.slice none 0 0,.slice none 0 0,.slice none 0 0]) (t:=33) ?hr ?_;(case hd=>rfl);(case hg=>rfl);(case hr=>first|(go_simp;done)|(go_simp;rfl))
    intro b3 hg x1 hbox hb
    have HZ:=AK (show _∧_ from⟨hbox,show w2.heap.size≤b3 by rw[hg];exact HB.out.size⟩)
    clear hg hbox
    replace H1:=AK (Kd.R_below H1.out hb)
    replace H3:=AK (Kd.R_below H3.out hb)
    replace HB:=AK (bst HB.out hb)
    clear hb
    refine hK.out _ _ ⟨pcb HB.out (box4 HW1.out.2.1).2.1,pcb HB.out (box4 HW1.out.2.1).2.2.1,pcb HB.out (box4 HW1.out.2.1).2.2.2⟩ (fun hHeld=>?_)
    clear hK K
    refine nO (some 3) ?_
    exact norm_ zJ (hC12 (u1,u3,b3) _ ⟨HB.out,H1.out,H3.out,HZ.out,HK1.out,HK3.out⟩)
  intro hC23
  refine join_ (σ:=Value × Value) 7 #[fF,tT,tT,fF,tT,tT,tT,fF,tT,tT,tT,fF,fF,fF,fF] (fun s=>[(9,s.1),(13,s.2)]) (fun s w'=>Below w2.heap.size w2 w'∧Kd.R k60 71 w' w.heap.size (fun _=>True) s.1 []∧Kd.R k60 71 w' w.heap.size (fun _=>True) s.2 []∧NeRow s.1 s.2∧(∀j,Value.ownBlock s.1=some j→w2.heap.size≤j)∧(∀j,Value.ownBlock s.2=some j→w2.heap.size≤j)) ?_ ?_
  ·skip
   rintro⟨u2,u3⟩ x0 ⟨h_0,h_1,h_2,h_3,h_4,h_5⟩
   have HB:=AK (show Below w2.heap.size w2 x0 from h_0)
   have H2:=AK (show Kd.R k60 71 x0 w.heap.size (fun _=>True) u2 []from h_1)
   have H3:=AK (show Kd.R k60 71 x0 w.heap.size (fun _=>True) u3 []from h_2)
   have HN:=AK (show NeRow u2 u3 from h_3)
   have HK2:=AK (show (∀j,Value.ownBlock u2=some j→w2.heap.size≤j)from h_4)
   have HK3:=AK (show (∀j,Value.ownBlock u3=some j→w2.heap.size≤j)from h_5)
   clear h_0 h_1 h_2 h_3 h_4 h_5
   refine norm_ (a':=?_) ?_ ?_
   rotate_left
   ·show (Act.put (Act.put _ (some 9) _) (some 13) _)=_
    exact zP
   refine two_ (i:=0) (j:=13) (Ni:=some 5) (Nj:=some 3) (bM 15 1911) (bM 15 10102) rfl rfl rfl rfl (two_of HT_.out (by kernel_rfl)) (by decide) (by decide) (fun K hK=>?_) (fun K hK=>?_)
   ·skip
    refine lit0_step (Kd.int .i64) (W:=x0) w.heap.size 3 (by rfl) (N:=5) rfl ?hr (bst HW1.out.1 HB.out).size ?_;(case hr=>first|(go_simp;done)|(go_simp;rfl))
    intro u1 x1 hr hb hn
    have HK1:=AK (fresh_new HB.out.size hn)
    replace H2:=AK (Kd.R_below H2.out hb)
    replace H3:=AK (Kd.R_below H3.out hb)
    replace HB:=AK (bst HB.out hb)
    have H1:=AK hr
    clear hr hb hn
    refine hK.out _ _ ⟨pcb HB.out (box4 HW1.out.2.1).2.1,pcb HB.out (box4 HW1.out.2.1).2.2.1,pcb HB.out (box4 HW1.out.2.1).2.2.2⟩ (fun hHeld=>?_)
    clear hK K
    refine nO (some 5) ?_
    exact norm_ zJ (hC15 (u1,u2,u3) _ ⟨HB.out,H1.out,H2.out,H3.out,HN.out,HK1.out,HK2.out,HK3.out⟩)
   ·skip
    refine box_step ?hg (N:=3) ?hd (cs:=#[.slice none 0 0,.slice none 0 0,.slice none 0 0,.slice none 0 0]) (t:=33) ?hr ?_;(case hd=>rfl);(case hg=>rfl);(case hr=>first|(go_simp;done)|(go_simp;rfl))
    intro b3 hg x1 hbox hb
    have HZ:=AK (show _∧_ from⟨hbox,show w2.heap.size≤b3 by rw[hg];exact HB.out.size⟩)
    clear hg hbox
    replace H2:=AK (Kd.R_below H2.out hb)
    replace H3:=AK (Kd.R_below H3.out hb)
    replace HB:=AK (bst HB.out hb)
    clear hb
    refine hK.out _ _ ⟨pcb HB.out (box4 HW1.out.2.1).2.1,pcb HB.out (box4 HW1.out.2.1).2.2.1,pcb HB.out (box4 HW1.out.2.1).2.2.2⟩ (fun hHeld=>?_)
    clear hK K
    refine nO (some 3) ?_
    exact norm_ zJ (hC16 (u2,u3,b3) _ ⟨HB.out,H2.out,H3.out,HN.out,HZ.out,HK2.out,HK3.out⟩)
  intro hC24
  refine join_ (σ:=Value) 8 #[fF,tT,tT,fF,fF,tT,tT,fF,tT,tT,tT,fF,fF,fF,fF] (fun s=>[(13,s)]) (fun s w'=>Below w2.heap.size w2 w'∧Kd.R k60 71 w' w.heap.size (fun _=>True) s []∧(∀j,Value.ownBlock s=some j→w2.heap.size≤j)) ?_ ?_
  ·skip
   rintro u3 x0 ⟨h_0,h_1,h_2⟩
   have HB:=AK (show Below w2.heap.size w2 x0 from h_0)
   have H3:=AK (show Kd.R k60 71 x0 w.heap.size (fun _=>True) u3 []from h_1)
   have HK3:=AK (show (∀j,Value.ownBlock u3=some j→w2.heap.size≤j)from h_2)
   clear h_0 h_1 h_2
   refine norm_ (a':=?_) ?_ ?_
   rotate_left
   ·show (Act.put _ (some 13) _)=_
    exact zP
   refine three_ (i:=0) (j:=4) (k:=13) (Ni:=some 5) (Nj:=some 9) (Nk:=some 3) (bM 15 1895) (bM 15 1910) (bM 15 10086) rfl rfl rfl rfl rfl rfl (three_of HT_.out (by kernel_rfl)) (by decide) (by decide) (by decide) (fun K hK=>?_) (fun K hK=>?_) (fun K hK=>?_)
   ·skip
    refine lit0_step (Kd.int .i64) (W:=x0) w.heap.size 3 (by rfl) (N:=5) rfl ?hr (bst HW1.out.1 HB.out).size ?_;(case hr=>first|(go_simp;done)|(go_simp;rfl))
    intro u1 x1 hr hb hn
    have HK1:=AK (fresh_new HB.out.size hn)
    replace H3:=AK (Kd.R_below H3.out hb)
    replace HB:=AK (bst HB.out hb)
    have H1:=AK hr
    clear hr hb hn
    refine hK.out _ _ ⟨pcb HB.out (box4 HW1.out.2.1).2.1,pcb HB.out (box4 HW1.out.2.1).2.2.1,pcb HB.out (box4 HW1.out.2.1).2.2.2⟩ (fun hHeld=>?_)
    clear hK K
    refine nO (some 5) ?_
    exact norm_ zJ (hC23 (u1,u3) _ ⟨HB.out,H1.out,H3.out,HK1.out,HK3.out⟩)
   ·skip
    refine lit0_step k60 (W:=x0) w.heap.size 71 (by rfl) (N:=9) rfl ?hr (bst HW1.out.1 HB.out).size ?_;(case hr=>first|(go_simp;done)|(go_simp;rfl))
    intro u2 x1 hr hb hn
    have HN:=AK (show NeRow u2 u3 from ne_symm (NeRow_new (Kd.R_lt H3.out) hn))
    have HK2:=AK (fresh_new HB.out.size hn)
    replace H3:=AK (Kd.R_below H3.out hb)
    replace HB:=AK (bst HB.out hb)
    have H2:=AK hr
    clear hr hb hn
    refine hK.out _ _ ⟨pcb HB.out (box4 HW1.out.2.1).2.1,pcb HB.out (box4 HW1.out.2.1).2.2.1,pcb HB.out (box4 HW1.out.2.1).2.2.2⟩ (fun hHeld=>?_)
    clear hK K
    refine nO (some 9) ?_
    exact norm_ zJ (hC24 (u2,u3) _ ⟨HB.out,H2.out,H3.out,HN.out,HK2.out,HK3.out⟩)
   ·skip
    refine box_step ?hg (N:=3) ?hd (cs:=#[.slice none 0 0,.slice none 0 0,.slice none 0 0,.slice none 0 0]) (t:=33) ?hr ?_;(case hd=>rfl);(case hg=>rfl);(case hr=>first|(go_simp;done)|(go_simp;rfl))
    intro b3 hg x1 hbox hb
    have HZ:=AK (show _∧_ from⟨hbox,show w2.heap.size≤b3 by rw[hg];exact HB.out.size⟩)
    clear hg hbox
    replace H3:=AK (Kd.R_below H3.out hb)
    replace HB:=AK (bst HB.out hb)
    clear hb
    refine hK.out _ _ ⟨pcb HB.out (box4 HW1.out.2.1).2.1,pcb HB.out (box4 HW1.out.2.1).2.2.1,pcb HB.out (box4 HW1.out.2.1).2.2.2⟩ (fun hHeld=>?_)
    clear hK K
    refine nO (some 3) ?_
    exact norm_ zJ (hC22 (u3,b3) _ ⟨HB.out,H3.out,HZ.out,HK3.out⟩)
  intro hC25
  refine join_ (σ:=Nat) 8 #[fF,tT,tT,fF,fF,tT,tT,fF,fF,tT,tT,fF,fF,tT,fF] (fun s=>[(3,(.pointer (some ⟨s,0,none⟩)))]) (fun s w'=>Below w2.heap.size w2 w'∧(w'.heap[s]?=some (.cells #[.slice none 0 0,.slice none 0 0,.slice none 0 0,.slice none 0 0] 33 (0,0))∧w2.heap.size≤s)) ?_ ?_
  ·skip
   rintro b3 x0 ⟨h_0,h_1⟩
   have HB:=AK (show Below w2.heap.size w2 x0 from h_0)
   have HZ:=AK (show (x0.heap[b3]?=some (.cells #[.slice none 0 0,.slice none 0 0,.slice none 0 0,.slice none 0 0] 33 (0,0))∧w2.heap.size≤b3)from h_1)
   clear h_0 h_1
   refine norm_ (a':=?_) ?_ ?_
   rotate_left
   ·show (Act.put _ (some 3) _)=_
    exact zP
   refine three_ (i:=0) (j:=4) (k:=8) (Ni:=some 5) (Nj:=some 9) (Nk:=some 13) (bM 15 9831) (bM 15 9846) (bM 15 10086) rfl rfl rfl rfl rfl rfl (three_of HT_.out (by kernel_rfl)) (by decide) (by decide) (by decide) (fun K hK=>?_) (fun K hK=>?_) (fun K hK=>?_)
   ·skip
    refine lit0_step (Kd.int .i64) (W:=x0) w.heap.size 3 (by rfl) (N:=5) rfl ?hr (bst HW1.out.1 HB.out).size ?_;(case hr=>first|(go_simp;done)|(go_simp;rfl))
    intro u1 x1 hr hb hn
    have HK1:=AK (fresh_new HB.out.size hn)
    replace HZ:=AK (show _∧_ from⟨bbl HZ.out.1 hb,HZ.out.2⟩)
    replace HB:=AK (bst HB.out hb)
    have H1:=AK hr
    clear hr hb hn
    refine hK.out _ _ ⟨pcb HB.out (box4 HW1.out.2.1).2.1,pcb HB.out (box4 HW1.out.2.1).2.2.1,pcb HB.out (box4 HW1.out.2.1).2.2.2⟩ (fun hHeld=>?_)
    clear hK K
    refine nO (some 5) ?_
    exact norm_ zJ (hC18 (u1,b3) _ ⟨HB.out,H1.out,HZ.out,HK1.out⟩)
   ·skip
    refine lit0_step k60 (W:=x0) w.heap.size 71 (by rfl) (N:=9) rfl ?hr (bst HW1.out.1 HB.out).size ?_;(case hr=>first|(go_simp;done)|(go_simp;rfl))
    intro u2 x1 hr hb hn
    have HK2:=AK (fresh_new HB.out.size hn)
    replace HZ:=AK (show _∧_ from⟨bbl HZ.out.1 hb,HZ.out.2⟩)
    replace HB:=AK (bst HB.out hb)
    have H2:=AK hr
    clear hr hb hn
    refine hK.out _ _ ⟨pcb HB.out (box4 HW1.out.2.1).2.1,pcb HB.out (box4 HW1.out.2.1).2.2.1,pcb HB.out (box4 HW1.out.2.1).2.2.2⟩ (fun hHeld=>?_)
    clear hK K
    refine nO (some 9) ?_
    exact norm_ zJ (hC19 (u2,b3) _ ⟨HB.out,H2.out,HZ.out,HK2.out⟩)
   ·skip
    refine lit0_step k60 (W:=x0) w.heap.size 71 (by rfl) (N:=13) rfl ?hr (bst HW1.out.1 HB.out).size ?_;(case hr=>first|(go_simp;done)|(go_simp;rfl))
    intro u3 x1 hr hb hn
    have HK3:=AK (fresh_new HB.out.size hn)
    replace HZ:=AK (show _∧_ from⟨bbl HZ.out.1 hb,HZ.out.2⟩)
    replace HB:=AK (bst HB.out hb)
    have H3:=AK hr
    clear hr hb hn
    refine hK.out _ _ ⟨pcb HB.out (box4 HW1.out.2.1).2.1,pcb HB.out (box4 HW1.out.2.1).2.2.1,pcb HB.out (box4 HW1.out.2.1).2.2.2⟩ (fun hHeld=>?_)
    clear hK K
    refine nO (some 13) ?_
    exact norm_ zJ (hC22 (u3,b3) _ ⟨HB.out,H3.out,HZ.out,HK3.out⟩)
  intro hC26
  refine join_ (σ:=Value) 8 #[fF,tT,tT,fF,tT,tT,tT,fF,fF,tT,tT,fF,fF,fF,fF] (fun s=>[(9,s)]) (fun s w'=>Below w2.heap.size w2 w'∧Kd.R k60 71 w' w.heap.size (fun _=>True) s []∧(∀j,Value.ownBlock s=some j→w2.heap.size≤j)) ?_ ?_
  ·skip
   rintro u2 x0 ⟨h_0,h_1,h_2⟩
   have HB:=AK (show Below w2.heap.size w2 x0 from h_0)
   have H2:=AK (show Kd.R k60 71 x0 w.heap.size (fun _=>True) u2 []from h_1)
   have HK2:=AK (show (∀j,Value.ownBlock u2=some j→w2.heap.size≤j)from h_2)
   clear h_0 h_1 h_2
   refine norm_ (a':=?_) ?_ ?_
   rotate_left
   ·show (Act.put _ (some 9) _)=_
    exact zP
   refine three_ (i:=0) (j:=8) (k:=13) (Ni:=some 5) (Nj:=some 13) (Nk:=some 3) (bM 15 1655) (bM 15 1910) (bM 15 9846) rfl rfl rfl rfl rfl rfl (three_of HT_.out (by kernel_rfl)) (by decide) (by decide) (by decide) (fun K hK=>?_) (fun K hK=>?_) (fun K hK=>?_)
   ·skip
    refine lit0_step (Kd.int .i64) (W:=x0) w.heap.size 3 (by rfl) (N:=5) rfl ?hr (bst HW1.out.1 HB.out).size ?_;(case hr=>first|(go_simp;done)|(go_simp;rfl))
    intro u1 x1 hr hb hn
    have HK1:=AK (fresh_new HB.out.size hn)
    replace H2:=AK (Kd.R_below H2.out hb)
    replace HB:=AK (bst HB.out hb)
    have H1:=AK hr
    clear hr hb hn
    refine hK.out _ _ ⟨pcb HB.out (box4 HW1.out.2.1).2.1,pcb HB.out (box4 HW1.out.2.1).2.2.1,pcb HB.out (box4 HW1.out.2.1).2.2.2⟩ (fun hHeld=>?_)
    clear hK K
    refine nO (some 5) ?_
    exact norm_ zJ (hC21 (u1,u2) _ ⟨HB.out,H1.out,H2.out,HK1.out,HK2.out⟩)
   ·skip
    refine lit0_step k60 (W:=x0) w.heap.size 71 (by rfl) (N:=13) rfl ?hr (bst HW1.out.1 HB.out).size ?_;(case hr=>first|(go_simp;done)|(go_simp;rfl))
    intro u3 x1 hr hb hn
    have HN:=AK (show NeRow u2 u3 from NeRow_new (Kd.R_lt H2.out) hn)
    have HK3:=AK (fresh_new HB.out.size hn)
    replace H2:=AK (Kd.R_below H2.out hb)
    replace HB:=AK (bst HB.out hb)
    have H3:=AK hr
    clear hr hb hn
    refine hK.out _ _ ⟨pcb HB.out (box4 HW1.out.2.1).2.1,pcb HB.out (box4 HW1.out.2.1).2.2.1,pcb HB.out (box4 HW1.out.2.1).2.2.2⟩ (fun hHeld=>?_)
    clear hK K
    refine nO (some 13) ?_
    exact norm_ zJ (hC24 (u2,u3) _ ⟨HB.out,H2.out,H3.out,HN.out,HK2.out,HK3.out⟩)
   ·skip
    refine box_step ?hg (N:=3) ?hd (cs:=#[.slice none 0 0,.slice none 0 0,.slice none 0 0,.slice none 0 0]) (t:=33) ?hr ?_;(case hd=>rfl);(case hg=>rfl);(case hr=>first|(go_simp;done)|(go_simp;rfl))
    intro b3 hg x1 hbox hb
    have HZ:=AK (show _∧_ from⟨hbox,show w2.heap.size≤b3 by rw[hg];exact HB.out.size⟩)
    clear hg hbox
    replace H2:=AK (Kd.R_below H2.out hb)
    replace HB:=AK (bst HB.out hb)
    clear hb
    refine hK.out _ _ ⟨pcb HB.out (box4 HW1.out.2.1).2.1,pcb HB.out (box4 HW1.out.2.1).2.2.1,pcb HB.out (box4 HW1.out.2.1).2.2.2⟩ (fun hHeld=>?_)
    clear hK K
    refine nO (some 3) ?_
    exact norm_ zJ (hC19 (u2,b3) _ ⟨HB.out,H2.out,HZ.out,HK2.out⟩)
  intro hC27
  refine join_ (σ:=Value) 8 #[tT,tT,tT,fF,fF,tT,tT,fF,fF,tT,tT,fF,fF,fF,fF] (fun s=>[(5,s)]) (fun s w'=>Below w2.heap.size w2 w'∧Kd.R (Kd.int .i64) 3 w' w.heap.size (fun _=>True) s []∧(∀j,Value.ownBlock s=some j→w2.heap.size≤j)) ?_ ?_
  ·skip
   rintro u1 x0 ⟨h_0,h_1,h_2⟩
   have HB:=AK (show Below w2.heap.size w2 x0 from h_0)
   have H1:=AK (show Kd.R (Kd.int .i64) 3 x0 w.heap.size (fun _=>True) u1 []from h_1)
   have HK1:=AK (show (∀j,Value.ownBlock u1=some j→w2.heap.size≤j)from h_2)
   clear h_0 h_1 h_2
   refine norm_ (a':=?_) ?_ ?_
   rotate_left
   ·show (Act.put _ (some 5) _)=_
    exact zP
   refine four_ (i:=3) (j:=4) (k:=8) (m:=13) (Ni:=some 8) (Nj:=some 9) (Nk:=some 13) (Nm:=some 3) #[tT,tT,tT,tT,fF,tT,tT,fF,fF,tT,tT,fF,fF,fF,fF] #[tT,tT,tT,fF,tT,tT,tT,fF,fF,tT,tT,fF,fF,fF,fF] #[tT,tT,tT,fF,fF,tT,tT,fF,tT,tT,tT,fF,fF,fF,fF] #[tT,tT,tT,fF,fF,tT,tT,fF,fF,tT,tT,fF,fF,tT,fF] rfl rfl rfl rfl rfl rfl rfl rfl (four_of HT_.out (by kernel_rfl)) (by decide) (by decide) (by decide) (by decide) (fun K hK=>?_) (fun K hK=>?_) (fun K hK=>?_) (fun K hK=>?_)
   ·skip
    refine app0_step (Kd.int .i64) (w0:=w) (W:=x0) w.heap.size (by rfl) (.tmp 5) (.tmp 7) 29 3 (.int .i64 0) 8 rfl Tryd.underlying29 info3 rfl (by decide) (by omega) u1 l1 A1 c1 rfl rfl H1.out (HI0.out.below (bst HW1.out.1 HB.out)).r1 (fun _ _ h=>h) (bst HW1.out.1 HB.out) (bst HW1.out.1 HB.out).size (by have:=HL.out.r;omega) ?_
    intro v1 x1 hr hb hg hat
    obtain⟨R1,e1,e⟩:=Kd.R_slice hr
    subst e
    have N0:=AK (below_grownU HB.out hg HK1.out)
    have NK1:=AK (fresh_after HK1.out HB.out.size hat)
    clear HB H1;have HB:=N0;have H1:=AK hr;clear N0 hr hb hg hat;clear HK1;have HK1:=NK1;clear NK1
    refine hK.out _ _ ⟨pcb HB.out (box4 HW1.out.2.1).2.1,pcb HB.out (box4 HW1.out.2.1).2.2.1,pcb HB.out (box4 HW1.out.2.1).2.2.2⟩ (fun hHeld=>?_)
    clear hK K
    refine nO (some 8) ?_
    exact norm_ zJ (hC20 (u1,R1,e1) _ ⟨HB.out,H1.out,HK1.out⟩)
   ·skip
    refine lit0_step k60 (W:=x0) w.heap.size 71 (by rfl) (N:=9) rfl ?hr (bst HW1.out.1 HB.out).size ?_;(case hr=>first|(go_simp;done)|(go_simp;rfl))
    intro u2 x1 hr hb hn
    have HK2:=AK (fresh_new HB.out.size hn)
    replace H1:=AK (Kd.R_below H1.out hb)
    replace HB:=AK (bst HB.out hb)
    have H2:=AK hr
    clear hr hb hn
    refine hK.out _ _ ⟨pcb HB.out (box4 HW1.out.2.1).2.1,pcb HB.out (box4 HW1.out.2.1).2.2.1,pcb HB.out (box4 HW1.out.2.1).2.2.2⟩ (fun hHeld=>?_)
    clear hK K
    refine nO (some 9) ?_
    exact norm_ zJ (hC21 (u1,u2) _ ⟨HB.out,H1.out,H2.out,HK1.out,HK2.out⟩)
   ·skip
    refine lit0_step k60 (W:=x0) w.heap.size 71 (by rfl) (N:=13) rfl ?hr (bst HW1.out.1 HB.out).size ?_;(case hr=>first|(go_simp;done)|(go_simp;rfl))
    intro u3 x1 hr hb hn
    have HK3:=AK (fresh_new HB.out.size hn)
    replace H1:=AK (Kd.R_below H1.out hb)
    replace HB:=AK (bst HB.out hb)
    have H3:=AK hr
    clear hr hb hn
    refine hK.out _ _ ⟨pcb HB.out (box4 HW1.out.2.1).2.1,pcb HB.out (box4 HW1.out.2.1).2.2.1,pcb HB.out (box4 HW1.out.2.1).2.2.2⟩ (fun hHeld=>?_)
    clear hK K
    refine nO (some 13) ?_
    exact norm_ zJ (hC23 (u1,u3) _ ⟨HB.out,H1.out,H3.out,HK1.out,HK3.out⟩)
   ·skip
    refine box_step ?hg (N:=3) ?hd (cs:=#[.slice none 0 0,.slice none 0 0,.slice none 0 0,.slice none 0 0]) (t:=33) ?hr ?_;(case hd=>rfl);(case hg=>rfl);(case hr=>first|(go_simp;done)|(go_simp;rfl))
    intro b3 hg x1 hbox hb
    have HZ:=AK (show _∧_ from⟨hbox,show w2.heap.size≤b3 by rw[hg];exact HB.out.size⟩)
    clear hg hbox
    replace H1:=AK (Kd.R_below H1.out hb)
    replace HB:=AK (bst HB.out hb)
    clear hb
    refine hK.out _ _ ⟨pcb HB.out (box4 HW1.out.2.1).2.1,pcb HB.out (box4 HW1.out.2.1).2.2.1,pcb HB.out (box4 HW1.out.2.1).2.2.2⟩ (fun hHeld=>?_)
    clear hK K
    refine nO (some 3) ?_
    exact norm_ zJ (hC18 (u1,b3) _ ⟨HB.out,H1.out,HZ.out,HK1.out⟩)
  intro hC28
  have HB:=AK (Below.refl w2.heap.size w2)
  refine four_ (i:=0) (j:=4) (k:=8) (m:=13) (Ni:=some 5) (Nj:=some 9) (Nk:=some 13) (Nm:=some 3) #[tT,tT,tT,fF,fF,tT,tT,fF,fF,tT,tT,fF,fF,fF,fF] #[fF,tT,tT,fF,tT,tT,tT,fF,fF,tT,tT,fF,fF,fF,fF] #[fF,tT,tT,fF,fF,tT,tT,fF,tT,tT,tT,fF,fF,fF,fF] #[fF,tT,tT,fF,fF,tT,tT,fF,fF,tT,tT,fF,fF,tT,fF] rfl rfl rfl rfl rfl rfl rfl rfl (four_of HT_.out (by kernel_rfl)) (by decide) (by decide) (by decide) (by decide) (fun K hK=>?_) (fun K hK=>?_) (fun K hK=>?_) (fun K hK=>?_)
  ·skip
   refine lit0_step (Kd.int .i64) (W:=w2) w.heap.size 3 (by rfl) (N:=5) rfl ?hr (bst HW1.out.1 HB.out).size ?_;(case hr=>first|(go_simp;done)|(go_simp;rfl))
   intro u1 x1 hr hb hn
   have HK1:=AK (fresh_new HB.out.size hn)
   replace HB:=AK (bst HB.out hb)
   have H1:=AK hr
   clear hr hb hn
   refine hK.out _ _ ⟨pcb HB.out (box4 HW1.out.2.1).2.1,pcb HB.out (box4 HW1.out.2.1).2.2.1,pcb HB.out (box4 HW1.out.2.1).2.2.2⟩ (fun hHeld=>?_)
   clear hK K
   refine nO (some 5) ?_
   exact norm_ zJ (hC28 (u1) _ ⟨HB.out,H1.out,HK1.out⟩)
  ·skip
   refine lit0_step k60 (W:=w2) w.heap.size 71 (by rfl) (N:=9) rfl ?hr (bst HW1.out.1 HB.out).size ?_;(case hr=>first|(go_simp;done)|(go_simp;rfl))
   intro u2 x1 hr hb hn
   have HK2:=AK (fresh_new HB.out.size hn)
   replace HB:=AK (bst HB.out hb)
   have H2:=AK hr
   clear hr hb hn
   refine hK.out _ _ ⟨pcb HB.out (box4 HW1.out.2.1).2.1,pcb HB.out (box4 HW1.out.2.1).2.2.1,pcb HB.out (box4 HW1.out.2.1).2.2.2⟩ (fun hHeld=>?_)
   clear hK K
   refine nO (some 9) ?_
   exact norm_ zJ (hC27 (u2) _ ⟨HB.out,H2.out,HK2.out⟩)
  ·skip
   refine lit0_step k60 (W:=w2) w.heap.size 71 (by rfl) (N:=13) rfl ?hr (bst HW1.out.1 HB.out).size ?_;(case hr=>first|(go_simp;done)|(go_simp;rfl))
   intro u3 x1 hr hb hn
   have HK3:=AK (fresh_new HB.out.size hn)
   replace HB:=AK (bst HB.out hb)
   have H3:=AK hr
   clear hr hb hn
   refine hK.out _ _ ⟨pcb HB.out (box4 HW1.out.2.1).2.1,pcb HB.out (box4 HW1.out.2.1).2.2.1,pcb HB.out (box4 HW1.out.2.1).2.2.2⟩ (fun hHeld=>?_)
   clear hK K
   refine nO (some 13) ?_
   exact norm_ zJ (hC25 (u3) _ ⟨HB.out,H3.out,HK3.out⟩)
  ·skip
   refine box_step ?hg (N:=3) ?hd (cs:=#[.slice none 0 0,.slice none 0 0,.slice none 0 0,.slice none 0 0]) (t:=33) ?hr ?_;(case hd=>rfl);(case hg=>rfl);(case hr=>first|(go_simp;done)|(go_simp;rfl))
   intro b3 hg x1 hbox hb
   have HZ:=AK (show _∧_ from⟨hbox,show w2.heap.size≤b3 by rw[hg];exact HB.out.size⟩)
   clear hg hbox
   replace HB:=AK (bst HB.out hb)
   clear hb
   refine hK.out _ _ ⟨pcb HB.out (box4 HW1.out.2.1).2.1,pcb HB.out (box4 HW1.out.2.1).2.2.1,pcb HB.out (box4 HW1.out.2.1).2.2.2⟩ (fun hHeld=>?_)
   clear hK K
   refine nO (some 3) ?_
   exact norm_ zJ (hC26 (b3) _ ⟨HB.out,HZ.out⟩)
 clear hHeld
 rintro⟨u1,R1,e1,u2,R2,e2,u3,R3,e3,b3⟩ w3 ⟨h_0,h_1,h_2,h_3,h_4,h_5,h_6,h_7,h_8⟩
 have HB:=AK (show Below w2.heap.size w2 w3 from h_0)
 have H1:=AK (show Kd.R (Kd.int .i64) 3 w3 w.heap.size (fun _=>True) (Value.slice R1 l1.length e1) l1 from h_1)
 have H2:=AK (show Kd.R k60 71 w3 w.heap.size (fun _=>True) (Value.slice R2 l2.length e2) l2 from h_2)
 have H3:=AK (show Kd.R k60 71 w3 w.heap.size (fun _=>True) (Value.slice R3 l3.length e3) l3 from h_3)
 have HN:=AK (show NeRow (Value.slice R2 l2.length e2) (Value.slice R3 l3.length e3)from h_4)
 have HZ:=AK (show (w3.heap[b3]?=some (.cells #[.slice none 0 0,.slice none 0 0,.slice none 0 0,.slice none 0 0] 33 (0,0))∧w2.heap.size≤b3)from h_5)
 have HK1:=AK (show (∀j,Value.ownBlock (Value.slice R1 l1.length e1)=some j→w2.heap.size≤j)from h_6)
 have HK2:=AK (show (∀j,Value.ownBlock (Value.slice R2 l2.length e2)=some j→w2.heap.size≤j)from h_7)
 have HK3:=AK (show (∀j,Value.ownBlock (Value.slice R3 l3.length e3)=some j→w2.heap.size≤j)from h_8)
 clear h_0 h_1 h_2 h_3 h_4 h_5 h_6 h_7 h_8
 refine norm_ (a':=?_) ?_ ?_
 rotate_left
 ·show (Act.put (Act.put (Act.put (Act.put (Act.put (Act.put (Act.put (Act.put _ (some 5) _) (some 8) _) (some 9) _) (some 12) _) (some 13) _) (some 16) _) (some 3) _) (some 17) _)=_
  exact zP
 have hlt:=blk_lt HW1.out.2.2
 have hbl:=HZ.out.2
 have HC:=AK (show CL w w3.heap.size b3 #[.slice A0 l0.length c0,.slice A1 l1.length c1,.slice A2 l2.length c2,.slice A3 l3.length c3] (.slice none 0 0) [] R1 R2 R3 e1 e2 e3 l1 l2 l3 (set4 w3 b3 (.slice none 0 0) (.slice R1 l1.length e1) (.slice R2 l2.length e2) (.slice R3 l3.length e3))from
  ⟨set4_below (bst HW1.out.1 HB.out) (by omega),set4_far (bbl HW1.out.2.1 HB.out) (by omega),set4_far (bbl HW1.out.2.2 HB.out) (by omega),set4_blk HZ.out.1,Kd.S_nil _ _ _ _ _,set4_R (Kd.R_mono (Kd.R_bound H1.out) (fun k hk=>hk.2.2.1)) HZ.out.1 (int_ap 33 (by decide)),set4_R H2.out HZ.out.1 (k60_ap 33 (by decide)),set4_R H3.out HZ.out.1 (k60_ap 33 (by decide)),by omega⟩)
 have HM:=AK (show w3.heap.size≤((((w3.setCell ⟨b3,0,none⟩ (.slice none 0 0)).setCell ⟨b3,1,none⟩ (.slice R1 l1.length e1)).setCell ⟨b3,2,none⟩ (.slice R2 l2.length e2)).setCell ⟨b3,3,none⟩ (.slice R3 l3.length e3)).heap.size by rw[size_set,size_set,size_set,size_set];exact Nat.le_refl _)
 replace HC:=AK (show CL w w3.heap.size b3 #[.slice A0 l0.length c0,.slice A1 l1.length c1,.slice A2 l2.length c2,.slice A3 l3.length c3] (.slice none 0 0) [] R1 R2 R3 e1 e2 e3 l1 l2 l3 ((((w3.setCell ⟨b3,0,none⟩ (.slice none 0 0)).setCell ⟨b3,1,none⟩ (.slice R1 l1.length e1)).setCell ⟨b3,2,none⟩ (.slice R2 l2.length e2)).setCell ⟨b3,3,none⟩ (.slice R3 l3.length e3))from HC.out)
 obtain⟨z0,z1,z2,z3⟩:=box4 HZ.out.1
 have y0:=bfz HZ.out.1 0
 have y1:=bfz HZ.out.1 1
 have y2:=bfz HZ.out.1 2
 have y3:=bfz HZ.out.1 3
 refine one_ (i:=14) (N:=none) (bM 15 32767) rfl rfl (one_of HT_.out (by kernel_rfl)) (by decide) (fun K hK=>?_)
 refine skip_ (w1:=?_) (by rfl) rfl ?_ ?_
 rotate_left
 ·go_simp
  rfl
 refine hK.out _ _ ⟨(box4 HC.out.x).2.1,(box4 HC.out.x).2.2.1,(box4 HC.out.x).2.2.2⟩ (fun hHeld=>?_)
 clear hK K
 refine done_ (done_of HT_.out (by kernel_rfl)) ?_
 clear HT_ HW_ hHeld z0 z1 z2 z3 y0 y1 y2 y3 HZ H1 H2 H3 HK1 HK2 HK3 HB HW1 hlt hbl
 generalize ((((w3.setCell ⟨b3,0,none⟩ (.slice none 0 0)).setCell ⟨b3,1,none⟩ (.slice R1 l1.length e1)).setCell ⟨b3,2,none⟩ (.slice R2 l2.length e2)).setCell ⟨b3,3,none⟩ (.slice R3 l3.length e3))=w4 at HC HM ⊢
 go_wp2
 go_loopg [4] l0.length (fun kq v4 w'=>∃(i:Int) (Ao:Option Addr) (ao:Nat),v4=.int .i64 i∧Aside0 (0≤i∧i+kq=l0.length)∧Aside0 (w3.heap.size≤w'.heap.size∧CL w w3.heap.size b3 #[.slice A0 l0.length c0,.slice A1 l1.length c1,.slice A2 l2.length c2,.slice A3 l3.length c3] (.slice Ao i.toNat ao) (l0.take i.toNat) R1 R2 R3 e1 e2 e3 l1 l2 l3 w'))
 case atStart=>exact⟨0,none,0,rfl,⟨by omega,by omega⟩,⟨HM.out,HC.out⟩⟩
 case round=>
  clear HC HM
  obtain⟨i,Ao,ao,rfl,HI,HC⟩:=hrel
  obtain⟨p0,p1,p2,p3⟩:=box4 HC.out.2.x
  cases gk with
  | succ k1=>
   have c22:decide (i<(l0.length:Int))=true:=deT (by have:=HI.out;omega)
   have hi0:=eq_true (show 0≤i by have:=HI.out;omega)
   have hi1:=eq_true (show i<(l0.length:Int)by have:=HI.out;omega)
   obtain⟨ad0,Af,cf,e,ha0,ha1,ha2,hal,hag⟩:=at_T38 (HI0.out.below HC.out.2.b).r0 i (by have:=HI.out;omega) (by have:=HI.out;omega)
   subst e
   have htk:l0.take (i+1).toNat=l0.take i.toNat++[rd_T38 l0 i]:=by
    rw[show (i+1).toNat=i.toNat+1 by have:=HI.out;omega,List.take_add_one,List.getElem?_eq_getElem (show i.toNat<l0.length by have:=HI.out;omega)]
    simp[rd_T38,List.getD_eq_getElem?_getD,List.getElem?_eq_getElem (show i.toNat<l0.length by have:=HI.out;omega)]
   obtain⟨o,eo⟩:∃o,o=rd_T38 l0 i:=⟨_,rfl⟩
   have HOL:=AK (show o.f2.length≤1048576 by rw[eo];exact HL.out.f _ (getD_mem l0 z38 i (by have:=HI.out;omega) (by have:=HI.out;omega)))
   rw[←eo]at ha0 ha1 ha2 hal hag htk
   obtain⟨xs,exs⟩:∃xs,xs=l0.take i.toNat:=⟨_,rfl⟩
   rw[←exs]at HC htk
   have HXL:=AK (show (xs++[o]).length=i.toNat+1∧xs.length≤1048576 by
    have h1:xs.length=i.toNat:=by rw[exs,List.length_take];have:=HI.out;omega
    exact⟨by rw[List.length_append,h1];rfl,by have:=HL.out.o;have:=HI.out;omega⟩)
   have HTK:=AK htk
   have HG:=AK (And.intro hag hal)
   have CS:=AK (And.intro (box4 HC.out.2.x).1 (And.intro ha0 (And.intro ha1 ha2)))
   clear eo exs htk hag hal ha0 ha1 ha2
   go_wp2_with fail
   clear p0 p1 p2 p3
   have HB:=AK (below_drew (Below.refl wr.heap.size wr))
   refine start_ (n:=12) (S:=(fun w'=>w'.cell? ⟨b3,0,none⟩=some (.slice Ao i.toNat ao)∧w'.cell? ⟨w.heap.size,0,none⟩=some (.slice (some ad0) l0.length c0)∧w'.cell? (ad0.add (i.toNat*3))=some (.int .i64 o.f0)∧w'.cell? ⟨(ad0.add (i.toNat*3)).block,(ad0.add (i.toNat*3)).off+1,none⟩=some (.string o.f1)∧w'.cell? ⟨(ad0.add (i.toNat*3)).block,(ad0.add (i.toNat*3)).off+2,none⟩=some (.slice Af o.f2.length cf))) (ds:=[9,11]) #[fF,fF,fF,fF,fF,fF,fF,fF,fF,fF,fF,fF] (by kernel_rfl) rfl rfl ⟨pcb HB.out (box4 HC.out.2.o).1,pcb HB.out CS.out.1,pcb HB.out CS.out.2.1,pcb HB.out CS.out.2.2.1,pcb HB.out CS.out.2.2.2⟩ (fun hHeld=>?_);refine with_tabW lcopy5_tab lcopy5_bits (fun HT_ HW_=>?_)
   generalize wr.drew=v5 at HB hHeld ⊢
   refine pU HT_ 0 (some 25) (bM 12 1) ?_
   refine tU HT_ HW_ 1 (some 26) (bM 12 3) hHeld rfl (by refine Or.inl ⟨by rfl,?_⟩;rintro w' ⟨s_0,s_1,s_2,s_3,s_4⟩;go_simp;with_reducible rfl) ?_
   refine pU HT_ 2 (some 27) (bM 12 7) ?_
   refine tU HT_ HW_ 3 (some 28) (bM 12 15) hHeld rfl (by refine Or.inl ⟨by rfl,?_⟩;rintro w' ⟨s_0,s_1,s_2,s_3,s_4⟩;go_simp;with_reducible rfl) ?_
   refine pU HT_ 4 (some 29) (bM 12 31) ?_
   refine pU HT_ 5 (some 30) (bM 12 63) ?_
   refine tU HT_ HW_ 6 (some 31) (bM 12 127) hHeld rfl (by refine Or.inl ⟨by rfl,?_⟩;rintro w' ⟨s_0,s_1,s_2,s_3,s_4⟩;go_simp;with_reducible rfl) ?_
   refine one_ (i:=7) (N:=some 32) (bM 12 255) rfl rfl (one_of HT_.out (by kernel_rfl)) (by decide) (fun K hK=>?_)
   refine goes_ Tryd.func32 (by kernel_rfl) rfl #[.agg #[.int .i64 o.f0,.string o.f1,.slice Af o.f2.length cf]] (by rfl) rfl rfl zI ?_
   refine(l1Obj_c (Kd.C_below HG.out.1 HB.out) HG.out.2 HOL.out).mono ?_
   rintro e v6 ⟨v,rfl,hr,hb⟩
   obtain⟨Rf,rf,e⟩:=Kd.R_slice hr
   subst e
   refine⟨_,rfl,?_⟩
   have HRF:=AK (R_fresh hr (Nat.le_trans HC.out.2.b.size HB.out.size))
   have HSZ:=AK HB.out.size
   replace HB:=AK (bst HB.out hb)
   clear hr hb
   refine hK.out _ _ ⟨pcb HB.out (box4 HC.out.2.o).1,pcb HB.out CS.out.1,pcb HB.out CS.out.2.1,pcb HB.out CS.out.2.2.1,pcb HB.out CS.out.2.2.2⟩ (fun hHeld=>?_)
   clear hK K
   refine nO (some 32) ?_
   refine one_ (i:=8) (N:=some 33) (bM 12 511) rfl rfl (one_of HT_.out (by kernel_rfl)) (by decide) (fun K hK=>?_)
   refine value_ (v:=.slice (some ⟨v6.heap.size,0,none⟩) 1 1) (w1:=v6.alloc (.cells #[.int .i64 o.f0,.string o.f1,.slice Rf o.f2.length rf] 35 (0,0))) (by rfl) rfl ?hr ?_;(case hr=>first|(go_simp;done)|(go_simp;rfl))
   refine hK.out _ _ ⟨pcb (below_alloc HB.out _) (box4 HC.out.2.o).1,pcb (below_alloc HB.out _) CS.out.1,pcb (below_alloc HB.out _) CS.out.2.1,pcb (below_alloc HB.out _) CS.out.2.2.1,pcb (below_alloc HB.out _) CS.out.2.2.2⟩ (fun hHeld=>?_)
   clear hK K
   refine nO (some 33) ?_
   refine last_ (i:=9) (N:=some 34) #[tT,tT,tT,tT,tT,tT,tT,tT,tT,tT,fF,fF] rfl rfl (one_of HT_.out (by kernel_rfl)) (by decide) (fun K hK=>?_)
   have hc6:=HC.out.2.below HB.out
   refine Kd.S_append_step k38 (w0:=w) (W:=v6) w.heap.size (by rfl) (.tmp 26) (.tmp 33) 30 35 (.agg #[.int .i64 0,.string ⟨#[]⟩,.slice none 0 0]) 48 rfl Tryd.underlying30 info38 rfl (by decide) (by omega) (.slice Ao i.toNat ao) xs o [.int .i64 o.f0,.string o.f1,.slice Rf o.f2.length rf] (fun k=>w3.heap.size≤k) (fun k=>some k=(Value.slice Rf o.f2.length rf).ownBlock) rfl rfl ?aP ?aK ?aF ?aO ?aB ?aS ?aL ?_;(case aP=>exact k38_mkM _ _ _ o (Kd.R_tight rfl HRF.out));(case aK=>exact fun k hk=>by have h1:=HRF.out.1 k hk.symm;have h2:=HC.out.1;have h3:=HSZ.out;exact⟨by omega,fun e=>by have h4:=Kd.S_lt HC.out.2.s k e.symm;omega⟩);(case aF=>exact fun k hk=>by have h2:=HC.out.1;have h3:=HB.out.size;omega);(case aO=>exact Kd.S_mono (Kd.S_old HC.out.2.s HB.out) (fun k hk=>⟨hk.1,fun e=>by have h1:=HRF.out.1 k e.symm;have h2:=hk.2;have h3:=HSZ.out;omega⟩));(case aB=>exact hc6.b);(case aS=>exact hc6.b.size);(case aL=>have:=HXL.out.2;omega)
   intro v7 w7 hs hb hg hat
   obtain⟨A7,a7,e⟩:=Kd.S_slice hs
   rw[HXL.out.1]at e
   subst e
   have N0:=AK (hc6.push hs hb hg)
   have N1:=AK (show w3.heap.size≤w7.heap.size from Nat.le_trans (Nat.le_trans HC.out.1 HB.out.size) hg.size)
   have ho7:=blk_grown hc6.o hg (Kd.S_ne hc6.s hc6.o (by decide))
   have z0:=(box4 ho7).1
   have y0:=bfz ho7 0
   have hx7:=(box4 (blk_grown hc6.x hg (Kd.S_ne hc6.s hc6.x (by decide)))).1
   have HX7:=AK hx7
   clear hs hat ho7 hx7
   skip
   refine hK.out _ _ ?_
   clear hK K
   refine nO (some 34) ?_
   refine pU HT_ 10 (some 35) (bM 12 2047) ?_
   refine last_ (i:=11) (N:=none) #[tT,tT,tT,tT,tT,tT,tT,tT,tT,tT,tT,tT] rfl rfl (one_of HT_.out (by kernel_rfl)) (by decide) (fun K hK=>?_)
   refine skip_ (w1:=?_) (by rfl) rfl ?_ ?_
   rotate_left
   ·go_simp
    rfl
   clear z0 y0
   refine hK.out _ _ ?_
   clear hK K
   refine done_ (done_of HT_.out (by kernel_rfl)) ?_
   clear HT_ HW_ hHeld
   go_wp2
   go_roundg k1
   case measure=>omega
   case rel=>
    have h1:=HI.out
    have h2:=HL.out.o
    rw[wrap_succ i (by omega) (by omega)]
    refine⟨i+1,A7,a7,rfl,⟨by omega,by omega⟩,⟨by rw[size_set];exact N1.out,?_⟩⟩
    rw[HTK.out,show (i+1).toNat=i.toNat+1 by omega];exact N0.out
  | zero=>
   have c22:decide (i<(l0.length:Int))=false:=deF (by have:=HI.out;omega)
   have hil:i.toNat=l0.length:=by have:=HI.out;omega
   have hc:=HC.out.2
   rw[hil,List.take_length]at hc
   replace HC:=AK hc
   clear hc hil HI
   obtain⟨q0,q1,q2,q3⟩:=box4 HC.out.o
   obtain⟨z0,z1,z2,z3⟩:=box4 HC.out.z
   have y0:=bfz HC.out.z 0
   have y1:=bfz HC.out.z 1
   have y2:=bfz HC.out.z 2
   have y3:=bfz HC.out.z 3
   go_wp2
   refine bodyPost_ret (results_cell_row rfl _ _ (w.heap.size+1) 33 #[.slice Ao l0.length ao,(.slice R1 l1.length e1),(.slice R2 l2.length e2),(.slice R3 l3.length e3)] (0,0) _ rfl (set4_blk HC.out.z) Tryd.underlying33 rfl (by kernel_rfl)) rfl ?_
   exact⟨Ao,ao,R1,e1,R2,e2,R3,e3,rfl,own_laid2 (n:=w3.heap.size) (set4_S HC.out.s HC.out.z) (set4_R HC.out.r1 HC.out.z (int_ap 33 (by decide))) (set4_R HC.out.r2 HC.out.z (k60_ap 33 (by decide))) (set4_R HC.out.r3 HC.out.z (k60_ap 33 (by decide))) HN.out,set4_below HC.out.b (by omega)⟩
end Go.Proofs.YtigjhfijkdlldaaDoor.H
