import Derived.Test.YtigjhfijkdlldaaDoorSliPu
import Derived.Test.YtigjhfijkdlldaaDoorSliPt
import Derived.Test.YtigjhfijkdlldaaDoorSliPv
import Derived.Test.YtigjhfijkdlldaaDoorSliSa
namespace Go.Proofs.YtigjhfijkdlldaaDoor.H
open Go.RowKit Go.Proofs.YtigjhfijkdlldaaDoorW.PrintWords Go.Proofs.YtigjhfijkdlldaaDoorW.PrintLast Go.Proofs.YtigjhfijkdlldaaDoorW.PrintMore Go.Proofs.YtigjhfijkdlldaaDoor.Q
set_option linter.unusedVariables false
set_option linter.unusedSimpArgs false
structure FitC (l0:List S38) (l2 l3:List S60):Prop where
 w:(l2.length:Int)+l3.length≤4611686018427387903
 f:∀x∈l0,Fit x
def Z28:Obj:=.cells #[.slice none 0 0,.slice none 0 0,.slice none 0 0,.slice none 0 0] 33 (0,0)
structure TI (w:World) (O R:Option Addr) (co cr:Nat) (l0:List S38) (l1:List Int) (m2 m3:List S60) (W D:Option Addr) (cw cd:Nat) (w':World):Prop where
 b:Below w.heap.size w w'
 x:w'.heap[w.heap.size]?=some (.cells #[.slice O l0.length co,.slice R l1.length cr,.slice W m2.length cw,.slice D m3.length cd] 33 (0,0))
 z:w'.heap[w.heap.size+1]?=some Z28
 o:OwnH w' w.heap.size O co R cr W cw D cd l0 l1 m2 m3
theorem TI.below {w w1 w2:World} {O R W D:Option Addr} {co cr cw cd:Nat} {l0:List S38} {l1:List Int} {m2 m3:List S60} (h:TI w O R co cr l0 l1 m2 m3 W D cw cd w1) (hb:Below w1.heap.size w1 w2):TI w O R co cr l0 l1 m2 m3 W D cw cd w2:=
 ⟨bst h.b hb,bbl h.x hb,bbl h.z hb,h.o.below hb⟩
theorem TI.new {w w1:World} {O R W D:Option Addr} {co cr cw cd n:Nat} {l0:List S38} {l1:List Int} {l2 l3:List S60} {p q r s:Value} (hb:Below w.heap.size w w1) (hx:w1.heap[w.heap.size]?=some (.cells #[p,q,r,s] 33 (0,0))) (hz:w1.heap[w.heap.size+1]?=some Z28)
  (ho:OwnH w1 n O co R cr W cw D cd l0 l1 l2 l3) (hn:w.heap.size≤n):TI w O R co cr l0 l1 l2 l3 W D cw cd (set4 w1 w.heap.size (.slice O l0.length co) (.slice R l1.length cr) (.slice W l2.length cw) (.slice D l3.length cd)):=
 ⟨set4_below hb (Nat.le_refl _),set4_blk hx,set4_far hz (by omega),set4_S (Kd.S_lower ho.s0 hn) hx,set4_R (Kd.R_lower ho.s1 hn) hx (int_ap 33 (by decide)),set4_R (Kd.R_lower ho.s2 hn) hx (k60_ap 33 (by decide)),set4_R (Kd.R_lower ho.s3 hn) hx (k60_ap 33 (by decide))⟩
theorem TI.step {w w1 w2 w3:World} {O R W D S E:Option Addr} {co cr cw cd cs ce:Nat} {l0:List S38} {l1:List Int} {m2 m3 s2 s3:List S60} (h:TI w O R co cr l0 l1 m2 m3 W D cw cd w1) (hb:Below w1.heap.size w1 w2)
  (hs:Kd.R k60 71 w2 w1.heap.size (fun _=>True) (.slice S s2.length cs) s2)
  (ha:Kd.R k60 71 w3 w.heap.size (fun k=>some k≠(Value.slice S s2.length cs).ownBlock) (.slice E s3.length ce) s3) (hb3:Below w.heap.size w w3)
  (hg:(w2.setCell ⟨w.heap.size,2,none⟩ (.slice S s2.length cs)).grownBy w3 (Value.slice D m3.length cd).ownBlock) (hat:(Value.slice E s3.length ce).ownBlock=(Value.slice D m3.length cd).ownBlock∨∃b,(Value.slice E s3.length ce).ownBlock=some b∧w2.heap.size≤b) :
  TI w O R co cr l0 l1 s2 s3 S E cs ce (w3.setCell ⟨w.heap.size,3,none⟩ (.slice E s3.length ce)):=by
 have hT:=h.below hb
 have hx2:=blk_put hT.x 2 (.slice S s2.length cs) rfl
 have hz2:=blk_far hT.z (p:=⟨w.heap.size,2,none⟩) (show w.heap.size+1≠w.heap.size by omega) (.slice S s2.length cs)
 have hD2:=Kd.R_set hT.o.s3 hT.x (k60_ap 33 (by decide)) 2 (.slice S s2.length cs)
 have hx3:=blk_grown hx2 hg (Kd.R_ne hD2 hx2 (by decide))
 have hz3:=blk_grown hz2 hg (Kd.R_ne hD2 hz2 (by decide))
 have hlt:∀k,(Value.slice D m3.length cd).ownBlock=some k→k<w1.heap.size:=Kd.R_lt h.o.s3
 have hge:∀k,(Value.slice S s2.length cs).ownBlock=some k→w1.heap.size≤k:=Kd.R_base hs
 have hs2:=Kd.R_set hs hT.x (k60_ap 33 (by decide)) 2 (.slice S s2.length cs)
 have hne:∀k,(Value.slice S s2.length cs).ownBlock=some k→some k≠(Value.slice E s3.length ce).ownBlock:=fun k hk e=>by
  rcases hat with h1|⟨b,h1,h2⟩
  ·rw[h1]at e;have:=hlt k e.symm;have:=hge k hk;omega
  ·rw[h1]at e;injection e with e;subst e
   have:=Kd.R_lt hs k hk;omega
 have hs3:Kd.R k60 71 w3 w.heap.size (fun k=>some k≠(Value.slice E s3.length ce).ownBlock) (.slice S s2.length cs) s2:=by
  have h1:=Kd.R_tight (d:=k60) rfl hs2
  have h2:=Kd.R_step h1 (w1:=w3) (fun k hk hl=>hg.block k hl (fun e=>by have:=hlt k e.symm;have:=hge k hk.symm;omega))
  exact Kd.R_lower (Kd.R_mono h2 (fun k hk=>hne k hk.symm)) h.b.size
 refine⟨below_set hb3 (Nat.le_refl _),blk_put hx3 3 _ rfl,blk_far hz3 (p:=⟨w.heap.size,3,none⟩) (show w.heap.size+1≠w.heap.size by omega) _,?_,?_,?_,?_⟩
 ·exact Kd.S_set (Kd.S_over' (Kd.S_set hT.o.s0 hT.x (k38_ap 33 (by decide) (by decide)) 2 _) (Kd.R_typed hD2) (k38_ap 71 (by decide) (by decide)) hg) hx3 (k38_ap 33 (by decide) (by decide)) 3 _
 ·exact Kd.R_set (Kd.R_over' (Kd.R_set hT.o.s1 hT.x (int_ap 33 (by decide)) 2 _) (Kd.R_typed hD2) (int_ap 71 (by decide)) hg) hx3 (int_ap 33 (by decide)) 3 _
 ·exact Kd.R_set hs3 hx3 (k60_ap 33 (by decide)) 3 _
 ·exact Kd.R_set ha hx3 (k60_ap 33 (by decide)) 3 _
theorem filtS_take (p:S60→Bool) (ws:List S60) (i:Int) (h0:0≤i) (h1:i<ws.length):(ws.take (i+1).toNat).filter p=(ws.take i.toNat).filter p++if p (rd_T60 ws i)then[rd_T60 ws i]else[]:=by
 have h2:i.toNat<ws.length:=by omega
 have e1:rd_T60 ws i=ws[i.toNat]:=by simp[rd_T60,List.getD_eq_getElem?_getD,h2]
 rw[show (i+1).toNat=i.toNat+1 by omega,List.take_add_one,List.getElem?_eq_getElem h2,←e1]
 simp only[Option.toList_some,List.filter_append]
 congr 1
 by_cases c:p (rd_T60 ws i)=true
 ·rw[if_pos c,List.filter_cons_of_pos c];rfl
 ·rw[if_neg c,List.filter_cons_of_neg c];rfl
theorem MI.start {w u1 v2:World} {O R W D X Q:Option Addr} {co cr cw cd cX cQ:Nat} {l0:List S38} {l1 x ql:List Int} {m2 m3:List S60} (hT:TI w O R co cr l0 l1 m2 m3 W D cw cd u1) (hb:Below u1.heap.size u1 v2) (hX:Kd.R (Kd.int .i64) 3 v2 u1.heap.size (fun _=>True) (.slice X x.length cX) x)
  (hQ:Kd.R (Kd.int .i64) 3 v2 u1.heap.size (fun _=>True) (.slice Q ql.length cQ) ql) (hx:GoodL l0.length x):∃(g:Nat) (okM:Nat→Prop) (f:Nat→Nat),MF w u1.heap.size g okM f l0 x R cr l1∧(∀p∈x,O=some ⟨g,0,none⟩) ∧
   MI w u1.heap.size g v2.heap.size (v2.heap.size+1) okM f l0 x #[.slice O l0.length co,.slice R l1.length cr,.slice W m2.length cw,.slice D m3.length cd] R cr l1 W cw m2 D cd m3 X cX Q cQ ql 0 0 (.slice none 0 0) ((v2.alloc (.cells #[.slice Q ql.length cQ] 29 (0,0))).alloc (.cells #[.slice none 0 0,.slice none 0 0,.slice none 0 0,.slice none 0 0] 33 (0,0))):=by
 have hlt:=blk_lt hT.z
 obtain⟨g,f,hg,hU⟩:=S_openA hT.o.s0 (by omega)
 have hB2:=below_alloc (below_alloc (Below.refl v2.heap.size v2) (.cells #[.slice Q ql.length cQ] 29 (0,0))) (.cells #[.slice none 0 0,.slice none 0 0,.slice none 0 0,.slice none 0 0] 33 (0,0))
 have hB:=bst hb hB2
 have hT2:=hT.below hB
 exact⟨g,_,f,⟨hlt,hg,fun k hk=>⟨hk.2.1,hk.2.2,hk.1.2,hk.1.1⟩,hx⟩,fun p hp=>(hU p (hx.2 p hp).1 (hx.2 p hp).2).1,
  ⟨hT2.b,hT2.x,hT2.z,blk_alloc (blk_new v2 _) _,blk_new1 v2 _ _,Kd.R_below hX hB2,Kd.R_below hQ hB2,hT2.o.s1,Kd.R_mono hT2.o.s2 (fun _ _=>trivial),Kd.R_mono hT2.o.s3 (fun _ _=>trivial),fun p hp=>(hU p (hx.2 p hp).1 (hx.2 p hp).2).2.below hB,Kd.S_nil _ _ _ _ _,fun k hk=>by simp[Value.ownBlock]at hk⟩⟩
theorem mixed_set (x:List Int) (l:List Int) (j:Int) (h0:0≤j) (h1:j<l.length):((l.take j.toNat).map (wh x)++l.drop j.toNat).set j.toNat (wh x (rd l j))=(l.take (j+1).toNat).map (wh x)++l.drop (j+1).toNat:=by
 have h2:j.toNat<l.length:=by omega
 rw[drop_cons l 0 j h0 h1,set_at _ _ _ _ _ (by rw[List.length_map,List.length_take];omega),show (j+1).toNat=j.toNat+1 by omega,List.take_add_one,List.getElem?_eq_getElem h2]
 have e:rd l j=l[j.toNat]:=by simp[rd,List.getD_eq_getElem?_getD,h2]
 rw[e,List.map_append,List.append_assoc]
 rfl
theorem mixed_rd (x:List Int) (l:List Int) (j:Int) (h0:0≤j) (h1:j<l.length):rd ((l.take j.toNat).map (wh x)++l.drop j.toNat) j=rd l j:=by
 have h2:j.toNat<l.length:=by omega
 rw[drop_cons l 0 j h0 h1]
 unfold rd
 rw[getD_at _ _ _ _ _ (by rw[List.length_map,List.length_take];omega)]
theorem mixed_len (x:List Int) (l:List Int) (j:Int):((l.take j.toNat).map (wh x)++l.drop j.toNat).length=l.length:=by
 rw[List.length_append,List.length_map,List.length_take,List.length_drop];omega
theorem lim_ok {l0:List S38} {l1:List Int} {l2 l3:List S60} (h:OkH l0 l1 l2 l3):Lim l0 l1 l2 l3:=by
 refine⟨by have:=h.n;omega,fun x hx=>?_,by have:=h.r;omega,by have:=h.w;omega,by have:=h.w;omega⟩
 obtain⟨_,_,h2⟩:=ob_parts (h.o x hx)
 rcases h2 with⟨_,h⟩|⟨_,h⟩|⟨_,h⟩|⟨_,h⟩
 ·rw[h];simp
 ·omega
 ·omega
 ·rw[h];simp
theorem ob_small2 {n:Int} {x:S38} (h:obB n x=true):(∀z∈x.f2,z<n)∧x.f2.length≤6:=by
 obtain⟨h1,_,h2⟩:=ob_parts h
 refine⟨fun z hz=>(h1 z hz).2,?_⟩
 rcases h2 with⟨_,h⟩|⟨_,h⟩|⟨_,h⟩|⟨_,h⟩
 ·rw[h];simp
 ·exact h
 ·omega
 ·rw[h];simp
theorem coll4_tab:rtab .any (opsOf Tryd.f64 4)=(true,[([],[]),([],[]),([1],[1]),([0,2,2],[0,2]),([3,3,0,1,2,3],[3])]):=by kernel_rfl
theorem coll4_bits:waitsOk [([],[]),([],[]),([1],[1]),([0,2,2],[0,2]),([3,3,0,1,2,3],[3])] [0,0,2,7,15]=true:=by kernel_rfl
theorem coll26_tab:rtab .any (opsOf Tryd.f64 26)=(true,[([],[]),([0],[0]),([],[]),([],[]),([],[]),([3,4],[3,4]),([1,2,0,1,2,3,4,5],[1,2]),([6,5,5,0,1,2,3,4,5],[5,6])]):=by kernel_rfl
theorem coll26_bits:waitsOk [([],[]),([0],[0]),([],[]),([],[]),([],[]),([3,4],[3,4]),([1,2,0,1,2,3,4,5],[1,2]),([6,5,5,0,1,2,3,4,5],[5,6])] [0,1,0,0,0,24,63,127]=true:=by kernel_rfl
theorem coll33_tab:rtab .any (opsOf Tryd.f64 33)=(true,[([],[]),([0],[0]),([],[]),([],[]),([2,3],[2,3]),([4],[4]),([1,5,4],[1,5]),([0,1,2,3,4,5,6],[]),([7,6,6,0,1,2,3,4,5,6],[6,7])]):=by kernel_rfl
theorem coll33_bits:waitsOk [([],[]),([0],[0]),([],[]),([],[]),([2,3],[2,3]),([4],[4]),([1,5,4],[1,5]),([0,1,2,3,4,5,6],[]),([7,6,6,0,1,2,3,4,5,6],[6,7])] [0,1,0,0,12,28,63,127,255]=true:=by kernel_rfl
theorem coll36_tab:rtab .any (opsOf Tryd.f64 36)=(true,[([],[]),([],[]),([1],[1]),([0,2],[0,2]),([],[]),([],[]),([5],[5]),([4,6,3],[4,6]),([0,1,2,3],[]),([8,3,7,0,1,2,3],[3,8]),([0,1,2,3,4,5,6,7,8,9],[]),([10,7,9,0,1,2,3,4,5,6,7,8,9],[7,10])]):=by kernel_rfl
theorem coll36_bits:waitsOk [([],[]),([],[]),([1],[1]),([0,2],[0,2]),([],[]),([],[]),([5],[5]),([4,6,3],[4,6]),([0,1,2,3],[]),([8,3,7,0,1,2,3],[3,8]),([0,1,2,3,4,5,6,7,8,9],[]),([10,7,9,0,1,2,3,4,5,6,7,8,9],[7,10])] [0,0,2,7,0,0,32,127,15,511,1023,2047]=true:=by kernel_rfl
theorem coll37_tab:rtab .any (opsOf Tryd.f64 37)=(true,[([],[]),([],[]),([0,0],[0]),([1,2,0,1,2],[1])]):=by kernel_rfl
theorem coll37_bits:waitsOk [([],[]),([],[]),([0,0],[0]),([1,2,0,1,2],[1])] [0,0,1,7]=true:=by kernel_rfl
set_option maxHeartbeats 4000000 in
set_option maxRecDepth 100000 in
theorem MemCollect_calls (A0 A1 A2 A3:Option Addr) (c0 c1 c2 c3:Nat) (l0:List S38) (l1:List Int) (l2 l3:List S60) (w:World) (h:InH w A0 c0 A1 c1 A2 c2 A3 c3 l0 l1 l2 l3) (hf:FitC l0 l2 l3) (G:Hp) (mv:List Int) (hG:(G,mv)=collectB ⟨l0,l1,l2,l3⟩) :
  Calls Tryd.prog 64 #[.agg #[.slice A0 l0.length c0,.slice A1 l1.length c1,.slice A2 l2.length c2,.slice A3 l3.length c3]] w fun e w'=>∃B0 d0 B1 d1 B2 d2 B3 d3 E ee,e=.returned (.tuple #[.agg #[.slice B0 G.o.length d0,.slice B1 G.r.length d1,.slice B2 G.w.length d2,.slice B3 G.d.length d3],.slice E mv.length ee]) ∧
   OwnM w' w.heap.size B0 d0 B1 d1 B2 d2 B3 d3 E ee G mv∧Below w.heap.size w w':=by
 have HI0:=AK h
 have HF:=AK hf
 have HW1:=AK (show Below w.heap.size w ((w.alloc (.cells #[.slice A0 l0.length c0,.slice A1 l1.length c1,.slice A2 l2.length c2,.slice A3 l3.length c3] 33 (0,0))).alloc (.cells #[.slice none 0 0,.slice none 0 0,.slice none 0 0,.slice none 0 0] 33 (0,0)))∧((w.alloc (.cells #[.slice A0 l0.length c0,.slice A1 l1.length c1,.slice A2 l2.length c2,.slice A3 l3.length c3] 33 (0,0))).alloc (.cells #[.slice none 0 0,.slice none 0 0,.slice none 0 0,.slice none 0 0] 33 (0,0))).heap[w.heap.size]?=some (.cells #[.slice A0 l0.length c0,.slice A1 l1.length c1,.slice A2 l2.length c2,.slice A3 l3.length c3] 33 (0,0))∧((w.alloc (.cells #[.slice A0 l0.length c0,.slice A1 l1.length c1,.slice A2 l2.length c2,.slice A3 l3.length c3] 33 (0,0))).alloc (.cells #[.slice none 0 0,.slice none 0 0,.slice none 0 0,.slice none 0 0] 33 (0,0))).heap[w.heap.size+1]?=some Z28 from⟨below_alloc (below_alloc (Below.refl w.heap.size w) _) _,blk_alloc (blk_new w _) _,blk_new1 w _ _⟩)
 have HG:=AK hG
 obtain⟨b,eb⟩:∃b,b=okB l0 l1 l2 l3:=⟨_,rfl⟩
 have EB:=AK eb
 clear h hf hG eb
 go_enter Tryd.func64,Tryd.ntmps64
 go_wp2_with fail
 generalize ((w.alloc (.cells #[.slice A0 l0.length c0,.slice A1 l1.length c1,.slice A2 l2.length c2,.slice A3 l3.length c3] 33 (0,0))).alloc (.cells #[.slice none 0 0,.slice none 0 0,.slice none 0 0,.slice none 0 0] 33 (0,0)))=w1 at HW1 ⊢
 have HB:=AK (Below.refl w1.heap.size w1)
 refine(MemOk_calls _ _ _ _ _ _ _ _ _ _ _ _ _ (HI0.out.below HW1.out.1).r0 (HI0.out.below HW1.out.1).r1 (HI0.out.below HW1.out.1).r2 (HI0.out.below HW1.out.1).r3 HF.out.w HF.out.f).mono ?_
 rintro e w2 ⟨rfl,hb⟩
 rw[←EB.out]
 replace HB:=AK (bst HB.out hb)
 clear hb
 cases b with
 | false=>
  have he:(G,mv)=(hp0,[]):=by rw[HG.out];unfold collectB Hp.ok;rw[←EB.out];rfl
  injection he with he1 he2
  subst he1 he2
  have hz:w2.heap[w.heap.size+1]?=some (.cells #[.slice none 0 0,.slice none 0 0,.slice none 0 0,.slice none 0 0] 33 (0,0)):=bbl HW1.out.2.2 HB.out
  obtain⟨q0,q1,q2,q3⟩:=box4 hz
  have y0:=bfz hz 0
  have y1:=bfz hz 1
  have y2:=bfz hz 2
  have y3:=bfz hz 3
  have HZ:=AK hz
  clear hz
  go_wp2
  refine bodyPost_ret (results_ct rfl _ _ (w.heap.size+1) 33 #[.slice none 0 0,.slice none 0 0,.slice none 0 0,.slice none 0 0] (0,0) _ rfl (set4_blk HZ.out) Tryd.underlying33 rfl (by kernel_rfl)) rfl ?_
  exact⟨none,0,none,0,none,0,none,0,none,0,rfl,⟨Kd.S_nil _ _ _ _ _,Kd.R_nil _ _ _ _ _,Kd.R_nil _ _ _ _ _,Kd.R_nil _ _ _ _ _,Kd.R_nil _ _ _ _ _⟩,set4_below (bst HW1.out.1 HB.out) (by omega)⟩
 | true=>
 have HK:=AK (ok_parts EB.out.symm)
 obtain⟨p0,p1,p2,p3⟩:=box4 (bbl HW1.out.2.1 HB.out)
 go_wp2_with fail
 clear p0 p1 p2 p3
 refine(memCopy_calls _ _ _ _ _ _ _ _ _ _ _ _ _ (HI0.out.below (bst HW1.out.1 HB.out)) (lim_ok HK.out)).mono ?_
 rintro e w3 ⟨O,co,R,cr,W0,cw0,D0,cd0,rfl,hO,hb⟩
 have hx:w3.heap[w.heap.size]?=some (.cells #[.slice A0 l0.length c0,.slice A1 l1.length c1,.slice A2 l2.length c2,.slice A3 l3.length c3] 33 (0,0)):=bbl HW1.out.2.1 (bst HB.out hb)
 have hT:=TI.new (bst HW1.out.1 (bst HB.out hb)) hx (bbl HW1.out.2.2 (bst HB.out hb)) hO (bst HW1.out.1 HB.out).size
 obtain⟨p0,p1,p2,p3⟩:=box4 hx
 have y0:=bfz hx 0
 have y1:=bfz hx 1
 have y2:=bfz hx 2
 have y3:=bfz hx 3
 have HT:=AK hT
 clear hT hb hO hx HB HW1
 go_wp2_with fail
 clear p0 p1 p2 p3 y0 y1 y2 y3
 replace HT:=AK (show TI w O R co cr l0 l1 l2 l3 W0 D0 cw0 cd0 ((((w3.setCell ⟨w.heap.size,0,none⟩ (.slice O l0.length co)).setCell ⟨w.heap.size,1,none⟩ (.slice R l1.length cr)).setCell ⟨w.heap.size,2,none⟩ (.slice W0 l2.length cw0)).setCell ⟨w.heap.size,3,none⟩ (.slice D0 l3.length cd0))from HT.out)
 generalize ((((w3.setCell ⟨w.heap.size,0,none⟩ (.slice O l0.length co)).setCell ⟨w.heap.size,1,none⟩ (.slice R l1.length cr)).setCell ⟨w.heap.size,2,none⟩ (.slice W0 l2.length cw0)).setCell ⟨w.heap.size,3,none⟩ (.slice D0 l3.length cd0))=w4 at HT ⊢
 go_loopg [4] (l2.length+1) (fun kq v4 w'=>∃(m2 m3:List S60) (W D:Option Addr) (cw cd:Nat),Aside0 (OkH l0 l1 m2 m3)∧Aside0 (m2.length<kq)∧Aside0 (tellL l0 l1 kq m2 m3=tellL l0 l1 (l2.length+1) l2 l3)∧Aside0 (TI w O R co cr l0 l1 m2 m3 W D cw cd w'))
 case atStart=>exact⟨l2,l3,W0,D0,cw0,cd0,HK,⟨by omega⟩,⟨rfl⟩,HT⟩
 case round=>
  clear HT HK
  obtain⟨m2,m3,W,D,cw,cd,HK,HM,HE,HT⟩:=hrel
  obtain⟨u0,hu0⟩:∃u,u=wr:=⟨_,rfl⟩
  subst hu0
  obtain⟨k1,rfl⟩:∃k1,gk=k1+1:=⟨gk - 1,by have:=HM.out;omega⟩
  obtain⟨x,ex⟩:∃x,x=reachL l0 l1 m3:=⟨_,rfl⟩
  have EX:=AK ex
  have HGX:=AK (show GoodL l0.length x by rw[ex];exact reach_good HK.out)
  have HE1:=AK (show (if(toldL x m2).length=0 then(m2,m3)else tellL l0 l1 k1 (stayL x m2) (m3++toldL x m2))=tellL l0 l1 (l2.length+1) l2 l3 by rw[←HE.out,ex];rfl)
  clear ex HE
  go_wp2_with fail
  have HB:=AK (below_drew (Below.refl u0.heap.size u0))
  refine start_ (n:=5) (S:=(fun w'=>w'.cell? ⟨w.heap.size,0,none⟩=some (.slice O l0.length co)∧w'.cell? ⟨w.heap.size,1,none⟩=some (.slice R l1.length cr)∧w'.cell? ⟨w.heap.size,2,none⟩=some (.slice W m2.length cw)∧w'.cell? ⟨w.heap.size,3,none⟩=some (.slice D m3.length cd))) (ds:=[]) #[fF,fF,fF,fF,fF] (by kernel_rfl) rfl rfl ⟨pcb HB.out (box4 HT.out.x).1,pcb HB.out (box4 HT.out.x).2.1,pcb HB.out (box4 HT.out.x).2.2.1,pcb HB.out (box4 HT.out.x).2.2.2⟩ (fun hHeld=>?_);refine with_tabW coll4_tab coll4_bits (fun HT_ HW_=>?_)
  generalize u0.drew=v1 at HB hHeld ⊢
  refine tU HT_ HW_ 0 (some 26) (bM 5 1) hHeld rfl (by refine Or.inl ⟨by rfl,?_⟩;rintro w' ⟨s_0,s_1,s_2,s_3⟩;go_simp;with_reducible rfl) ?_
  refine tU HT_ HW_ 1 (some 27) (bM 5 3) hHeld rfl (by refine Or.inl ⟨by rfl,?_⟩;rintro w' ⟨s_0,s_1,s_2,s_3⟩;go_simp;with_reducible rfl) ?_
  refine one_ (i:=2) (N:=some 28) (bM 5 7) rfl rfl (one_of HT_.out (by kernel_rfl)) (by decide) (fun K hK=>?_)
  refine goes_ Tryd.func47 (by kernel_rfl) rfl #[.agg #[.slice O l0.length co,.slice R l1.length cr,.slice W m2.length cw,.slice D m3.length cd]] (by rfl) rfl rfl zI ?_
  refine(memReach_calls _ _ _ _ _ _ _ _ _ _ _ _ _ (HT.out.below HB.out).o.reads HK.out).mono ?_
  rintro e v2 ⟨v,rfl,hr,hb⟩
  rw[←EX.out]at hr
  obtain⟨Ax,cx,ev⟩:=Kd.R_slice hr
  subst ev
  refine⟨_,rfl,?_⟩
  have HX:=AK hr
  replace HB:=AK (bst HB.out hb)
  clear hr hb
  refine hK.out _ _ ⟨pcb HB.out (box4 HT.out.x).1,pcb HB.out (box4 HT.out.x).2.1,pcb HB.out (box4 HT.out.x).2.2.1,pcb HB.out (box4 HT.out.x).2.2.2⟩ (fun hHeld=>?_)
  clear hK K
  refine nO (some 28) ?_
  refine one_ (i:=3) (N:=some 29) (bM 5 15) rfl rfl (one_of HT_.out (by kernel_rfl)) (by decide) (fun K hK=>?_)
  refine goes_ Tryd.func80 (by kernel_rfl) rfl #[.agg #[.slice O l0.length co,.slice R l1.length cr,.slice W m2.length cw,.slice D m3.length cd],.slice Ax x.length cx] (by rfl) rfl rfl zI ?_
  refine(memPlaces_calls _ _ _ _ _ _ _ _ _ _ _ _ _ _ x _ (HT.out.below HB.out).o.reads (Kd.R_reads' HX.out).2.2 (Kd.R_reads' HX.out).2.1 HGX.out HK.out.n).mono ?_
  rintro e v3 ⟨v,rfl,hr,hb⟩
  obtain⟨P,cp,ev⟩:=Kd.R_slice hr
  subst ev
  refine⟨_,rfl,?_⟩
  have HP:=AK (Kd.R_lower hr HB.out.size)
  replace HB:=AK (bst HB.out hb)
  clear hr hb HX
  refine hK.out _ _ ⟨pcb HB.out (box4 HT.out.x).1,pcb HB.out (box4 HT.out.x).2.1,pcb HB.out (box4 HT.out.x).2.2.1,pcb HB.out (box4 HT.out.x).2.2.2⟩ (fun hHeld=>?_)
  clear hK K
  refine nO (some 29) ?_
  refine pU HT_ 4 (some 4) (bM 5 31) ?_
  refine done_ (done_of HT_.out (by kernel_rfl)) ?_
  clear HT_ HW_ hHeld
  have PL:=AK (And.intro (plL_length l0.length x) (fun p h0 (h1:p<((plL l0.length x).length:Int))=>plL_rd l0.length x p h0 (by rw[plL_length]at h1;exact h1)))
  generalize plL l0.length x=pl at HP PL ⊢
  obtain⟨p0,p1,p2,p3⟩:=box4 (bbl HT.out.x HB.out)
  go_wp2_with fail
  clear p0 p1 p2 p3
  go_loopg [5,6,33] m2.length (fun kq v5 v6 v33 w'=>∃i:Int,v33=.int .i64 i∧Aside0 (0≤i∧i+kq=m2.length)∧Aside0 (Below u0.heap.size u0 w')∧Aside0 (Kd.R (Kd.int .i64) 3 w' u0.heap.size (fun _=>True) (.slice P pl.length cp) pl) ∧
   Aside0 (Kd.R k60 71 w' u0.heap.size (fun k=>True∧some k≠v6.ownBlock) v5 (stayL x (m2.take i.toNat)))∧Aside0 (Kd.R k60 71 w' u0.heap.size (fun k=>True∧some k≠v5.ownBlock) v6 (toldL x (m2.take i.toNat))))
  case atStart=>exact⟨0,rfl,⟨by omega,by omega⟩,HB,HP,⟨by exact Kd.R_nil _ _ _ _ _⟩,⟨by exact Kd.R_nil _ _ _ _ _⟩⟩
  case round=>
   clear HB HP
   obtain⟨i,rfl,HI,HB,HP,H5,H6⟩:=hrel
   cases gk with
   | succ k2=>
    have c34:decide (i<(m2.length:Int))=true:=deT (by have:=HI.out;omega)
    have hi0:=eq_true (show 0≤i by have:=HI.out;omega)
    have hi1:=eq_true (show i<(m2.length:Int)by have:=HI.out;omega)
    obtain⟨ad2,e,hz0,hz1⟩:=at_T60 (Kd.R_reads' HT.out.o.s2).2.2 i (by have:=HI.out;omega) (by have:=HI.out;omega)
    subst e
    replace hz0:=pcb HB.out hz0
    replace hz1:=pcb HB.out hz1
    have hw:=wt_parts (HK.out.ws _ (getD_mem m2 z60 i (by have:=HI.out;omega) (by have:=HI.out;omega)))
    have HS:=AK (filtS_take (fun z=>!toldB x z) m2 i (by have:=HI.out;omega) (by have:=HI.out;omega))
    have HTL:=AK (filtS_take (toldB x) m2 i (by have:=HI.out;omega) (by have:=HI.out;omega))
    obtain⟨z,ez⟩:∃z,z=rd_T60 m2 i:=⟨_,rfl⟩
    replace hw:0≤z.f0∧z.f0<pl.length∧0≤z.f1∧z.f1<pl.length:=by rw[PL.out.1,ez];exact⟨hw.1,hw.2.1,hw.2.2.2.1,hw.2.2.2.2⟩
    rw[←ez]at hz0 hz1 HS HTL
    obtain⟨a5,e5⟩:∃a,a=stayL x (m2.take i.toNat):=⟨_,rfl⟩
    obtain⟨a6,e6⟩:∃a,a=toldL x (m2.take i.toNat):=⟨_,rfl⟩
    have HLN:=AK (show a5.length≤20∧a6.length≤20 by
     have h1:=told_stay_len x (m2.take i.toNat)
     rw[←e5,←e6,List.length_take]at h1
     have:=HK.out.w;omega)
    have HS2:=AK (show stayL x (m2.take (i+1).toNat)=a5++if(!toldB x z)=true then[z]else[]by rw[e5];exact HS.out)
    have HT2:=AK (show toldL x (m2.take (i+1).toNat)=a6++if toldB x z=true then[z]else[]by rw[e6];exact HTL.out)
    rw[←e5]at H5
    rw[←e6]at H6
    clear HS HTL e5 e6
    obtain⟨q0,q1,q2,q3⟩:=hw
    obtain⟨ad3,e3,hy0⟩:=Kd.at_int (Kd.R_reads' HP.out).2.2 z.f0 q0 q1
    obtain⟨ad4,e4,hy1⟩:=Kd.at_int (Kd.R_reads' HP.out).2.2 z.f1 q2 q3
    subst e3
    injection e4 with e4
    subst e4
    rw[PL.out.2 _ q0 q1]at hy0
    rw[PL.out.2 _ q2 q3]at hy1
    replace hy0:∀o:Obj,(wr.alloc o).cell? (ad3.add z.f0.toNat)=some (.int .i64 (idxL x z.f0)):=fun o=>pcb (below_alloc (Below.refl _ _) o) hy0
    replace hy1:∀o:Obj,(wr.alloc o).cell? (ad3.add z.f1.toNat)=some (.int .i64 (idxL x z.f1)):=fun o=>pcb (below_alloc (Below.refl _ _) o) hy1
    have f0:=eq_true q0
    have f1:=eq_true q1
    have f2:=eq_true q2
    have f3:=eq_true q3
    obtain⟨S5,c5,e⟩:=Kd.R_slice H5.out
    subst e
    obtain⟨S6,c6,e⟩:=Kd.R_slice H6.out
    subst e
    replace HB:=AK (below_alloc HB.out (.cells #[.int .i64 z.f0,.int .i64 z.f1] 71 (0,0)))
    replace HP:=AK (Kd.R_alloc HP.out (.cells #[.int .i64 z.f0,.int .i64 z.f1] 71 (0,0)))
    replace H5:=AK (Kd.R_alloc H5.out (.cells #[.int .i64 z.f0,.int .i64 z.f1] 71 (0,0)))
    replace H6:=AK (Kd.R_alloc H6.out (.cells #[.int .i64 z.f0,.int .i64 z.f1] 71 (0,0)))
    clear ez q0 q1 q2 q3
    have HTB:∀b:Bool,(decide (0≤idxL x z.f0) && decide (idxL x z.f1<0))=b→toldB x z=b:=fun b h=>h
    obtain⟨tb,etb⟩:∃b,b=toldB x z:=⟨_,rfl⟩
    have ETB:=AK etb
    rw[←etb]at HS2 HT2
    by_cases hv:0≤idxL x z.f0
    ·have g0:decide (idxL x z.f0≥0)=true:=deT hv
     have g0':decide (0≤idxL x z.f0)=true:=deT hv
     by_cases hu:idxL x z.f1<0
     ·have g1:decide (idxL x z.f1<0)=true:=deT hu
      have etb':tb=true:=by rw[ETB.out];exact HTB _ (by rw[g0',g1];rfl)
      clear hv hu etb ETB HTB
      subst etb'
      have FL:=AK trivial
      go_wp2_with (first|((with_reducible refine gate_dst (N:=53) rfl ?_);clear FL;have K8:=AK (blk_new wr (.cells #[.int .i64 z.f0,.int .i64 z.f1] 71 (0,0)));generalize (wr.alloc (.cells #[.int .i64 z.f0,.int .i64 z.f1] 71 (0,0)))=w8 at K8 HB HP H5 H6 ⊢;obtain⟨z0,z1⟩:=box2 K8.out)|((with_reducible refine gate_dst (N:=54) rfl ?_);at_builtin;refine Kd.R_append k60 (w0:=u0) u0.heap.size rfl (.tmp 51) (.tmp 53) 31 71 (.agg #[.int .i64 0,.int .i64 0]) 16 rfl Tryd.underlying31 info60 rfl (by decide) (by omega) (.slice S6 a6.length c6) a6 z [.int .i64 z.f0,.int .i64 z.f1] (fun k=>True∧some k≠(Value.slice S5 a5.length c5).ownBlock) (fun _=>False) rfl rfl ?aP (fun _ hk=>hk.elim) ?aF ?aO ?aB ?aS ?aL ?_;(case aP=>exact k60_mkM _ _ _ z);(case aF=>exact fun k hk=>⟨trivial,fun e=>by have:=Kd.R_lt H5.out k e.symm;omega⟩);(case aO=>exact H6.out);(case aB=>exact HB.out);(case aS=>exact HB.out.size);(case aL=>have:=HLN.out;omega);intro vN wN ho hb hg hat;have N5:=AK (Kd.R_after H5.out hg hat);have NP:=AK (Kd.R_over' HP.out (Kd.R_typed H6.out) (int_ap 71 (by decide)) hg);have NO:=AK ho;have NB:=AK hb;clear ho hb hg hat HB HP H5 H6))
      go_roundg k2
      case measure=>omega
      case rel=>
       have h1:=HI.out
       have h2:=HK.out.w
       rw[wrap_succ i (by omega) (by omega)]
       exact⟨i+1,rfl,⟨by omega,by omega⟩,NB,NP,⟨by rw[HS2.out];simpa using N5.out⟩,⟨by rw[HT2.out];exact NO.out⟩⟩
     ·have g1:decide (idxL x z.f1<0)=false:=deF hu
      have etb':tb=false:=by rw[ETB.out];exact HTB _ (by rw[g0',g1];rfl)
      clear hv hu etb ETB HTB
      subst etb'
      have FL:=AK trivial
      go_wp2_with (first|((with_reducible refine gate_dst (N:=57) rfl ?_);clear FL;have K8:=AK (blk_new wr (.cells #[.int .i64 z.f0,.int .i64 z.f1] 71 (0,0)));generalize (wr.alloc (.cells #[.int .i64 z.f0,.int .i64 z.f1] 71 (0,0)))=w8 at K8 HB HP H5 H6 ⊢;obtain⟨z0,z1⟩:=box2 K8.out)|((with_reducible refine gate_dst (N:=58) rfl ?_);at_builtin;refine Kd.R_append k60 (w0:=u0) u0.heap.size rfl (.tmp 55) (.tmp 57) 31 71 (.agg #[.int .i64 0,.int .i64 0]) 16 rfl Tryd.underlying31 info60 rfl (by decide) (by omega) (.slice S5 a5.length c5) a5 z [.int .i64 z.f0,.int .i64 z.f1] (fun k=>True∧some k≠(Value.slice S6 a6.length c6).ownBlock) (fun _=>False) rfl rfl ?aP (fun _ hk=>hk.elim) ?aF ?aO ?aB ?aS ?aL ?_;(case aP=>exact k60_mkM _ _ _ z);(case aF=>exact fun k hk=>⟨trivial,fun e=>by have:=Kd.R_lt H6.out k e.symm;omega⟩);(case aO=>exact H5.out);(case aB=>exact HB.out);(case aS=>exact HB.out.size);(case aL=>have:=HLN.out;omega);intro vN wN ho hb hg hat;have N5:=AK (Kd.R_after H6.out hg hat);have NP:=AK (Kd.R_over' HP.out (Kd.R_typed H5.out) (int_ap 71 (by decide)) hg);have NO:=AK ho;have NB:=AK hb;clear ho hb hg hat HB HP H5 H6))
      go_roundg k2
      case measure=>omega
      case rel=>
       have h1:=HI.out
       have h2:=HK.out.w
       rw[wrap_succ i (by omega) (by omega)]
       exact⟨i+1,rfl,⟨by omega,by omega⟩,NB,NP,⟨by rw[HS2.out];exact NO.out⟩,⟨by rw[HT2.out];simpa using N5.out⟩⟩
    ·have g0:decide (idxL x z.f0≥0)=false:=deF hv
     have g0':decide (0≤idxL x z.f0)=false:=deF hv
     have etb':tb=false:=by rw[ETB.out];exact HTB _ (by rw[g0'];rfl)
     clear hv etb ETB HTB
     subst etb'
     have FL:=AK trivial
     go_wp2_with (first|((with_reducible refine gate_dst (N:=57) rfl ?_);clear FL;have K8:=AK (blk_new wr (.cells #[.int .i64 z.f0,.int .i64 z.f1] 71 (0,0)));generalize (wr.alloc (.cells #[.int .i64 z.f0,.int .i64 z.f1] 71 (0,0)))=w8 at K8 HB HP H5 H6 ⊢;obtain⟨z0,z1⟩:=box2 K8.out)|((with_reducible refine gate_dst (N:=58) rfl ?_);at_builtin;refine Kd.R_append k60 (w0:=u0) u0.heap.size rfl (.tmp 55) (.tmp 57) 31 71 (.agg #[.int .i64 0,.int .i64 0]) 16 rfl Tryd.underlying31 info60 rfl (by decide) (by omega) (.slice S5 a5.length c5) a5 z [.int .i64 z.f0,.int .i64 z.f1] (fun k=>True∧some k≠(Value.slice S6 a6.length c6).ownBlock) (fun _=>False) rfl rfl ?aP (fun _ hk=>hk.elim) ?aF ?aO ?aB ?aS ?aL ?_;(case aP=>exact k60_mkM _ _ _ z);(case aF=>exact fun k hk=>⟨trivial,fun e=>by have:=Kd.R_lt H6.out k e.symm;omega⟩);(case aO=>exact H5.out);(case aB=>exact HB.out);(case aS=>exact HB.out.size);(case aL=>have:=HLN.out;omega);intro vN wN ho hb hg hat;have N5:=AK (Kd.R_after H6.out hg hat);have NP:=AK (Kd.R_over' HP.out (Kd.R_typed H5.out) (int_ap 71 (by decide)) hg);have NO:=AK ho;have NB:=AK hb;clear ho hb hg hat HB HP H5 H6))
     go_roundg k2
     case measure=>omega
     case rel=>
      have h1:=HI.out
      have h2:=HK.out.w
      rw[wrap_succ i (by omega) (by omega)]
      exact⟨i+1,rfl,⟨by omega,by omega⟩,NB,NP,⟨by rw[HS2.out];exact NO.out⟩,⟨by rw[HT2.out];simpa using N5.out⟩⟩
   | zero=>
    have c34:decide (i<(m2.length:Int))=false:=deF (by have:=HI.out;omega)
    have h5:=H5.out
    have h6:=H6.out
    rw[take_all _ _ (by have:=HI.out;omega)]at h5 h6
    have hln:=told_stay_len x m2
    have hkk:=HE1.out
    have hok:=tell_step_ok HK.out x
    obtain⟨s5,e5⟩:∃s,s=stayL x m2:=⟨_,rfl⟩
    obtain⟨s6,e6⟩:∃s,s=toldL x m2:=⟨_,rfl⟩
    rw[←e5]at h5 hln hkk hok
    rw[←e6]at h6 hln hkk hok
    have HLN:=AK hln
    have HE2:=AK hkk
    have HOK:=AK hok
    obtain⟨S5,c5,e⟩:=Kd.R_slice h5
    subst e
    obtain⟨S6,c6,e⟩:=Kd.R_slice h6
    subst e
    have H5':=AK (Kd.R_mono h5 (ok':=fun _=>True) (fun _ _=>trivial))
    have H6':=AK (Kd.R_mono h6 (ok':=fun _=>True) (fun _ _=>trivial))
    have HT2:=AK (HT.out.below HB.out)
    have HU:=AK (show ∀k,(Value.slice D m3.length cd).ownBlock=some k→k<u0.heap.size from Kd.R_lt HT.out.o.s3)
    clear H5 H6 HI e5 e6 h5 h6 hln hkk hok HE1
    by_cases hz:s6.length=0
    case neg=>
     have g1:((s6.length:Int) == 0)=false:=by simp;intro h;rw[h]at hz;exact hz rfl
     have g2:¬ s6=[]:=fun h=>hz (by rw[h];rfl)
     have g3:decide (s6.length=0)=false:=deF hz
     have g4:decide ((s6.length:Int)=0)=false:=deF (by omega)
     have HE3:=AK (show tellL l0 l1 k1 s5 (m3++s6)=tellL l0 l1 (l2.length+1) l2 l3 by rw[←HE2.out,if_neg hz])
     have HZ:=AK (Nat.pos_of_ne_zero hz)
     clear hz
     obtain⟨a3,ea3⟩:∃a,a=m3++s6:=⟨_,rfl⟩
     rw[←ea3]at HE3 HOK
     have EA3:=AK ea3
     clear ea3
     obtain⟨p0,p1,p2,p3⟩:=box4 HT2.out.x
     have y2:=bfz HT2.out.x 2
     have y3:=bfz HT2.out.x 3
     have FL:=AK trivial
     go_wp2_with ((with_reducible refine gate_dst (N:=68) rfl ?_);at_builtin;refine Kd.R_append_rows k60 (w0:=w) w.heap.size rfl (.tmp 66) (.tmp 67) 31 71 (.agg #[.int .i64 0,.int .i64 0]) 16 rfl Tryd.underlying31 info60 rfl (by decide) (by omega) (.slice D m3.length cd) m3 s6 S6 s6.length c6 (fun k=>some k≠(Value.slice S5 s5.length c5).ownBlock) (fun _=>False) rfl rfl ?aO ?aR (fun _ _ h=>h) (fun _ h=>h.elim) ?aF ?aB ?aS ?aL ?_;(case aO=>exact Kd.R_mono (Kd.R_bound (Kd.R_tight rfl (Kd.R_set HT2.out.o.s3 HT2.out.x (k60_ap 33 (by decide)) 2 (.slice S5 s5.length c5)))) (fun k hk e=>by have h1:=HU.out k hk.1.symm;have h2:=Kd.R_base H5'.out k e.symm;omega));(case aR=>exact(Kd.R_reads' (Kd.R_set H6'.out HT2.out.x (k60_ap 33 (by decide)) 2 (.slice S5 s5.length c5))).2.2);(case aF=>exact fun k hk e=>by have h1:=Kd.R_lt H5'.out k e.symm;rw[size_set]at hk;omega);(case aB=>exact below_set HT2.out.b (Nat.le_refl _));(case aS=>exact(below_set (j:=2) (v:=.slice S5 s5.length c5) HT2.out.b (Nat.le_refl _)).size);(case aL=>have:=HLN.out;have:=HK.out.w;omega);intro v68 w68 ho hb hg hat;rw[←EA3.out]at ho;obtain⟨D',cd',e⟩:=Kd.R_slice ho;subst e;have N0:=AK (TI.step HT.out HB.out H5'.out ho hb hg (by rw[size_set]at hat;exact hat));clear p0 p1 p2 p3 y2 y3;have hx:=blk_grown (blk_put HT2.out.x 2 (.slice S5 s5.length c5) rfl) hg (Kd.R_ne (Kd.R_set HT2.out.o.s3 HT2.out.x (k60_ap 33 (by decide)) 2 (.slice S5 s5.length c5)) (blk_put HT2.out.x 2 (.slice S5 s5.length c5) rfl) (by decide));obtain⟨p0,p1,p2,p3⟩:=box4 hx;have y3:=bfz hx 3;clear hx ho hb hg hat)
     go_roundg k1
     case measure=>omega
     case rel=>exact⟨s5,a3,S5,D',c5,cd',HOK,⟨by have:=HLN.out;have:=HM.out;have:=HZ.out;omega⟩,HE3,N0⟩
    have hz2:=List.length_eq_zero_iff.1 hz
    subst hz2
    have HE3:=AK (show (m2,m3)=tellL l0 l1 (l2.length+1) l2 l3 by rw[←HE2.out];rfl)
    clear HE2 HOK H6' H5' HLN hz

    obtain⟨u1,hu1⟩:∃u,u=wr:=⟨_,rfl⟩
    subst hu1
    obtain⟨p0,p1,p2,p3⟩:=box4 HT2.out.x
    go_wp2_with fail
    clear p0 p1 p2 p3
    refine(memReach_calls _ _ _ _ _ _ _ _ _ _ _ _ _ HT2.out.o.reads HK.out).mono ?_
    rintro e v1 ⟨v,rfl,hr,hb⟩
    rw[←EX.out]at hr
    obtain⟨X,cX,ev⟩:=Kd.R_slice hr
    subst ev
    have HX:=AK hr
    have HB1:=AK hb
    clear hr hb
    obtain⟨p0,p1,p2,p3⟩:=box4 (bbl HT2.out.x HB1.out)
    go_wp2_with fail
    clear p0 p1 p2 p3
    refine(memPlaces_calls _ _ _ _ _ _ _ _ _ _ _ _ _ _ x _ (HT2.out.below HB1.out).o.reads (Kd.R_reads' HX.out).2.2 (Kd.R_reads' HX.out).2.1 HGX.out HK.out.n).mono ?_
    rintro e v2 ⟨v,rfl,hr,hb⟩
    obtain⟨Q,cQ,ev⟩:=Kd.R_slice hr
    subst ev
    have HQ:=AK (Kd.R_lower hr HB1.out.size)
    replace HX:=AK (Kd.R_below HX.out hb)
    replace HB1:=AK (bst HB1.out hb)
    clear hr hb
    have EQL:=AK (show plL l0.length x=(List.range l0.length).map fun(j:Nat)=>idxL x (j:Int)from rfl)
    have QL:=AK (And.intro (plL_length l0.length x) (fun p h0 (h1:p<((plL l0.length x).length:Int))=>plL_rd l0.length x p h0 (by rw[plL_length]at h1;exact h1)))
    generalize plL l0.length x=ql at HQ QL EQL ⊢
    obtain⟨g,okM,f,hF,hO,hM⟩:=MI.start HT2.out HB1.out HX.out HQ.out HGX.out
    have HMF:=AK hF
    have HO:=AK hO
    have HM:=AK hM
    have HN:=AK HB1.out.size
    clear hF hO hM HT HX HQ HB HP HB1
    go_wp2_with fail
    generalize ((v2.alloc (.cells #[.slice Q ql.length cQ] 29 (0,0))).alloc (.cells #[.slice none 0 0,.slice none 0 0,.slice none 0 0,.slice none 0 0] 33 (0,0)))=v3 at HM ⊢
    go_loopg [77] x.length (fun kq v77 w'=>∃(i:Int) (Ao:Option Addr) (ao:Nat),v77=.int .i64 i∧Aside0 (0≤i∧i+kq=x.length)∧Aside0 (MI w u1.heap.size g v2.heap.size (v2.heap.size+1) okM f l0 x #[.slice O l0.length co,.slice R l1.length cr,.slice W m2.length cw,.slice D m3.length cd] R cr l1 W cw m2 D cd m3 X cX Q cQ ql (i.toNat) (i.toNat) (.slice Ao i.toNat ao) w'))
    case atStart=>exact⟨0,none,0,rfl,⟨by omega,by omega⟩,HM⟩
    case round=>
     clear HM
     obtain⟨i,Ao,ao,rfl,HI,HM⟩:=hrel
     cases gk with
     | succ k3=>
      have c78:decide (i<(x.length:Int))=true:=deT (by have:=HI.out;omega)
      have hi0:=eq_true (show 0≤i by have:=HI.out;omega)
      have hi1:=eq_true (show i<(x.length:Int)by have:=HI.out;omega)
      obtain⟨adx,e,hx0⟩:=Kd.at_int (Kd.R_reads' HM.out.rx).2.2 i (by have:=HI.out;omega) (by have:=HI.out;omega)
      subst e
      have hpx:=getD_mem x 0 i (by have:=HI.out;omega) (by have:=HI.out;omega)
      have hgp:=HGX.out.2 _ hpx
      have hOe:=HO.out _ hpx
      have hdr:x.drop i.toNat=rd x i :: x.drop (i+1).toNat:=drop_cons x 0 i (by have:=HI.out;omega) (by have:=HI.out;omega)
      have htk:x.take (i+1).toNat=x.take i.toNat++[rd x i]:=by
       rw[show (i+1).toNat=i.toNat+1 by have:=HI.out;omega,List.take_add_one,List.getElem?_eq_getElem (show i.toNat<x.length by have:=HI.out;omega)]
       simp[rd,List.getD_eq_getElem?_getD,List.getElem?_eq_getElem (show i.toNat<x.length by have:=HI.out;omega)]
      obtain⟨F2,e2,hu0,hu1,hu2,hu3⟩:=HM.out.u (rd x i) (by rw[hdr];exact List.mem_cons_self ..)
      have hnd:=HGX.out.1
      rw[←List.take_append_drop i.toNat x,hdr]at hnd
      obtain⟨p,ep⟩:∃p,p=rd x i:=⟨_,rfl⟩
      replace hgp:0≤p∧p<l0.length:=by rw[ep];exact hgp
      rw[←ep]at hx0 hu0 hu1 hu2 hu3 htk hnd
      have HND:=AK (show (∀q∈x.take i.toNat,q.toNat≠p.toNat)∧(∀q∈x.drop (i.toNat+1),q.toNat≠p.toNat)by
       rw[show i.toNat+1=(i+1).toNat by have:=HI.out;omega]
       rw[List.nodup_append,List.nodup_cons]at hnd
       refine⟨fun q hq e=>?_,fun q hq e=>?_⟩
       ·have h1:=(HGX.out.2 q (List.mem_of_mem_take hq)).1
        exact hnd.2.2 q hq p (List.mem_cons_self ..) (by omega)
       ·have h1:=(HGX.out.2 q (List.mem_of_mem_drop hq)).1
        exact hnd.2.1.1 (by rw[show p=q by omega];exact hq))
      have HTK:=AK htk
      obtain⟨o,eo⟩:∃o,o=rd_T38 l0 p:=⟨_,rfl⟩
      have HEO:=AK eo
      have HOS:=AK (show (∀z∈o.f2,z<(l0.length:Int))∧o.f2.length≤6 by rw[eo];exact ob_small2 (ob_at HK.out hgp.1 hgp.2))
      rw[←eo]at hu0 hu1 hu2 hu3
      subst hOe
      have hp0:=eq_true hgp.1
      have hp1:=eq_true hgp.2
      have HPR:=AK hgp
      have HU3:=AK hu3
      clear ep eo hpx hgp hdr htk hnd hu3
      obtain⟨u2,hu2'⟩:∃u,u=wr:=⟨_,rfl⟩
      subst hu2'
      have p0:=(box4 HM.out.yh).1
      have hlt:=blk_lt HM.out.yh
      go_wp2_with fail
      clear p0 hlt hu0 hu1 hu2 hx0 hi0 hi1
      have HM2:=AK (show MI w u1.heap.size g v2.heap.size (v2.heap.size+1) okM f l0 x #[.slice (some ⟨g,0,none⟩) l0.length co,.slice R l1.length cr,.slice W m2.length cw,.slice D m3.length cd] R cr l1 W cw m2 D cd m3 (some adx) cX Q cQ ql (i.toNat+1) (i.toNat) (.slice Ao i.toNat ao) (u2.alloc (.cells #[.int .i64 o.f0,.string o.f1,.slice F2 o.f2.length e2] 35 (0,0)))from(HM.out.below (below_alloc (Below.refl _ _) _)).next)
      have K14:=AK (blk_new u2 (.cells #[.int .i64 o.f0,.string o.f1,.slice F2 o.f2.length e2] 35 (0,0)))
      have HRF:=AK (Kd.R_alloc HU3.out (.cells #[.int .i64 o.f0,.string o.f1,.slice F2 o.f2.length e2] 35 (0,0)))
      have HB14:=AK (show u1.heap.size≤u2.heap.size by have h1:=blk_lt HM.out.yo;have h2:=HN.out;omega)
      generalize u2.alloc (.cells #[.int .i64 o.f0,.string o.f1,.slice F2 o.f2.length e2] 35 (0,0))=v5 at HM2 K14 HRF ⊢
      go_loopg [89] o.f2.length (fun kq v89 w'=>∃j:Int,v89=.int .i64 j∧Aside0 (0≤j∧j+kq=o.f2.length)∧Aside0 (MI w u1.heap.size g v2.heap.size (v2.heap.size+1) okM f l0 x #[.slice (some ⟨g,0,none⟩) l0.length co,.slice R l1.length cr,.slice W m2.length cw,.slice D m3.length cd] R cr l1 W cw m2 D cd m3 (some adx) cX Q cQ ql (i.toNat+1) (i.toNat) (.slice Ao i.toNat ao) w')∧Aside0 (w'.heap[u2.heap.size]?=some (.cells #[.int .i64 o.f0,.string o.f1,.slice F2 o.f2.length e2] 35 (0,0)))∧Aside0 (Kd.R (Kd.int .i64) 3 w' w.heap.size (fun k=>okM k∧f k=p.toNat) (.slice F2 o.f2.length e2) ((o.f2.take j.toNat).map (wh x)++o.f2.drop j.toNat)))
      case atStart=>exact⟨0,rfl,⟨by omega,by omega⟩,HM2,K14,HRF⟩
      case round=>
       clear HM2 K14 HRF
       obtain⟨j,rfl,HJ,HM2,K14,HRF⟩:=hrel
       cases gk with
       | succ k4=>
        have c90:decide (j<(o.f2.length:Int))=true:=deT (by have:=HJ.out;omega)
        have hj0:=eq_true (show 0≤j by have:=HJ.out;omega)
        have hj1:=eq_true (show j<(o.f2.length:Int)by have:=HJ.out;omega)
        have hml:=mixed_len x o.f2 j
        have hmr:=mixed_rd x o.f2 j (by have:=HJ.out;omega) (by have:=HJ.out;omega)
        have hms:=mixed_set x o.f2 j (by have:=HJ.out;omega) (by have:=HJ.out;omega)
        have hqm:=HOS.out.1 _ (getD_mem o.f2 0 j (by have:=HJ.out;omega) (by have:=HJ.out;omega))
        obtain⟨q,eq⟩:∃q,q=rd o.f2 j:=⟨_,rfl⟩
        replace hqm:q<l0.length:=by rw[eq];exact hqm
        rw[←eq]at hmr hms
        obtain⟨mx,emx⟩:∃mx,mx=(o.f2.take j.toNat).map (wh x)++o.f2.drop j.toNat:=⟨_,rfl⟩
        rw[←emx]at hml hmr hms HRF
        have HMS:=AK hms
        have HQM:=AK hqm
        obtain⟨ga,cap,e,_,_,cells,hcells⟩:=Kd.R_form HRF.out (by rw[hml];have:=HJ.out;omega)
        injection e with e1 e2' e3
        subst e1
        subst e3
        obtain⟨hz,hfz⟩:=RI_at HRF.out j (by have:=HJ.out;omega) (by have:=HJ.out;omega)
        rw[hmr]at hz
        have HG:=AK (HRF.out.1 ga rfl)
        have HCE:=AK hcells
        have HZ:=AK (And.intro hz hfz)
        clear eq emx hml hmr hms hqm e2' hcells hfz
        go_wp2_with fail
        clear hz
        obtain⟨u3,hu3'⟩:∃u,u=wr:=⟨_,rfl⟩
        subst hu3'
        have HB:=AK (below_drew (Below.refl u3.heap.size u3))
        refine start_ (n:=8) (S:=(fun w'=>w'.cell? ⟨u2.heap.size,2,none⟩=some (.slice (some ⟨ga,0,none⟩) o.f2.length e2)∧w'.cell? ⟨v2.heap.size,0,none⟩=some (.slice Q ql.length cQ))) (ds:=[]) #[fF,fF,fF,fF,fF,fF,fF,fF] (by kernel_rfl) rfl rfl ⟨pcb HB.out (box3 K14.out).2.2,pcb HB.out (box1 HM2.out.yp).1⟩ (fun hHeld=>?_);refine with_tabW coll26_tab coll26_bits (fun HT_ HW_=>?_)
        generalize u3.drew=v5' at HB hHeld ⊢
        refine pU HT_ 0 (some 94) (bM 8 1) ?_
        refine tU HT_ HW_ 1 (some 95) (bM 8 3) hHeld rfl (by refine Or.inl ⟨by rfl,?_⟩;rintro w' ⟨s_0,s_1⟩;go_simp;with_reducible rfl) ?_
        refine pU HT_ 2 (some 96) (bM 8 7) ?_
        refine tU HT_ HW_ 3 (some 97) (bM 8 15) hHeld rfl (by refine Or.inl ⟨by rfl,?_⟩;rintro w' ⟨s_0,s_1⟩;go_simp;with_reducible rfl) ?_
        refine pU HT_ 4 (some 98) (bM 8 31) ?_
        refine one_ (i:=5) (N:=some 99) (bM 8 63) rfl rfl (one_of HT_.out (by kernel_rfl)) (by decide) (fun K hK=>?_)
        refine goes_ Tryd.func81 (by kernel_rfl) rfl #[.slice Q ql.length cQ,.int .i64 q] (by rfl) rfl rfl zI ?_
        refine(memAt_w (Kd.R_reads' (Kd.R_below HM2.out.rq HB.out)).2.2 (Kd.R_reads' HM2.out.rq).2.1 QL.out.2 q (by rw[QL.out.1];exact HQM.out)).mono ?_
        rintro e v6 ⟨rfl,hd⟩
        refine⟨_,rfl,?_⟩
        replace HB:=AK (bst HB.out hd.below)
        clear hd
        refine hK.out _ _ ⟨pcb HB.out (box3 K14.out).2.2,pcb HB.out (box1 HM2.out.yp).1⟩ (fun hHeld=>?_)
        clear hK K
        refine nO (some 99) ?_
        refine pU HT_ 6 (some 100) (bM 8 127) ?_
        refine one_ (i:=7) (N:=none) (bM 8 255) rfl rfl (one_of HT_.out (by kernel_rfl)) (by decide) (fun K hK=>?_)
        have hm3:=HM2.out.below HB.out
        have hr3:=Kd.R_below HRF.out HB.out
        have hc3:=bbl HCE.out HB.out
        have hk3:=bbl K14.out HB.out
        have N0:=AK (show MI w u1.heap.size g v2.heap.size (v2.heap.size+1) okM f l0 x #[.slice (some ⟨g,0,none⟩) l0.length co,.slice R l1.length cr,.slice W m2.length cw,.slice D m3.length cd] R cr l1 W cw m2 D cd m3 (some adx) cX Q cQ ql (i.toNat+1) (i.toNat) (.slice Ao i.toNat ao) (v6.setCell ⟨ga,j.toNat,none⟩ (.int .i64 (wh x q)))from hm3.set HMF.out HG.out.1 hc3 (fun q hq e=>HND.out.2 q hq (by rw[←e];exact HG.out.2)) (fun q hq e=>HND.out.1 q hq (by rw[←e];exact HG.out.2)) j.toNat _)
        have N1:=AK (show (v6.setCell ⟨ga,j.toNat,none⟩ (.int .i64 (wh x q))).heap[u2.heap.size]?=some (.cells #[.int .i64 o.f0,.string o.f1,.slice (some ⟨ga,0,none⟩) o.f2.length e2] 35 (0,0))from blk_far hk3 (p:=⟨ga,j.toNat,none⟩) (blk_ne hk3 hc3 (by decide)) _)
        have N2:=AK (RI_set hr3 j (by have:=HJ.out;omega) (by have:=HJ.out;omega) (wh x q))
        rw[HMS.out]at N2
        have hz:=pcb HB.out HZ.out.1
        have hfz:=(RI_at hr3 j (by have:=HJ.out;omega) (by have:=HJ.out;omega)).2
        clear hm3 hr3 hc3 hk3
        refine skip_ (w1:=?_) (by rfl) rfl ?_ ?_
        rotate_left
        ·go_simp
         rfl
        clear hz hfz HB
        refine hK.out _ _ ⟨(box3 N1.out).2.2,(box1 N0.out.yp).1⟩ (fun hHeld=>?_)
        clear hK K
        refine done_ (done_of HT_.out (by kernel_rfl)) ?_
        clear HT_ HW_ hHeld
        go_wp2
        go_roundg k4
        case measure=>omega
        case rel=>
         have h1:=HJ.out
         have h2:=HOS.out.2
         rw[wrap_succ j (by omega) (by omega)]
         exact⟨j+1,rfl,⟨by omega,by omega⟩,N0,N1,N2⟩
       | zero=>
        have c90:decide (j<(o.f2.length:Int))=false:=deF (by have:=HJ.out;omega)
        have hr:=HRF.out
        rw[take_all _ _ (by have:=HJ.out;omega),drop_end _ _ (by have:=HJ.out;omega),List.append_nil]at hr
        have HRF2:=AK hr
        have HPM:=AK (show p∈x.take (i.toNat+1)by rw[show i.toNat+1=(i+1).toNat by have:=HI.out;omega,HTK.out];simp)
        have hs0:Kd.S k38 35 wr w.heap.size (fun k=>okO u1.heap.size (Value.slice Q ql.length cQ).ownBlock okM f x (i.toNat+1) k∧¬ (okM k∧f k=p.toNat)) (.slice Ao i.toNat ao) ((x.take i.toNat).map fun p=>objOf x (rd_T38 l0 p)):=
         Kd.S_mono HM2.out.s (fun k hk=>⟨hk.elim .inl (fun h=>.inr ⟨h.1,h.2.elim fun q hq=>⟨q,(List.take_subset_take_left x (Nat.le_succ _)) hq.1,hq.2⟩⟩),fun h=>hk.elim (fun h1=>by have h2:=(HMF.out.ok k h.1).2.1;have h3:=h1.1;omega) (fun h1=>h1.2.elim fun q hq=>HND.out.1 q hq.1 (hq.2.symm.trans h.2))⟩)
        obtain⟨xs,exs⟩:∃xs,xs=(x.take i.toNat).map fun p=>objOf x (rd_T38 l0 p):=⟨_,rfl⟩
        have HXL:=AK (show xs++[objOf x o]=((x.take (i.toNat+1)).map fun p=>objOf x (rd_T38 l0 p))∧((x.take (i.toNat+1)).map fun p=>objOf x (rd_T38 l0 p)).length=i.toNat+1 from
         ⟨by rw[exs,show i.toNat+1=(i+1).toNat by have:=HI.out;omega,HTK.out,List.map_append,HEO.out];rfl,by rw[List.length_map,List.length_take];have:=HI.out;omega⟩)
        rw[←exs]at hs0
        have HXS:=AK (And.intro (show xs.length≤x.length by rw[exs,List.length_map,List.length_take];omega) hs0)
        clear hr HRF HJ exs hs0
        obtain⟨u3,hu3'⟩:∃u,u=wr:=⟨_,rfl⟩
        subst hu3'
        have p0:=(box4 HM2.out.yo).1
        obtain⟨z0,z1,z2⟩:=box3 K14.out
        go_wp2_with ((with_reducible refine gate_dst (N:=106) rfl ?_);at_builtin;refine Kd.S_append k38 (w0:=w) w.heap.size rfl (.tmp 103) (.tmp 105) 30 35 (.agg #[.int .i64 0,.string ⟨#[]⟩,.slice none 0 0]) 48 rfl Tryd.underlying30 info38 rfl (by decide) (by omega) (.slice Ao i.toNat ao) xs (objOf x o) [.int .i64 o.f0,.string o.f1,.slice F2 o.f2.length e2] (okO u1.heap.size (Value.slice Q ql.length cQ).ownBlock okM f x (i.toNat+1)) (fun k=>okM k∧f k=p.toNat) rfl rfl ?aP ?aK ?aF ?aO ?aB ?aS ?aL ?_;(case aP=>exact k38_mkM _ _ _ (objOf x o) HRF2.out);(case aK=>exact fun k hk=>⟨.inr ⟨hk.1,p,HPM.out,hk.2⟩,fun e=>by have h1:=HM2.out.v k e.symm;have h2:=(HMF.out.ok k hk.1).2.1;omega⟩);(case aF=>exact fun k hk=>.inl ⟨by have h1:=blk_lt HM2.out.yo;have h2:=HN.out;omega,fun e=>by have:=Kd.R_lt HM2.out.rq k e.symm;omega⟩);(case aO=>exact HXS.out.2);(case aB=>exact HM2.out.b);(case aS=>exact HM2.out.b.size);(case aL=>have:=HXS.out.1;have:=nodup_len _ _ HGX.out;have:=HK.out.n;have:=HI.out;omega);intro v106 w106 hs hb hg hat;rw[HXL.out.1]at hs;obtain⟨A',c',e⟩:=Kd.S_slice hs;rw[HXL.out.2]at e;subst e;have N0:=AK (HM2.out.push HMF.out (by have:=HN.out;omega) HN.out (Nat.ne_of_lt (Nat.lt_succ_self _)) hs hb hg hat);clear p0;have hb2:=blk_grown HM2.out.yo hg (Kd.S_ne HM2.out.s HM2.out.yo (by decide));have p0:=(box4 hb2).1;have y0:=bfz hb2 0;clear hb2 hs hb hg hat)
        go_roundg k3
        case measure=>omega
        case rel=>
         have h1:=HI.out
         have h2:=nodup_len _ _ HGX.out
         have h3:=HK.out.n
         rw[wrap_succ i (by omega) (by omega)]
         exact⟨i+1,A',c',rfl,⟨by omega,by omega⟩,⟨by rw[show (i+1).toNat=i.toNat+1 by omega];exact N0.out⟩⟩
     | zero=>
      have c78:decide (i<(x.length:Int))=false:=deF (by have:=HI.out;omega)
      have hix:i.toNat=x.length:=by have:=HI.out;omega
      have hd:=HM.out.done HMF.out
      have hve:(G,mv)=(moveL l0 l1 m2 m3 x,ql):=by
       rw[HG.out]
       unfold collectB Hp.ok
       rw[←EB.out]
       show collectK l0 l1 l2 l3=_
       unfold collectK
       rw[←HE3.out,EQL.out,EX.out]
      injection hve with hG1 hG2
      have HGO:=AK (show G.o=x.map (fun p=>objOf x (rd_T38 l0 p))by rw[hG1];rfl)
      have HGR:=AK (show G.r=l1.map (wh x)by rw[hG1];rfl)
      have HGW:=AK (show G.w=movedW x m2 by rw[hG1];rfl)
      have HGD:=AK (show G.d=movedW x m3 by rw[hG1];rfl)
      rw[hix,List.take_length,←HGO.out,show x.length=G.o.length by rw[HGO.out,List.length_map]]at hd
      obtain⟨n2,hn2⟩:∃n,n=wr.heap.size:=⟨_,rfl⟩
      rw[←hn2]at hd
      have HM3:=AK hd
      have HN2:=AK (And.intro hn2 (show w.heap.size+1<v2.heap.size∧v2.heap.size+1<n2 by have h1:=HMF.out.nb;have h2:=HN.out;have h3:=blk_lt hd.yo;exact⟨by omega,by omega⟩))
      subst hG2
      clear hd hix hn2 hG1 HM HI
      obtain⟨p0,p1,p2,p3⟩:=box4 HM3.out.yh
      go_wp2_with fail
      clear p0 p1 p2 p3
      go_loopg [112] l1.length (fun kq v112 w'=>∃(i:Int) (Rr:Option Addr) (rr:Nat),v112=.int .i64 i∧Aside0 (0≤i∧i+kq=l1.length)∧Aside0 (n2≤w'.heap.size∧MG w n2 v2.heap.size (v2.heap.size+1) #[.slice O l0.length co,.slice R l1.length cr,.slice W m2.length cw,.slice D m3.length cd] R cr l1 W cw m2 D cd m3 Q cQ mv (.slice Ao G.o.length ao) G.o #[(.slice Ao G.o.length ao),.slice Rr i.toNat rr,(.slice none 0 0),(.slice none 0 0)] w')∧Aside0 (Kd.R (Kd.int .i64) 3 w' w.heap.size (fun k=>n2≤k) (.slice Rr i.toNat rr) ((l1.take i.toNat).map (wh x))))
      case atStart=>exact⟨0,none,0,rfl,⟨by omega,by omega⟩,⟨by rw[HN2.out.1];exact Nat.le_refl _,HM3.out⟩,⟨Kd.R_nil _ _ _ _ _⟩⟩
      case round=>
       clear HM3
       obtain⟨i,Rr,rr,rfl,HI,HM3,HRR⟩:=hrel
       obtain⟨u4,hu4'⟩:∃u,u=wr:=⟨_,rfl⟩
       subst hu4'
       cases gk with
       | succ k5=>
        have c113:decide (i<(l1.length:Int))=true:=deT (by have:=HI.out;omega)
        have hi0:=eq_true (show 0≤i by have:=HI.out;omega)
        have hi1:=eq_true (show i<(l1.length:Int)by have:=HI.out;omega)
        obtain⟨adr,e,hx0⟩:=Kd.at_int (Kd.R_reads' HM3.out.2.r1).2.2 i (by have:=HI.out;omega) (by have:=HI.out;omega)
        subst e
        have hrs:=(HK.out.rs _ (getD_mem l1 0 i (by have:=HI.out;omega) (by have:=HI.out;omega))).2
        have htk:(l1.take (i+1).toNat).map (wh x)=(l1.take i.toNat).map (wh x)++[wh x (rd l1 i)]:=by
         rw[show (i+1).toNat=i.toNat+1 by have:=HI.out;omega,List.take_add_one,List.getElem?_eq_getElem (show i.toNat<l1.length by have:=HI.out;omega),List.map_append]
         simp[rd,List.getD_eq_getElem?_getD,List.getElem?_eq_getElem (show i.toNat<l1.length by have:=HI.out;omega)]
        obtain⟨q,eq⟩:∃q,q=rd l1 i:=⟨_,rfl⟩
        rw[←eq]at hx0 htk
        have HQM:=AK (show q<mv.length by rw[QL.out.1,eq];exact hrs)
        obtain⟨xs,exs⟩:∃xs,xs=(l1.take i.toNat).map (wh x):=⟨_,rfl⟩
        rw[←exs]at htk HRR
        have HXL:=AK (show (xs++[wh x q]).length=i.toNat+1∧xs.length≤8 by
         have h1:xs.length=i.toNat:=by rw[exs,List.length_map,List.length_take];have:=HI.out;omega
         exact⟨by rw[List.length_append,h1];rfl,by have:=HK.out.r;have:=HI.out;omega⟩)
        have HTK:=AK htk
        clear eq exs htk hrs
        go_wp2_with fail
        clear hx0 hi0 hi1
        have HB:=AK (below_drew (Below.refl u4.heap.size u4))
        refine start_ (n:=9) (S:=(fun w'=>w'.cell? ⟨v2.heap.size+1,1,none⟩=some (.slice Rr i.toNat rr)∧w'.cell? ⟨v2.heap.size,0,none⟩=some (.slice Q mv.length cQ))) (ds:=[8]) #[fF,fF,fF,fF,fF,fF,fF,fF,fF] (by kernel_rfl) rfl rfl ⟨pcb HB.out (box4 HM3.out.2.yo).2.1,pcb HB.out (box1 HM3.out.2.yp).1⟩ (fun hHeld=>?_);refine with_tabW coll33_tab coll33_bits (fun HT_ HW_=>?_)
        generalize u4.drew=v5 at HB hHeld ⊢
        refine pU HT_ 0 (some 116) (bM 9 1) ?_
        refine tU HT_ HW_ 1 (some 117) (bM 9 3) hHeld rfl (by refine Or.inl ⟨by rfl,?_⟩;rintro w' ⟨s_0,s_1⟩;go_simp;with_reducible rfl) ?_
        refine tU HT_ HW_ 2 (some 118) (bM 9 7) hHeld rfl (by refine Or.inl ⟨by rfl,?_⟩;rintro w' ⟨s_0,s_1⟩;go_simp;with_reducible rfl) ?_
        refine pU HT_ 3 (some 119) (bM 9 15) ?_
        refine one_ (i:=4) (N:=some 120) (bM 9 31) rfl rfl (one_of HT_.out (by kernel_rfl)) (by decide) (fun K hK=>?_)
        refine goes_ Tryd.func81 (by kernel_rfl) rfl #[.slice Q mv.length cQ,.int .i64 q] (by rfl) rfl rfl zI ?_
        refine(memAt_w (Kd.R_reads' (Kd.R_below HM3.out.2.rq HB.out)).2.2 (Kd.R_reads' HM3.out.2.rq).2.1 QL.out.2 q HQM.out).mono ?_
        rintro e v6 ⟨rfl,hd⟩
        refine⟨_,rfl,?_⟩
        replace HB:=AK (bst HB.out hd.below)
        clear hd
        refine hK.out _ _ ⟨pcb HB.out (box4 HM3.out.2.yo).2.1,pcb HB.out (box1 HM3.out.2.yp).1⟩ (fun hHeld=>?_)
        clear hK K
        refine nO (some 120) ?_
        refine one_ (i:=5) (N:=some 121) (bM 9 63) rfl rfl (one_of HT_.out (by kernel_rfl)) (by decide) (fun K hK=>?_)
        refine value_ (v:=.slice (some ⟨v6.heap.size,0,none⟩) 1 1) (w1:=v6.alloc (.cells #[.int .i64 (wh x q)] 3 (0,0))) (by rfl) rfl ?hr ?_;(case hr=>first|(go_simp;done)|(go_simp;rfl))
        refine hK.out _ _ ⟨pcb (below_alloc HB.out _) (box4 HM3.out.2.yo).2.1,pcb (below_alloc HB.out _) (box1 HM3.out.2.yp).1⟩ (fun hHeld=>?_)
        clear hK K
        refine nO (some 121) ?_
        refine one_ (i:=6) (N:=some 122) (bM 9 127) rfl rfl (one_of HT_.out (by kernel_rfl)) (by decide) (fun K hK=>?_)
        have hm6:=HM3.out.2.below HB.out
        have hr6:=Kd.R_below HRR.out HB.out
        have hsz:=HB.out.size
        have hn2:=HM3.out.1
        refine Kd.R_append_step (Kd.int .i64) (w0:=w) (W:=v6) w.heap.size (by rfl) (.tmp 117) (.tmp 121) 29 3 (.int .i64 0) 8 rfl Tryd.underlying29 info3 rfl (by decide) (by omega) (.slice Rr i.toNat rr) xs (wh x q) [.int .i64 (wh x q)] (fun k=>n2≤k) (fun _=>False) rfl rfl ?aP (fun _ hk=>hk.elim) ?aF ?aO ?aB ?aS ?aL ?_;(case aP=>exact rfl);(case aF=>exact fun k hk=>by omega);(case aO=>exact hr6);(case aB=>exact hm6.b);(case aS=>exact hm6.b.size);(case aL=>have:=HXL.out.2;omega)
        intro v7 w7 ho hb hg hat
        obtain⟨R7,r7,e⟩:=Kd.R_slice ho
        rw[HXL.out.1]at e
        subst e
        have HM7:=AK (hm6.grown hg hb (fun k hk=>⟨hr6.1 k hk,Kd.R_typed hr6 k hk⟩))
        have HR7:=AK ho
        have HS7:=AK (show n2≤w7.heap.size from Nat.le_trans (Nat.le_trans hn2 hsz) hg.size)
        clear ho hb hg hat hm6 hr6 hsz hn2 HB
        refine hK.out _ _ ⟨(box4 HM7.out.yo).2.1,(box1 HM7.out.yp).1⟩ (fun hHeld=>?_)
        clear hK K
        refine nO (some 122) ?_
        refine pU HT_ 7 (some 123) (bM 9 255) ?_
        refine last_ (i:=8) (N:=none) #[tT,tT,tT,tT,tT,tT,tT,tT,tT] rfl rfl (one_of HT_.out (by kernel_rfl)) (by decide) (fun K hK=>?_)
        obtain⟨z0,z1,z2,z3⟩:=box4 HM7.out.yo
        have y1:=bfz HM7.out.yo 1
        have N0:=AK (HM7.out.set (show w.heap.size+1<v2.heap.size+1 by have:=HN2.out.2.1;omega) (Nat.ne_of_lt (Nat.lt_succ_self _)) 1 (.slice R7 (i.toNat+1) r7) #[(.slice Ao G.o.length ao),.slice R7 (i.toNat+1) r7,(.slice none 0 0),(.slice none 0 0)] rfl)
        have N1:=AK (Kd.R_set HR7.out HM7.out.yo (int_ap 33 (by decide)) 1 (.slice R7 (i.toNat+1) r7))
        have N2:=AK (show n2≤(w7.setCell ⟨v2.heap.size+1,1,none⟩ (.slice R7 (i.toNat+1) r7)).heap.size by rw[size_set];exact HS7.out)
        refine skip_ (w1:=?_) (by rfl) rfl ?_ ?_
        rotate_left
        ·go_simp
         rfl
        clear z0 z1 z2 z3 y1
        refine hK.out _ _ ?_
        clear hK K
        refine done_ (done_of HT_.out (by kernel_rfl)) ?_
        clear HT_ HW_ hHeld
        go_wp2
        go_roundg k5
        case measure=>omega
        case rel=>
         have h1:=HI.out
         have h2:=HK.out.r
         rw[wrap_succ i (by omega) (by omega)]
         refine⟨i+1,R7,r7,rfl,⟨by omega,by omega⟩,⟨N2.out,?_⟩,⟨?_⟩⟩
         ·rw[show (i+1).toNat=i.toNat+1 by omega];exact N0.out
         ·rw[HTK.out,show (i+1).toNat=i.toNat+1 by omega];exact N1.out
       | zero=>
        have c113:decide (i<(l1.length:Int))=false:=deF (by have:=HI.out;omega)
        have hil:i.toNat=l1.length:=by have:=HI.out;omega
        have hm:=HM3.out
        have hr:=HRR.out
        rw[hil,List.take_length,←HGR.out]at hr
        rw[hil]at hm
        rw[show l1.length=G.r.length by rw[HGR.out,List.length_map]]at hm hr
        replace HM3:=AK hm.2
        have HN3:=AK hm.1
        replace HRR:=AK hr
        have HQ2:=AK (fun z (hz:z∈m2)=>show (0≤z.f0∧z.f0<mv.length)∧0≤z.f1∧z.f1<mv.length by have:=wt_parts (HK.out.ws z hz);rw[QL.out.1];exact⟨⟨this.1,this.2.1⟩,this.2.2.2.1,this.2.2.2.2⟩)
        have HQ3:=AK (fun z (hz:z∈m3)=>show (0≤z.f0∧z.f0<mv.length)∧0≤z.f1∧z.f1<mv.length by have:=wt_parts (HK.out.ds z hz);rw[QL.out.1];exact⟨⟨this.1,this.2.1⟩,this.2.2.2.1,this.2.2.2.2⟩)
        clear hm hr hil HI
        go_wp2_with fail
        have HB:=AK (below_drew (Below.refl u4.heap.size u4))
        refine start_ (n:=12) (S:=(fun w'=>w'.cell? ⟨w.heap.size,2,none⟩=some (.slice W m2.length cw)∧w'.cell? ⟨w.heap.size,3,none⟩=some (.slice D m3.length cd))) (ds:=[]) #[fF,fF,fF,fF,fF,fF,fF,fF,fF,fF,fF,fF] (by kernel_rfl) rfl rfl ⟨pcb HB.out (box4 HM3.out.yh).2.2.1,pcb HB.out (box4 HM3.out.yh).2.2.2⟩ (fun hHeld=>?_);refine with_tabW coll36_tab coll36_bits (fun HT_ HW_=>?_)
        generalize u4.drew=v5 at HB hHeld ⊢
        refine pU HT_ 0 (some 126) (bM 12 1) ?_
        refine pU HT_ 1 (some 127) (bM 12 3) ?_
        refine tU HT_ HW_ 2 (some 128) (bM 12 7) hHeld rfl (by refine Or.inl ⟨by rfl,?_⟩;rintro w' ⟨s_0,s_1⟩;go_simp;with_reducible rfl) ?_
        refine pU HT_ 4 (some 130) (bM 12 23) ?_
        refine pU HT_ 5 (some 131) (bM 12 55) ?_
        refine tU HT_ HW_ 6 (some 132) (bM 12 119) hHeld rfl (by refine Or.inl ⟨by rfl,?_⟩;rintro w' ⟨s_0,s_1⟩;go_simp;with_reducible rfl) ?_
        refine one_ (i:=3) (N:=some 129) (bM 12 127) rfl rfl (one_of HT_.out (by kernel_rfl)) (by decide) (fun K hK=>?_)
        refine call_ 82 #[.slice W m2.length cw,.pointer (some ⟨v2.heap.size,0,none⟩)] (by rfl) rfl ?hr ?_;(case hr=>first|(go_simp;done)|(go_simp;rfl))
        have hm8:=HM3.out.below HB.out
        have hsz:=hm8.b.size
        refine(kept_calls _ _ _ _ _ m2 mv x _ (Kd.R_reads' hm8.r2).2.2 (Kd.R_reads' hm8.r2).2.1 (Kd.R_reads' hm8.rq).2.2 (Kd.R_reads' hm8.rq).2.1 hm8.yp HQ2.out QL.out.2 (by have:=HK.out.w;omega)).mono ?_
        rintro e va ⟨v,rfl,hr,hb⟩
        rw[←HGW.out]at hr
        obtain⟨Ta,ta,e⟩:=Kd.R_slice hr
        subst e
        refine⟨_,rfl,?_⟩
        have Ha:=AK (R_fresh hr hsz)
        have La:=AK HB.out.size
        replace HB:=AK (bst HB.out hb)
        clear hr hb hm8 hsz
        refine hK.out _ _ ⟨pcb HB.out (box4 HM3.out.yh).2.2.1,pcb HB.out (box4 HM3.out.yh).2.2.2⟩ (fun hHeld=>?_)
        clear hK K
        refine nO (some 129) ?_
        refine pU HT_ 8 (some 134) (bM 12 383) ?_
        refine one_ (i:=7) (N:=some 133) (bM 12 511) rfl rfl (one_of HT_.out (by kernel_rfl)) (by decide) (fun K hK=>?_)
        refine call_ 82 #[.slice D m3.length cd,.pointer (some ⟨v2.heap.size,0,none⟩)] (by rfl) rfl ?hr ?_;(case hr=>first|(go_simp;done)|(go_simp;rfl))
        have hm8:=HM3.out.below HB.out
        have hsz:=hm8.b.size
        refine(kept_calls _ _ _ _ _ m3 mv x _ (Kd.R_reads' hm8.r3).2.2 (Kd.R_reads' hm8.r3).2.1 (Kd.R_reads' hm8.rq).2.2 (Kd.R_reads' hm8.rq).2.1 hm8.yp HQ3.out QL.out.2 (by have:=HK.out.w;omega)).mono ?_
        rintro e vb ⟨v,rfl,hr,hb⟩
        rw[←HGD.out]at hr
        obtain⟨Tb,tb,e⟩:=Kd.R_slice hr
        subst e
        refine⟨_,rfl,?_⟩
        have Hb:=AK (R_fresh hr hsz)
        replace Ha:=AK (Kd.R_below Ha.out hb)
        have Lb:=AK HB.out.size
        replace HB:=AK (bst HB.out hb)
        clear hr hb hm8 hsz
        refine hK.out _ _ ⟨pcb HB.out (box4 HM3.out.yh).2.2.1,pcb HB.out (box4 HM3.out.yh).2.2.2⟩ (fun hHeld=>?_)
        clear hK K
        refine nO (some 133) ?_
        refine one_ (i:=9) (N:=none) (bM 12 1023) rfl rfl (one_of HT_.out (by kernel_rfl)) (by decide) (fun K hK=>?_)
        replace HM3:=AK (HM3.out.below HB.out)
        replace HRR:=AK (Kd.R_below HRR.out HB.out)
        clear HB
        obtain⟨z0,z1,z2,z3⟩:=box4 HM3.out.yo
        have y2:=bfz HM3.out.yo 2
        have N0:=AK (HM3.out.set (show w.heap.size+1<v2.heap.size+1 by have:=HN2.out.2.1;omega) (Nat.ne_of_lt (Nat.lt_succ_self _)) 2 (.slice Ta G.w.length ta) #[(.slice Ao G.o.length ao),(.slice Rr G.r.length rr),(.slice Ta G.w.length ta),(.slice none 0 0)] rfl)
        have N1:=AK (Kd.R_set HRR.out HM3.out.yo (int_ap 33 (by decide)) 2 (.slice Ta G.w.length ta))
        have N2:=AK (Kd.R_set Ha.out HM3.out.yo (k60_ap 33 (by decide)) 2 (.slice Ta G.w.length ta))
        have N3:=AK (Kd.R_set Hb.out HM3.out.yo (k60_ap 33 (by decide)) 2 (.slice Ta G.w.length ta))
        refine skip_ (w1:=?_) (by rfl) rfl ?_ ?_
        rotate_left
        ·go_simp
         rfl
        clear z0 z1 z2 z3 y2 HM3 HRR Ha Hb
        generalize (vb.setCell ⟨v2.heap.size+1,2,none⟩ (.slice Ta G.w.length ta))=w9 at N0 N1 N2 N3 ⊢
        have HM3:=N0
        have HRR:=N1
        have Ha:=N2
        have Hb:=N3
        clear N0 N1 N2 N3
        refine hK.out _ _ ⟨(box4 HM3.out.yh).2.2.1,(box4 HM3.out.yh).2.2.2⟩ (fun hHeld=>?_)
        clear hK K
        refine pU HT_ 10 (some 135) (bM 12 2047) ?_
        refine one_ (i:=11) (N:=none) (bM 12 4095) rfl rfl (one_of HT_.out (by kernel_rfl)) (by decide) (fun K hK=>?_)
        obtain⟨z0,z1,z2,z3⟩:=box4 HM3.out.yo
        have y2:=bfz HM3.out.yo 3
        have N0:=AK (HM3.out.set (show w.heap.size+1<v2.heap.size+1 by have:=HN2.out.2.1;omega) (Nat.ne_of_lt (Nat.lt_succ_self _)) 3 (.slice Tb G.d.length tb) #[(.slice Ao G.o.length ao),(.slice Rr G.r.length rr),(.slice Ta G.w.length ta),(.slice Tb G.d.length tb)] rfl)
        have N1:=AK (Kd.R_set HRR.out HM3.out.yo (int_ap 33 (by decide)) 3 (.slice Tb G.d.length tb))
        have N2:=AK (Kd.R_set Ha.out HM3.out.yo (k60_ap 33 (by decide)) 3 (.slice Tb G.d.length tb))
        have N3:=AK (Kd.R_set Hb.out HM3.out.yo (k60_ap 33 (by decide)) 3 (.slice Tb G.d.length tb))
        refine skip_ (w1:=?_) (by rfl) rfl ?_ ?_
        rotate_left
        ·go_simp
         rfl
        clear z0 z1 z2 z3 y2 HM3 HRR Ha Hb
        generalize (w9.setCell ⟨v2.heap.size+1,3,none⟩ (.slice Tb G.d.length tb))=w10 at N0 N1 N2 N3 ⊢
        have HM3:=N0
        have HRR:=N1
        have Ha:=N2
        have Hb:=N3
        clear N0 N1 N2 N3
        refine hK.out _ _ ⟨(box4 HM3.out.yh).2.2.1,(box4 HM3.out.yh).2.2.2⟩ (fun hHeld=>?_)
        clear hK K
        refine done_ (done_of HT_.out (by kernel_rfl)) ?_
        clear HT_ HW_ hHeld
        go_wp2_with fail
        replace HM3:=AK (HM3.out.below (below_drew1 (Below.refl _ _)))
        replace HRR:=AK (Kd.R_drew HRR.out)
        replace Ha:=AK (Kd.R_drew Ha.out)
        replace Hb:=AK (Kd.R_drew Hb.out)
        refine start_ (n:=4) (S:=(fun w'=>w'.cell? ⟨v2.heap.size+1,0,none⟩=some (.slice Ao G.o.length ao)∧w'.cell? ⟨v2.heap.size+1,1,none⟩=some (.slice Rr G.r.length rr)∧w'.cell? ⟨v2.heap.size+1,2,none⟩=some (.slice Ta G.w.length ta)∧w'.cell? ⟨v2.heap.size+1,3,none⟩=some (.slice Tb G.d.length tb)∧w'.cell? ⟨v2.heap.size,0,none⟩=some (.slice Q mv.length cQ))) (ds:=[]) #[fF,fF,fF,fF] (by kernel_rfl) rfl rfl ⟨(box4 HM3.out.yo).1,(box4 HM3.out.yo).2.1,(box4 HM3.out.yo).2.2.1,(box4 HM3.out.yo).2.2.2,(box1 HM3.out.yp).1⟩ (fun hHeld=>?_);refine with_tabW coll37_tab coll37_bits (fun HT_ HW_=>?_)
        generalize w10.drew=w11 at HM3 HRR Ha Hb hHeld ⊢
        refine tU HT_ HW_ 0 (some 136) #[tT,fF,fF,fF] hHeld rfl (by refine Or.inl ⟨by rfl,?_⟩;rintro w' ⟨s_0,s_1,s_2,s_3,s_4⟩;go_simp;with_reducible rfl) ?_
        refine tU HT_ HW_ 1 (some 137) #[tT,tT,fF,fF] hHeld rfl (by refine Or.inl ⟨by rfl,?_⟩;rintro w' ⟨s_0,s_1,s_2,s_3,s_4⟩;go_simp;with_reducible rfl) ?_
        refine one_ (i:=2) (N:=none) #[tT,tT,tT,fF] rfl rfl (one_of HT_.out (by kernel_rfl)) (by decide) (fun K hK=>?_)
        have hz:=HM3.out.yz
        obtain⟨z0,z1,z2,z3⟩:=box4 hz
        have y0:=bfz hz 0
        have y1:=bfz hz 1
        have y2:=bfz hz 2
        have y3:=bfz hz 3
        clear hz
        refine skip_ (w1:=?_) (by rfl) rfl ?_ ?_
        rotate_left
        ·go_simp
         rfl
        clear z0 z1 z2 z3 y0 y1 y2 y3
        have ho:=set4_far (g:=w.heap.size+1) (a:=(.slice Ao G.o.length ao)) (b:=(.slice Rr G.r.length rr)) (c:=(.slice Ta G.w.length ta)) (d:=(.slice Tb G.d.length tb)) HM3.out.yo (show v2.heap.size+1≠w.heap.size+1 by have:=HN2.out.2.1;omega)
        have hp:=set4_far (g:=w.heap.size+1) (a:=(.slice Ao G.o.length ao)) (b:=(.slice Rr G.r.length rr)) (c:=(.slice Ta G.w.length ta)) (d:=(.slice Tb G.d.length tb)) HM3.out.yp (show v2.heap.size≠w.heap.size+1 by have:=HN2.out.2.1;omega)
        refine hK.out _ _ ⟨(box4 ho).1,(box4 ho).2.1,(box4 ho).2.2.1,(box4 ho).2.2.2,(box1 hp).1⟩ (fun hHeld=>?_)
        clear hK K
        refine pU HT_ 3 (some 3) #[tT,tT,tT,tT] ?_
        refine done_ (done_of HT_.out (by kernel_rfl)) ?_
        clear HT_ HW_ hHeld
        go_wp2
        refine bodyPost_ret (results_ct rfl _ _ (w.heap.size+1) 33 #[(.slice Ao G.o.length ao),(.slice Rr G.r.length rr),(.slice Ta G.w.length ta),(.slice Tb G.d.length tb)] (0,0) _ rfl (set4_blk HM3.out.yz) Tryd.underlying33 rfl (by kernel_rfl)) rfl ?_
        exact⟨Ao,ao,Rr,rr,Ta,ta,Tb,tb,Q,cQ,rfl,⟨Kd.S_mono (set4_S HM3.out.s HM3.out.yz) (fun k hk=>⟨fun e=>by have:=HRR.out.1 k e.symm;have:=hk.1;omega,hk.2⟩),Kd.R_mono (set4_R HRR.out HM3.out.yz (int_ap 33 (by decide))) (fun k hk e=>by have:=HM3.out.rq.1 k e.symm;omega),
         Kd.R_mono (set4_R Ha.out HM3.out.yz (k60_ap 33 (by decide))) (fun k hk e=>by have:=(Hb.out.1 k e.symm).1;have:=hk.2;omega),Kd.R_mono (set4_R Hb.out HM3.out.yz (k60_ap 33 (by decide))) (fun k hk e=>by have:=(Ha.out.1 k e.symm).2;have:=hk.1;omega),Kd.R_mono (set4_R HM3.out.rq HM3.out.yz (int_ap 33 (by decide))) (fun _ _=>trivial)⟩,set4_below HM3.out.b (by omega)⟩
end Go.Proofs.YtigjhfijkdlldaaDoor.H
