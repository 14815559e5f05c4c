import Derived.Test.YtigjhfijkdlldaaDoorSliQe
namespace Go.Proofs.YtigjhfijkdlldaaDoor.H
open Go.RowKit Go.Proofs.YtigjhfijkdlldaaDoorW.PrintWords Go.Proofs.YtigjhfijkdlldaaDoorW.PrintLast Go.Proofs.YtigjhfijkdlldaaDoorW.PrintMore Go.Proofs.YtigjhfijkdlldaaDoor.Q
set_option linter.unusedVariables false
set_option linter.unusedSimpArgs false
structure OwnX (w:World) (base:Nat) (A0:Option Addr) (c0:Nat) (A1:Option Addr) (c1:Nat) (A2:Option Addr) (c2:Nat) (A3:Option Addr) (c3:Nat) (G:Hp):Prop where
 own:∃x,OwnG w base A0 c0 A1 c1 A2 c2 A3 x G
 k:G.d.length≤c3
theorem partB_iff (G:Hp) (p a:Int):partB G p a=true↔0≤p∧0≤a∧a<(rd_T38 G.o p).f2.length:=by
 unfold partB;rw[Bool.and_eq_true,Bool.and_eq_true,decide_eq_true_eq,decide_eq_true_eq,decide_eq_true_eq]
theorem partL_of (G:Hp) (p a:Int):partL G.o G.r p a=if partB G (knownL G.r p) a=true then knownL G.r p else -1:=by
 unfold partL
 split
 ·rename_i c;rw[if_neg (by rw[partB_iff];omega)]
 ·rename_i c
  split
  ·rename_i d;rw[if_pos ((partB_iff _ _ _).2 ⟨by omega,d⟩)]
  ·rename_i d;rw[if_neg (by rw[partB_iff];exact fun h=>d h.2)]
theorem takesB_no {G:Hp} {e:S40} (h:partB G (knownL G.r e.f2) e.f3=false):takesB G e=(G,sNo):=by
 unfold takesB;rw[partL_of,h];rfl
theorem takesB_yes {G:Hp} {e:S40} (h:partB G (knownL G.r e.f2) e.f3=true):takesB G e=(⟨G.o,G.r.set e.f1.toNat (rd (rd_T38 G.o (knownL G.r e.f2)).f2 e.f3),G.w,G.d⟩,seesB G.o (rd (rd_T38 G.o (knownL G.r e.f2)).f2 e.f3)):=by
 have h0:=((partB_iff _ _ _).1 h).1
 unfold takesB;rw[partL_of,if_pos h,if_neg (by omega)]
theorem setsB_no {G:Hp} {e:S40} (h:partB G (knownL G.r e.f1) e.f3=false):setsB G e=(G,sNo):=by
 unfold setsB;rw[partL_of,h];rfl
theorem setsB_yes {G:Hp} {e:S40} (h:partB G (knownL G.r e.f1) e.f3=true):setsB G e=(⟨G.o.set (knownL G.r e.f1).toNat (putRef (rd_T38 G.o (knownL G.r e.f1)) e.f3 (knownL G.r e.f2)),G.r,G.w,G.d⟩,sOk):=by
 have h0:=((partB_iff _ _ _).1 h).1
 unfold setsB;rw[partL_of,if_pos h,if_neg (by omega)]
theorem obB_made {G:Hp} (h:OkH G.o G.r G.w G.d) (e:S40):obB G.o.length (madeO G e)=shB (madeO G e):=by
 unfold obB
 rw[show (madeO G e).f2.all (inB · G.o.length)=true from List.all_eq_true.2 fun p hp=>by
  obtain⟨q,_,rfl⟩:=List.mem_map.1 hp
  have:=known_range h q
  unfold inB;simp;omega,Bool.and_true]
theorem sim29_tab:rtab .any (opsOf Tryd.f48 29)=(true,[([],[]),([0],[0]),([],[]),([2],[2]),([],[]),([4],[4]),([],[]),([5,6],[5,6]),([7],[7]),([8],[8]),([],[]),([10],[10]),([9,11],[9,11]),([12],[12]),([1,3,0,1,2,3,4,5,6,7,8,9,10,11,12,13],[1,3]),([14,13,0,1,2,3,4,5,6,7,8,9,10,11,12,13],[13,14])]):=by kernel_rfl
theorem sim29_bits:waitsOk [([],[]),([0],[0]),([],[]),([2],[2]),([],[]),([4],[4]),([],[]),([5,6],[5,6]),([7],[7]),([8],[8]),([],[]),([10],[10]),([9,11],[9,11]),([12],[12]),([1,3,0,1,2,3,4,5,6,7,8,9,10,11,12,13],[1,3]),([14,13,0,1,2,3,4,5,6,7,8,9,10,11,12,13],[13,14])] [0,1,0,4,0,16,0,112,240,496,0,1024,4080,8176,16383,32767]=true:=by kernel_rfl
theorem sim30_tab:rtab .any (opsOf Tryd.f48 30)=(true,[([],[]),([],[]),([],[]),([2],[2]),([],[]),([4],[4]),([3,5],[3,5]),([6],[6]),([1,7],[1,7]),([0,8,0],[0]),([8,9,0,1,2,3,4,5,6,7,8,9],[8])]):=by kernel_rfl
theorem sim30_bits:waitsOk [([],[]),([],[]),([],[]),([2],[2]),([],[]),([4],[4]),([3,5],[3,5]),([6],[6]),([1,7],[1,7]),([0,8,0],[0]),([8,9,0,1,2,3,4,5,6,7,8,9],[8])] [0,0,0,4,0,16,60,124,254,511,1023]=true:=by kernel_rfl
theorem sim35_tab:rtab .any (opsOf Tryd.f48 35)=(true,[([],[]),([0],[0]),([],[]),([1,2],[1,2]),([3],[3]),([4],[4]),([],[]),([6],[6]),([],[]),([],[]),([9],[9]),([8,10],[8,10]),([5,7,0,1,2,3,4,5,6,7,8,9,10,11],[5,7]),([12,11,11,0,1,2,3,4,5,6,7,8,9,10,11],[11,12])]):=by kernel_rfl
theorem sim35_bits:waitsOk [([],[]),([0],[0]),([],[]),([1,2],[1,2]),([3],[3]),([4],[4]),([],[]),([6],[6]),([],[]),([],[]),([9],[9]),([8,10],[8,10]),([5,7,0,1,2,3,4,5,6,7,8,9,10,11],[5,7]),([12,11,11,0,1,2,3,4,5,6,7,8,9,10,11],[11,12])] [0,1,0,7,15,31,0,64,0,0,512,1792,4095,8191]=true:=by kernel_rfl
theorem sim16_tab:rtab .any (opsOf Tryd.f48 16)=(true,[([],[]),([0],[0]),([],[]),([],[]),([2,3],[2,3]),([4],[4]),([1,5,4],[1,5]),([0,1,2,3,4,5,6],[]),([7,6,6,0,1,2,3,4,5,6],[6,7])]):=by kernel_rfl
theorem sim16_bits:waitsOk [([],[]),([0],[0]),([],[]),([],[]),([2,3],[2,3]),([4],[4]),([1,5,4],[1,5]),([0,1,2,3,4,5,6],[]),([7,6,6,0,1,2,3,4,5,6],[6,7])] [0,1,0,0,12,28,63,127,255]=true:=by kernel_rfl
theorem sim24_tab:rtab .any (opsOf Tryd.f48 24)=(true,[([],[]),([],[]),([],[]),([2],[2]),([],[]),([4],[4]),([3,5],[3,5]),([6],[6]),([1,7],[1,7]),([0,8,0],[0]),([8,9,0,1,2,3,4,5,6,7,8,9],[8])]):=by kernel_rfl
theorem sim24_bits:waitsOk [([],[]),([],[]),([],[]),([2],[2]),([],[]),([4],[4]),([3,5],[3,5]),([6],[6]),([1,7],[1,7]),([0,8,0],[0]),([8,9,0,1,2,3,4,5,6,7,8,9],[8])] [0,0,0,4,0,16,60,124,254,511,1023]=true:=by kernel_rfl
theorem sim58_tab:rtab .any (opsOf Tryd.f48 58)=(true,[([],[]),([0],[0]),([],[]),([],[]),([1,2,3],[1,2,3]),([],[]),([5],[5]),([],[]),([7],[7]),([6,8],[6,8]),([4,9],[4,9]),([0,1,2,3,4,5,6,7,8,9,10],[]),([11,10,10,0,1,2,3,4,5,6,7,8,9,10],[10,11])]):=by kernel_rfl
theorem sim58_bits:waitsOk [([],[]),([0],[0]),([],[]),([],[]),([1,2,3],[1,2,3]),([],[]),([5],[5]),([],[]),([7],[7]),([6,8],[6,8]),([4,9],[4,9]),([0,1,2,3,4,5,6,7,8,9,10],[]),([11,10,10,0,1,2,3,4,5,6,7,8,9,10],[10,11])] [0,1,0,0,15,0,32,0,128,480,1023,2047,4095]=true:=by kernel_rfl
theorem sim60b_tab:rtab .any (opsOf Tryd.f48 60)=(true,[([],[]),([],[]),([],[]),([2],[2]),([],[]),([4],[4]),([3,5],[3,5]),([6],[6]),([1,7],[1,7]),([0,8,0],[0]),([8,9,0,1,2,3,4,5,6,7,8,9],[8])]):=by kernel_rfl
theorem sim60b_bits:waitsOk [([],[]),([],[]),([],[]),([2],[2]),([],[]),([4],[4]),([3,5],[3,5]),([6],[6]),([1,7],[1,7]),([0,8,0],[0]),([8,9,0,1,2,3,4,5,6,7,8,9],[8])] [0,0,0,4,0,16,60,124,254,511,1023]=true:=by kernel_rfl
theorem sim60_tab:rtab .any (opsOf Tryd.f48 60)=(true,[([],[]),([],[]),([],[]),([2],[2]),([],[]),([4],[4]),([3,5],[3,5]),([6],[6]),([1,7],[1,7]),([0,8,0],[0]),([8,9,0,1,2,3,4,5,6,7,8,9],[8])]):=by kernel_rfl
theorem sim60_bits:waitsOk [([],[]),([],[]),([],[]),([2],[2]),([],[]),([4],[4]),([3,5],[3,5]),([6],[6]),([1,7],[1,7]),([0,8,0],[0]),([8,9,0,1,2,3,4,5,6,7,8,9],[8])] [0,0,0,4,0,16,60,124,254,511,1023]=true:=by kernel_rfl
set_option maxHeartbeats 4000000 in
set_option maxRecDepth 100000 in
theorem memStep_7 (v w:World) (A0 A1 A2 A3:Option Addr) (c0 c1 c2 c3:Nat) (G:Hp) (e:S40) (A6:Option Addr) (c6:Nat) (hB:Below v.heap.size v w) (hO:OwnG w v.heap.size A0 c0 A1 c1 A2 c2 A3 c3 G) (hk:OkH G.o G.r G.w G.d) (he:Kd.C (Kd.int .i64) w A6 e.f4.f2.length e.f4.f2) (hc:e.f4.f2.length≤c6) (hkd:e.f0=7) (R:Hp) (s:ByteArray) (hR:(R,s)=((collectB G).1,sOk)) :
  Calls Tryd.prog 48 #[.agg #[.slice A0 G.o.length c0,.slice A1 G.r.length c1,.slice A2 G.w.length c2,.slice A3 G.d.length c3],.agg #[.int .i64 e.f0,.int .i64 e.f1,.int .i64 e.f2,.int .i64 e.f3,.int .i64 e.f4.f0,.string e.f4.f1,.slice A6 e.f4.f2.length c6]] w fun en w'=>∃B0 d0 B1 d1 B2 d2 B3 d3,en=.returned (.tuple #[.agg #[.slice B0 R.o.length d0,.slice B1 R.r.length d1,.slice B2 R.w.length d2,.slice B3 R.d.length d3],.string s]) ∧
   OwnX w' v.heap.size B0 d0 B1 d1 B2 d2 B3 d3 R∧Below v.heap.size v w':=by
 have f7:(e.f0 == 7)=true:=beq_iff_eq.mpr hkd
 obtain⟨mv,emv⟩:∃mv,mv=(collectB G).2:=⟨_,rfl⟩
 have hc7:=hR
 injection hc7 with hc1 hc2
 subst hc2
 have HCB:=AK (show (R,mv)=collectB ⟨G.o,G.r,G.w,G.d⟩by rw[hc1,emv])
 have HOK:=AK hk
 clear hc1 emv hkd
 have K0:=AK (WK.start hB hO e A6 c6)
 clear hB hO hk he hc hR
 go_enter Tryd.func48,Tryd.ntmps48
 go_upto_region 1 with fail
 have K:=AK (show WK v w w.heap.size A0 c0 A1 c1 A2 c2 A3 c3 G e A6 c6 (((w.alloc (.cells #[.slice A0 G.o.length c0,.slice A1 G.r.length c1,.slice A2 G.w.length c2,.slice A3 G.d.length c3] 33 (0,0))).alloc (.cells #[.int .i64 e.f0,.int .i64 e.f1,.int .i64 e.f2,.int .i64 e.f3,.int .i64 e.f4.f0,.string e.f4.f1,.slice A6 e.f4.f2.length c6] 37 (0,0))).alloc (.cells #[.slice none 0 0,.slice none 0 0,.slice none 0 0,.slice none 0 0] 33 (0,0)))from K0.out)
 have HWB:=AK (show Below w.heap.size w (((w.alloc (.cells #[.slice A0 G.o.length c0,.slice A1 G.r.length c1,.slice A2 G.w.length c2,.slice A3 G.d.length c3] 33 (0,0))).alloc (.cells #[.int .i64 e.f0,.int .i64 e.f1,.int .i64 e.f2,.int .i64 e.f3,.int .i64 e.f4.f0,.string e.f4.f1,.slice A6 e.f4.f2.length c6] 37 (0,0))).alloc (.cells #[.slice none 0 0,.slice none 0 0,.slice none 0 0,.slice none 0 0] 33 (0,0)))from below_alloc (below_alloc (below_alloc (Below.refl _ _) _) _) _)
 generalize (((w.alloc (.cells #[.slice A0 G.o.length c0,.slice A1 G.r.length c1,.slice A2 G.w.length c2,.slice A3 G.d.length c3] 33 (0,0))).alloc (.cells #[.int .i64 e.f0,.int .i64 e.f1,.int .i64 e.f2,.int .i64 e.f3,.int .i64 e.f4.f0,.string e.f4.f1,.slice A6 e.f4.f2.length c6] 37 (0,0))).alloc (.cells #[.slice none 0 0,.slice none 0 0,.slice none 0 0,.slice none 0 0] 33 (0,0)))=w1 at K HWB ⊢
 generalize w.heap.size=n at K ⊢
 clear K0
 obtain⟨p0,p1,p2,p3⟩:=K.out.hc
 obtain⟨q0,q1,q2,q3,q4,q5,q6⟩:=K.out.ec
 go_wp2_with fail
 clear p0 p1 p2 p3 q0 q1 q2 q3 q4 q5 q6
 refine(MemCollect_calls A0 A1 A2 A3 c0 c1 c2 c3 G.o G.r G.w G.d w1 K.out.own.reads ⟨by have:=HOK.out.w;omega,HOK.out.fine.f⟩ R mv HCB.out).mono ?_
 rintro en w2 ⟨B0,d0,B1,d1,B2,d2,B3,d3,E,ee,rfl,hM,hb⟩
 have K2:=AK (K.out.below hb)
 have HO2:=AK (OwnH.lower hM.own K.out.b.size)
 have HW3:=AK (below_alloc (Below.refl w2.heap.size w2) (.cells #[.slice B0 R.o.length d0,.slice B1 R.r.length d1,.slice B2 R.w.length d2,.slice B3 R.d.length d3] 33 (0,0)))
 have K3:=AK (K2.out.below HW3.out)
 clear hM hb K
 obtain⟨z0,z1,z2,z3⟩:=K3.out.oc
 have y0:=K3.out.of 0
 have y1:=K3.out.of 1
 have y2:=K3.out.of 2
 have y3:=K3.out.of 3
 go_wp2
 refine bodyPost_ret (results_ct rfl _ _ (n+2) 33 #[.slice B0 R.o.length d0,.slice B1 R.r.length d1,.slice B2 R.w.length d2,.slice B3 R.d.length d3] (0,0) _ rfl (set4_blk K3.out.o) Tryd.underlying33 rfl (by kernel_rfl)) rfl ?_
 exact⟨B0,d0,B1,d1,B2,d2,B3,d3,rfl,⟨⟨_,(HO2.out.below HW3.out).set4 K3.out.o⟩,HO2.out.reads.k3⟩,set4_below K3.out.b (by have:=K3.out.n0;omega)⟩
set_option maxHeartbeats 4000000 in
set_option maxRecDepth 100000 in
theorem memStep_t (v w:World) (A0 A1 A2 A3:Option Addr) (c0 c1 c2 c3:Nat) (G:Hp) (e:S40) (A6:Option Addr) (c6:Nat) (hB:Below v.heap.size v w) (hO:OwnG w v.heap.size A0 c0 A1 c1 A2 c2 A3 c3 G) (hk:OkH G.o G.r G.w G.d) (he:Kd.C (Kd.int .i64) w A6 e.f4.f2.length e.f4.f2) (hc:e.f4.f2.length≤c6) (hk7:¬ e.f0=7) (ht:toB G e=false) (R:Hp) (s:ByteArray) (hR:(R,s)=(G,sNo)) :
  Calls Tryd.prog 48 #[.agg #[.slice A0 G.o.length c0,.slice A1 G.r.length c1,.slice A2 G.w.length c2,.slice A3 G.d.length c3],.agg #[.int .i64 e.f0,.int .i64 e.f1,.int .i64 e.f2,.int .i64 e.f3,.int .i64 e.f4.f0,.string e.f4.f1,.slice A6 e.f4.f2.length c6]] w fun en w'=>∃B0 d0 B1 d1 B2 d2 B3 d3,en=.returned (.tuple #[.agg #[.slice B0 R.o.length d0,.slice B1 R.r.length d1,.slice B2 R.w.length d2,.slice B3 R.d.length d3],.string s]) ∧
   OwnX w' v.heap.size B0 d0 B1 d1 B2 d2 B3 d3 R∧Below v.heap.size v w':=by
 injection hR with he1 he2
 subst he1 he2
 have f7:(e.f0 == 7)=false:=beq_eq_false_iff_ne.mpr hk7
 have HT:=AK ht
 have hR:True:=trivial
 clear hk7 ht
 have K0:=AK (WK.start hB hO e A6 c6)
 clear hB hO hk he hc hR
 go_enter Tryd.func48,Tryd.ntmps48
 go_upto_region 1 with fail
 have K:=AK (show WK v w w.heap.size A0 c0 A1 c1 A2 c2 A3 c3 R e A6 c6 (((w.alloc (.cells #[.slice A0 R.o.length c0,.slice A1 R.r.length c1,.slice A2 R.w.length c2,.slice A3 R.d.length c3] 33 (0,0))).alloc (.cells #[.int .i64 e.f0,.int .i64 e.f1,.int .i64 e.f2,.int .i64 e.f3,.int .i64 e.f4.f0,.string e.f4.f1,.slice A6 e.f4.f2.length c6] 37 (0,0))).alloc (.cells #[.slice none 0 0,.slice none 0 0,.slice none 0 0,.slice none 0 0] 33 (0,0)))from K0.out)
 have HWB:=AK (show Below w.heap.size w (((w.alloc (.cells #[.slice A0 R.o.length c0,.slice A1 R.r.length c1,.slice A2 R.w.length c2,.slice A3 R.d.length c3] 33 (0,0))).alloc (.cells #[.int .i64 e.f0,.int .i64 e.f1,.int .i64 e.f2,.int .i64 e.f3,.int .i64 e.f4.f0,.string e.f4.f1,.slice A6 e.f4.f2.length c6] 37 (0,0))).alloc (.cells #[.slice none 0 0,.slice none 0 0,.slice none 0 0,.slice none 0 0] 33 (0,0)))from below_alloc (below_alloc (below_alloc (Below.refl _ _) _) _) _)
 generalize (((w.alloc (.cells #[.slice A0 R.o.length c0,.slice A1 R.r.length c1,.slice A2 R.w.length c2,.slice A3 R.d.length c3] 33 (0,0))).alloc (.cells #[.int .i64 e.f0,.int .i64 e.f1,.int .i64 e.f2,.int .i64 e.f3,.int .i64 e.f4.f0,.string e.f4.f1,.slice A6 e.f4.f2.length c6] 37 (0,0))).alloc (.cells #[.slice none 0 0,.slice none 0 0,.slice none 0 0,.slice none 0 0] 33 (0,0)))=w1 at K HWB ⊢
 generalize w.heap.size=n at K ⊢
 clear K0
 by_cases cx:e.f1<0
 case pos=>
  have ft0:decide (e.f1<0)=true:=deT cx
  obtain⟨q0,q1,q2,q3,q4,q5,q6⟩:=K.out.ec
  obtain⟨p0,p1,p2,p3⟩:=K.out.hc
  obtain⟨z0,z1,z2,z3⟩:=K.out.oc
  have y0:=K.out.of 0
  have y1:=K.out.of 1
  have y2:=K.out.of 2
  have y3:=K.out.of 3
  go_wp2
  refine bodyPost_ret (results_ct rfl _ _ (n+2) 33 #[.slice A0 R.o.length c0,.slice A1 R.r.length c1,.slice A2 R.w.length c2,.slice A3 R.d.length c3] (0,0) _ rfl K.out.fin.2.2.1 Tryd.underlying33 rfl (by kernel_rfl)) rfl ?_
  exact⟨A0,c0,A1,c1,A2,c2,A3,c3,rfl,⟨⟨_,K.out.fin.1⟩,K.out.own.reads.k3⟩,K.out.fin.2.1⟩
 have ft0:decide (e.f1<0)=false:=deF cx
 have ft1:decide ((R.r.length:Int)≤e.f1)=true:=deT (by have h:=HT.out;unfold toB at h;simp at h;omega)
 clear cx HT
 obtain⟨q0,q1,q2,q3,q4,q5,q6⟩:=K.out.ec
 obtain⟨p0,p1,p2,p3⟩:=K.out.hc
 obtain⟨z0,z1,z2,z3⟩:=K.out.oc
 have y0:=K.out.of 0
 have y1:=K.out.of 1
 have y2:=K.out.of 2
 have y3:=K.out.of 3
 go_wp2
 refine bodyPost_ret (results_ct rfl _ _ (n+2) 33 #[.slice A0 R.o.length c0,.slice A1 R.r.length c1,.slice A2 R.w.length c2,.slice A3 R.d.length c3] (0,0) _ rfl K.out.fin.2.2.1 Tryd.underlying33 rfl (by kernel_rfl)) rfl ?_
 exact⟨A0,c0,A1,c1,A2,c2,A3,c3,rfl,⟨⟨_,K.out.fin.1⟩,K.out.own.reads.k3⟩,K.out.fin.2.1⟩
set_option maxHeartbeats 4000000 in
set_option maxRecDepth 100000 in
theorem memStep_no (v w:World) (A0 A1 A2 A3:Option Addr) (c0 c1 c2 c3:Nat) (G:Hp) (e:S40) (A6:Option Addr) (c6:Nat) (hB:Below v.heap.size v w) (hO:OwnG w v.heap.size A0 c0 A1 c1 A2 c2 A3 c3 G) (hk:OkH G.o G.r G.w G.d) (he:Kd.C (Kd.int .i64) w A6 e.f4.f2.length e.f4.f2) (hc:e.f4.f2.length≤c6) (ht:toB G e=true) (hk7:¬ e.f0=7) (hk1:¬ e.f0=1) (hk2:¬ e.f0=2) (hk3:¬ e.f0=3) (hk4:¬ e.f0=4) (hk5:¬ e.f0=5) (hk6:¬ e.f0=6) (R:Hp) (s:ByteArray) (hR:(R,s)=(G,sNo)) :
  Calls Tryd.prog 48 #[.agg #[.slice A0 G.o.length c0,.slice A1 G.r.length c1,.slice A2 G.w.length c2,.slice A3 G.d.length c3],.agg #[.int .i64 e.f0,.int .i64 e.f1,.int .i64 e.f2,.int .i64 e.f3,.int .i64 e.f4.f0,.string e.f4.f1,.slice A6 e.f4.f2.length c6]] w fun en w'=>∃B0 d0 B1 d1 B2 d2 B3 d3,en=.returned (.tuple #[.agg #[.slice B0 R.o.length d0,.slice B1 R.r.length d1,.slice B2 R.w.length d2,.slice B3 R.d.length d3],.string s]) ∧
   OwnX w' v.heap.size B0 d0 B1 d1 B2 d2 B3 d3 R∧Below v.heap.size v w':=by
 have f7:(e.f0 == 7)=false:=beq_eq_false_iff_ne.mpr hk7
 have f1:(e.f0 == 1)=false:=beq_eq_false_iff_ne.mpr hk1
 have f2:(e.f0 == 2)=false:=beq_eq_false_iff_ne.mpr hk2
 have f3:(e.f0 == 3)=false:=beq_eq_false_iff_ne.mpr hk3
 have f4:(e.f0 == 4)=false:=beq_eq_false_iff_ne.mpr hk4
 have f5:(e.f0 == 5)=false:=beq_eq_false_iff_ne.mpr hk5
 have f6:(e.f0 == 6)=false:=beq_eq_false_iff_ne.mpr hk6
 injection hR with he1 he2
 subst he1 he2
 have HTO:=AK (show 0≤e.f1∧e.f1<R.r.length by unfold toB at ht;simpa using ht)
 have ft0:decide (e.f1<0)=false:=deF (by have:=HTO.out;omega)
 have ft1:decide ((R.r.length:Int)≤e.f1)=false:=deF (by have:=HTO.out;omega)
 have hR:True:=trivial
 clear ht hk7 hk1 hk2 hk3 hk4 hk5 hk6
 have K0:=AK (WK.start hB hO e A6 c6)
 clear hB hO hk he hc hR
 go_enter Tryd.func48,Tryd.ntmps48
 go_upto_region 1 with fail
 have K:=AK (show WK v w w.heap.size A0 c0 A1 c1 A2 c2 A3 c3 R e A6 c6 (((w.alloc (.cells #[.slice A0 R.o.length c0,.slice A1 R.r.length c1,.slice A2 R.w.length c2,.slice A3 R.d.length c3] 33 (0,0))).alloc (.cells #[.int .i64 e.f0,.int .i64 e.f1,.int .i64 e.f2,.int .i64 e.f3,.int .i64 e.f4.f0,.string e.f4.f1,.slice A6 e.f4.f2.length c6] 37 (0,0))).alloc (.cells #[.slice none 0 0,.slice none 0 0,.slice none 0 0,.slice none 0 0] 33 (0,0)))from K0.out)
 have HWB:=AK (show Below w.heap.size w (((w.alloc (.cells #[.slice A0 R.o.length c0,.slice A1 R.r.length c1,.slice A2 R.w.length c2,.slice A3 R.d.length c3] 33 (0,0))).alloc (.cells #[.int .i64 e.f0,.int .i64 e.f1,.int .i64 e.f2,.int .i64 e.f3,.int .i64 e.f4.f0,.string e.f4.f1,.slice A6 e.f4.f2.length c6] 37 (0,0))).alloc (.cells #[.slice none 0 0,.slice none 0 0,.slice none 0 0,.slice none 0 0] 33 (0,0)))from below_alloc (below_alloc (below_alloc (Below.refl _ _) _) _) _)
 generalize (((w.alloc (.cells #[.slice A0 R.o.length c0,.slice A1 R.r.length c1,.slice A2 R.w.length c2,.slice A3 R.d.length c3] 33 (0,0))).alloc (.cells #[.int .i64 e.f0,.int .i64 e.f1,.int .i64 e.f2,.int .i64 e.f3,.int .i64 e.f4.f0,.string e.f4.f1,.slice A6 e.f4.f2.length c6] 37 (0,0))).alloc (.cells #[.slice none 0 0,.slice none 0 0,.slice none 0 0,.slice none 0 0] 33 (0,0)))=w1 at K HWB ⊢
 generalize w.heap.size=n at K ⊢
 clear K0
 obtain⟨q0,q1,q2,q3,q4,q5,q6⟩:=K.out.ec
 obtain⟨p0,p1,p2,p3⟩:=K.out.hc
 obtain⟨z0,z1,z2,z3⟩:=K.out.oc
 have y0:=K.out.of 0
 have y1:=K.out.of 1
 have y2:=K.out.of 2
 have y3:=K.out.of 3
 go_wp2
 refine bodyPost_ret (results_ct rfl _ _ (n+2) 33 #[.slice A0 R.o.length c0,.slice A1 R.r.length c1,.slice A2 R.w.length c2,.slice A3 R.d.length c3] (0,0) _ rfl K.out.fin.2.2.1 Tryd.underlying33 rfl (by kernel_rfl)) rfl ?_
 exact⟨A0,c0,A1,c1,A2,c2,A3,c3,rfl,⟨⟨_,K.out.fin.1⟩,K.out.own.reads.k3⟩,K.out.fin.2.1⟩
set_option maxHeartbeats 4000000 in
set_option maxRecDepth 100000 in
theorem memStep_2 (v w:World) (A0 A1 A2 A3:Option Addr) (c0 c1 c2 c3:Nat) (G:Hp) (e:S40) (A6:Option Addr) (c6:Nat) (hB:Below v.heap.size v w) (hO:OwnG w v.heap.size A0 c0 A1 c1 A2 c2 A3 c3 G) (hk:OkH G.o G.r G.w G.d) (he:Kd.C (Kd.int .i64) w A6 e.f4.f2.length e.f4.f2) (hc:e.f4.f2.length≤c6) (hl6:e.f4.f2.length≤1048576) (hs6:(e.f4.f1.size:Int)≤4611686018427387903) (hkd:e.f0=2) (ht:toB G e=true) (R:Hp) (s:ByteArray) (hR:(R,s)=takesB G e) :
  Calls Tryd.prog 48 #[.agg #[.slice A0 G.o.length c0,.slice A1 G.r.length c1,.slice A2 G.w.length c2,.slice A3 G.d.length c3],.agg #[.int .i64 e.f0,.int .i64 e.f1,.int .i64 e.f2,.int .i64 e.f3,.int .i64 e.f4.f0,.string e.f4.f1,.slice A6 e.f4.f2.length c6]] w fun en w'=>∃B0 d0 B1 d1 B2 d2 B3 d3,en=.returned (.tuple #[.agg #[.slice B0 R.o.length d0,.slice B1 R.r.length d1,.slice B2 R.w.length d2,.slice B3 R.d.length d3],.string s]) ∧
   OwnX w' v.heap.size B0 d0 B1 d1 B2 d2 B3 d3 R∧Below v.heap.size v w':=by
 have f7:(e.f0 == 7)=false:=beq_eq_false_iff_ne.mpr (by omega)
 have f1:(e.f0 == 1)=false:=beq_eq_false_iff_ne.mpr (by omega)
 have f2:(e.f0 == 2)=true:=beq_iff_eq.mpr hkd
 have HR:=AK hR
 have HOK:=AK hk
 have HE0:=AK (And.intro he hc)
 have HL6:=AK (And.intro hl6 hs6)
 have HTO:=AK (show 0≤e.f1∧e.f1<G.r.length by unfold toB at ht;simpa using ht)
 have ft0:decide (e.f1<0)=false:=deF (by have:=HTO.out;omega)
 have ft1:decide ((G.r.length:Int)≤e.f1)=false:=deF (by have:=HTO.out;omega)
 obtain⟨b1,cr,er,_,_,_,_⟩:=Kd.R_form hO.s1 (by have:=HTO.out;omega)
 injection er with er1 er2 er3
 subst er1 er3
 clear er2 hl6 hs6 hkd ht
 have K0:=AK (WK.start hB hO e A6 c6)
 clear hB hO hk he hc hR
 go_enter Tryd.func48,Tryd.ntmps48
 go_upto_region 1 with fail
 have K:=AK (show WK v w w.heap.size A0 c0 (some ⟨b1,0,none⟩) c1 A2 c2 A3 c3 G e A6 c6 (((w.alloc (.cells #[.slice A0 G.o.length c0,.slice (some ⟨b1,0,none⟩) G.r.length c1,.slice A2 G.w.length c2,.slice A3 G.d.length c3] 33 (0,0))).alloc (.cells #[.int .i64 e.f0,.int .i64 e.f1,.int .i64 e.f2,.int .i64 e.f3,.int .i64 e.f4.f0,.string e.f4.f1,.slice A6 e.f4.f2.length c6] 37 (0,0))).alloc (.cells #[.slice none 0 0,.slice none 0 0,.slice none 0 0,.slice none 0 0] 33 (0,0)))from K0.out)
 have HWB:=AK (show Below w.heap.size w (((w.alloc (.cells #[.slice A0 G.o.length c0,.slice (some ⟨b1,0,none⟩) G.r.length c1,.slice A2 G.w.length c2,.slice A3 G.d.length c3] 33 (0,0))).alloc (.cells #[.int .i64 e.f0,.int .i64 e.f1,.int .i64 e.f2,.int .i64 e.f3,.int .i64 e.f4.f0,.string e.f4.f1,.slice A6 e.f4.f2.length c6] 37 (0,0))).alloc (.cells #[.slice none 0 0,.slice none 0 0,.slice none 0 0,.slice none 0 0] 33 (0,0)))from below_alloc (below_alloc (below_alloc (Below.refl _ _) _) _) _)
 generalize (((w.alloc (.cells #[.slice A0 G.o.length c0,.slice (some ⟨b1,0,none⟩) G.r.length c1,.slice A2 G.w.length c2,.slice A3 G.d.length c3] 33 (0,0))).alloc (.cells #[.int .i64 e.f0,.int .i64 e.f1,.int .i64 e.f2,.int .i64 e.f3,.int .i64 e.f4.f0,.string e.f4.f1,.slice A6 e.f4.f2.length c6] 37 (0,0))).alloc (.cells #[.slice none 0 0,.slice none 0 0,.slice none 0 0,.slice none 0 0] 33 (0,0)))=w1 at K HWB ⊢
 generalize w.heap.size=n at K ⊢
 clear K0
 obtain⟨p0,p1,p2,p3⟩:=K.out.hc
 obtain⟨q0,q1,q2,q3,q4,q5,q6⟩:=K.out.ec
 go_wp2_with fail
 clear p0 p1 p2 p3 q0 q1 q2 q3 q4 q5 q6
 refine(known_c (p:=e.f2) K.out.h K.out.own.reads).mono ?_
 rintro en w2 ⟨rfl,hb⟩
 replace K:=AK (K.out.below hb.below)
 clear hb
 have hgk:=known_range HOK.out e.f2
 obtain⟨k,ek⟩:∃k,k=knownL G.r e.f2:=⟨_,rfl⟩
 rw[←ek]at hgk ⊢
 have Ek:=AK ek
 clear ek
 obtain⟨p0,p1,p2,p3⟩:=K.out.hc
 obtain⟨q0,q1,q2,q3,q4,q5,q6⟩:=K.out.ec
 go_wp2_with fail
 clear p0 p1 p2 p3 q0 q1 q2 q3 q4 q5 q6
 refine(isPart_c K.out.h K.out.e K.out.own.reads hgk.2).mono ?_
 rintro en w3 ⟨rfl,hb⟩
 replace K:=AK (K.out.below hb.below)
 clear hb
 obtain⟨pb,epb⟩:∃pb,pb=partB G k e.f3:=⟨_,rfl⟩
 rw[←epb]
 have EPB:=AK epb
 clear epb
 cases pb with
 | false=>
  have he:(R,s)=(G,sNo):=by rw[HR.out];exact takesB_no (by rw[←Ek.out];exact EPB.out.symm)
  injection he with he1 he2
  subst he1 he2
  obtain⟨p0,p1,p2,p3⟩:=K.out.hc
  obtain⟨z0,z1,z2,z3⟩:=K.out.oc
  have y0:=K.out.of 0
  have y1:=K.out.of 1
  have y2:=K.out.of 2
  have y3:=K.out.of 3
  go_wp2
  refine bodyPost_ret (results_ct rfl _ _ (n+2) 33 #[.slice A0 R.o.length c0,.slice (some ⟨b1,0,none⟩) R.r.length c1,.slice A2 R.w.length c2,.slice A3 R.d.length c3] (0,0) _ rfl K.out.fin.2.2.1 Tryd.underlying33 rfl (by kernel_rfl)) rfl ?_
  exact⟨A0,c0,(some ⟨b1,0,none⟩),c1,A2,c2,A3,c3,rfl,⟨⟨_,K.out.fin.1⟩,K.out.own.reads.k3⟩,K.out.fin.2.1⟩
 | true=>
 have htk:=HR.out.trans (takesB_yes (by rw[←Ek.out];exact EPB.out.symm))
 rw[←Ek.out]at htk
 have HP:=AK ((partB_iff G k e.f3).1 EPB.out.symm)
 clear HR EPB Ek
 have hk0:=eq_true (show 0≤k from HP.out.1)
 have hk1:=eq_true (show k<(G.o.length:Int)from hgk.2)
 have HKB:=AK hgk
 have ha0:=eq_true (show 0≤e.f3 from HP.out.2.1)
 clear hgk
 obtain⟨ad,Af,cf,ea,_,_,ha2,_,hCf⟩:=at_T38 K.out.own.reads.r0 k HP.out.1 HKB.out.2
 subst ea
 have HOB:=AK (ob_parts (ob_at HOK.out HP.out.1 HKB.out.2)).1
 obtain⟨z,ez⟩:∃z,z=rd_T38 G.o k:=⟨_,rfl⟩
 rw[←ez]at ha2 hCf htk HP HOB
 clear ez
 obtain⟨ar,er,hr⟩:=Kd.at_int hCf e.f3 HP.out.2.1 HP.out.2.2
 subst er
 clear hCf
 have ha1:=eq_true (show e.f3<(z.f2.length:Int)from HP.out.2.2)
 obtain⟨p,ep⟩:∃p,p=rd z.f2 e.f3:=⟨_,rfl⟩
 rw[←ep]at hr htk
 have HPB:=AK (show -1≤p∧p<G.o.length from HOB.out p (by rw[ep];exact getD_mem _ 0 _ HP.out.2.1 HP.out.2.2))
 clear ep HOB
 obtain⟨r2,er2⟩:∃r2,r2=G.r.set e.f1.toNat p:=⟨_,rfl⟩
 rw[←er2]at htk
 have HLN:=AK (show e.f1<(r2.length:Int)by rw[er2,List.length_set];exact HTO.out.2)
 have HRD:=AK (show rd r2 e.f1=p by
  rw[er2];unfold rd;rw[List.getD_eq_getElem?_getD,List.getElem?_set_self (by have:=HTO.out;omega)];rfl)
 have HER:=AK er2
 clear er2
 injection htk with he1 he2
 subst he1 he2
 have hi0:=eq_true (show 0≤e.f1 from HTO.out.1)
 have hi1:=eq_true (show e.f1<(G.r.length:Int)from HTO.out.2)
 have CS:=AK (And.intro ha2 hr)
 clear ha2 hr
 go_wp2_with fail
 replace K:=AK (K.out.below (below_drew1 (Below.refl _ _)))
 replace CS:=AK (And.intro (pcb (below_drew1 (Below.refl _ _)) CS.out.1) (pcb (below_drew1 (Below.refl _ _)) CS.out.2))
 refine start_ (n:=16) (S:=(fun w'=>(w'.cell? ⟨n,0,none⟩=some (.slice (some ad) G.o.length c0)∧w'.cell? ⟨n,1,none⟩=some (.slice (some ⟨b1,0,none⟩) G.r.length c1)∧w'.cell? ⟨n,2,none⟩=some (.slice A2 G.w.length c2)∧w'.cell? ⟨n,3,none⟩=some (.slice A3 G.d.length c3))∧w'.cell? ⟨n+1,1,none⟩=some (.int .i64 e.f1)∧w'.cell? ⟨n+1,3,none⟩=some (.int .i64 e.f3)∧w'.cell? ⟨(ad.add (k.toNat*3)).block,(ad.add (k.toNat*3)).off+2,none⟩=some (.slice (some ar) z.f2.length cf)∧w'.cell? (ar.add e.f3.toNat)=some (.int .i64 p))) (ds:=[15]) #[fF,fF,fF,fF,fF,fF,fF,fF,fF,fF,fF,fF,fF,fF,fF,fF] (by kernel_rfl) rfl rfl ⟨K.out.hc,K.out.ec.2.1,K.out.ec.2.2.2.1,CS.out.1,CS.out.2⟩ (fun hHeld=>?_);refine with_tabW sim29_tab sim29_bits (fun HT_ HW_=>?_)
 generalize w3.drew=v8 at K CS hHeld ⊢
 refine pU HT_ 0 (some 113) (bM 16 1) ?_
 refine tU HT_ HW_ 1 (some 114) (bM 16 3) hHeld rfl (by refine Or.inl ⟨by rfl,?_⟩;rintro w' ⟨⟨s0,s1,s2,s3⟩,s4,s5,s6,s7⟩;go_simp;with_reducible rfl) ?_
 refine pU HT_ 2 (some 115) (bM 16 7) ?_
 refine tU HT_ HW_ 3 (some 116) (bM 16 15) hHeld rfl (by refine Or.inl ⟨by rfl,?_⟩;rintro w' ⟨⟨s0,s1,s2,s3⟩,s4,s5,s6,s7⟩;go_simp;with_reducible rfl) ?_
 refine pU HT_ 4 (some 117) (bM 16 31) ?_
 refine tU HT_ HW_ 5 (some 118) (bM 16 63) hHeld rfl (by refine Or.inl ⟨by rfl,?_⟩;rintro w' ⟨⟨s0,s1,s2,s3⟩,s4,s5,s6,s7⟩;go_simp;with_reducible rfl) ?_
 refine pU HT_ 6 (some 119) (bM 16 127) ?_
 refine pU HT_ 7 (some 120) (bM 16 255) ?_
 refine pU HT_ 8 (some 121) (bM 16 511) ?_
 refine tU HT_ HW_ 9 (some 122) (bM 16 1023) hHeld rfl (by refine Or.inl ⟨by rfl,?_⟩;rintro w' ⟨⟨s0,s1,s2,s3⟩,s4,s5,s6,s7⟩;go_simp;with_reducible rfl) ?_
 refine pU HT_ 10 (some 123) (bM 16 2047) ?_
 refine tU HT_ HW_ 11 (some 124) (bM 16 4095) hHeld rfl (by refine Or.inl ⟨by rfl,?_⟩;rintro w' ⟨⟨s0,s1,s2,s3⟩,s4,s5,s6,s7⟩;go_simp;with_reducible rfl) ?_
 refine pU HT_ 12 (some 125) (bM 16 8191) ?_
 refine tU HT_ HW_ 13 (some 126) (bM 16 16383) hHeld rfl (by refine Or.inl ⟨by rfl,?_⟩;rintro w' ⟨⟨s0,s1,s2,s3⟩,s4,s5,s6,s7⟩;go_simp;with_reducible rfl) ?_
 refine pU HT_ 14 (some 127) (bM 16 32767) ?_
 refine last_ (i:=15) (N:=none) #[tT,tT,tT,tT,tT,tT,tT,tT,tT,tT,tT,tT,tT,tT,tT,tT] rfl rfl (one_of HT_.out (by kernel_rfl)) (by decide) (fun K_ hK=>?_)
 obtain⟨x0,xf⟩:=RI_at K.out.own.s1 e.f1 HTO.out.1 HTO.out.2
 have N0:=AK (K.out.setR e.f1 HTO.out.1 HTO.out.2 p HER.out)
 refine skip_ (w1:=?_) (by rfl) rfl ?_ ?_
 rotate_left
 ·go_simp
  rfl
 clear x0 xf
 refine hK.out _ _ ?_
 clear hK K_
 refine done_ (done_of HT_.out (by kernel_rfl)) ?_
 clear HT_ HW_ hHeld
 go_wp2_with fail
 generalize v8.setCell ⟨b1,e.f1.toNat,none⟩ (.int .i64 p)=v12 at N0 ⊢
 clear K CS
 have K11:=N0
 clear N0
 have hs1:Kd.R (Kd.int .i64) 3 v12 v.heap.size (fun _=>True) (.slice (some ⟨b1,0,none⟩) r2.length c1) r2:=K11.out.own.s1
 have HRT:=AK ((RI_at hs1 e.f1 HTO.out.1 HLN.out).1.trans (by rw[HRD.out]))
 have hi3:=eq_true HLN.out
 clear hs1
 replace HRT:=AK (show (World.drew v12).cell? _=_ from pcb (below_drew1 (Below.refl _ _)) HRT.out)
 replace K11:=AK (K11.out.below (below_drew1 (Below.refl _ _)))
 refine start_ (n:=11) (S:=(fun w'=>(w'.cell? ⟨n,0,none⟩=some (.slice (some ad) G.o.length c0)∧w'.cell? ⟨n,1,none⟩=some (.slice (some ⟨b1,0,none⟩) r2.length c1)∧w'.cell? ⟨n,2,none⟩=some (.slice A2 G.w.length c2)∧w'.cell? ⟨n,3,none⟩=some (.slice A3 G.d.length c3))∧w'.cell? ⟨n+1,1,none⟩=some (.int .i64 e.f1)∧w'.cell? ⟨b1,e.f1.toNat,none⟩=some (.int .i64 p))) (ds:=[9]) #[fF,fF,fF,fF,fF,fF,fF,fF,fF,fF,fF] (by kernel_rfl) rfl rfl ⟨K11.out.hc,K11.out.ec.2.1,HRT.out⟩ (fun hHeld=>?_);refine with_tabW sim30_tab sim30_bits (fun HT_ HW_=>?_)
 generalize v12.drew=v5 at HRT K11 hHeld ⊢
 refine tU HT_ HW_ 0 (some 128) (bM 11 1) hHeld rfl (by refine Or.inl ⟨by rfl,?_⟩;rintro w' ⟨⟨s0,s1,s2,s3⟩,s4,s5⟩;go_simp;with_reducible rfl) ?_
 refine tU HT_ HW_ 1 (some 129) (bM 11 3) hHeld rfl (by refine Or.inl ⟨by rfl,?_⟩;rintro w' ⟨⟨s0,s1,s2,s3⟩,s4,s5⟩;go_simp;with_reducible rfl) ?_
 refine pU HT_ 2 (some 130) (bM 11 7) ?_
 refine tU HT_ HW_ 3 (some 131) (bM 11 15) hHeld rfl (by refine Or.inl ⟨by rfl,?_⟩;rintro w' ⟨⟨s0,s1,s2,s3⟩,s4,s5⟩;go_simp;with_reducible rfl) ?_
 refine pU HT_ 4 (some 132) (bM 11 31) ?_
 refine tU HT_ HW_ 5 (some 133) (bM 11 63) hHeld rfl (by refine Or.inl ⟨by rfl,?_⟩;rintro w' ⟨⟨s0,s1,s2,s3⟩,s4,s5⟩;go_simp;with_reducible rfl) ?_
 refine pU HT_ 6 (some 134) (bM 11 127) ?_
 refine tU HT_ HW_ 7 (some 135) (bM 11 255) hHeld rfl (by refine Or.inl ⟨by rfl,?_⟩;rintro w' ⟨⟨s0,s1,s2,s3⟩,s4,s5⟩;go_simp;with_reducible rfl) ?_
 refine one_ (i:=8) (N:=some 136) (bM 11 511) rfl rfl (one_of HT_.out (by kernel_rfl)) (by decide) (fun K_ hK=>?_)
 refine goes_ Tryd.func68 (by kernel_rfl) rfl #[.agg #[.slice (some ad) G.o.length c0,.slice (some ⟨b1,0,none⟩) r2.length c1,.slice A2 G.w.length c2,.slice A3 G.d.length c3],.int .i64 p] (by rfl) rfl rfl zI ?_
 refine(seen_c K11.out.own.reads HPB.out.2 (fun h=>(ob_small2 (ob_at HOK.out h HPB.out.2)).2)).mono ?_
 rintro en v6 ⟨rfl,hb⟩
 refine⟨_,rfl,?_⟩
 replace HRT:=AK (pcb hb HRT.out)
 replace K11:=AK (K11.out.below hb)
 clear hb
 refine hK.out _ _ ⟨K11.out.hc,K11.out.ec.2.1,HRT.out⟩ (fun hHeld=>?_)
 clear hK K_
 refine nO (some 136) ?_
 refine last_ (i:=9) (N:=none) #[tT,tT,tT,tT,tT,tT,tT,tT,tT,tT,fF] rfl rfl (one_of HT_.out (by kernel_rfl)) (by decide) (fun K_ hK=>?_)
 obtain⟨z0,z1,z2,z3⟩:=K11.out.oc
 have y0:=K11.out.of 0
 have y1:=K11.out.of 1
 have y2:=K11.out.of 2
 have y3:=K11.out.of 3
 refine skip_ (w1:=?_) (by rfl) rfl ?_ ?_
 rotate_left
 ·go_simp
  rfl
 clear z0 z1 z2 z3 y0 y1 y2 y3
 refine hK.out _ _ ?_
 clear hK K_
 refine pU HT_ 10 (some 5) (bM 11 2047) ?_
 refine done_ (done_of HT_.out (by kernel_rfl)) ?_
 clear HT_ HW_ hHeld
 go_wp2
 refine bodyPost_ret (results_ct rfl _ _ (n+2) 33 #[.slice (some ad) G.o.length c0,.slice (some ⟨b1,0,none⟩) r2.length c1,.slice A2 G.w.length c2,.slice A3 G.d.length c3] (0,0) _ rfl K11.out.fin.2.2.1 Tryd.underlying33 rfl (by kernel_rfl)) rfl ?_
 exact⟨(some ad),c0,(some ⟨b1,0,none⟩),c1,A2,c2,A3,c3,rfl,⟨⟨_,K11.out.fin.1⟩,K11.out.own.reads.k3⟩,K11.out.fin.2.1⟩
set_option maxHeartbeats 4000000 in
set_option maxRecDepth 100000 in
theorem memStep_3 (v w:World) (A0 A1 A2 A3:Option Addr) (c0 c1 c2 c3:Nat) (G:Hp) (e:S40) (A6:Option Addr) (c6:Nat) (hB:Below v.heap.size v w) (hO:OwnG w v.heap.size A0 c0 A1 c1 A2 c2 A3 c3 G) (hk:OkH G.o G.r G.w G.d) (he:Kd.C (Kd.int .i64) w A6 e.f4.f2.length e.f4.f2) (hc:e.f4.f2.length≤c6) (hl6:e.f4.f2.length≤1048576) (hs6:(e.f4.f1.size:Int)≤4611686018427387903) (hkd:e.f0=3) (ht:toB G e=true) (R:Hp) (s:ByteArray) (hR:(R,s)=setsB G e) :
  Calls Tryd.prog 48 #[.agg #[.slice A0 G.o.length c0,.slice A1 G.r.length c1,.slice A2 G.w.length c2,.slice A3 G.d.length c3],.agg #[.int .i64 e.f0,.int .i64 e.f1,.int .i64 e.f2,.int .i64 e.f3,.int .i64 e.f4.f0,.string e.f4.f1,.slice A6 e.f4.f2.length c6]] w fun en w'=>∃B0 d0 B1 d1 B2 d2 B3 d3,en=.returned (.tuple #[.agg #[.slice B0 R.o.length d0,.slice B1 R.r.length d1,.slice B2 R.w.length d2,.slice B3 R.d.length d3],.string s]) ∧
   OwnX w' v.heap.size B0 d0 B1 d1 B2 d2 B3 d3 R∧Below v.heap.size v w':=by
 have f7:(e.f0 == 7)=false:=beq_eq_false_iff_ne.mpr (by omega)
 have f1:(e.f0 == 1)=false:=beq_eq_false_iff_ne.mpr (by omega)
 have f2:(e.f0 == 2)=false:=beq_eq_false_iff_ne.mpr (by omega)
 have f3:(e.f0 == 3)=true:=beq_iff_eq.mpr hkd
 have HR:=AK hR
 have HOK:=AK hk
 have HE0:=AK (And.intro he hc)
 have HL6:=AK (And.intro hl6 hs6)
 have HTO:=AK (show 0≤e.f1∧e.f1<G.r.length by unfold toB at ht;simpa using ht)
 have ft0:decide (e.f1<0)=false:=deF (by have:=HTO.out;omega)
 have ft1:decide ((G.r.length:Int)≤e.f1)=false:=deF (by have:=HTO.out;omega)
 obtain⟨b1,cr,er,_,_,_,_⟩:=Kd.R_form hO.s1 (by have:=HTO.out;omega)
 injection er with er1 er2 er3
 subst er1 er3
 clear er2 hl6 hs6 hkd ht
 have K0:=AK (WK.start hB hO e A6 c6)
 clear hB hO hk he hc hR
 go_enter Tryd.func48,Tryd.ntmps48
 go_upto_region 1 with fail
 have K:=AK (show WK v w w.heap.size A0 c0 (some ⟨b1,0,none⟩) c1 A2 c2 A3 c3 G e A6 c6 (((w.alloc (.cells #[.slice A0 G.o.length c0,.slice (some ⟨b1,0,none⟩) G.r.length c1,.slice A2 G.w.length c2,.slice A3 G.d.length c3] 33 (0,0))).alloc (.cells #[.int .i64 e.f0,.int .i64 e.f1,.int .i64 e.f2,.int .i64 e.f3,.int .i64 e.f4.f0,.string e.f4.f1,.slice A6 e.f4.f2.length c6] 37 (0,0))).alloc (.cells #[.slice none 0 0,.slice none 0 0,.slice none 0 0,.slice none 0 0] 33 (0,0)))from K0.out)
 have HWB:=AK (show Below w.heap.size w (((w.alloc (.cells #[.slice A0 G.o.length c0,.slice (some ⟨b1,0,none⟩) G.r.length c1,.slice A2 G.w.length c2,.slice A3 G.d.length c3] 33 (0,0))).alloc (.cells #[.int .i64 e.f0,.int .i64 e.f1,.int .i64 e.f2,.int .i64 e.f3,.int .i64 e.f4.f0,.string e.f4.f1,.slice A6 e.f4.f2.length c6] 37 (0,0))).alloc (.cells #[.slice none 0 0,.slice none 0 0,.slice none 0 0,.slice none 0 0] 33 (0,0)))from below_alloc (below_alloc (below_alloc (Below.refl _ _) _) _) _)
 generalize (((w.alloc (.cells #[.slice A0 G.o.length c0,.slice (some ⟨b1,0,none⟩) G.r.length c1,.slice A2 G.w.length c2,.slice A3 G.d.length c3] 33 (0,0))).alloc (.cells #[.int .i64 e.f0,.int .i64 e.f1,.int .i64 e.f2,.int .i64 e.f3,.int .i64 e.f4.f0,.string e.f4.f1,.slice A6 e.f4.f2.length c6] 37 (0,0))).alloc (.cells #[.slice none 0 0,.slice none 0 0,.slice none 0 0,.slice none 0 0] 33 (0,0)))=w1 at K HWB ⊢
 generalize w.heap.size=n at K ⊢
 clear K0
 obtain⟨p0,p1,p2,p3⟩:=K.out.hc
 obtain⟨q0,q1,q2,q3,q4,q5,q6⟩:=K.out.ec
 go_wp2_with fail
 clear p0 p1 p2 p3 q0 q1 q2 q3 q4 q5 q6
 refine(known_c (p:=e.f1) K.out.h K.out.own.reads).mono ?_
 rintro en w2 ⟨rfl,hb⟩
 replace K:=AK (K.out.below hb.below)
 clear hb
 have hgk:=known_range HOK.out e.f1
 obtain⟨k,ek⟩:∃k,k=knownL G.r e.f1:=⟨_,rfl⟩
 rw[←ek]at hgk ⊢
 have Ek:=AK ek
 clear ek
 obtain⟨p0,p1,p2,p3⟩:=K.out.hc
 obtain⟨q0,q1,q2,q3,q4,q5,q6⟩:=K.out.ec
 go_wp2_with fail
 clear p0 p1 p2 p3 q0 q1 q2 q3 q4 q5 q6
 refine(isPart_c K.out.h K.out.e K.out.own.reads hgk.2).mono ?_
 rintro en w3 ⟨rfl,hb⟩
 replace K:=AK (K.out.below hb.below)
 clear hb
 obtain⟨pb,epb⟩:∃pb,pb=partB G k e.f3:=⟨_,rfl⟩
 rw[←epb]
 have EPB:=AK epb
 clear epb
 cases pb with
 | false=>
  have he:(R,s)=(G,sNo):=by rw[HR.out];exact setsB_no (by rw[←Ek.out];exact EPB.out.symm)
  injection he with he1 he2
  subst he1 he2
  obtain⟨p0,p1,p2,p3⟩:=K.out.hc
  obtain⟨z0,z1,z2,z3⟩:=K.out.oc
  have y0:=K.out.of 0
  have y1:=K.out.of 1
  have y2:=K.out.of 2
  have y3:=K.out.of 3
  go_wp2
  refine bodyPost_ret (results_ct rfl _ _ (n+2) 33 #[.slice A0 R.o.length c0,.slice (some ⟨b1,0,none⟩) R.r.length c1,.slice A2 R.w.length c2,.slice A3 R.d.length c3] (0,0) _ rfl K.out.fin.2.2.1 Tryd.underlying33 rfl (by kernel_rfl)) rfl ?_
  exact⟨A0,c0,(some ⟨b1,0,none⟩),c1,A2,c2,A3,c3,rfl,⟨⟨_,K.out.fin.1⟩,K.out.own.reads.k3⟩,K.out.fin.2.1⟩
 | true=>
 have htk:=HR.out.trans (setsB_yes (by rw[←Ek.out];exact EPB.out.symm))
 rw[←Ek.out]at htk
 have HP:=AK ((partB_iff G k e.f3).1 EPB.out.symm)
 clear HR EPB Ek
 have hk0:=eq_true (show 0≤k from HP.out.1)
 have hk1:=eq_true (show k<(G.o.length:Int)from hgk.2)
 have HKB:=AK hgk
 have ha0:=eq_true (show 0≤e.f3 from HP.out.2.1)
 clear hgk
 obtain⟨g0,m0,eo,_⟩:=Kd.S_form K.out.own.s0 (by have:=HKB.out;have:=HP.out.1;omega)
 injection eo with eo1 eo2 eo3
 subst eo1 eo3
 clear eo2
 obtain⟨g6,m6,hc6⟩:=K.out.elem k e.f3 HP.out.1 HKB.out.2 HP.out.2.1 HP.out.2.2
 obtain⟨z,ez⟩:∃z,z=rd_T38 G.o k:=⟨_,rfl⟩
 have HEZ:=AK ez
 rw[←ez]at hc6 htk
 have ha1:=eq_true (show e.f3<(z.f2.length:Int)by rw[ez];exact HP.out.2.2)
 clear ez
 obtain⟨o2,eo2⟩:∃o2,o2=G.o.set k.toNat (putRef z e.f3 (knownL G.r e.f2)):=⟨_,rfl⟩
 rw[←eo2]at htk
 have HEO:=AK (show o2=G.o.set k.toNat (putRef (rd_T38 G.o k) e.f3 (knownL G.r e.f2))by rw[←HEZ.out];exact eo2)
 clear eo2
 injection htk with he1 he2
 subst he1 he2
 have CS:=AK hc6
 clear hc6
 go_wp2_with fail
 replace K:=AK (K.out.below (below_drew1 (Below.refl _ _)))
 replace CS:=AK (pcb (below_drew1 (Below.refl _ _)) CS.out)
 refine start_ (n:=14) (S:=(fun w'=>(w'.cell? ⟨n,0,none⟩=some (.slice (some ⟨g0,0,none⟩) G.o.length c0)∧w'.cell? ⟨n,1,none⟩=some (.slice (some ⟨b1,0,none⟩) G.r.length c1)∧w'.cell? ⟨n,2,none⟩=some (.slice A2 G.w.length c2)∧w'.cell? ⟨n,3,none⟩=some (.slice A3 G.d.length c3))∧w'.cell? ⟨n+1,1,none⟩=some (.int .i64 e.f1)∧w'.cell? ⟨n+1,2,none⟩=some (.int .i64 e.f2)∧w'.cell? ⟨n+1,3,none⟩=some (.int .i64 e.f3)∧w'.cell? ⟨g0,k.toNat*3+2,none⟩=some (.slice (some ⟨g6,0,none⟩) z.f2.length m6))) (ds:=[13]) #[fF,fF,fF,fF,fF,fF,fF,fF,fF,fF,fF,fF,fF,fF] (by kernel_rfl) rfl rfl ⟨K.out.hc,K.out.ec.2.1,K.out.ec.2.2.1,K.out.ec.2.2.2.1,CS.out⟩ (fun hHeld=>?_);refine with_tabW sim35_tab sim35_bits (fun HT_ HW_=>?_)
 generalize w3.drew=v5 at K CS hHeld ⊢
 refine pU HT_ 0 (some 148) (bM 14 1) ?_
 refine tU HT_ HW_ 1 (some 149) (bM 14 3) hHeld rfl (by refine Or.inl ⟨by rfl,?_⟩;rintro w' ⟨⟨s0,s1,s2,s3⟩,s4,s5,s6,s7⟩;go_simp;with_reducible rfl) ?_
 refine pU HT_ 2 (some 150) (bM 14 7) ?_
 refine pU HT_ 3 (some 151) (bM 14 15) ?_
 refine pU HT_ 4 (some 152) (bM 14 31) ?_
 refine tU HT_ HW_ 5 (some 153) (bM 14 63) hHeld rfl (by refine Or.inl ⟨by rfl,?_⟩;rintro w' ⟨⟨s0,s1,s2,s3⟩,s4,s5,s6,s7⟩;go_simp;with_reducible rfl) ?_
 refine pU HT_ 6 (some 154) (bM 14 127) ?_
 refine tU HT_ HW_ 7 (some 155) (bM 14 255) hHeld rfl (by refine Or.inl ⟨by rfl,?_⟩;rintro w' ⟨⟨s0,s1,s2,s3⟩,s4,s5,s6,s7⟩;go_simp;with_reducible rfl) ?_
 refine pU HT_ 8 (some 156) (bM 14 511) ?_
 refine pU HT_ 9 (some 157) (bM 14 1023) ?_
 refine tU HT_ HW_ 10 (some 158) (bM 14 2047) hHeld rfl (by refine Or.inl ⟨by rfl,?_⟩;rintro w' ⟨⟨s0,s1,s2,s3⟩,s4,s5,s6,s7⟩;go_simp;with_reducible rfl) ?_
 refine one_ (i:=11) (N:=some 159) (bM 14 4095) rfl rfl (one_of HT_.out (by kernel_rfl)) (by decide) (fun K_ hK=>?_)
 refine call_ 65 #[.int .i64 e.f2,.pointer (some ⟨n,0,none⟩)] (by rfl) rfl ?hrun ?_;(case hrun=>go_simp;done)
 refine(known_c (p:=e.f2) K.out.h K.out.own.reads).mono ?_
 rintro en v6 ⟨rfl,hb⟩
 replace hb:=hb.below
 refine⟨_,rfl,?_⟩
 replace CS:=AK (pcb hb CS.out)
 replace K:=AK (K.out.below hb)
 clear hb
 refine hK.out _ _ ⟨K.out.hc,K.out.ec.2.1,K.out.ec.2.2.1,K.out.ec.2.2.2.1,CS.out⟩ (fun hHeld=>?_)
 clear hK K_
 refine nO (some 159) ?_
 refine pU HT_ 12 (some 160) (bM 14 8191) ?_
 refine last_ (i:=13) (N:=none) #[tT,tT,tT,tT,tT,tT,tT,tT,tT,tT,tT,tT,tT,tT] rfl rfl (one_of HT_.out (by kernel_rfl)) (by decide) (fun K_ hK=>?_)
 obtain⟨xf,N0_⟩:=K.out.setRef k e.f3 HP.out.1 HKB.out.2 HP.out.2.1 HP.out.2.2 (by have h:=CS.out;rw[HEZ.out]at h;exact h) (knownL G.r e.f2) HEO.out
 have N0:=AK N0_
 obtain⟨x6,ex6⟩:∃x6,v6.cell? ⟨g6,e.f3.toNat,none⟩=some x6:=K.out.elem2 k e.f3 HP.out.1 HKB.out.2 HP.out.2.1 HP.out.2.2 (by have h:=CS.out;rw[HEZ.out]at h;exact h)
 clear N0_
 refine skip_ (w1:=?_) (by rfl) rfl ?_ ?_
 rotate_left
 ·go_simp
  rfl
 clear xf ex6
 refine hK.out _ _ ?_
 clear hK K_
 refine done_ (done_of HT_.out (by kernel_rfl)) ?_
 clear HT_ HW_ hHeld
 generalize v6.setCell ⟨g6,e.f3.toNat,none⟩ (.int .i64 (knownL G.r e.f2))=v12 at N0 ⊢
 clear K CS
 have K11:=N0
 clear N0
 obtain⟨p0,p1,p2,p3⟩:=K11.out.hc
 obtain⟨z0,z1,z2,z3⟩:=K11.out.oc
 have y0:=K11.out.of 0
 have y1:=K11.out.of 1
 have y2:=K11.out.of 2
 have y3:=K11.out.of 3
 go_wp2
 refine bodyPost_ret (results_ct rfl _ _ (n+2) 33 #[.slice (some ⟨g0,0,none⟩) o2.length c0,.slice (some ⟨b1,0,none⟩) G.r.length c1,.slice A2 G.w.length c2,.slice A3 G.d.length c3] (0,0) _ rfl K11.out.fin.2.2.1 Tryd.underlying33 rfl (by kernel_rfl)) rfl ?_
 exact⟨(some ⟨g0,0,none⟩),c0,(some ⟨b1,0,none⟩),c1,A2,c2,A3,c3,rfl,⟨⟨_,K11.out.fin.1⟩,K11.out.own.reads.k3⟩,K11.out.fin.2.1⟩
set_option maxHeartbeats 4000000 in
set_option maxRecDepth 100000 in
theorem memStep_4 (v w:World) (A0 A1 A2 A3:Option Addr) (c0 c1 c2 c3:Nat) (G:Hp) (e:S40) (A6:Option Addr) (c6:Nat) (hB:Below v.heap.size v w) (hO:OwnG w v.heap.size A0 c0 A1 c1 A2 c2 A3 c3 G) (hk:OkH G.o G.r G.w G.d) (he:Kd.C (Kd.int .i64) w A6 e.f4.f2.length e.f4.f2) (hc:e.f4.f2.length≤c6) (hl6:e.f4.f2.length≤1048576) (hs6:(e.f4.f1.size:Int)≤4611686018427387903) (hkd:e.f0=4) (ht:toB G e=true) (R:Hp) (s:ByteArray) (hR:(R,s)=forgetsB G e) :
  Calls Tryd.prog 48 #[.agg #[.slice A0 G.o.length c0,.slice A1 G.r.length c1,.slice A2 G.w.length c2,.slice A3 G.d.length c3],.agg #[.int .i64 e.f0,.int .i64 e.f1,.int .i64 e.f2,.int .i64 e.f3,.int .i64 e.f4.f0,.string e.f4.f1,.slice A6 e.f4.f2.length c6]] w fun en w'=>∃B0 d0 B1 d1 B2 d2 B3 d3,en=.returned (.tuple #[.agg #[.slice B0 R.o.length d0,.slice B1 R.r.length d1,.slice B2 R.w.length d2,.slice B3 R.d.length d3],.string s]) ∧
   OwnX w' v.heap.size B0 d0 B1 d1 B2 d2 B3 d3 R∧Below v.heap.size v w':=by
 have f7:(e.f0 == 7)=false:=beq_eq_false_iff_ne.mpr (by omega)
 have f1:(e.f0 == 1)=false:=beq_eq_false_iff_ne.mpr (by omega)
 have f2:(e.f0 == 2)=false:=beq_eq_false_iff_ne.mpr (by omega)
 have f3:(e.f0 == 3)=false:=beq_eq_false_iff_ne.mpr (by omega)
 have f4:(e.f0 == 4)=true:=beq_iff_eq.mpr hkd
 have HR:=AK hR
 have HOK:=AK hk
 have HE0:=AK (And.intro he hc)
 have HL6:=AK (And.intro hl6 hs6)
 have HTO:=AK (show 0≤e.f1∧e.f1<G.r.length by unfold toB at ht;simpa using ht)
 have ft0:decide (e.f1<0)=false:=deF (by have:=HTO.out;omega)
 have ft1:decide ((G.r.length:Int)≤e.f1)=false:=deF (by have:=HTO.out;omega)
 obtain⟨b1,cr,er,_,_,_,_⟩:=Kd.R_form hO.s1 (by have:=HTO.out;omega)
 injection er with er1 er2 er3
 subst er1 er3
 clear er2 hl6 hs6 hkd ht
 have K0:=AK (WK.start hB hO e A6 c6)
 clear hB hO hk he hc hR
 go_enter Tryd.func48,Tryd.ntmps48
 go_upto_region 1 with fail
 have K:=AK (show WK v w w.heap.size A0 c0 (some ⟨b1,0,none⟩) c1 A2 c2 A3 c3 G e A6 c6 (((w.alloc (.cells #[.slice A0 G.o.length c0,.slice (some ⟨b1,0,none⟩) G.r.length c1,.slice A2 G.w.length c2,.slice A3 G.d.length c3] 33 (0,0))).alloc (.cells #[.int .i64 e.f0,.int .i64 e.f1,.int .i64 e.f2,.int .i64 e.f3,.int .i64 e.f4.f0,.string e.f4.f1,.slice A6 e.f4.f2.length c6] 37 (0,0))).alloc (.cells #[.slice none 0 0,.slice none 0 0,.slice none 0 0,.slice none 0 0] 33 (0,0)))from K0.out)
 have HWB:=AK (show Below w.heap.size w (((w.alloc (.cells #[.slice A0 G.o.length c0,.slice (some ⟨b1,0,none⟩) G.r.length c1,.slice A2 G.w.length c2,.slice A3 G.d.length c3] 33 (0,0))).alloc (.cells #[.int .i64 e.f0,.int .i64 e.f1,.int .i64 e.f2,.int .i64 e.f3,.int .i64 e.f4.f0,.string e.f4.f1,.slice A6 e.f4.f2.length c6] 37 (0,0))).alloc (.cells #[.slice none 0 0,.slice none 0 0,.slice none 0 0,.slice none 0 0] 33 (0,0)))from below_alloc (below_alloc (below_alloc (Below.refl _ _) _) _) _)
 generalize (((w.alloc (.cells #[.slice A0 G.o.length c0,.slice (some ⟨b1,0,none⟩) G.r.length c1,.slice A2 G.w.length c2,.slice A3 G.d.length c3] 33 (0,0))).alloc (.cells #[.int .i64 e.f0,.int .i64 e.f1,.int .i64 e.f2,.int .i64 e.f3,.int .i64 e.f4.f0,.string e.f4.f1,.slice A6 e.f4.f2.length c6] 37 (0,0))).alloc (.cells #[.slice none 0 0,.slice none 0 0,.slice none 0 0,.slice none 0 0] 33 (0,0)))=w1 at K HWB ⊢
 generalize w.heap.size=n at K ⊢
 clear K0
 obtain⟨r2,er2⟩:∃r2,r2=G.r.set e.f1.toNat (-1):=⟨_,rfl⟩
 have hi0:=eq_true (show 0≤e.f1 from HTO.out.1)
 have hi1:=eq_true (show e.f1<(G.r.length:Int)from HTO.out.2)
 have hres:(R,s)=(⟨G.o,r2,G.w,G.d⟩,sOk):=by rw[HR.out,er2];rfl
 injection hres with he1 he2
 subst he1 he2
 have K2:=AK (K.out.setR e.f1 HTO.out.1 HTO.out.2 (-1) er2)
 obtain⟨x0,xf⟩:=RI_at K.out.own.s1 e.f1 HTO.out.1 HTO.out.2
 clear HR er2
 obtain⟨p0,p1,p2,p3⟩:=K.out.hc
 obtain⟨q0,q1,q2,q3,q4,q5,q6⟩:=K.out.ec
 go_upto_region 39 with fail
 generalize w1.setCell ⟨b1,e.f1.toNat,none⟩ (.int .i64 (-1))=w2 at K2 ⊢
 clear K x0 xf
 clear p0 p1 p2 p3 q0 q1 q2 q3 q4 q5 q6
 obtain⟨p0,p1,p2,p3⟩:=K2.out.hc
 obtain⟨z0,z1,z2,z3⟩:=K2.out.oc
 have y0:=K2.out.of 0
 have y1:=K2.out.of 1
 have y2:=K2.out.of 2
 have y3:=K2.out.of 3
 go_wp2
 refine bodyPost_ret (results_ct rfl _ _ (n+2) 33 #[.slice A0 G.o.length c0,.slice (some ⟨b1,0,none⟩) r2.length c1,.slice A2 G.w.length c2,.slice A3 G.d.length c3] (0,0) _ rfl K2.out.fin.2.2.1 Tryd.underlying33 rfl (by kernel_rfl)) rfl ?_
 exact⟨A0,c0,(some ⟨b1,0,none⟩),c1,A2,c2,A3,c3,rfl,⟨⟨_,K2.out.fin.1⟩,K2.out.own.reads.k3⟩,K2.out.fin.2.1⟩
set_option maxHeartbeats 4000000 in
set_option maxRecDepth 100000 in
theorem memStep_5 (v w:World) (A0 A1 A2 A3:Option Addr) (c0 c1 c2 c3:Nat) (G:Hp) (e:S40) (A6:Option Addr) (c6:Nat) (hB:Below v.heap.size v w) (hO:OwnG w v.heap.size A0 c0 A1 c1 A2 c2 A3 c3 G) (hk:OkH G.o G.r G.w G.d) (he:Kd.C (Kd.int .i64) w A6 e.f4.f2.length e.f4.f2) (hc:e.f4.f2.length≤c6) (hl6:e.f4.f2.length≤1048576) (hs6:(e.f4.f1.size:Int)≤4611686018427387903) (hkd:e.f0=5) (ht:toB G e=true) (R:Hp) (s:ByteArray) (hR:(R,s)=watchesB G e) :
  Calls Tryd.prog 48 #[.agg #[.slice A0 G.o.length c0,.slice A1 G.r.length c1,.slice A2 G.w.length c2,.slice A3 G.d.length c3],.agg #[.int .i64 e.f0,.int .i64 e.f1,.int .i64 e.f2,.int .i64 e.f3,.int .i64 e.f4.f0,.string e.f4.f1,.slice A6 e.f4.f2.length c6]] w fun en w'=>∃B0 d0 B1 d1 B2 d2 B3 d3,en=.returned (.tuple #[.agg #[.slice B0 R.o.length d0,.slice B1 R.r.length d1,.slice B2 R.w.length d2,.slice B3 R.d.length d3],.string s]) ∧
   OwnX w' v.heap.size B0 d0 B1 d1 B2 d2 B3 d3 R∧Below v.heap.size v w':=by
 have f7:(e.f0 == 7)=false:=beq_eq_false_iff_ne.mpr (by omega)
 have f1:(e.f0 == 1)=false:=beq_eq_false_iff_ne.mpr (by omega)
 have f2:(e.f0 == 2)=false:=beq_eq_false_iff_ne.mpr (by omega)
 have f3:(e.f0 == 3)=false:=beq_eq_false_iff_ne.mpr (by omega)
 have f4:(e.f0 == 4)=false:=beq_eq_false_iff_ne.mpr (by omega)
 have f5:(e.f0 == 5)=true:=beq_iff_eq.mpr hkd
 have HR:=AK hR
 have HOK:=AK hk
 have HE0:=AK (And.intro he hc)
 have HL6:=AK (And.intro hl6 hs6)
 have HTO:=AK (show 0≤e.f1∧e.f1<G.r.length by unfold toB at ht;simpa using ht)
 have ft0:decide (e.f1<0)=false:=deF (by have:=HTO.out;omega)
 have ft1:decide ((G.r.length:Int)≤e.f1)=false:=deF (by have:=HTO.out;omega)
 obtain⟨b1,cr,er,_,_,_,_⟩:=Kd.R_form hO.s1 (by have:=HTO.out;omega)
 injection er with er1 er2 er3
 subst er1 er3
 clear er2 hl6 hs6 hkd ht
 have K0:=AK (WK.start hB hO e A6 c6)
 clear hB hO hk he hc hR
 go_enter Tryd.func48,Tryd.ntmps48
 go_upto_region 1 with fail
 have K:=AK (show WK v w w.heap.size A0 c0 (some ⟨b1,0,none⟩) c1 A2 c2 A3 c3 G e A6 c6 (((w.alloc (.cells #[.slice A0 G.o.length c0,.slice (some ⟨b1,0,none⟩) G.r.length c1,.slice A2 G.w.length c2,.slice A3 G.d.length c3] 33 (0,0))).alloc (.cells #[.int .i64 e.f0,.int .i64 e.f1,.int .i64 e.f2,.int .i64 e.f3,.int .i64 e.f4.f0,.string e.f4.f1,.slice A6 e.f4.f2.length c6] 37 (0,0))).alloc (.cells #[.slice none 0 0,.slice none 0 0,.slice none 0 0,.slice none 0 0] 33 (0,0)))from K0.out)
 have HWB:=AK (show Below w.heap.size w (((w.alloc (.cells #[.slice A0 G.o.length c0,.slice (some ⟨b1,0,none⟩) G.r.length c1,.slice A2 G.w.length c2,.slice A3 G.d.length c3] 33 (0,0))).alloc (.cells #[.int .i64 e.f0,.int .i64 e.f1,.int .i64 e.f2,.int .i64 e.f3,.int .i64 e.f4.f0,.string e.f4.f1,.slice A6 e.f4.f2.length c6] 37 (0,0))).alloc (.cells #[.slice none 0 0,.slice none 0 0,.slice none 0 0,.slice none 0 0] 33 (0,0)))from below_alloc (below_alloc (below_alloc (Below.refl _ _) _) _) _)
 generalize (((w.alloc (.cells #[.slice A0 G.o.length c0,.slice (some ⟨b1,0,none⟩) G.r.length c1,.slice A2 G.w.length c2,.slice A3 G.d.length c3] 33 (0,0))).alloc (.cells #[.int .i64 e.f0,.int .i64 e.f1,.int .i64 e.f2,.int .i64 e.f3,.int .i64 e.f4.f0,.string e.f4.f1,.slice A6 e.f4.f2.length c6] 37 (0,0))).alloc (.cells #[.slice none 0 0,.slice none 0 0,.slice none 0 0,.slice none 0 0] 33 (0,0)))=w1 at K HWB ⊢
 generalize w.heap.size=n at K ⊢
 clear K0
 obtain⟨p0,p1,p2,p3⟩:=K.out.hc
 obtain⟨q0,q1,q2,q3,q4,q5,q6⟩:=K.out.ec
 go_wp2_with fail
 clear p0 p1 p2 p3 q0 q1 q2 q3 q4 q5 q6
 obtain⟨q0,q1,q2,q3,q4,q5,q6⟩:=K.out.ec
 go_quiet (refine Calls.quiet_of ((known_c (blk_drewN K.out.h _) (K.out.own.reads.below (pw_below_drewN (Below.refl _ _) _))).mono (fun _ _ h=>⟨h.1,h.2.out⟩)))
 clear q0 q1 q2 q3 q4 q5 q6
 replace K:=AK (K.out.below (pw_below_drewN (Below.refl _ _) nq))
 have hgg:=known_range HOK.out e.f1
 have hgo:=known_range HOK.out e.f2
 obtain⟨g,eg⟩:∃g,g=knownL G.r e.f1:=⟨_,rfl⟩
 obtain⟨o,eo⟩:∃o,o=knownL G.r e.f2:=⟨_,rfl⟩
 rw[←eg]at hgg
 rw[←eo]at hgo
 rw[←eg,←eo]
 have hyes:(R,s)=if isGuard G g=true∧0≤o then(if 20≤G.w.length+G.d.length then(G,sFull)else(⟨G.o,G.r,G.w++[⟨g,o⟩],G.d⟩,sOk))else(G,sNo):=by rw[HR.out,eg,eo];rfl
 clear eg eo HR
 go_wp2_with fail
 refine(is_c (p:=g) K.out.h K.out.own.reads hgg.2).mono ?_
 rintro en w3 ⟨rfl,hb⟩
 replace K:=AK (K.out.below hb.below)
 clear hb
 obtain⟨pb,epb⟩:∃pb,pb=isGuard G g:=⟨_,rfl⟩
 rw[←epb]at hyes ⊢
 clear epb
 cases pb with
 | false=>
  rw[if_neg (fun h=>by cases h.1)]at hyes
  injection hyes with he1 he2
  subst he1 he2
  obtain⟨p0,p1,p2,p3⟩:=K.out.hc
  obtain⟨z0,z1,z2,z3⟩:=K.out.oc
  have y0:=K.out.of 0
  have y1:=K.out.of 1
  have y2:=K.out.of 2
  have y3:=K.out.of 3
  go_wp2
  refine bodyPost_ret (results_ct rfl _ _ (n+2) 33 #[.slice A0 R.o.length c0,.slice (some ⟨b1,0,none⟩) R.r.length c1,.slice A2 R.w.length c2,.slice A3 R.d.length c3] (0,0) _ rfl K.out.fin.2.2.1 Tryd.underlying33 rfl (by kernel_rfl)) rfl ?_
  exact⟨A0,c0,(some ⟨b1,0,none⟩),c1,A2,c2,A3,c3,rfl,⟨⟨_,K.out.fin.1⟩,K.out.own.reads.k3⟩,K.out.fin.2.1⟩
 | true=>
 by_cases co:o<0
 case pos=>
  have co1:decide (o<0)=true:=deT co
  rw[if_neg (fun h=>by omega)]at hyes
  injection hyes with he1 he2
  subst he1 he2
  obtain⟨p0,p1,p2,p3⟩:=K.out.hc
  obtain⟨z0,z1,z2,z3⟩:=K.out.oc
  have y0:=K.out.of 0
  have y1:=K.out.of 1
  have y2:=K.out.of 2
  have y3:=K.out.of 3
  go_wp2
  refine bodyPost_ret (results_ct rfl _ _ (n+2) 33 #[.slice A0 R.o.length c0,.slice (some ⟨b1,0,none⟩) R.r.length c1,.slice A2 R.w.length c2,.slice A3 R.d.length c3] (0,0) _ rfl K.out.fin.2.2.1 Tryd.underlying33 rfl (by kernel_rfl)) rfl ?_
  exact⟨A0,c0,(some ⟨b1,0,none⟩),c1,A2,c2,A3,c3,rfl,⟨⟨_,K.out.fin.1⟩,K.out.own.reads.k3⟩,K.out.fin.2.1⟩
 have co1:decide (o<0)=false:=deF co
 rw[if_pos ⟨rfl,by omega⟩]at hyes
 have hwb:=HOK.out.w
 have hwr:wrap64 ((G.w.length:Int)+(G.d.length:Int))=(G.w.length:Int)+(G.d.length:Int):=by unfold wrap64;omega
 have hwb1:(G.w.length:Int)≤1152921504606846976:=by omega
 have hwb2:(G.d.length:Int)≤1152921504606846976:=by omega
 by_cases cf:20≤G.w.length+G.d.length
 case pos=>
  rw[if_pos cf]at hyes
  injection hyes with he1 he2
  subst he1 he2
  have cf1:decide (20≤(R.w.length:Int)+(R.d.length:Int))=true:=deT (by omega)
  obtain⟨p0,p1,p2,p3⟩:=K.out.hc
  obtain⟨z0,z1,z2,z3⟩:=K.out.oc
  have y0:=K.out.of 0
  have y1:=K.out.of 1
  have y2:=K.out.of 2
  have y3:=K.out.of 3
  go_wp2
  refine bodyPost_ret (results_ct rfl _ _ (n+2) 33 #[.slice A0 R.o.length c0,.slice (some ⟨b1,0,none⟩) R.r.length c1,.slice A2 R.w.length c2,.slice A3 R.d.length c3] (0,0) _ rfl K.out.fin.2.2.1 Tryd.underlying33 rfl (by kernel_rfl)) rfl ?_
  exact⟨A0,c0,(some ⟨b1,0,none⟩),c1,A2,c2,A3,c3,rfl,⟨⟨_,K.out.fin.1⟩,K.out.own.reads.k3⟩,K.out.fin.2.1⟩
 rw[if_neg cf]at hyes
 obtain⟨W2,eW2⟩:∃W2,W2=G.w++[(⟨g,o⟩:S60)]:=⟨_,rfl⟩
 rw[←eW2]at hyes
 have EW2:=AK eW2
 clear eW2
 injection hyes with he1 he2
 subst he1 he2
 have cf1:decide (20≤(G.w.length:Int)+(G.d.length:Int))=false:=deF (by omega)
 have HL:=AK (show G.w.length≤20 by omega)
 obtain⟨p0,p1,p2,p3⟩:=K.out.hc
 obtain⟨q0,q1,q2,q3,q4,q5,q6⟩:=K.out.ec
 go_wp2_with ((with_reducible refine gate_dst (N:=204) rfl ?_);at_builtin;refine Kd.R_append k60 (w0:=v) v.heap.size rfl (.tmp 199) (.tmp 203) 31 71 (.agg #[.int .i64 0,.int .i64 0]) 16 rfl Tryd.underlying31 info60 rfl (by decide) (by omega) (.slice A2 G.w.length c2) G.w (⟨g,o⟩:S60) [.int .i64 g,.int .i64 o] (fun k=>some k≠(Value.slice A3 G.d.length c3).ownBlock) (fun _=>False) rfl rfl ?aP (fun _ hk=>hk.elim) ?aF ?aO ?aB ?aS ?aL ?_;(case aP=>exact k60_mkM _ _ _ (⟨g,o⟩:S60));(case aF=>exact fun k hk e=>by have:=Kd.R_lt K.out.own.s3 k e.symm;omega);(case aO=>exact K.out.own.s2);(case aB=>exact K.out.b);(case aS=>exact K.out.b.size);(case aL=>have:=HL.out;omega);intro v47 w4 hr hb hgr hat;rw[←EW2.out]at hr;obtain⟨B2,b2,ee⟩:=Kd.R_slice hr;subst ee;have K4:=AK (K.out.pushW hr hb hgr hat);have hf4:=bfz (blk_grown K.out.h hgr (Kd.R_ne K.out.own.s2 K.out.h (by decide))) 2;have hc4:=box4 (blk_grown K.out.h hgr (Kd.R_ne K.out.own.s2 K.out.h (by decide)));obtain⟨r0,r1,r2,r3⟩:=hc4;obtain⟨s0,s1,s2,s3⟩:=K4.out.hc;obtain⟨z0,z1,z2,z3⟩:=K4.out.oc;have y0:=K4.out.of 0;have y1:=K4.out.of 1;have y2:=K4.out.of 2;have y3:=K4.out.of 3;clear hr hb hgr hat)
 refine bodyPost_ret (results_ct rfl _ _ (n+2) 33 #[.slice A0 G.o.length c0,.slice (some ⟨b1,0,none⟩) G.r.length c1,.slice B2 W2.length b2,.slice A3 G.d.length c3] (0,0) _ rfl K4.out.fin.2.2.1 Tryd.underlying33 rfl (by kernel_rfl)) rfl ?_
 exact⟨A0,c0,(some ⟨b1,0,none⟩),c1,B2,b2,A3,c3,rfl,⟨⟨_,K4.out.fin.1⟩,K4.out.own.reads.k3⟩,K4.out.fin.2.1⟩
set_option maxHeartbeats 4000000 in
set_option maxRecDepth 100000 in
theorem memStep_1 (v w:World) (A0 A1 A2 A3:Option Addr) (c0 c1 c2 c3:Nat) (G:Hp) (e:S40) (A6:Option Addr) (c6:Nat) (hB:Below v.heap.size v w) (hO:OwnG w v.heap.size A0 c0 A1 c1 A2 c2 A3 c3 G) (hk:OkH G.o G.r G.w G.d) (he:Kd.C (Kd.int .i64) w A6 e.f4.f2.length e.f4.f2) (hc:e.f4.f2.length≤c6) (hl6:e.f4.f2.length≤1048576) (hs6:(e.f4.f1.size:Int)≤4611686018427387903) (hkd:e.f0=1) (ht:toB G e=true) (R:Hp) (s:ByteArray) (hR:(R,s)=makesB G e) :
  Calls Tryd.prog 48 #[.agg #[.slice A0 G.o.length c0,.slice A1 G.r.length c1,.slice A2 G.w.length c2,.slice A3 G.d.length c3],.agg #[.int .i64 e.f0,.int .i64 e.f1,.int .i64 e.f2,.int .i64 e.f3,.int .i64 e.f4.f0,.string e.f4.f1,.slice A6 e.f4.f2.length c6]] w fun en w'=>∃B0 d0 B1 d1 B2 d2 B3 d3,en=.returned (.tuple #[.agg #[.slice B0 R.o.length d0,.slice B1 R.r.length d1,.slice B2 R.w.length d2,.slice B3 R.d.length d3],.string s]) ∧
   OwnX w' v.heap.size B0 d0 B1 d1 B2 d2 B3 d3 R∧Below v.heap.size v w':=by
 have f7:(e.f0 == 7)=false:=beq_eq_false_iff_ne.mpr (by omega)
 have f1:(e.f0 == 1)=true:=beq_iff_eq.mpr hkd
 have HR:=AK hR
 have HOK:=AK hk
 have HE0:=AK (And.intro he hc)
 have HL6:=AK (And.intro hl6 hs6)
 have HTO:=AK (show 0≤e.f1∧e.f1<G.r.length by unfold toB at ht;simpa using ht)
 have ft0:decide (e.f1<0)=false:=deF (by have:=HTO.out;omega)
 have ft1:decide ((G.r.length:Int)≤e.f1)=false:=deF (by have:=HTO.out;omega)
 obtain⟨b1,cr,er,_,_,_,_⟩:=Kd.R_form hO.s1 (by have:=HTO.out;omega)
 injection er with er1 er2 er3
 subst er1 er3
 clear er2 hl6 hs6 hkd ht
 have K0:=AK (WK.start hB hO e A6 c6)
 clear hB hO hk he hc hR
 go_enter Tryd.func48,Tryd.ntmps48
 go_upto_region 1 with fail
 have K:=AK (show WK v w w.heap.size A0 c0 (some ⟨b1,0,none⟩) c1 A2 c2 A3 c3 G e A6 c6 (((w.alloc (.cells #[.slice A0 G.o.length c0,.slice (some ⟨b1,0,none⟩) G.r.length c1,.slice A2 G.w.length c2,.slice A3 G.d.length c3] 33 (0,0))).alloc (.cells #[.int .i64 e.f0,.int .i64 e.f1,.int .i64 e.f2,.int .i64 e.f3,.int .i64 e.f4.f0,.string e.f4.f1,.slice A6 e.f4.f2.length c6] 37 (0,0))).alloc (.cells #[.slice none 0 0,.slice none 0 0,.slice none 0 0,.slice none 0 0] 33 (0,0)))from K0.out)
 have HWB:=AK (show Below w.heap.size w (((w.alloc (.cells #[.slice A0 G.o.length c0,.slice (some ⟨b1,0,none⟩) G.r.length c1,.slice A2 G.w.length c2,.slice A3 G.d.length c3] 33 (0,0))).alloc (.cells #[.int .i64 e.f0,.int .i64 e.f1,.int .i64 e.f2,.int .i64 e.f3,.int .i64 e.f4.f0,.string e.f4.f1,.slice A6 e.f4.f2.length c6] 37 (0,0))).alloc (.cells #[.slice none 0 0,.slice none 0 0,.slice none 0 0,.slice none 0 0] 33 (0,0)))from below_alloc (below_alloc (below_alloc (Below.refl _ _) _) _) _)
 generalize (((w.alloc (.cells #[.slice A0 G.o.length c0,.slice (some ⟨b1,0,none⟩) G.r.length c1,.slice A2 G.w.length c2,.slice A3 G.d.length c3] 33 (0,0))).alloc (.cells #[.int .i64 e.f0,.int .i64 e.f1,.int .i64 e.f2,.int .i64 e.f3,.int .i64 e.f4.f0,.string e.f4.f1,.slice A6 e.f4.f2.length c6] 37 (0,0))).alloc (.cells #[.slice none 0 0,.slice none 0 0,.slice none 0 0,.slice none 0 0] 33 (0,0)))=w1 at K HWB ⊢
 generalize w.heap.size=n at K ⊢
 clear K0
 obtain⟨p0,p1,p2,p3⟩:=K.out.hc
 obtain⟨q0,q1,q2,q3,q4,q5,q6⟩:=K.out.ec
 have hlt:=blk_lt K.out.e
 go_wp2
 clear hlt p0 p1 p2 p3 q0 q1 q2 q3 q4 q5 q6
 have HB:=AK (below_alloc (Below.refl w1.heap.size w1) (.cells #[.int .i64 e.f4.f0,.string e.f4.f1,.slice none 0 0] 35 (0,0)))
 have HB6:=AK (blk_new w1 (.cells #[.int .i64 e.f4.f0,.string e.f4.f1,.slice none 0 0] 35 (0,0)))
 generalize w1.alloc (.cells #[.int .i64 e.f4.f0,.string e.f4.f1,.slice none 0 0] 35 (0,0))=w2 at HB HB6 ⊢
 go_loopg [56] e.f4.f2.length (fun kq v56 w'=>∃(j:Int) (ys:List Int) (Rf:Option Addr) (rf:Nat),v56=.int .i64 j∧Aside0 (0≤j∧j+kq=e.f4.f2.length)∧Aside0 (ys=(e.f4.f2.take j.toNat).map (knownL G.r))∧Aside0 (Below w1.heap.size w1 w')∧Aside0 (w'.heap[w1.heap.size]?=some (.cells #[.int .i64 e.f4.f0,.string e.f4.f1,.slice Rf ys.length rf] 35 (0,0)))∧Aside0 (Kd.R (Kd.int .i64) 3 w' w1.heap.size (fun _=>True) (.slice Rf ys.length rf) ys))
 case atStart=>exact⟨0,[],none,0,rfl,⟨by omega,by omega⟩,⟨rfl⟩,HB,HB6,⟨Kd.R_nil _ _ _ _ _⟩⟩
 case round=>
  clear HB HB6
  obtain⟨j,ys,Rf,rf,rfl,HQ,HYS,HB,HB6,HRF⟩:=hrel
  obtain⟨z0,z1,z2⟩:=box3 HB6.out
  cases gk with
  | succ k4=>
   have c57:decide (j<(e.f4.f2.length:Int))=true:=deT (by have:=HQ.out;omega)
   have hj0:=eq_true (show 0≤j by have:=HQ.out;omega)
   have hj1:=eq_true (show j<(e.f4.f2.length:Int)by have:=HQ.out;omega)
   obtain⟨ad,ea,hq⟩:=Kd.at_int (Kd.C_below (Kd.C_below HE0.out.1 HWB.out) HB.out) j (by have:=HQ.out;omega) (by have:=HQ.out;omega)
   subst ea
   have HTK:=AK (show (e.f4.f2.take (j+1).toNat).map (knownL G.r)=ys++[knownL G.r (rd e.f4.f2 j)]by
    have h:=HQ.out
    have h2:e.f4.f2[j.toNat]'(by omega)=rd e.f4.f2 j:=by unfold rd;rw[List.getD_eq_getElem?_getD,List.getElem?_eq_getElem (show j.toNat<e.f4.f2.length by omega)];rfl
    rw[HYS.out,show (j+1).toNat=j.toNat+1 by omega,List.take_succ_eq_append_getElem (show j.toNat<e.f4.f2.length by omega),List.map_append,h2];rfl)
   have HYL:=AK (show ys.length≤1048576 by rw[HYS.out,List.length_map,List.length_take];have:=HL6.out;omega)
   obtain⟨q,eq⟩:∃q,q=rd e.f4.f2 j:=⟨_,rfl⟩
   rw[←eq]at hq HTK
   obtain⟨ys2,ey2⟩:∃ys2,ys2=ys++[knownL G.r q]:=⟨_,rfl⟩
   rw[←ey2]at HTK
   have EY2:=AK ey2
   clear eq ey2
   go_wp2_with fail
   clear hq z0 z1 z2
   replace HB:=AK (below_drew1 HB.out)
   replace HB6:=AK (blk_drew HB6.out)
   replace HRF:=AK (Kd.R_drew HRF.out)
   refine start_ (n:=9) (S:=(fun w'=>w'.cell? ⟨w1.heap.size,2,none⟩=some (.slice Rf ys.length rf))) (ds:=[8]) #[fF,fF,fF,fF,fF,fF,fF,fF,fF] (by kernel_rfl) rfl rfl (box3 HB6.out).2.2 (fun hHeld=>?_);refine with_tabW sim16_tab sim16_bits (fun HT_ HW_=>?_)
   generalize wr.drew=v5 at HB HB6 HRF hHeld ⊢
   refine pU HT_ 0 (some 60) (bM 9 1) ?_
   refine tU HT_ HW_ 1 (some 61) (bM 9 3) hHeld rfl (by refine Or.inl ⟨by rfl,?_⟩;rintro w' s0;go_simp;with_reducible rfl) ?_
   refine pU HT_ 2 (some 62) (bM 9 7) ?_
   refine pU HT_ 3 (some 63) (bM 9 15) ?_
   refine one_ (i:=4) (N:=some 64) (bM 9 31) rfl rfl (one_of HT_.out (by kernel_rfl)) (by decide) (fun K_ hK=>?_)
   refine call_ 65 #[.int .i64 q,.pointer (some ⟨n,0,none⟩)] (by rfl) rfl ?hrun ?_;(case hrun=>go_simp;done)
   refine(known_c (p:=q) (K.out.below HB.out).h (K.out.below HB.out).own.reads).mono ?_
   rintro en v6 ⟨rfl,hb⟩
   replace hb:=hb.below
   refine⟨_,rfl,?_⟩
   replace HB:=AK (bst HB.out hb)
   replace HB6:=AK (bbl HB6.out hb)
   replace HRF:=AK (Kd.R_below HRF.out hb)
   clear hb
   refine hK.out _ _ (box3 HB6.out).2.2 (fun hHeld=>?_)
   clear hK K_
   refine nO (some 64) ?_
   refine one_ (i:=5) (N:=some 65) (bM 9 63) rfl rfl (one_of HT_.out (by kernel_rfl)) (by decide) (fun K_ hK=>?_)
   refine value_ (v:=.slice (some ⟨v6.heap.size,0,none⟩) 1 1) (w1:=v6.alloc (.cells #[.int .i64 (knownL G.r q)] 3 (0,0))) (by rfl) rfl ?hr ?_;(case hr=>first|(go_simp;done)|(go_simp;rfl))
   refine hK.out _ _ (box3 (blk_alloc HB6.out _)).2.2 (fun hHeld=>?_)
   clear hK K_
   refine nO (some 65) ?_
   refine one_ (i:=6) (N:=some 66) (bM 9 127) rfl rfl (one_of HT_.out (by kernel_rfl)) (by decide) (fun K_ hK=>?_)
   refine Kd.R_append_step (Kd.int .i64) (w0:=w1) (W:=v6) w1.heap.size (by rfl) (.tmp 61) (.tmp 65) 29 3 (.int .i64 0) 8 rfl Tryd.underlying29 info3 rfl (by decide) (by omega) (.slice Rf ys.length rf) ys (knownL G.r q) [.int .i64 (knownL G.r q)] (fun _=>True) (fun _=>False) rfl rfl ?aP (fun _ hk=>hk.elim) (fun _ _=>trivial) ?aO ?aB ?aS ?aL ?_;(case aP=>exact rfl);(case aO=>exact HRF.out);(case aB=>exact HB.out);(case aS=>exact HB.out.size);(case aL=>have:=HYL.out;omega)
   intro v66 w5 ho hb hg hat
   rw[←EY2.out]at ho
   replace HB6:=AK (blk_grown HB6.out hg (Kd.R_ne HRF.out HB6.out (by decide)))
   obtain⟨Rg_,rg_,ee⟩:=Kd.R_slice ho
   subst ee
   replace HRF:=AK ho
   replace HB:=AK hb
   clear ho hb hg hat
   refine hK.out _ _ (box3 HB6.out).2.2 (fun hHeld=>?_)
   clear hK K_
   refine nO (some 66) ?_
   refine pU HT_ 7 (some 67) (bM 9 255) ?_
   refine last_ (i:=8) (N:=none) #[tT,tT,tT,tT,tT,tT,tT,tT,tT] rfl rfl (one_of HT_.out (by kernel_rfl)) (by decide) (fun K_ hK=>?_)
   have hx:=(box3 HB6.out).2.2
   have hf:=bfz HB6.out 2
   have N0:=AK (show Below w1.heap.size w1 (w5.setCell ⟨w1.heap.size,2,none⟩ (.slice Rg_ ys2.length rg_))from below_set HB.out (Nat.le_refl _))
   have N1:=AK (blk_put HB6.out 2 (.slice Rg_ ys2.length rg_) rfl)
   have N2:=AK (Kd.R_set HRF.out HB6.out (int_ap 35 (by decide)) 2 (.slice Rg_ ys2.length rg_))
   refine skip_ (w1:=?_) (by rfl) rfl ?_ ?_
   rotate_left
   ·go_simp
    rfl
   clear hx hf
   refine hK.out _ _ ?_
   clear hK K_
   refine done_ (done_of HT_.out (by kernel_rfl)) ?_
   clear HT_ HW_ hHeld
   go_wp2
   go_roundg k4
   case measure=>omega
   case rel=>
    have h1:=HQ.out
    have h2:=HL6.out.1
    rw[wrap_succ j (by omega) (by omega)]
    exact⟨j+1,_,Rg_,rg_,rfl,⟨by omega,by omega⟩,⟨HTK.out.symm⟩,N0,N1,N2⟩
  | zero=>
   have c57:decide (j<(e.f4.f2.length:Int))=false:=deF (by have:=HQ.out;omega)
   have hys:=HYS.out
   rw[take_all _ _ (by have:=HQ.out;omega)]at hys
   obtain⟨O,eO⟩:∃O,O=madeO G e:=⟨_,rfl⟩
   have EO:=AK eO
   have h0:O.f0=e.f4.f0:=by rw[eO];rfl
   have h1:O.f1=e.f4.f1:=by rw[eO];rfl
   have h2:ys=O.f2:=by rw[eO,hys];rfl
   have hOl:e.f4.f2.length=O.f2.length:=by rw[eO];unfold madeO;simp
   subst h2
   have hb6:=HB6.out
   rw[←h0,←h1]at hb6
   have HFT:=AK (show Fit O from⟨by rw[h1];exact HL6.out.2,by rw[←hOl];have:=HL6.out.1;omega⟩)
   have HOW:=AK ((OwnH.toP (P:=fun k=>k<w1.heap.size) K.out.own (fun k _ h=>h)).below HB.out)
   have HKS:=AK K.out.b.size
   replace K:=AK (K.out.below HB.out)
   replace HRF:=AK (show Kd.R (Kd.int .i64) 3 wr v.heap.size (fun k=>w1.heap.size≤k) (.slice Rf O.f2.length rf) O.f2 from Kd.R_lower (Kd.R_mono (Kd.R_bound HRF.out) (fun k hk=>hk.2.1)) HKS.out)
   replace HB6:=AK (show wr.heap[w1.heap.size]?=some (.cells #[.int .i64 O.f0,.string O.f1,.slice Rf O.f2.length rf] 35 (0,0))from hb6)
   clear hys eO h0 h1 hOl hb6 z0 z1 z2
   obtain⟨p0,p1,p2,p3⟩:=K.out.hc
   obtain⟨x0,x1,x2⟩:=box3 HB6.out
   go_wp2_with fail
   clear x0 x1 x2
   clear p0 p1 p2 p3
   refine(memObjOk_calls O _ _ _ HFT.out (Kd.R_reads' HRF.out).2.2 (Kd.R_reads' HRF.out).2.1).mono ?_
   rintro en w5 ⟨rfl,hb⟩
   replace K:=AK (K.out.below hb)
   replace HOW:=AK (HOW.out.below hb)
   replace HB6:=AK (bbl HB6.out hb)
   replace HRF:=AK (Kd.R_below HRF.out hb)
   clear hb
   have HSO:=AK (show obB G.o.length O=shB O by rw[EO.out];exact obB_made HOK.out e)
   have hmk:(R,s)=if obB G.o.length O=true then(if 60≤G.o.length then(G,sFull)else(⟨G.o++[O],G.r.set e.f1.toNat G.o.length,G.w,G.d⟩,seesB (G.o++[O]) G.o.length))else(G,sNo):=by rw[HR.out,EO.out];rfl
   clear HR
   by_cases cb:obB G.o.length O=true
   case neg=>
    rw[if_neg cb]at hmk
    have cbf:shB O=false:=by rw[←HSO.out];simpa using cb
    rw[cbf]
    injection hmk with he1 he2
    subst he1 he2
    obtain⟨p0,p1,p2,p3⟩:=K.out.hc
    obtain⟨z0,z1,z2,z3⟩:=K.out.oc
    have y0:=K.out.of 0
    have y1:=K.out.of 1
    have y2:=K.out.of 2
    have y3:=K.out.of 3
    go_wp2
    refine bodyPost_ret (results_ct rfl _ _ (n+2) 33 #[.slice A0 R.o.length c0,.slice (some ⟨b1,0,none⟩) R.r.length c1,.slice A2 R.w.length c2,.slice A3 R.d.length c3] (0,0) _ rfl K.out.fin.2.2.1 Tryd.underlying33 rfl (by kernel_rfl)) rfl ?_
    exact⟨A0,c0,(some ⟨b1,0,none⟩),c1,A2,c2,A3,c3,rfl,⟨⟨_,K.out.fin.1⟩,K.out.own.reads.k3⟩,K.out.fin.2.1⟩
   have HCB:=AK cb
   rw[if_pos cb]at hmk
   rw[show shB O=true from HSO.out.symm.trans cb]
   clear cb HSO
   have hno:=HOK.out.n
   by_cases cf:60≤G.o.length
   case pos=>
    rw[if_pos cf]at hmk
    injection hmk with he1 he2
    subst he1 he2
    have cf1:((R.o.length:Int) == 60)=true:=beq_iff_eq.mpr (by omega)
    obtain⟨p0,p1,p2,p3⟩:=K.out.hc
    obtain⟨z0,z1,z2,z3⟩:=K.out.oc
    have y0:=K.out.of 0
    have y1:=K.out.of 1
    have y2:=K.out.of 2
    have y3:=K.out.of 3
    go_wp2
    refine bodyPost_ret (results_ct rfl _ _ (n+2) 33 #[.slice A0 R.o.length c0,.slice (some ⟨b1,0,none⟩) R.r.length c1,.slice A2 R.w.length c2,.slice A3 R.d.length c3] (0,0) _ rfl K.out.fin.2.2.1 Tryd.underlying33 rfl (by kernel_rfl)) rfl ?_
    exact⟨A0,c0,(some ⟨b1,0,none⟩),c1,A2,c2,A3,c3,rfl,⟨⟨_,K.out.fin.1⟩,K.out.own.reads.k3⟩,K.out.fin.2.1⟩
   rw[if_neg cf]at hmk
   have cf1:((G.o.length:Int) == 60)=false:=beq_eq_false_iff_ne.mpr (by omega)
   obtain⟨O2,eO2⟩:∃O2,O2=G.o++[O]:=⟨_,rfl⟩
   obtain⟨p,ep⟩:∃p:Int,p=G.o.length:=⟨_,rfl⟩
   obtain⟨r2,er2⟩:∃r2,r2=G.r.set e.f1.toNat p:=⟨_,rfl⟩
   rw[←eO2,←ep,←er2]at hmk
   have hO2:(O2.length:Int)=G.o.length+1:=by rw[eO2,List.length_append];rfl
   have hpp:(O2.length:Int) - 1=p:=by omega
   have hwr:wrap64 ((O2.length:Int) - 1)=p:=by unfold wrap64;omega
   have hob:(O2.length:Int)≤1152921504606846976:=by omega
   have hob1:1≤(O2.length:Int):=by omega
   have hi0:=eq_true (show 0≤e.f1 from HTO.out.1)
   have hi1:=eq_true (show e.f1<(G.r.length:Int)from HTO.out.2)
   have HO2:=AK (And.intro eO2 (And.intro ep er2))
   have HRL:=AK (show r2.length=G.r.length by rw[er2,List.length_set])
   have HRD:=AK (show rd r2 e.f1=p by
    rw[er2];unfold rd;rw[List.getD_eq_getElem?_getD,List.getElem?_set_self (by have:=HTO.out;omega)];rfl)
   have HOP:=AK (show p<O2.length∧(rd_T38 O2 p).f2.length≤6 by
    refine⟨by omega,?_⟩
    have h3:rd_T38 O2 p=O:=by rw[eO2,ep];unfold rd_T38;rw[Int.toNat_natCast,List.getD_eq_getElem?_getD];simp
    rw[h3];exact(ob_small2 HCB.out).2)
   have HL:=AK hno
   injection hmk with he1 he2
   subst he1 he2
   clear eO2 ep er2 hO2 hno cf
   obtain⟨p0,p1,p2,p3⟩:=K.out.hc
   obtain⟨t0,t1,t2⟩:=box3 HB6.out
   go_wp2_with ((with_reducible refine gate_dst (N:=82) rfl ?_);at_builtin;refine Kd.S_append k38 (w0:=v) v.heap.size rfl (.tmp 79) (.tmp 81) 30 35 (.agg #[.int .i64 0,.string ⟨#[]⟩,.slice none 0 0]) 48 rfl Tryd.underlying30 info38 rfl (by decide) (by omega) (.slice A0 G.o.length c0) G.o O [.int .i64 O.f0,.string O.f1,.slice Rf O.f2.length rf] (fun k=>some k≠(Value.slice (some ⟨b1,0,none⟩) G.r.length c1).ownBlock) (fun k=>some k=(Value.slice Rf O.f2.length rf).ownBlock) rfl rfl ?aP ?aK ?aF ?aO ?aB ?aS ?aL ?_;(case aP=>exact k38_mkM _ _ _ O (Kd.R_tight rfl HRF.out));(case aK=>exact fun k hk=>⟨fun ee=>by have h3:=HRF.out.1 k hk.symm;have h4:k<w1.heap.size:=HOW.out.s1.1 k ee.symm;omega,fun ee=>by have h3:=HRF.out.1 k hk.symm;have h4:=((Kd.S_R HOW.out.s0).1 k ee.symm).1;omega⟩);(case aF=>exact fun k hk ee=>by have h3:=Kd.R_lt K.out.own.s1 k ee.symm;omega);(case aO=>exact Kd.S_mono HOW.out.s0 (fun k hk=>⟨hk.2,fun ee=>by have h3:=HRF.out.1 k ee.symm;have h4:=hk.1;omega⟩));(case aB=>exact K.out.b);(case aS=>exact K.out.b.size);(case aL=>have:=HL.out;omega);intro v45 w6 hs hb hgr hat;rw[←HO2.out.1]at hs;obtain⟨B0,b0,ee⟩:=Kd.S_slice hs;subst ee;have K5:=AK (K.out.pushO hs hb hgr);have hh:=blk_grown K.out.h hgr (Kd.S_ne K.out.own.s0 K.out.h (by decide));obtain⟨r0,r1,r2_,r3⟩:=box4 hh;have hf4:=bfz hh 0;obtain⟨s0,s1,s2,s3⟩:=K5.out.hc;obtain⟨q0,q1,q2,q3,q4,q5,q6⟩:=K5.out.ec;obtain⟨x0,xf⟩:=RI_at K5.out.own.s1 e.f1 HTO.out.1 HTO.out.2;have K6:=AK (K5.out.setR e.f1 HTO.out.1 HTO.out.2 p HO2.out.2.2);have HRT:=AK ((RI_at K6.out.own.s1 e.f1 HTO.out.1 (by rw[show (r2.length:Int)=G.r.length by rw[HRL.out]];exact HTO.out.2)).1.trans (by rw[HRD.out]));clear hs hb hgr hat hh)
   clear p0 p1 p2 p3 t0 t1 t2 r0 r1 r2_ r3 hf4 s0 s1 s2 s3 q0 q1 q2 q3 q4 q5 q6 x0 xf
   generalize (w6.setCell ⟨n,0,none⟩ (.slice B0 O2.length b0)).setCell ⟨b1,e.f1.toNat,none⟩ (.int .i64 p)=w7 at K6 HRT ⊢
   have hi2:=eq_true (show e.f1<(r2.length:Int)by rw[show (r2.length:Int)=G.r.length by rw[HRL.out]];exact HTO.out.2)
   replace HRT:=AK (show (World.drew w7).cell? _=_ from pcb (below_drew1 (Below.refl _ _)) HRT.out)
   replace K6:=AK (K6.out.below (below_drew1 (Below.refl _ _)))
   refine start_ (n:=11) (S:=(fun w'=>(w'.cell? ⟨n,0,none⟩=some (.slice B0 O2.length b0)∧w'.cell? ⟨n,1,none⟩=some (.slice (some ⟨b1,0,none⟩) r2.length c1)∧w'.cell? ⟨n,2,none⟩=some (.slice A2 G.w.length c2)∧w'.cell? ⟨n,3,none⟩=some (.slice A3 G.d.length c3))∧w'.cell? ⟨n+1,1,none⟩=some (.int .i64 e.f1)∧w'.cell? ⟨b1,e.f1.toNat,none⟩=some (.int .i64 p))) (ds:=[9]) #[fF,fF,fF,fF,fF,fF,fF,fF,fF,fF,fF] (by kernel_rfl) rfl rfl ⟨K6.out.hc,K6.out.ec.2.1,HRT.out⟩ (fun hHeld=>?_);refine with_tabW sim24_tab sim24_bits (fun HT_ HW_=>?_)
   generalize w7.drew=v5 at HRT K6 hHeld ⊢
   refine tU HT_ HW_ 0 (some 93) (bM 11 1) hHeld rfl (by refine Or.inl ⟨by rfl,?_⟩;rintro w' ⟨⟨s0,s1,s2,s3⟩,s4,s5⟩;go_simp;with_reducible rfl) ?_
   refine tU HT_ HW_ 1 (some 94) (bM 11 3) hHeld rfl (by refine Or.inl ⟨by rfl,?_⟩;rintro w' ⟨⟨s0,s1,s2,s3⟩,s4,s5⟩;go_simp;with_reducible rfl) ?_
   refine pU HT_ 2 (some 95) (bM 11 7) ?_
   refine tU HT_ HW_ 3 (some 96) (bM 11 15) hHeld rfl (by refine Or.inl ⟨by rfl,?_⟩;rintro w' ⟨⟨s0,s1,s2,s3⟩,s4,s5⟩;go_simp;with_reducible rfl) ?_
   refine pU HT_ 4 (some 97) (bM 11 31) ?_
   refine tU HT_ HW_ 5 (some 98) (bM 11 63) hHeld rfl (by refine Or.inl ⟨by rfl,?_⟩;rintro w' ⟨⟨s0,s1,s2,s3⟩,s4,s5⟩;go_simp;with_reducible rfl) ?_
   refine pU HT_ 6 (some 99) (bM 11 127) ?_
   refine tU HT_ HW_ 7 (some 100) (bM 11 255) hHeld rfl (by refine Or.inl ⟨by rfl,?_⟩;rintro w' ⟨⟨s0,s1,s2,s3⟩,s4,s5⟩;go_simp;with_reducible rfl) ?_
   refine one_ (i:=8) (N:=some 101) (bM 11 511) rfl rfl (one_of HT_.out (by kernel_rfl)) (by decide) (fun K_ hK=>?_)
   refine goes_ Tryd.func68 (by kernel_rfl) rfl #[.agg #[.slice B0 O2.length b0,.slice (some ⟨b1,0,none⟩) r2.length c1,.slice A2 G.w.length c2,.slice A3 G.d.length c3],.int .i64 p] (by rfl) rfl rfl zI ?_
   refine(seen_c K6.out.own.reads HOP.out.1 (fun _=>HOP.out.2)).mono ?_
   rintro en v6 ⟨rfl,hb⟩
   refine⟨_,rfl,?_⟩
   replace HRT:=AK (pcb hb HRT.out)
   replace K6:=AK (K6.out.below hb)
   clear hb
   refine hK.out _ _ ⟨K6.out.hc,K6.out.ec.2.1,HRT.out⟩ (fun hHeld=>?_)
   clear hK K_
   refine nO (some 101) ?_
   refine last_ (i:=9) (N:=none) #[tT,tT,tT,tT,tT,tT,tT,tT,tT,tT,fF] rfl rfl (one_of HT_.out (by kernel_rfl)) (by decide) (fun K_ hK=>?_)
   obtain⟨z0,z1,z2,z3⟩:=K6.out.oc
   have y0:=K6.out.of 0
   have y1:=K6.out.of 1
   have y2:=K6.out.of 2
   have y3:=K6.out.of 3
   refine skip_ (w1:=?_) (by rfl) rfl ?_ ?_
   rotate_left
   ·go_simp
    rfl
   clear z0 z1 z2 z3 y0 y1 y2 y3
   refine hK.out _ _ ?_
   clear hK K_
   refine pU HT_ 10 (some 5) (bM 11 2047) ?_
   refine done_ (done_of HT_.out (by kernel_rfl)) ?_
   clear HT_ HW_ hHeld
   go_wp2
   refine bodyPost_ret (results_ct rfl _ _ (n+2) 33 #[.slice B0 O2.length b0,.slice (some ⟨b1,0,none⟩) r2.length c1,.slice A2 G.w.length c2,.slice A3 G.d.length c3] (0,0) _ rfl K6.out.fin.2.2.1 Tryd.underlying33 rfl (by kernel_rfl)) rfl ?_
   exact⟨B0,b0,(some ⟨b1,0,none⟩),c1,A2,c2,A3,c3,rfl,⟨⟨_,K6.out.fin.1⟩,K6.out.own.reads.k3⟩,K6.out.fin.2.1⟩
set_option maxHeartbeats 4000000 in
set_option maxRecDepth 100000 in
theorem memStep_6 (v w:World) (A0 A1 A2 A3:Option Addr) (c0 c1 c2 c3:Nat) (G:Hp) (e:S40) (A6:Option Addr) (c6:Nat) (hB:Below v.heap.size v w) (hO:OwnG w v.heap.size A0 c0 A1 c1 A2 c2 A3 c3 G) (hk:OkH G.o G.r G.w G.d) (he:Kd.C (Kd.int .i64) w A6 e.f4.f2.length e.f4.f2) (hc:e.f4.f2.length≤c6) (hl6:e.f4.f2.length≤1048576) (hs6:(e.f4.f1.size:Int)≤4611686018427387903) (hkd:e.f0=6) (ht:toB G e=true) (R:Hp) (s:ByteArray) (hR:(R,s)=asksB G e) :
  Calls Tryd.prog 48 #[.agg #[.slice A0 G.o.length c0,.slice A1 G.r.length c1,.slice A2 G.w.length c2,.slice A3 G.d.length c3],.agg #[.int .i64 e.f0,.int .i64 e.f1,.int .i64 e.f2,.int .i64 e.f3,.int .i64 e.f4.f0,.string e.f4.f1,.slice A6 e.f4.f2.length c6]] w fun en w'=>∃B0 d0 B1 d1 B2 d2 B3 d3,en=.returned (.tuple #[.agg #[.slice B0 R.o.length d0,.slice B1 R.r.length d1,.slice B2 R.w.length d2,.slice B3 R.d.length d3],.string s]) ∧
   OwnX w' v.heap.size B0 d0 B1 d1 B2 d2 B3 d3 R∧Below v.heap.size v w':=by
 have f7:(e.f0 == 7)=false:=beq_eq_false_iff_ne.mpr (by omega)
 have f1:(e.f0 == 1)=false:=beq_eq_false_iff_ne.mpr (by omega)
 have f2:(e.f0 == 2)=false:=beq_eq_false_iff_ne.mpr (by omega)
 have f3:(e.f0 == 3)=false:=beq_eq_false_iff_ne.mpr (by omega)
 have f4:(e.f0 == 4)=false:=beq_eq_false_iff_ne.mpr (by omega)
 have f5:(e.f0 == 5)=false:=beq_eq_false_iff_ne.mpr (by omega)
 have f6:(e.f0 == 6)=true:=beq_iff_eq.mpr hkd
 have HR:=AK hR
 have HOK:=AK hk
 have HE0:=AK (And.intro he hc)
 have HL6:=AK (And.intro hl6 hs6)
 have HTO:=AK (show 0≤e.f1∧e.f1<G.r.length by unfold toB at ht;simpa using ht)
 have ft0:decide (e.f1<0)=false:=deF (by have:=HTO.out;omega)
 have ft1:decide ((G.r.length:Int)≤e.f1)=false:=deF (by have:=HTO.out;omega)
 obtain⟨b1,cr,er,_,_,_,_⟩:=Kd.R_form hO.s1 (by have:=HTO.out;omega)
 injection er with er1 er2 er3
 subst er1 er3
 clear er2 hl6 hs6 hkd ht
 have K0:=AK (WK.start hB hO e A6 c6)
 clear hB hO hk he hc hR
 go_enter Tryd.func48,Tryd.ntmps48
 go_upto_region 1 with fail
 have K:=AK (show WK v w w.heap.size A0 c0 (some ⟨b1,0,none⟩) c1 A2 c2 A3 c3 G e A6 c6 (((w.alloc (.cells #[.slice A0 G.o.length c0,.slice (some ⟨b1,0,none⟩) G.r.length c1,.slice A2 G.w.length c2,.slice A3 G.d.length c3] 33 (0,0))).alloc (.cells #[.int .i64 e.f0,.int .i64 e.f1,.int .i64 e.f2,.int .i64 e.f3,.int .i64 e.f4.f0,.string e.f4.f1,.slice A6 e.f4.f2.length c6] 37 (0,0))).alloc (.cells #[.slice none 0 0,.slice none 0 0,.slice none 0 0,.slice none 0 0] 33 (0,0)))from K0.out)
 have HWB:=AK (show Below w.heap.size w (((w.alloc (.cells #[.slice A0 G.o.length c0,.slice (some ⟨b1,0,none⟩) G.r.length c1,.slice A2 G.w.length c2,.slice A3 G.d.length c3] 33 (0,0))).alloc (.cells #[.int .i64 e.f0,.int .i64 e.f1,.int .i64 e.f2,.int .i64 e.f3,.int .i64 e.f4.f0,.string e.f4.f1,.slice A6 e.f4.f2.length c6] 37 (0,0))).alloc (.cells #[.slice none 0 0,.slice none 0 0,.slice none 0 0,.slice none 0 0] 33 (0,0)))from below_alloc (below_alloc (below_alloc (Below.refl _ _) _) _) _)
 generalize (((w.alloc (.cells #[.slice A0 G.o.length c0,.slice (some ⟨b1,0,none⟩) G.r.length c1,.slice A2 G.w.length c2,.slice A3 G.d.length c3] 33 (0,0))).alloc (.cells #[.int .i64 e.f0,.int .i64 e.f1,.int .i64 e.f2,.int .i64 e.f3,.int .i64 e.f4.f0,.string e.f4.f1,.slice A6 e.f4.f2.length c6] 37 (0,0))).alloc (.cells #[.slice none 0 0,.slice none 0 0,.slice none 0 0,.slice none 0 0] 33 (0,0)))=w1 at K HWB ⊢
 generalize w.heap.size=n at K ⊢
 clear K0
 obtain⟨p0,p1,p2,p3⟩:=K.out.hc
 obtain⟨q0,q1,q2,q3,q4,q5,q6⟩:=K.out.ec
 go_wp2_with fail
 clear p0 p1 p2 p3 q0 q1 q2 q3 q4 q5 q6
 refine(known_c (p:=e.f2) K.out.h K.out.own.reads).mono ?_
 rintro en w2 ⟨rfl,hb⟩
 replace K:=AK (K.out.below hb.below)
 clear hb
 have hgg:=known_range HOK.out e.f2
 obtain⟨g,eg⟩:∃g,g=knownL G.r e.f2:=⟨_,rfl⟩
 rw[←eg]at hgg ⊢
 have Eg:=AK eg
 clear eg
 obtain⟨p0,p1,p2,p3⟩:=K.out.hc
 obtain⟨q0,q1,q2,q3,q4,q5,q6⟩:=K.out.ec
 go_wp2_with fail
 clear p0 p1 p2 p3 q0 q1 q2 q3 q4 q5 q6
 have hask:(R,s)=if isGuard G g=true then(⟨G.o,G.r.set e.f1.toNat (askP g G.d),G.w,askL g G.d⟩,seesB G.o (askP g G.d))else(G,sNo):=by rw[HR.out,Eg.out];rfl
 clear HR Eg
 refine(is_c (p:=g) K.out.h K.out.own.reads hgg.2).mono ?_
 rintro en w3 ⟨rfl,hb⟩
 replace K:=AK (K.out.below hb.below)
 clear hb
 obtain⟨pb,epb⟩:∃pb,pb=isGuard G g:=⟨_,rfl⟩
 rw[←epb]at hask ⊢
 clear epb
 cases pb with
 | false=>
  rw[if_neg (fun h=>by cases h)]at hask
  injection hask with he1 he2
  subst he1 he2
  obtain⟨p0,p1,p2,p3⟩:=K.out.hc
  obtain⟨z0,z1,z2,z3⟩:=K.out.oc
  have y0:=K.out.of 0
  have y1:=K.out.of 1
  have y2:=K.out.of 2
  have y3:=K.out.of 3
  go_wp2
  refine bodyPost_ret (results_ct rfl _ _ (n+2) 33 #[.slice A0 R.o.length c0,.slice (some ⟨b1,0,none⟩) R.r.length c1,.slice A2 R.w.length c2,.slice A3 R.d.length c3] (0,0) _ rfl K.out.fin.2.2.1 Tryd.underlying33 rfl (by kernel_rfl)) rfl ?_
  exact⟨A0,c0,(some ⟨b1,0,none⟩),c1,A2,c2,A3,c3,rfl,⟨⟨_,K.out.fin.1⟩,K.out.own.reads.k3⟩,K.out.fin.2.1⟩
 | true=>
 rw[if_pos rfl]at hask
 have HASK:=AK hask
 obtain⟨r2,er2⟩:∃r2,r2=G.r.set e.f1.toNat (-1):=⟨_,rfl⟩
 have HRL:=AK (show r2.length=G.r.length∧(∀p,r2.set e.f1.toNat p=G.r.set e.f1.toNat p)by rw[er2];exact⟨List.length_set,fun p=>List.set_set _⟩)
 have HRD:=AK (show rd r2 e.f1=-1 by
  rw[er2];unfold rd;rw[List.getD_eq_getElem?_getD,List.getElem?_set_self (by have:=HTO.out;omega)];rfl)
 have K2:=AK (K.out.setR e.f1 HTO.out.1 HTO.out.2 (-1) er2)
 obtain⟨x0,xf⟩:=RI_at K.out.own.s1 e.f1 HTO.out.1 HTO.out.2
 have hi0:=eq_true (show 0≤e.f1 from HTO.out.1)
 have hi1:=eq_true (show e.f1<(G.r.length:Int)from HTO.out.2)
 have hi2:=eq_true (show e.f1<(r2.length:Int)by rw[show (r2.length:Int)=G.r.length by rw[HRL.out.1]];exact HTO.out.2)
 have HER:=AK er2
 clear hask er2
 obtain⟨p0,p1,p2,p3⟩:=K.out.hc
 obtain⟨q0,q1,q2,q3,q4,q5,q6⟩:=K.out.ec
 go_upto_region 53 with fail
 generalize w3.setCell ⟨b1,e.f1.toNat,none⟩ (.int .i64 (-1))=w4 at K2 ⊢
 clear K x0 xf
 clear p0 p1 p2 p3 q0 q1 q2 q3 q4 q5 q6
 obtain⟨p0,p1,p2,p3⟩:=K2.out.hc
 go_wp2
 clear p0 p1 p2 p3
 go_loopg [226] G.d.length (fun kq v226 w'=>∃i:Int,v226=.int .i64 i∧Aside0 (0≤i∧i+kq=G.d.length)∧Aside0 (WK v w n A0 c0 (some ⟨b1,0,none⟩) c1 A2 c2 A3 c3 ⟨G.o,r2,G.w,G.d⟩ e A6 c6 w')∧Aside0 (askD g (G.d.take i.toNat)=none))
 case atStart=>exact⟨0,rfl,⟨by omega,by omega⟩,K2,⟨rfl⟩⟩
 case round=>
  clear K2
  obtain⟨i,rfl,HQ,K,HNO⟩:=hrel
  cases gk with
  | succ k4=>
   have c33:decide (i<(G.d.length:Int))=true:=deT (by have:=HQ.out;omega)
   have hj0:=eq_true (show 0≤i by have:=HQ.out;omega)
   have hj1:=eq_true (show i<(G.d.length:Int)by have:=HQ.out;omega)
   have hr3:Kd.C k60 wr A3 G.d.length G.d:=K.out.own.reads.r3
   obtain⟨adr,ea,ha0,ha1⟩:=at_T60 hr3 i (by have:=HQ.out;omega) (by have:=HQ.out;omega)
   subst ea
   obtain⟨z,ez⟩:∃z,z=rd_T60 G.d i:=⟨_,rfl⟩
   rw[←ez]at ha0 ha1
   have HEZ:=AK ez
   have HX:=AK (blk_new wr (.cells #[.int .i64 z.f0,.int .i64 z.f1] 71 (0,0)))
   replace K:=AK (K.out.below (below_alloc (Below.refl _ _) (.cells #[.int .i64 z.f0,.int .i64 z.f1] 71 (0,0))))
   clear ez hr3
   go_upto_region 56 with fail
   clear ha0 ha1
   generalize wr.alloc (.cells #[.int .i64 z.f0,.int .i64 z.f1] 71 (0,0))=w5 at K HX ⊢
   obtain⟨x0,x1⟩:=box2 HX.out
   by_cases cz:z.f0=g
   case neg=>
    have czb:(z.f0 == g)=false:=beq_eq_false_iff_ne.mpr cz
    go_wp2
    go_roundg k4
    case measure=>omega
    case rel=>
     have h1:=HQ.out
     have h2:=HOK.out.w
     rw[wrap_succ i (by omega) (by omega)]
     refine⟨i+1,rfl,⟨by omega,by omega⟩,K,⟨?_⟩⟩
     rw[show (i+1).toNat=i.toNat+1 by omega,List.take_add_one,List.getElem?_eq_getElem (show i.toNat<G.d.length by omega)]
     have h3:G.d[i.toNat]=z:=by rw[HEZ.out];unfold rd_T60;rw[List.getD_eq_getElem?_getD,List.getElem?_eq_getElem (show i.toNat<G.d.length by omega)];rfl
     exact askD_none g _ _ HNO.out (by rw[h3];exact cz)
   case pos=>
    have czb:(z.f0 == g)=true:=beq_iff_eq.mpr cz
    have hs1:Kd.R (Kd.int .i64) 3 w5 v.heap.size (fun _=>True) (.slice (some ⟨b1,0,none⟩) r2.length c1) r2:=K.out.own.s1
    have hlt:e.f1<(r2.length:Int):=by rw[show (r2.length:Int)=G.r.length by rw[HRL.out.1]];exact HTO.out.2
    have HMEM:=AK (show z∈G.d by rw[HEZ.out];exact getD_mem G.d z60 i (by have:=HQ.out;omega) (by have:=HQ.out;omega))
    have HZB:=AK (wt_parts (HOK.out.ds z HMEM.out))
    have HSP:=AK (show G.d=G.d.take i.toNat++z :: G.d.drop (i+1).toNat by
     have h3:G.d[i.toNat]'(by have:=HQ.out;omega)=z:=by rw[HEZ.out];unfold rd_T60;rw[List.getD_eq_getElem?_getD,List.getElem?_eq_getElem (show i.toNat<G.d.length by have:=HQ.out;omega)];rfl
     rw[show (i+1).toNat=i.toNat+1 by have:=HQ.out;omega,←h3,←List.drop_eq_getElem_cons,List.take_append_drop])
    obtain⟨D2,eD2⟩:∃D2,D2=G.d.take i.toNat++G.d.drop (i+1).toNat:=⟨_,rfl⟩
    obtain⟨r3,er3⟩:∃r3,r3=r2.set e.f1.toNat z.f1:=⟨_,rfl⟩
    have hal:askD g G.d=some (z.f1,D2):=by
     have h4:=askD_at g (G.d.take i.toNat) (G.d.drop (i+1).toNat) z HNO.out cz
     rw[←HSP.out,←eD2]at h4;exact h4
    have hres:(R,s)=(⟨G.o,r3,G.w,D2⟩,seesB G.o z.f1):=by
     rw[HASK.out];unfold askP askL;rw[hal,er3,HRL.out.2];rfl
    injection hres with he1 he2
    subst he1 he2
    have HRD3:=AK (show rd r3 e.f1=z.f1 by
     rw[er3];unfold rd;rw[List.getD_eq_getElem?_getD,List.getElem?_set_self (by have:=HTO.out;omega)];rfl)
    have HRL3:=AK (show e.f1<(r3.length:Int)by rw[er3,List.length_set];exact hlt)
    have N0:=AK (K.out.setR e.f1 HTO.out.1 hlt z.f1 er3)
    obtain⟨y0,yf⟩:=RI_at hs1 e.f1 HTO.out.1 hlt
    have HEX:=AK eD2
    clear hal hlt er3 eD2 hs1
    obtain⟨p0,p1,p2,p3⟩:=K.out.hc
    obtain⟨q0,q1,q2,q3,q4,q5,q6⟩:=K.out.ec
    go_upto_region 58 with fail
    clear p0 p1 p2 p3 q0 q1 q2 q3 q4 q5 q6 y0 yf x0 x1 czb
    replace K:=AK (N0.out.below (below_drew1 (Below.refl _ _)))
    clear N0 HX
    generalize (w5.setCell ⟨b1,e.f1.toNat,none⟩ (.int .i64 z.f1))=u9 at K ⊢
    have HC3:=AK (show Kd.C k60 u9.drew (some adr) G.d.length G.d from K.out.own.reads.r3)
    have hk3:G.d.length≤c3:=K.out.own.reads.k3
    obtain⟨i0,hinf,_,hsz,_⟩:=info_parts info60
    have hcutA:=cut_hm (P:=Tryd.prog) 31 71 .i64 Tryd.underlying31 hinf (some adr) G.d.length c3 i (by have:=HQ.out;omega) (by have:=HQ.out;omega)
    have hwr1:wrap64 (i+1)=i+1:=by have:=HQ.out;have:=HOK.out.w;unfold wrap64;omega
    have h01:=eq_true (show 0≤i+1 by have:=HQ.out;omega)
    have h11:=eq_true (show i+1≤(G.d.length:Int)by have:=HQ.out;omega)
    have hCd:=Kd.C_drop (m:=(i+1).toNat) HC3.out (by have:=HQ.out;omega) hk3
    have HCD:=AK (show Kd.C k60 u9.drew (if c3=(i+1).toNat then some adr else some (adr.add ((i+1).toNat*2))) (G.d.length - (i+1).toNat) (G.d.drop (i+1).toNat)by rw[←List.length_drop];exact hCd)
    have HCT:=AK (show Kd.C k60 u9.drew (some adr) i.toNat (G.d.take i.toNat)by
     have h5:=Kd.C_take (m:=i.toNat) HC3.out (by have:=HQ.out;omega)
     rwa [List.length_take,Nat.min_eq_left (by have:=HQ.out;omega)]at h5)
    have bxi:i≤1152921504606846976:=by have:=HQ.out;have:=HOK.out.w;omega
    have HM10:=AK (show i.toNat+(G.d.length - (i+1).toNat)≤1000∧i.toNat≤G.d.length by
     refine⟨by have:=HQ.out;have:=HOK.out.w;omega,by have:=HQ.out;omega⟩)
    clear hCd hk3 HC3
    refine start_ (n:=13) (S:=(fun w'=>w'.cell? ⟨n,3,none⟩=some (.slice (some adr) G.d.length c3))) (ds:=[12]) #[fF,fF,fF,fF,fF,fF,fF,fF,fF,fF,fF,fF,fF] (by kernel_rfl) rfl rfl K.out.hc.2.2.2 (fun hHeld=>?_);refine with_tabW sim58_tab sim58_bits (fun HT_ HW_=>?_)
    generalize u9.drew=v8 at K HCD HCT hHeld ⊢
    refine pU HT_ 0 (some 242) (bM 13 1) ?_
    refine tU HT_ HW_ 1 (some 243) (bM 13 3) hHeld rfl (by refine Or.inl ⟨by rfl,?_⟩;rintro w' s0;go_simp;with_reducible rfl) ?_
    refine pU HT_ 2 (some 244) (bM 13 7) ?_
    refine pU HT_ 3 (some 245) (bM 13 15) ?_
    refine pU HT_ 4 (some 246) (bM 13 31) ?_
    refine pU HT_ 5 (some 247) (bM 13 63) ?_
    refine tU HT_ HW_ 6 (some 248) (bM 13 127) hHeld rfl (by refine Or.inl ⟨by rfl,?_⟩;rintro w' s0;go_simp;with_reducible rfl) ?_
    refine pU HT_ 7 (some 249) (bM 13 255) ?_
    refine pU HT_ 8 (some 250) (bM 13 511) ?_
    refine pU HT_ 9 (some 251) (bM 13 1023) ?_
    refine one_ (i:=10) (N:=some 252) (bM 13 2047) rfl rfl (one_of HT_.out (by kernel_rfl)) (by decide) (fun K_ hK=>?_)
    refine app_full_step (by rfl) (.tmp 246) (.tmp 251) rfl Tryd.underlying31 info60 adr i.toNat (G.d.take i.toNat) rfl HCT.out (if c3=(i+1).toNat then some adr else some (adr.add ((i+1).toNat*2))) (G.d.length - (i+1).toNat) (c3 - (i+1).toNat) (G.d.drop (i+1).toNat) rfl HCD.out HM10.out.1 ?_
    intro v12 w12 hF
    obtain⟨hb,B10,d10,e1,hF2⟩:=hF
    rw[←HEX.out]at e1
    subst e1
    obtain⟨x3,hX⟩:=K.out.cutD HEX.out rfl HM10.out.2 (show FullR _ _ _ _ _ _ _ from⟨hb,B10,d10,by rw[←HEX.out],hF2⟩)
    have HX:=AK hX
    replace K:=AK (K.out.below hb)
    clear hb hF2 hX
    refine hK.out _ _ K.out.hc.2.2.2 (fun hHeld=>?_)
    clear hK K_
    refine nO (some 252) ?_
    refine pU HT_ 11 (some 253) (bM 13 4095) ?_
    refine last_ (i:=12) (N:=none) #[tT,tT,tT,tT,tT,tT,tT,tT,tT,tT,tT,tT,tT] rfl rfl (one_of HT_.out (by kernel_rfl)) (by decide) (fun K_ hK=>?_)
    obtain⟨z0,z1,z2,z3⟩:=K.out.hc
    have y3:=K.out.hf 3
    refine skip_ (w1:=?_) (by rfl) rfl ?_ ?_
    rotate_left
    ·go_simp
     rfl
    clear z0 z1 z2 z3 y3
    refine hK.out _ _ ?_
    clear hK K_
    refine done_ (done_of HT_.out (by kernel_rfl)) ?_
    clear HT_ HW_ hHeld
    clear HCD HCT hcutA hwr1 h01 h11
    generalize (if c3=(i+1).toNat then some adr else some (adr.add ((i+1).toNat*2)))=A10
    go_upto_region 60 with fail
    generalize w12.setCell ⟨n,3,none⟩ (.slice B10 D2.length d10)=v12 at HX ⊢
    clear K
    have hs1:Kd.R (Kd.int .i64) 3 v12 v.heap.size (fun _=>True) (.slice (some ⟨b1,0,none⟩) r3.length c1) r3:=HX.out.ow.s1
    have HRT:=AK ((RI_at hs1 e.f1 HTO.out.1 HRL3.out).1.trans (by rw[HRD3.out]))
    have hi3:=eq_true HRL3.out
    clear hs1
    replace HRT:=AK (show (World.drew v12).cell? _=_ from pcb (below_drew1 (Below.refl _ _)) HRT.out)
    replace HX:=AK (HX.out.below (below_drew1 (Below.refl _ _)))
    refine start_ (n:=11) (S:=(fun w'=>(w'.cell? ⟨n,0,none⟩=some (.slice A0 G.o.length c0)∧w'.cell? ⟨n,1,none⟩=some (.slice (some ⟨b1,0,none⟩) r3.length c1)∧w'.cell? ⟨n,2,none⟩=some (.slice A2 G.w.length c2)∧w'.cell? ⟨n,3,none⟩=some (.slice B10 D2.length d10))∧w'.cell? ⟨n+1,1,none⟩=some (.int .i64 e.f1)∧w'.cell? ⟨b1,e.f1.toNat,none⟩=some (.int .i64 z.f1))) (ds:=[9]) #[fF,fF,fF,fF,fF,fF,fF,fF,fF,fF,fF] (by kernel_rfl) rfl rfl ⟨HX.out.hc,HX.out.ec.2.1,HRT.out⟩ (fun hHeld=>?_);refine with_tabW sim60b_tab sim60b_bits (fun HT_ HW_=>?_)
    generalize v12.drew=v5 at HRT HX hHeld ⊢
    refine tU HT_ HW_ 0 (some 255) (bM 11 1) hHeld rfl (by refine Or.inl ⟨by rfl,?_⟩;rintro w' ⟨⟨s0,s1,s2,s3⟩,s4,s5⟩;go_simp;with_reducible rfl) ?_
    refine tU HT_ HW_ 1 (some 256) (bM 11 3) hHeld rfl (by refine Or.inl ⟨by rfl,?_⟩;rintro w' ⟨⟨s0,s1,s2,s3⟩,s4,s5⟩;go_simp;with_reducible rfl) ?_
    refine pU HT_ 2 (some 257) (bM 11 7) ?_
    refine tU HT_ HW_ 3 (some 258) (bM 11 15) hHeld rfl (by refine Or.inl ⟨by rfl,?_⟩;rintro w' ⟨⟨s0,s1,s2,s3⟩,s4,s5⟩;go_simp;with_reducible rfl) ?_
    refine pU HT_ 4 (some 259) (bM 11 31) ?_
    refine tU HT_ HW_ 5 (some 260) (bM 11 63) hHeld rfl (by refine Or.inl ⟨by rfl,?_⟩;rintro w' ⟨⟨s0,s1,s2,s3⟩,s4,s5⟩;go_simp;with_reducible rfl) ?_
    refine pU HT_ 6 (some 261) (bM 11 127) ?_
    refine tU HT_ HW_ 7 (some 262) (bM 11 255) hHeld rfl (by refine Or.inl ⟨by rfl,?_⟩;rintro w' ⟨⟨s0,s1,s2,s3⟩,s4,s5⟩;go_simp;with_reducible rfl) ?_
    refine one_ (i:=8) (N:=some 263) (bM 11 511) rfl rfl (one_of HT_.out (by kernel_rfl)) (by decide) (fun K_ hK=>?_)
    refine goes_ Tryd.func68 (by kernel_rfl) rfl #[.agg #[.slice A0 G.o.length c0,.slice (some ⟨b1,0,none⟩) r3.length c1,.slice A2 G.w.length c2,.slice B10 D2.length d10],.int .i64 z.f1] (by rfl) rfl rfl zI ?_
    refine(seen_c HX.out.reads HZB.out.2.2.2.2 (fun h=>(ob_small2 (ob_at HOK.out h HZB.out.2.2.2.2)).2)).mono ?_
    rintro en v6 ⟨rfl,hb⟩
    refine⟨_,rfl,?_⟩
    replace HRT:=AK (pcb hb HRT.out)
    replace HX:=AK (HX.out.below hb)
    clear hb
    refine hK.out _ _ ⟨HX.out.hc,HX.out.ec.2.1,HRT.out⟩ (fun hHeld=>?_)
    clear hK K_
    refine nO (some 263) ?_
    refine last_ (i:=9) (N:=none) #[tT,tT,tT,tT,tT,tT,tT,tT,tT,tT,fF] rfl rfl (one_of HT_.out (by kernel_rfl)) (by decide) (fun K_ hK=>?_)
    obtain⟨z0,z1,z2,z3⟩:=HX.out.oc
    have y0:=HX.out.of 0
    have y1:=HX.out.of 1
    have y2:=HX.out.of 2
    have y3:=HX.out.of 3
    refine skip_ (w1:=?_) (by rfl) rfl ?_ ?_
    rotate_left
    ·go_simp
     rfl
    clear z0 z1 z2 z3 y0 y1 y2 y3
    refine hK.out _ _ ?_
    clear hK K_
    refine pU HT_ 10 (some 5) (bM 11 2047) ?_
    refine done_ (done_of HT_.out (by kernel_rfl)) ?_
    clear HT_ HW_ hHeld
    go_wp2
    refine bodyPost_ret (results_ct rfl _ _ (n+2) 33 #[.slice A0 G.o.length c0,.slice (some ⟨b1,0,none⟩) r3.length c1,.slice A2 G.w.length c2,.slice B10 D2.length d10] (0,0) _ rfl HX.out.fin.2.2 Tryd.underlying33 rfl (by kernel_rfl)) rfl ?_
    exact⟨A0,c0,(some ⟨b1,0,none⟩),c1,A2,c2,B10,d10,rfl,⟨⟨_,HX.out.fin.1⟩,HX.out.k⟩,HX.out.fin.2.1⟩
  | zero=>
   have c33:decide (i<(G.d.length:Int))=false:=deF (by have:=HQ.out;omega)
   have hno:=HNO.out
   rw[take_all _ _ (by have:=HQ.out;omega)]at hno
   have hres:(R,s)=(⟨G.o,r2,G.w,G.d⟩,seesB G.o (-1)):=by rw[HASK.out,HER.out];unfold askP askL;rw[hno];rfl
   injection hres with he1 he2
   subst he1 he2
   have hs1:Kd.R (Kd.int .i64) 3 wr v.heap.size (fun _=>True) (.slice (some ⟨b1,0,none⟩) r2.length c1) r2:=K.out.own.s1
   have HRT:=AK ((RI_at hs1 e.f1 HTO.out.1 (by rw[show (r2.length:Int)=G.r.length by rw[HRL.out.1]];exact HTO.out.2)).1.trans (by rw[HRD.out]))
   clear hs1 hno HNO HQ
   obtain⟨p0,p1,p2,p3⟩:=K.out.hc
   go_wp2_with fail
   clear p0 p1 p2 p3
   replace HRT:=AK (show (World.drew wr).cell? _=_ from pcb (below_drew1 (Below.refl _ _)) HRT.out)
   replace K:=AK (K.out.below (below_drew1 (Below.refl _ _)))
   refine start_ (n:=11) (S:=(fun w'=>(w'.cell? ⟨n,0,none⟩=some (.slice A0 G.o.length c0)∧w'.cell? ⟨n,1,none⟩=some (.slice (some ⟨b1,0,none⟩) r2.length c1)∧w'.cell? ⟨n,2,none⟩=some (.slice A2 G.w.length c2)∧w'.cell? ⟨n,3,none⟩=some (.slice A3 G.d.length c3))∧w'.cell? ⟨n+1,1,none⟩=some (.int .i64 e.f1)∧w'.cell? ⟨b1,e.f1.toNat,none⟩=some (.int .i64 (-1)))) (ds:=[9]) #[fF,fF,fF,fF,fF,fF,fF,fF,fF,fF,fF] (by kernel_rfl) rfl rfl ⟨K.out.hc,K.out.ec.2.1,HRT.out⟩ (fun hHeld=>?_);refine with_tabW sim60_tab sim60_bits (fun HT_ HW_=>?_)
   generalize wr.drew=v5 at HRT K hHeld ⊢
   refine tU HT_ HW_ 0 (some 255) (bM 11 1) hHeld rfl (by refine Or.inl ⟨by rfl,?_⟩;rintro w' ⟨⟨s0,s1,s2,s3⟩,s4,s5⟩;go_simp;with_reducible rfl) ?_
   refine tU HT_ HW_ 1 (some 256) (bM 11 3) hHeld rfl (by refine Or.inl ⟨by rfl,?_⟩;rintro w' ⟨⟨s0,s1,s2,s3⟩,s4,s5⟩;go_simp;with_reducible rfl) ?_
   refine pU HT_ 2 (some 257) (bM 11 7) ?_
   refine tU HT_ HW_ 3 (some 258) (bM 11 15) hHeld rfl (by refine Or.inl ⟨by rfl,?_⟩;rintro w' ⟨⟨s0,s1,s2,s3⟩,s4,s5⟩;go_simp;with_reducible rfl) ?_
   refine pU HT_ 4 (some 259) (bM 11 31) ?_
   refine tU HT_ HW_ 5 (some 260) (bM 11 63) hHeld rfl (by refine Or.inl ⟨by rfl,?_⟩;rintro w' ⟨⟨s0,s1,s2,s3⟩,s4,s5⟩;go_simp;with_reducible rfl) ?_
   refine pU HT_ 6 (some 261) (bM 11 127) ?_
   refine tU HT_ HW_ 7 (some 262) (bM 11 255) hHeld rfl (by refine Or.inl ⟨by rfl,?_⟩;rintro w' ⟨⟨s0,s1,s2,s3⟩,s4,s5⟩;go_simp;with_reducible rfl) ?_
   refine one_ (i:=8) (N:=some 263) (bM 11 511) rfl rfl (one_of HT_.out (by kernel_rfl)) (by decide) (fun K_ hK=>?_)
   refine goes_ Tryd.func68 (by kernel_rfl) rfl #[.agg #[.slice A0 G.o.length c0,.slice (some ⟨b1,0,none⟩) r2.length c1,.slice A2 G.w.length c2,.slice A3 G.d.length c3],.int .i64 (-1)] (by rfl) rfl rfl zI ?_
   refine(seen_c K.out.own.reads (by show (-1:Int)<(G.o.length:Int);omega) (fun h=>absurd h (by decide))).mono ?_
   rintro en v6 ⟨rfl,hb⟩
   refine⟨_,rfl,?_⟩
   replace HRT:=AK (pcb hb HRT.out)
   replace K:=AK (K.out.below hb)
   clear hb
   refine hK.out _ _ ⟨K.out.hc,K.out.ec.2.1,HRT.out⟩ (fun hHeld=>?_)
   clear hK K_
   refine nO (some 263) ?_
   refine last_ (i:=9) (N:=none) #[tT,tT,tT,tT,tT,tT,tT,tT,tT,tT,fF] rfl rfl (one_of HT_.out (by kernel_rfl)) (by decide) (fun K_ hK=>?_)
   obtain⟨z0,z1,z2,z3⟩:=K.out.oc
   have y0:=K.out.of 0
   have y1:=K.out.of 1
   have y2:=K.out.of 2
   have y3:=K.out.of 3
   refine skip_ (w1:=?_) (by rfl) rfl ?_ ?_
   rotate_left
   ·go_simp
    rfl
   clear z0 z1 z2 z3 y0 y1 y2 y3
   refine hK.out _ _ ?_
   clear hK K_
   refine pU HT_ 10 (some 5) (bM 11 2047) ?_
   refine done_ (done_of HT_.out (by kernel_rfl)) ?_
   clear HT_ HW_ hHeld
   go_wp2
   refine bodyPost_ret (results_ct rfl _ _ (n+2) 33 #[.slice A0 G.o.length c0,.slice (some ⟨b1,0,none⟩) r2.length c1,.slice A2 G.w.length c2,.slice A3 G.d.length c3] (0,0) _ rfl K.out.fin.2.2.1 Tryd.underlying33 rfl (by kernel_rfl)) rfl ?_
   exact⟨A0,c0,(some ⟨b1,0,none⟩),c1,A2,c2,A3,c3,rfl,⟨⟨_,K.out.fin.1⟩,K.out.own.reads.k3⟩,K.out.fin.2.1⟩
set_option maxHeartbeats 4000000 in
set_option maxRecDepth 100000 in
theorem memStep_calls (v w:World) (A0 A1 A2 A3:Option Addr) (c0 c1 c2 c3:Nat) (G:Hp) (e:S40) (A6:Option Addr) (c6:Nat) (hB:Below v.heap.size v w) (hO:OwnG w v.heap.size A0 c0 A1 c1 A2 c2 A3 c3 G) (hk:OkH G.o G.r G.w G.d) (he:Kd.C (Kd.int .i64) w A6 e.f4.f2.length e.f4.f2) (hc:e.f4.f2.length≤c6) (hl6:e.f4.f2.length≤1048576) (hs6:(e.f4.f1.size:Int)≤4611686018427387903) (R:Hp) (s:ByteArray) (hR:(R,s)=if e.f0=7∨toB G e=true then doB G e else(G,sNo)) :
  Calls Tryd.prog 48 #[.agg #[.slice A0 G.o.length c0,.slice A1 G.r.length c1,.slice A2 G.w.length c2,.slice A3 G.d.length c3],.agg #[.int .i64 e.f0,.int .i64 e.f1,.int .i64 e.f2,.int .i64 e.f3,.int .i64 e.f4.f0,.string e.f4.f1,.slice A6 e.f4.f2.length c6]] w fun en w'=>∃B0 d0 B1 d1 B2 d2 B3 d3,en=.returned (.tuple #[.agg #[.slice B0 R.o.length d0,.slice B1 R.r.length d1,.slice B2 R.w.length d2,.slice B3 R.d.length d3],.string s]) ∧
   OwnX w' v.heap.size B0 d0 B1 d1 B2 d2 B3 d3 R∧Below v.heap.size v w':=by
 by_cases h7:e.f0=7
 ·exact memStep_7 v w A0 A1 A2 A3 c0 c1 c2 c3 G e A6 c6 hB hO hk he hc h7 R s (by rw[hR,if_pos (.inl h7)];unfold doB;rw[if_neg (by omega),if_neg (by omega),if_neg (by omega),if_neg (by omega),if_neg (by omega),if_neg (by omega),if_pos h7])
 by_cases ht:toB G e=true
 case neg=>exact memStep_t v w A0 A1 A2 A3 c0 c1 c2 c3 G e A6 c6 hB hO hk he hc h7 (by simpa using ht) R s (by rw[hR,if_neg (fun h=>h.elim h7 ht)])
 rw[if_pos (.inr ht)]at hR
 by_cases h1:e.f0=1
 ·exact memStep_1 v w A0 A1 A2 A3 c0 c1 c2 c3 G e A6 c6 hB hO hk he hc hl6 hs6 h1 ht R s (by rw[hR];unfold doB;rw[if_pos h1])
 by_cases h2:e.f0=2
 ·exact memStep_2 v w A0 A1 A2 A3 c0 c1 c2 c3 G e A6 c6 hB hO hk he hc hl6 hs6 h2 ht R s (by rw[hR];unfold doB;rw[if_neg (by omega),if_pos h2])
 by_cases h3:e.f0=3
 ·exact memStep_3 v w A0 A1 A2 A3 c0 c1 c2 c3 G e A6 c6 hB hO hk he hc hl6 hs6 h3 ht R s (by rw[hR];unfold doB;rw[if_neg (by omega),if_neg (by omega),if_pos h3])
 by_cases h4:e.f0=4
 ·exact memStep_4 v w A0 A1 A2 A3 c0 c1 c2 c3 G e A6 c6 hB hO hk he hc hl6 hs6 h4 ht R s (by rw[hR];unfold doB;rw[if_neg (by omega),if_neg (by omega),if_neg (by omega),if_pos h4])
 by_cases h5:e.f0=5
 ·exact memStep_5 v w A0 A1 A2 A3 c0 c1 c2 c3 G e A6 c6 hB hO hk he hc hl6 hs6 h5 ht R s (by rw[hR];unfold doB;rw[if_neg (by omega),if_neg (by omega),if_neg (by omega),if_neg (by omega),if_pos h5])
 by_cases h6:e.f0=6
 ·exact memStep_6 v w A0 A1 A2 A3 c0 c1 c2 c3 G e A6 c6 hB hO hk he hc hl6 hs6 h6 ht R s (by rw[hR];unfold doB;rw[if_neg (by omega),if_neg (by omega),if_neg (by omega),if_neg (by omega),if_neg (by omega),if_pos h6])
 exact memStep_no v w A0 A1 A2 A3 c0 c1 c2 c3 G e A6 c6 hB hO hk he hc ht h7 h1 h2 h3 h4 h5 h6 R s (by rw[hR];unfold doB;rw[if_neg h1,if_neg h2,if_neg h3,if_neg h4,if_neg h5,if_neg h6,if_neg h7])
end Go.Proofs.YtigjhfijkdlldaaDoor.H
