import Derived.Test.YtigjhfijkdlldaaDoorSliHsk
import Derived.Test.YtigjhfijkdlldaaDoorSliHsq
import Derived.Test.YtigjhfijkdlldaaDoorSliQc
namespace Go.Proofs.YtigjhfijkdlldaaDoor.H
open Go.RowKit Go.Proofs.YtigjhfijkdlldaaDoorW.PrintWords Go.Proofs.YtigjhfijkdlldaaDoorW.PrintLast Go.Proofs.YtigjhfijkdlldaaDoorW.PrintMore Go.Proofs.YtigjhfijkdlldaaDoor.Q
set_option linter.unusedVariables false
set_option linter.unusedSimpArgs false
theorem sdo8_tab:rtab .any (opsOf Tryd.f23 8)=(true,[([],[]),([0],[0]),([],[]),([2],[2]),([],[]),([4],[4]),([],[]),([5,6],[5,6]),([7],[7]),([8],[8]),([],[]),([10],[10]),([9,11],[9,11]),([12],[12]),([1,3,0,1,2,3,4,5,6,7,8,9,10,11,12,13],[1,3]),([14,13,0,1,2,3,4,5,6,7,8,9,10,11,12,13],[13,14])]):=by kernel_rfl
theorem sdo8_bits:waitsOk [([],[]),([0],[0]),([],[]),([2],[2]),([],[]),([4],[4]),([],[]),([5,6],[5,6]),([7],[7]),([8],[8]),([],[]),([10],[10]),([9,11],[9,11]),([12],[12]),([1,3,0,1,2,3,4,5,6,7,8,9,10,11,12,13],[1,3]),([14,13,0,1,2,3,4,5,6,7,8,9,10,11,12,13],[13,14])] [0,1,0,4,0,16,0,112,240,496,0,1024,4080,8176,16383,32767]=true:=by kernel_rfl
theorem sdo9_tab:rtab .any (opsOf Tryd.f23 9)=(true,[([],[]),([],[]),([],[]),([2],[2]),([],[]),([4],[4]),([3,5],[3,5]),([6],[6]),([1,7],[1,7]),([0,8,0],[0]),([8,9,0,1,2,3,4,5,6,7,8,9],[8])]):=by kernel_rfl
theorem sdo9_bits:waitsOk [([],[]),([],[]),([],[]),([2],[2]),([],[]),([4],[4]),([3,5],[3,5]),([6],[6]),([1,7],[1,7]),([0,8,0],[0]),([8,9,0,1,2,3,4,5,6,7,8,9],[8])] [0,0,0,4,0,16,60,124,254,511,1023]=true:=by kernel_rfl
theorem sdo14_tab:rtab .any (opsOf Tryd.f23 14)=(true,[([],[]),([0],[0]),([],[]),([1,2],[1,2]),([3],[3]),([4],[4]),([],[]),([6],[6]),([],[]),([],[]),([9],[9]),([8,10],[8,10]),([5,7,0,1,2,3,4,5,6,7,8,9,10,11],[5,7]),([12,11,11,0,1,2,3,4,5,6,7,8,9,10,11],[11,12])]):=by kernel_rfl
theorem sdo14_bits:waitsOk [([],[]),([0],[0]),([],[]),([1,2],[1,2]),([3],[3]),([4],[4]),([],[]),([6],[6]),([],[]),([],[]),([9],[9]),([8,10],[8,10]),([5,7,0,1,2,3,4,5,6,7,8,9,10,11],[5,7]),([12,11,11,0,1,2,3,4,5,6,7,8,9,10,11],[11,12])] [0,1,0,7,15,31,0,64,0,0,512,1792,4095,8191]=true:=by kernel_rfl
set_option maxHeartbeats 4000000 in
set_option maxRecDepth 100000 in
theorem l4Do_1 (v w:World) (A0 A1 A2 A3:Option Addr) (c0 c1 c2 c3:Nat) (G:Hp) (e:S40) (A6:Option Addr) (c6:Nat) (hB:Below v.heap.size v w) (hO:OwnG w v.heap.size A0 c0 A1 c1 A2 c2 A3 c3 G) (hk:OkH G.o G.r G.w G.d) (he:Kd.C (Kd.int .i64) w A6 e.f4.f2.length e.f4.f2) (hc:e.f4.f2.length≤c6) (hl6:e.f4.f2.length≤1048576) (hs6:(e.f4.f1.size:Int)≤4611686018427387903) (hkd:e.f0=1) (ht:toB G e=true) (R:Hp) (s:ByteArray) (hR:(R,s)=doB G e) :
  Calls Tryd.prog 23 #[.agg #[.slice A0 G.o.length c0,.slice A1 G.r.length c1,.slice A2 G.w.length c2,.slice A3 G.d.length c3],.agg #[.int .i64 e.f0,.int .i64 e.f1,.int .i64 e.f2,.int .i64 e.f3,.int .i64 e.f4.f0,.string e.f4.f1,.slice A6 e.f4.f2.length c6]] w fun en w'=>∃B0 d0 B1 d1 B2 d2 B3 d3,en=.returned (.tuple #[.agg #[.slice B0 R.o.length d0,.slice B1 R.r.length d1,.slice B2 R.w.length d2,.slice B3 R.d.length d3],.string s]) ∧
   OwnG w' v.heap.size B0 d0 B1 d1 B2 d2 B3 d3 R∧Below v.heap.size v w'∧Keeps w w':=by
 have f1:(e.f0 == 1)=true:=beq_iff_eq.mpr hkd
 have hdo:(R,s)=makesB G e:=by rw[hR];unfold doB;rw[if_pos hkd]
 have HDO:=AK hdo
 have HL6:=AK (And.intro hl6 hs6)
 have HTT:=AK ht
 clear hdo hl6 hs6 hkd ht
 have HK0:=AK hO
 have HOK:=AK hk
 have HR:=AK hR
 have HE0:=AK (And.intro he hc)
 have K0:=AK (WK.start hB hO e A6 c6)
 clear hB hO hk he hc hR
 go_enter Tryd.func23,Tryd.ntmps23
 go_wp2_with fail
 have K:=AK (show WK v w w.heap.size A0 c0 A1 c1 A2 c2 A3 c3 G e A6 c6 (((w.alloc (.cells #[.slice A0 G.o.length c0,.slice A1 G.r.length c1,.slice A2 G.w.length c2,.slice A3 G.d.length c3] 33 (0,0))).alloc (.cells #[.int .i64 e.f0,.int .i64 e.f1,.int .i64 e.f2,.int .i64 e.f3,.int .i64 e.f4.f0,.string e.f4.f1,.slice A6 e.f4.f2.length c6] 37 (0,0))).alloc (.cells #[.slice none 0 0,.slice none 0 0,.slice none 0 0,.slice none 0 0] 33 (0,0)))from K0.out)
 have HWB:=AK (show Below w.heap.size w (((w.alloc (.cells #[.slice A0 G.o.length c0,.slice A1 G.r.length c1,.slice A2 G.w.length c2,.slice A3 G.d.length c3] 33 (0,0))).alloc (.cells #[.int .i64 e.f0,.int .i64 e.f1,.int .i64 e.f2,.int .i64 e.f3,.int .i64 e.f4.f0,.string e.f4.f1,.slice A6 e.f4.f2.length c6] 37 (0,0))).alloc (.cells #[.slice none 0 0,.slice none 0 0,.slice none 0 0,.slice none 0 0] 33 (0,0)))from below_alloc (below_alloc (below_alloc (Below.refl _ _) _) _) _)
 generalize (((w.alloc (.cells #[.slice A0 G.o.length c0,.slice A1 G.r.length c1,.slice A2 G.w.length c2,.slice A3 G.d.length c3] 33 (0,0))).alloc (.cells #[.int .i64 e.f0,.int .i64 e.f1,.int .i64 e.f2,.int .i64 e.f3,.int .i64 e.f4.f0,.string e.f4.f1,.slice A6 e.f4.f2.length c6] 37 (0,0))).alloc (.cells #[.slice none 0 0,.slice none 0 0,.slice none 0 0,.slice none 0 0] 33 (0,0)))=w1 at K HWB ⊢
 generalize w.heap.size=n at K ⊢
 clear K0 HK0
 refine(l4Makes_calls v w1 A0 A1 A2 A3 c0 c1 c2 c3 G e A6 c6 K.out.b K.out.own HOK.out (Kd.C_below HE0.out.1 HWB.out) HE0.out.2 HL6.out.1 HL6.out.2 HTT.out R s HDO.out).mono ?_
 rintro en w2 ⟨B0,d0,B1,d1,B2,d2,B3,d3,rfl,hO,hb,hkp⟩
 have ho:w2.heap[n+2]?=some (.cells #[.slice none 0 0,.slice none 0 0,.slice none 0 0,.slice none 0 0] 33 (0,0)):=hkp _ _ _ K.out.o (by decide) (by decide) (by decide)
 have HH:=AK (And.intro ho (And.intro hO (And.intro hb hkp)))
 obtain⟨z0,z1,z2,z3⟩:=box4 ho
 have y0:=bfz ho 0
 have y1:=bfz ho 1
 have y2:=bfz ho 2
 have y3:=bfz ho 3
 clear ho hO hb hkp f1
 go_wp2
 refine bodyPost_ret (results_ct rfl _ _ (n+2) 33 #[.slice B0 R.o.length d0,.slice B1 R.r.length d1,.slice B2 R.w.length d2,.slice B3 R.d.length d3] (0,0) _ rfl (set4_blk HH.out.1) Tryd.underlying33 rfl (by kernel_rfl)) rfl ?_
 exact⟨B0,d0,B1,d1,B2,d2,B3,d3,rfl,HH.out.2.1.set4 HH.out.1,set4_below HH.out.2.2.1 (by have:=K.out.n0;omega),fun j cs t h1 x y z=>set4_far (HH.out.2.2.2 j cs t (K.out.k j cs t h1 x y z) x y z) (by have h2:=blk_lt h1;have h3:=K.out.n1;omega)⟩
set_option maxHeartbeats 4000000 in
set_option maxRecDepth 100000 in
theorem l4Do_5 (v w:World) (A0 A1 A2 A3:Option Addr) (c0 c1 c2 c3:Nat) (G:Hp) (e:S40) (A6:Option Addr) (c6:Nat) (hB:Below v.heap.size v w) (hO:OwnG w v.heap.size A0 c0 A1 c1 A2 c2 A3 c3 G) (hk:OkH G.o G.r G.w G.d) (he:Kd.C (Kd.int .i64) w A6 e.f4.f2.length e.f4.f2) (hc:e.f4.f2.length≤c6) (hl6:e.f4.f2.length≤1048576) (hs6:(e.f4.f1.size:Int)≤4611686018427387903) (hkd:e.f0=5) (ht:toB G e=true) (R:Hp) (s:ByteArray) (hR:(R,s)=doB G e) :
  Calls Tryd.prog 23 #[.agg #[.slice A0 G.o.length c0,.slice A1 G.r.length c1,.slice A2 G.w.length c2,.slice A3 G.d.length c3],.agg #[.int .i64 e.f0,.int .i64 e.f1,.int .i64 e.f2,.int .i64 e.f3,.int .i64 e.f4.f0,.string e.f4.f1,.slice A6 e.f4.f2.length c6]] w fun en w'=>∃B0 d0 B1 d1 B2 d2 B3 d3,en=.returned (.tuple #[.agg #[.slice B0 R.o.length d0,.slice B1 R.r.length d1,.slice B2 R.w.length d2,.slice B3 R.d.length d3],.string s]) ∧
   OwnG w' v.heap.size B0 d0 B1 d1 B2 d2 B3 d3 R∧Below v.heap.size v w'∧Keeps w w':=by
 have f1:(e.f0 == 1)=false:=beq_eq_false_iff_ne.mpr (by omega)
 have f2:(e.f0 == 2)=false:=beq_eq_false_iff_ne.mpr (by omega)
 have f3:(e.f0 == 3)=false:=beq_eq_false_iff_ne.mpr (by omega)
 have f4:(e.f0 == 4)=false:=beq_eq_false_iff_ne.mpr (by omega)
 have f5:(e.f0 == 5)=true:=beq_iff_eq.mpr hkd
 have hdo:(R,s)=watchesB G e:=by rw[hR];unfold doB;rw[if_neg (by omega),if_neg (by omega),if_neg (by omega),if_neg (by omega),if_pos hkd]
 have HDO:=AK hdo
 have HL6:=AK (And.intro hl6 hs6)
 have HTT:=AK ht
 clear hdo hl6 hs6 hkd ht
 have HK0:=AK hO
 have HOK:=AK hk
 have HR:=AK hR
 have HE0:=AK (And.intro he hc)
 have K0:=AK (WK.start hB hO e A6 c6)
 clear hB hO hk he hc hR
 go_enter Tryd.func23,Tryd.ntmps23
 go_wp2_with fail
 have K:=AK (show WK v w w.heap.size A0 c0 A1 c1 A2 c2 A3 c3 G e A6 c6 (((w.alloc (.cells #[.slice A0 G.o.length c0,.slice A1 G.r.length c1,.slice A2 G.w.length c2,.slice A3 G.d.length c3] 33 (0,0))).alloc (.cells #[.int .i64 e.f0,.int .i64 e.f1,.int .i64 e.f2,.int .i64 e.f3,.int .i64 e.f4.f0,.string e.f4.f1,.slice A6 e.f4.f2.length c6] 37 (0,0))).alloc (.cells #[.slice none 0 0,.slice none 0 0,.slice none 0 0,.slice none 0 0] 33 (0,0)))from K0.out)
 have HWB:=AK (show Below w.heap.size w (((w.alloc (.cells #[.slice A0 G.o.length c0,.slice A1 G.r.length c1,.slice A2 G.w.length c2,.slice A3 G.d.length c3] 33 (0,0))).alloc (.cells #[.int .i64 e.f0,.int .i64 e.f1,.int .i64 e.f2,.int .i64 e.f3,.int .i64 e.f4.f0,.string e.f4.f1,.slice A6 e.f4.f2.length c6] 37 (0,0))).alloc (.cells #[.slice none 0 0,.slice none 0 0,.slice none 0 0,.slice none 0 0] 33 (0,0)))from below_alloc (below_alloc (below_alloc (Below.refl _ _) _) _) _)
 generalize (((w.alloc (.cells #[.slice A0 G.o.length c0,.slice A1 G.r.length c1,.slice A2 G.w.length c2,.slice A3 G.d.length c3] 33 (0,0))).alloc (.cells #[.int .i64 e.f0,.int .i64 e.f1,.int .i64 e.f2,.int .i64 e.f3,.int .i64 e.f4.f0,.string e.f4.f1,.slice A6 e.f4.f2.length c6] 37 (0,0))).alloc (.cells #[.slice none 0 0,.slice none 0 0,.slice none 0 0,.slice none 0 0] 33 (0,0)))=w1 at K HWB ⊢
 generalize w.heap.size=n at K ⊢
 clear K0 HK0
 refine(l4Watches_calls v w1 A0 A1 A2 A3 c0 c1 c2 c3 G e A6 c6 K.out.b K.out.own HOK.out (Kd.C_below HE0.out.1 HWB.out) HE0.out.2  R s HDO.out).mono ?_
 rintro en w2 ⟨B0,d0,B1,d1,B2,d2,B3,d3,rfl,hO,hb,hkp⟩
 have ho:w2.heap[n+2]?=some (.cells #[.slice none 0 0,.slice none 0 0,.slice none 0 0,.slice none 0 0] 33 (0,0)):=hkp _ _ _ K.out.o (by decide) (by decide) (by decide)
 have HH:=AK (And.intro ho (And.intro hO (And.intro hb hkp)))
 obtain⟨z0,z1,z2,z3⟩:=box4 ho
 have y0:=bfz ho 0
 have y1:=bfz ho 1
 have y2:=bfz ho 2
 have y3:=bfz ho 3
 clear ho hO hb hkp f5
 go_wp2
 refine bodyPost_ret (results_ct rfl _ _ (n+2) 33 #[.slice B0 R.o.length d0,.slice B1 R.r.length d1,.slice B2 R.w.length d2,.slice B3 R.d.length d3] (0,0) _ rfl (set4_blk HH.out.1) Tryd.underlying33 rfl (by kernel_rfl)) rfl ?_
 exact⟨B0,d0,B1,d1,B2,d2,B3,d3,rfl,HH.out.2.1.set4 HH.out.1,set4_below HH.out.2.2.1 (by have:=K.out.n0;omega),fun j cs t h1 x y z=>set4_far (HH.out.2.2.2 j cs t (K.out.k j cs t h1 x y z) x y z) (by have h2:=blk_lt h1;have h3:=K.out.n1;omega)⟩
set_option maxHeartbeats 4000000 in
set_option maxRecDepth 100000 in
theorem l4Do_6 (v w:World) (A0 A1 A2 A3:Option Addr) (c0 c1 c2 c3:Nat) (G:Hp) (e:S40) (A6:Option Addr) (c6:Nat) (hB:Below v.heap.size v w) (hO:OwnG w v.heap.size A0 c0 A1 c1 A2 c2 A3 c3 G) (hk:OkH G.o G.r G.w G.d) (he:Kd.C (Kd.int .i64) w A6 e.f4.f2.length e.f4.f2) (hc:e.f4.f2.length≤c6) (hl6:e.f4.f2.length≤1048576) (hs6:(e.f4.f1.size:Int)≤4611686018427387903) (hkd:e.f0=6) (ht:toB G e=true) (R:Hp) (s:ByteArray) (hR:(R,s)=doB G e) :
  Calls Tryd.prog 23 #[.agg #[.slice A0 G.o.length c0,.slice A1 G.r.length c1,.slice A2 G.w.length c2,.slice A3 G.d.length c3],.agg #[.int .i64 e.f0,.int .i64 e.f1,.int .i64 e.f2,.int .i64 e.f3,.int .i64 e.f4.f0,.string e.f4.f1,.slice A6 e.f4.f2.length c6]] w fun en w'=>∃B0 d0 B1 d1 B2 d2 B3 d3,en=.returned (.tuple #[.agg #[.slice B0 R.o.length d0,.slice B1 R.r.length d1,.slice B2 R.w.length d2,.slice B3 R.d.length d3],.string s]) ∧
   OwnG w' v.heap.size B0 d0 B1 d1 B2 d2 B3 d3 R∧Below v.heap.size v w'∧Keeps w w':=by
 have f1:(e.f0 == 1)=false:=beq_eq_false_iff_ne.mpr (by omega)
 have f2:(e.f0 == 2)=false:=beq_eq_false_iff_ne.mpr (by omega)
 have f3:(e.f0 == 3)=false:=beq_eq_false_iff_ne.mpr (by omega)
 have f4:(e.f0 == 4)=false:=beq_eq_false_iff_ne.mpr (by omega)
 have f5:(e.f0 == 5)=false:=beq_eq_false_iff_ne.mpr (by omega)
 have f6:(e.f0 == 6)=true:=beq_iff_eq.mpr hkd
 have hdo:(R,s)=asksB G e:=by rw[hR];unfold doB;rw[if_neg (by omega),if_neg (by omega),if_neg (by omega),if_neg (by omega),if_neg (by omega),if_pos hkd]
 have HDO:=AK hdo
 have HL6:=AK (And.intro hl6 hs6)
 have HTT:=AK ht
 clear hdo hl6 hs6 hkd ht
 have HK0:=AK hO
 have HOK:=AK hk
 have HR:=AK hR
 have HE0:=AK (And.intro he hc)
 have K0:=AK (WK.start hB hO e A6 c6)
 clear hB hO hk he hc hR
 go_enter Tryd.func23,Tryd.ntmps23
 go_wp2_with fail
 have K:=AK (show WK v w w.heap.size A0 c0 A1 c1 A2 c2 A3 c3 G e A6 c6 (((w.alloc (.cells #[.slice A0 G.o.length c0,.slice A1 G.r.length c1,.slice A2 G.w.length c2,.slice A3 G.d.length c3] 33 (0,0))).alloc (.cells #[.int .i64 e.f0,.int .i64 e.f1,.int .i64 e.f2,.int .i64 e.f3,.int .i64 e.f4.f0,.string e.f4.f1,.slice A6 e.f4.f2.length c6] 37 (0,0))).alloc (.cells #[.slice none 0 0,.slice none 0 0,.slice none 0 0,.slice none 0 0] 33 (0,0)))from K0.out)
 have HWB:=AK (show Below w.heap.size w (((w.alloc (.cells #[.slice A0 G.o.length c0,.slice A1 G.r.length c1,.slice A2 G.w.length c2,.slice A3 G.d.length c3] 33 (0,0))).alloc (.cells #[.int .i64 e.f0,.int .i64 e.f1,.int .i64 e.f2,.int .i64 e.f3,.int .i64 e.f4.f0,.string e.f4.f1,.slice A6 e.f4.f2.length c6] 37 (0,0))).alloc (.cells #[.slice none 0 0,.slice none 0 0,.slice none 0 0,.slice none 0 0] 33 (0,0)))from below_alloc (below_alloc (below_alloc (Below.refl _ _) _) _) _)
 generalize (((w.alloc (.cells #[.slice A0 G.o.length c0,.slice A1 G.r.length c1,.slice A2 G.w.length c2,.slice A3 G.d.length c3] 33 (0,0))).alloc (.cells #[.int .i64 e.f0,.int .i64 e.f1,.int .i64 e.f2,.int .i64 e.f3,.int .i64 e.f4.f0,.string e.f4.f1,.slice A6 e.f4.f2.length c6] 37 (0,0))).alloc (.cells #[.slice none 0 0,.slice none 0 0,.slice none 0 0,.slice none 0 0] 33 (0,0)))=w1 at K HWB ⊢
 generalize w.heap.size=n at K ⊢
 clear K0 HK0
 refine(l4Asks_calls v w1 A0 A1 A2 A3 c0 c1 c2 c3 G e A6 c6 K.out.b K.out.own HOK.out (Kd.C_below HE0.out.1 HWB.out) HE0.out.2 HTT.out R s HDO.out).mono ?_
 rintro en w2 ⟨B0,d0,B1,d1,B2,d2,B3,d3,rfl,hO,hb,hkp⟩
 have ho:w2.heap[n+2]?=some (.cells #[.slice none 0 0,.slice none 0 0,.slice none 0 0,.slice none 0 0] 33 (0,0)):=hkp _ _ _ K.out.o (by decide) (by decide) (by decide)
 have HH:=AK (And.intro ho (And.intro hO (And.intro hb hkp)))
 obtain⟨z0,z1,z2,z3⟩:=box4 ho
 have y0:=bfz ho 0
 have y1:=bfz ho 1
 have y2:=bfz ho 2
 have y3:=bfz ho 3
 clear ho hO hb hkp f6
 go_wp2
 refine bodyPost_ret (results_ct rfl _ _ (n+2) 33 #[.slice B0 R.o.length d0,.slice B1 R.r.length d1,.slice B2 R.w.length d2,.slice B3 R.d.length d3] (0,0) _ rfl (set4_blk HH.out.1) Tryd.underlying33 rfl (by kernel_rfl)) rfl ?_
 exact⟨B0,d0,B1,d1,B2,d2,B3,d3,rfl,HH.out.2.1.set4 HH.out.1,set4_below HH.out.2.2.1 (by have:=K.out.n0;omega),fun j cs t h1 x y z=>set4_far (HH.out.2.2.2 j cs t (K.out.k j cs t h1 x y z) x y z) (by have h2:=blk_lt h1;have h3:=K.out.n1;omega)⟩
set_option maxHeartbeats 4000000 in
set_option maxRecDepth 100000 in
theorem l4Do_4 (v w:World) (A0 A1 A2 A3:Option Addr) (c0 c1 c2 c3:Nat) (G:Hp) (e:S40) (A6:Option Addr) (c6:Nat) (hB:Below v.heap.size v w) (hO:OwnG w v.heap.size A0 c0 A1 c1 A2 c2 A3 c3 G) (hk:OkH G.o G.r G.w G.d) (he:Kd.C (Kd.int .i64) w A6 e.f4.f2.length e.f4.f2) (hc:e.f4.f2.length≤c6) (hl6:e.f4.f2.length≤1048576) (hs6:(e.f4.f1.size:Int)≤4611686018427387903) (hkd:e.f0=4) (ht:toB G e=true) (R:Hp) (s:ByteArray) (hR:(R,s)=doB G e) :
  Calls Tryd.prog 23 #[.agg #[.slice A0 G.o.length c0,.slice A1 G.r.length c1,.slice A2 G.w.length c2,.slice A3 G.d.length c3],.agg #[.int .i64 e.f0,.int .i64 e.f1,.int .i64 e.f2,.int .i64 e.f3,.int .i64 e.f4.f0,.string e.f4.f1,.slice A6 e.f4.f2.length c6]] w fun en w'=>∃B0 d0 B1 d1 B2 d2 B3 d3,en=.returned (.tuple #[.agg #[.slice B0 R.o.length d0,.slice B1 R.r.length d1,.slice B2 R.w.length d2,.slice B3 R.d.length d3],.string s]) ∧
   OwnG w' v.heap.size B0 d0 B1 d1 B2 d2 B3 d3 R∧Below v.heap.size v w'∧Keeps w w':=by
 have f1:(e.f0 == 1)=false:=beq_eq_false_iff_ne.mpr (by omega)
 have f2:(e.f0 == 2)=false:=beq_eq_false_iff_ne.mpr (by omega)
 have f3:(e.f0 == 3)=false:=beq_eq_false_iff_ne.mpr (by omega)
 have f4:(e.f0 == 4)=true:=beq_iff_eq.mpr hkd
 have hdo:(R,s)=forgetsB G e:=by rw[hR];unfold doB;rw[if_neg (by omega),if_neg (by omega),if_neg (by omega),if_pos hkd]
 have HDO:=AK hdo
 have HL6:=AK (And.intro hl6 hs6)
 have HTT:=AK ht
 clear hdo hl6 hs6 hkd ht
 have HTO:=AK (show 0≤e.f1∧e.f1<G.r.length by have ht:=HTT.out;unfold toB at ht;simpa using ht)
 obtain⟨b1,cr,er,_,hb1,_,_⟩:=Kd.R_form hO.s1 (by have:=HTO.out;omega)
 injection er with er1 er2 er3
 subst er1 er3
 clear er2
 obtain⟨r2,er2⟩:∃r2,r2=G.r.set e.f1.toNat (-1):=⟨_,rfl⟩
 have hi0:=eq_true (show 0≤e.f1 from HTO.out.1)
 have hi1:=eq_true (show e.f1<(G.r.length:Int)from HTO.out.2)
 have hres:(R,s)=(⟨G.o,r2,G.w,G.d⟩,sOk):=by rw[HDO.out,er2];rfl
 injection hres with he1 he2
 subst he1 he2
 have K:=AK (show WK v w w.heap.size A0 c0 (some ⟨b1,0,none⟩) c1 A2 c2 A3 c3 G e A6 c6 (((w.alloc (.cells #[.slice A0 G.o.length c0,.slice (some ⟨b1,0,none⟩) G.r.length c1,.slice A2 G.w.length c2,.slice A3 G.d.length c3] 33 (0,0))).alloc (.cells #[.int .i64 e.f0,.int .i64 e.f1,.int .i64 e.f2,.int .i64 e.f3,.int .i64 e.f4.f0,.string e.f4.f1,.slice A6 e.f4.f2.length c6] 37 (0,0))).alloc (.cells #[.slice none 0 0,.slice none 0 0,.slice none 0 0,.slice none 0 0] 33 (0,0)))from WK.start hB hO e A6 c6)
 have K2:=AK (K.out.setR e.f1 HTO.out.1 HTO.out.2 (-1) er2)
 obtain⟨x0,xf⟩:=RI_at K.out.own.s1 e.f1 HTO.out.1 HTO.out.2
 obtain⟨p0,p1,p2,p3⟩:=K.out.hc
 obtain⟨q0,q1,q2,q3,q4,q5,q6⟩:=K.out.ec
 obtain⟨s0,s1,s2,s3⟩:=K2.out.hc
 obtain⟨z0,z1,z2,z3⟩:=K2.out.oc
 have y0:=K2.out.of 0
 have y1:=K2.out.of 1
 have y2:=K2.out.of 2
 have y3:=K2.out.of 3
 clear hB hO hk he hc hR er2 HDO
 go_enter Tryd.func23,Tryd.ntmps23
 go_wp2
 refine bodyPost_ret (results_ct rfl _ _ (w.heap.size+2) 33 #[.slice A0 G.o.length c0,.slice (some ⟨b1,0,none⟩) r2.length c1,.slice A2 G.w.length c2,.slice A3 G.d.length c3] (0,0) _ rfl K2.out.fin.2.2.1 Tryd.underlying33 rfl (by kernel_rfl)) rfl ?_
 exact⟨A0,c0,(some ⟨b1,0,none⟩),c1,A2,c2,A3,c3,rfl,K2.out.fin.1,K2.out.fin.2.1,K2.out.fin.2.2.2⟩
set_option maxHeartbeats 4000000 in
set_option maxRecDepth 100000 in
theorem l4Do_2 (v w:World) (A0 A1 A2 A3:Option Addr) (c0 c1 c2 c3:Nat) (G:Hp) (e:S40) (A6:Option Addr) (c6:Nat) (hB:Below v.heap.size v w) (hO:OwnG w v.heap.size A0 c0 A1 c1 A2 c2 A3 c3 G) (hk:OkH G.o G.r G.w G.d) (he:Kd.C (Kd.int .i64) w A6 e.f4.f2.length e.f4.f2) (hc:e.f4.f2.length≤c6) (hl6:e.f4.f2.length≤1048576) (hs6:(e.f4.f1.size:Int)≤4611686018427387903) (hkd:e.f0=2) (ht:toB G e=true) (R:Hp) (s:ByteArray) (hR:(R,s)=doB G e) :
  Calls Tryd.prog 23 #[.agg #[.slice A0 G.o.length c0,.slice A1 G.r.length c1,.slice A2 G.w.length c2,.slice A3 G.d.length c3],.agg #[.int .i64 e.f0,.int .i64 e.f1,.int .i64 e.f2,.int .i64 e.f3,.int .i64 e.f4.f0,.string e.f4.f1,.slice A6 e.f4.f2.length c6]] w fun en w'=>∃B0 d0 B1 d1 B2 d2 B3 d3,en=.returned (.tuple #[.agg #[.slice B0 R.o.length d0,.slice B1 R.r.length d1,.slice B2 R.w.length d2,.slice B3 R.d.length d3],.string s]) ∧
   OwnG w' v.heap.size B0 d0 B1 d1 B2 d2 B3 d3 R∧Below v.heap.size v w'∧Keeps w w':=by
 have f1:(e.f0 == 1)=false:=beq_eq_false_iff_ne.mpr (by omega)
 have f2:(e.f0 == 2)=true:=beq_iff_eq.mpr hkd
 have hdo:(R,s)=takesB G e:=by rw[hR];unfold doB;rw[if_neg (by omega),if_pos hkd]
 have HDO:=AK hdo
 have HL6:=AK (And.intro hl6 hs6)
 have HTT:=AK ht
 clear hdo hl6 hs6 hkd ht
 have HTO:=AK (show 0≤e.f1∧e.f1<G.r.length by have ht:=HTT.out;unfold toB at ht;simpa using ht)
 obtain⟨b1,cr,er,_,_,_,_⟩:=Kd.R_form hO.s1 (by have:=HTO.out;omega)
 injection er with er1 er2 er3
 subst er1 er3
 clear er2
 have HK0:=AK hO
 have HOK:=AK hk
 have HR:=AK hR
 have HE0:=AK (And.intro he hc)
 have K0:=AK (WK.start hB hO e A6 c6)
 clear hB hO hk he hc hR
 go_enter Tryd.func23,Tryd.ntmps23
 go_wp2_with fail
 have K:=AK (show WK v w w.heap.size A0 c0 (some ⟨b1,0,none⟩) c1 A2 c2 A3 c3 G e A6 c6 (((w.alloc (.cells #[.slice A0 G.o.length c0,.slice (some ⟨b1,0,none⟩) G.r.length c1,.slice A2 G.w.length c2,.slice A3 G.d.length c3] 33 (0,0))).alloc (.cells #[.int .i64 e.f0,.int .i64 e.f1,.int .i64 e.f2,.int .i64 e.f3,.int .i64 e.f4.f0,.string e.f4.f1,.slice A6 e.f4.f2.length c6] 37 (0,0))).alloc (.cells #[.slice none 0 0,.slice none 0 0,.slice none 0 0,.slice none 0 0] 33 (0,0)))from K0.out)
 have HWB:=AK (show Below w.heap.size w (((w.alloc (.cells #[.slice A0 G.o.length c0,.slice (some ⟨b1,0,none⟩) G.r.length c1,.slice A2 G.w.length c2,.slice A3 G.d.length c3] 33 (0,0))).alloc (.cells #[.int .i64 e.f0,.int .i64 e.f1,.int .i64 e.f2,.int .i64 e.f3,.int .i64 e.f4.f0,.string e.f4.f1,.slice A6 e.f4.f2.length c6] 37 (0,0))).alloc (.cells #[.slice none 0 0,.slice none 0 0,.slice none 0 0,.slice none 0 0] 33 (0,0)))from below_alloc (below_alloc (below_alloc (Below.refl _ _) _) _) _)
 generalize (((w.alloc (.cells #[.slice A0 G.o.length c0,.slice (some ⟨b1,0,none⟩) G.r.length c1,.slice A2 G.w.length c2,.slice A3 G.d.length c3] 33 (0,0))).alloc (.cells #[.int .i64 e.f0,.int .i64 e.f1,.int .i64 e.f2,.int .i64 e.f3,.int .i64 e.f4.f0,.string e.f4.f1,.slice A6 e.f4.f2.length c6] 37 (0,0))).alloc (.cells #[.slice none 0 0,.slice none 0 0,.slice none 0 0,.slice none 0 0] 33 (0,0)))=w1 at K HWB ⊢
 generalize w.heap.size=n at K ⊢
 clear K0 HK0
 refine(part_c (p:=e.f2) (a:=e.f3) K.out.own.reads HOK.out).mono ?_
 rintro en w2 ⟨rfl,hb⟩
 replace K:=AK (K.out.below hb)
 clear hb
 have htk:(R,s)=if partL G.o G.r e.f2 e.f3<0 then(G,sNo)else(⟨G.o,G.r.set e.f1.toNat (rd (rd_T38 G.o (partL G.o G.r e.f2 e.f3)).f2 e.f3),G.w,G.d⟩,seesB G.o (rd (rd_T38 G.o (partL G.o G.r e.f2 e.f3)).f2 e.f3)):=HDO.out
 clear HDO
 have HPR:=AK (part_range HOK.out e.f2 e.f3)
 obtain⟨k,ek⟩:∃k,k=partL G.o G.r e.f2 e.f3:=⟨_,rfl⟩
 rw[←ek]at htk HPR ⊢
 clear ek
 by_cases ck:k<0
 case pos=>
  have ck1:decide (k<0)=true:=deT ck
  rw[if_pos ck]at htk
  injection htk with he1 he2
  subst he1 he2
  obtain⟨p0,p1,p2,p3⟩:=K.out.hc
  obtain⟨z0,z1,z2,z3⟩:=K.out.oc
  have y0:=K.out.of 0
  have y1:=K.out.of 1
  have y2:=K.out.of 2
  have y3:=K.out.of 3
  go_wp2
  refine bodyPost_ret (results_ct rfl _ _ (n+2) 33 #[.slice A0 R.o.length c0,.slice (some ⟨b1,0,none⟩) R.r.length c1,.slice A2 R.w.length c2,.slice A3 R.d.length c3] (0,0) _ rfl K.out.fin.2.2.1 Tryd.underlying33 rfl (by kernel_rfl)) rfl ?_
  exact⟨A0,c0,(some ⟨b1,0,none⟩),c1,A2,c2,A3,c3,rfl,K.out.fin.1,K.out.fin.2.1,K.out.fin.2.2.2⟩
 have ck1:decide (k<0)=false:=deF ck
 rw[if_neg ck]at htk
 have HP:=AK (HPR.out ck)
 clear HPR ck
 have hk0:=eq_true (show 0≤k from HP.out.1.1)
 have hk1:=eq_true (show k<(G.o.length:Int)from HP.out.1.2)
 have ha0:=eq_true (show 0≤e.f3 from HP.out.2.1)
 obtain⟨ad,Af,cf,ea,_,_,ha2,_,hCf⟩:=at_T38 K.out.own.reads.r0 k HP.out.1.1 HP.out.1.2
 subst ea
 have HOB:=AK (ob_parts (ob_at HOK.out HP.out.1.1 HP.out.1.2)).1
 obtain⟨z,ez⟩:∃z,z=rd_T38 G.o k:=⟨_,rfl⟩
 rw[←ez]at ha2 hCf htk HP HOB
 clear ez
 obtain⟨ar,er,hr⟩:=Kd.at_int hCf e.f3 HP.out.2.1 HP.out.2.2
 subst er
 clear hCf
 have ha1:=eq_true (show e.f3<(z.f2.length:Int)from HP.out.2.2)
 obtain⟨p,ep⟩:∃p,p=rd z.f2 e.f3:=⟨_,rfl⟩
 rw[←ep]at hr htk
 have HPB:=AK (show -1≤p∧p<G.o.length from HOB.out p (by rw[ep];exact getD_mem _ 0 _ HP.out.2.1 HP.out.2.2))
 clear ep HOB
 obtain⟨r2,er2⟩:∃r2,r2=G.r.set e.f1.toNat p:=⟨_,rfl⟩
 rw[←er2]at htk
 have HLN:=AK (show e.f1<(r2.length:Int)by rw[er2,List.length_set];exact HTO.out.2)
 have HRD:=AK (show rd r2 e.f1=p by
  rw[er2];unfold rd;rw[List.getD_eq_getElem?_getD,List.getElem?_set_self (by have:=HTO.out;omega)];rfl)
 have HER:=AK er2
 clear er2
 injection htk with he1 he2
 subst he1 he2
 have hi0:=eq_true (show 0≤e.f1 from HTO.out.1)
 have hi1:=eq_true (show e.f1<(G.r.length:Int)from HTO.out.2)
 have CS:=AK (And.intro ha2 hr)
 clear ha2 hr
 go_wp2_with fail
 replace K:=AK (K.out.below (below_drew1 (Below.refl _ _)))
 replace CS:=AK (And.intro (pcb (below_drew1 (Below.refl _ _)) CS.out.1) (pcb (below_drew1 (Below.refl _ _)) CS.out.2))
 refine start_ (n:=16) (S:=(fun w'=>(w'.cell? ⟨n,0,none⟩=some (.slice (some ad) G.o.length c0)∧w'.cell? ⟨n,1,none⟩=some (.slice (some ⟨b1,0,none⟩) G.r.length c1)∧w'.cell? ⟨n,2,none⟩=some (.slice A2 G.w.length c2)∧w'.cell? ⟨n,3,none⟩=some (.slice A3 G.d.length c3))∧w'.cell? ⟨n+1,1,none⟩=some (.int .i64 e.f1)∧w'.cell? ⟨n+1,3,none⟩=some (.int .i64 e.f3)∧w'.cell? ⟨(ad.add (k.toNat*3)).block,(ad.add (k.toNat*3)).off+2,none⟩=some (.slice (some ar) z.f2.length cf)∧w'.cell? (ar.add e.f3.toNat)=some (.int .i64 p))) (ds:=[15]) #[fF,fF,fF,fF,fF,fF,fF,fF,fF,fF,fF,fF,fF,fF,fF,fF] (by kernel_rfl) rfl rfl ⟨K.out.hc,K.out.ec.2.1,K.out.ec.2.2.2.1,CS.out.1,CS.out.2⟩ (fun hHeld=>?_);refine with_tabW sdo8_tab sdo8_bits (fun HT_ HW_=>?_)
 generalize w2.drew=v8 at K CS hHeld ⊢
 refine pU HT_ 0 (some 30) (bM 16 1) ?_
 refine tU HT_ HW_ 1 (some 31) (bM 16 3) hHeld rfl (by refine Or.inl ⟨by rfl,?_⟩;rintro w' ⟨⟨s0,s1,s2,s3⟩,s4,s5,s6,s7⟩;go_simp;with_reducible rfl) ?_
 refine pU HT_ 2 (some 32) (bM 16 7) ?_
 refine tU HT_ HW_ 3 (some 33) (bM 16 15) hHeld rfl (by refine Or.inl ⟨by rfl,?_⟩;rintro w' ⟨⟨s0,s1,s2,s3⟩,s4,s5,s6,s7⟩;go_simp;with_reducible rfl) ?_
 refine pU HT_ 4 (some 34) (bM 16 31) ?_
 refine tU HT_ HW_ 5 (some 35) (bM 16 63) hHeld rfl (by refine Or.inl ⟨by rfl,?_⟩;rintro w' ⟨⟨s0,s1,s2,s3⟩,s4,s5,s6,s7⟩;go_simp;with_reducible rfl) ?_
 refine pU HT_ 6 (some 36) (bM 16 127) ?_
 refine pU HT_ 7 (some 37) (bM 16 255) ?_
 refine pU HT_ 8 (some 38) (bM 16 511) ?_
 refine tU HT_ HW_ 9 (some 39) (bM 16 1023) hHeld rfl (by refine Or.inl ⟨by rfl,?_⟩;rintro w' ⟨⟨s0,s1,s2,s3⟩,s4,s5,s6,s7⟩;go_simp;with_reducible rfl) ?_
 refine pU HT_ 10 (some 40) (bM 16 2047) ?_
 refine tU HT_ HW_ 11 (some 41) (bM 16 4095) hHeld rfl (by refine Or.inl ⟨by rfl,?_⟩;rintro w' ⟨⟨s0,s1,s2,s3⟩,s4,s5,s6,s7⟩;go_simp;with_reducible rfl) ?_
 refine pU HT_ 12 (some 42) (bM 16 8191) ?_
 refine tU HT_ HW_ 13 (some 43) (bM 16 16383) hHeld rfl (by refine Or.inl ⟨by rfl,?_⟩;rintro w' ⟨⟨s0,s1,s2,s3⟩,s4,s5,s6,s7⟩;go_simp;with_reducible rfl) ?_
 refine pU HT_ 14 (some 44) (bM 16 32767) ?_
 refine last_ (i:=15) (N:=none) #[tT,tT,tT,tT,tT,tT,tT,tT,tT,tT,tT,tT,tT,tT,tT,tT] rfl rfl (one_of HT_.out (by kernel_rfl)) (by decide) (fun K_ hK=>?_)
 obtain⟨x0,xf⟩:=RI_at K.out.own.s1 e.f1 HTO.out.1 HTO.out.2
 have N0:=AK (K.out.setR e.f1 HTO.out.1 HTO.out.2 p HER.out)
 refine skip_ (w1:=?_) (by rfl) rfl ?_ ?_
 rotate_left
 ·go_simp
  rfl
 clear x0 xf
 refine hK.out _ _ ?_
 clear hK K_
 refine done_ (done_of HT_.out (by kernel_rfl)) ?_
 clear HT_ HW_ hHeld
 go_wp2_with fail
 generalize v8.setCell ⟨b1,e.f1.toNat,none⟩ (.int .i64 p)=v12 at N0 ⊢
 clear K CS
 have K11:=N0
 clear N0
 have hs1:Kd.R (Kd.int .i64) 3 v12 v.heap.size (fun _=>True) (.slice (some ⟨b1,0,none⟩) r2.length c1) r2:=K11.out.own.s1
 have HRT:=AK ((RI_at hs1 e.f1 HTO.out.1 HLN.out).1.trans (by rw[HRD.out]))
 have hi3:=eq_true HLN.out
 clear hs1
 replace HRT:=AK (show (World.drew v12).cell? _=_ from pcb (below_drew1 (Below.refl _ _)) HRT.out)
 replace K11:=AK (K11.out.below (below_drew1 (Below.refl _ _)))
 refine start_ (n:=11) (S:=(fun w'=>(w'.cell? ⟨n,0,none⟩=some (.slice (some ad) G.o.length c0)∧w'.cell? ⟨n,1,none⟩=some (.slice (some ⟨b1,0,none⟩) r2.length c1)∧w'.cell? ⟨n,2,none⟩=some (.slice A2 G.w.length c2)∧w'.cell? ⟨n,3,none⟩=some (.slice A3 G.d.length c3))∧w'.cell? ⟨n+1,1,none⟩=some (.int .i64 e.f1)∧w'.cell? ⟨b1,e.f1.toNat,none⟩=some (.int .i64 p))) (ds:=[9]) #[fF,fF,fF,fF,fF,fF,fF,fF,fF,fF,fF] (by kernel_rfl) rfl rfl ⟨K11.out.hc,K11.out.ec.2.1,HRT.out⟩ (fun hHeld=>?_);refine with_tabW sdo9_tab sdo9_bits (fun HT_ HW_=>?_)
 generalize v12.drew=v5 at HRT K11 hHeld ⊢
 refine tU HT_ HW_ 0 (some 45) (bM 11 1) hHeld rfl (by refine Or.inl ⟨by rfl,?_⟩;rintro w' ⟨⟨s0,s1,s2,s3⟩,s4,s5⟩;go_simp;with_reducible rfl) ?_
 refine tU HT_ HW_ 1 (some 46) (bM 11 3) hHeld rfl (by refine Or.inl ⟨by rfl,?_⟩;rintro w' ⟨⟨s0,s1,s2,s3⟩,s4,s5⟩;go_simp;with_reducible rfl) ?_
 refine pU HT_ 2 (some 47) (bM 11 7) ?_
 refine tU HT_ HW_ 3 (some 48) (bM 11 15) hHeld rfl (by refine Or.inl ⟨by rfl,?_⟩;rintro w' ⟨⟨s0,s1,s2,s3⟩,s4,s5⟩;go_simp;with_reducible rfl) ?_
 refine pU HT_ 4 (some 49) (bM 11 31) ?_
 refine tU HT_ HW_ 5 (some 50) (bM 11 63) hHeld rfl (by refine Or.inl ⟨by rfl,?_⟩;rintro w' ⟨⟨s0,s1,s2,s3⟩,s4,s5⟩;go_simp;with_reducible rfl) ?_
 refine pU HT_ 6 (some 51) (bM 11 127) ?_
 refine tU HT_ HW_ 7 (some 52) (bM 11 255) hHeld rfl (by refine Or.inl ⟨by rfl,?_⟩;rintro w' ⟨⟨s0,s1,s2,s3⟩,s4,s5⟩;go_simp;with_reducible rfl) ?_
 refine one_ (i:=8) (N:=some 53) (bM 11 511) rfl rfl (one_of HT_.out (by kernel_rfl)) (by decide) (fun K_ hK=>?_)
 refine goes_ Tryd.func35 (by kernel_rfl) rfl #[.agg #[.slice (some ad) G.o.length c0,.slice (some ⟨b1,0,none⟩) r2.length c1,.slice A2 G.w.length c2,.slice A3 G.d.length c3],.int .i64 p] (by rfl) rfl rfl zI ?_
 refine(sees_c K11.out.own.reads HPB.out.2 (fun h=>(ob_small2 (ob_at HOK.out h HPB.out.2)).2)).mono ?_
 rintro en v6 ⟨rfl,hb⟩
 refine⟨_,rfl,?_⟩
 replace HRT:=AK (pcb hb HRT.out)
 replace K11:=AK (K11.out.below hb)
 clear hb
 refine hK.out _ _ ⟨K11.out.hc,K11.out.ec.2.1,HRT.out⟩ (fun hHeld=>?_)
 clear hK K_
 refine nO (some 53) ?_
 refine last_ (i:=9) (N:=none) #[tT,tT,tT,tT,tT,tT,tT,tT,tT,tT,fF] rfl rfl (one_of HT_.out (by kernel_rfl)) (by decide) (fun K_ hK=>?_)
 obtain⟨z0,z1,z2,z3⟩:=K11.out.oc
 have y0:=K11.out.of 0
 have y1:=K11.out.of 1
 have y2:=K11.out.of 2
 have y3:=K11.out.of 3
 refine skip_ (w1:=?_) (by rfl) rfl ?_ ?_
 rotate_left
 ·go_simp
  rfl
 clear z0 z1 z2 z3 y0 y1 y2 y3
 refine hK.out _ _ ?_
 clear hK K_
 refine pU HT_ 10 (some 5) (bM 11 2047) ?_
 refine done_ (done_of HT_.out (by kernel_rfl)) ?_
 clear HT_ HW_ hHeld
 go_wp2
 refine bodyPost_ret (results_ct rfl _ _ (n+2) 33 #[.slice (some ad) G.o.length c0,.slice (some ⟨b1,0,none⟩) r2.length c1,.slice A2 G.w.length c2,.slice A3 G.d.length c3] (0,0) _ rfl K11.out.fin.2.2.1 Tryd.underlying33 rfl (by kernel_rfl)) rfl ?_
 exact⟨(some ad),c0,(some ⟨b1,0,none⟩),c1,A2,c2,A3,c3,rfl,K11.out.fin.1,K11.out.fin.2.1,K11.out.fin.2.2.2⟩
set_option maxHeartbeats 4000000 in
set_option maxRecDepth 100000 in
theorem l4Do_3 (v w:World) (A0 A1 A2 A3:Option Addr) (c0 c1 c2 c3:Nat) (G:Hp) (e:S40) (A6:Option Addr) (c6:Nat) (hB:Below v.heap.size v w) (hO:OwnG w v.heap.size A0 c0 A1 c1 A2 c2 A3 c3 G) (hk:OkH G.o G.r G.w G.d) (he:Kd.C (Kd.int .i64) w A6 e.f4.f2.length e.f4.f2) (hc:e.f4.f2.length≤c6) (hl6:e.f4.f2.length≤1048576) (hs6:(e.f4.f1.size:Int)≤4611686018427387903) (hkd:e.f0=3) (ht:toB G e=true) (R:Hp) (s:ByteArray) (hR:(R,s)=doB G e) :
  Calls Tryd.prog 23 #[.agg #[.slice A0 G.o.length c0,.slice A1 G.r.length c1,.slice A2 G.w.length c2,.slice A3 G.d.length c3],.agg #[.int .i64 e.f0,.int .i64 e.f1,.int .i64 e.f2,.int .i64 e.f3,.int .i64 e.f4.f0,.string e.f4.f1,.slice A6 e.f4.f2.length c6]] w fun en w'=>∃B0 d0 B1 d1 B2 d2 B3 d3,en=.returned (.tuple #[.agg #[.slice B0 R.o.length d0,.slice B1 R.r.length d1,.slice B2 R.w.length d2,.slice B3 R.d.length d3],.string s]) ∧
   OwnG w' v.heap.size B0 d0 B1 d1 B2 d2 B3 d3 R∧Below v.heap.size v w'∧Keeps w w':=by
 have f1:(e.f0 == 1)=false:=beq_eq_false_iff_ne.mpr (by omega)
 have f2:(e.f0 == 2)=false:=beq_eq_false_iff_ne.mpr (by omega)
 have f3:(e.f0 == 3)=true:=beq_iff_eq.mpr hkd
 have hdo:(R,s)=setsB G e:=by rw[hR];unfold doB;rw[if_neg (by omega),if_neg (by omega),if_pos hkd]
 have HDO:=AK hdo
 have HL6:=AK (And.intro hl6 hs6)
 have HTT:=AK ht
 clear hdo hl6 hs6 hkd ht
 have HK0:=AK hO
 have HOK:=AK hk
 have HR:=AK hR
 have HE0:=AK (And.intro he hc)
 have K0:=AK (WK.start hB hO e A6 c6)
 clear hB hO hk he hc hR
 go_enter Tryd.func23,Tryd.ntmps23
 go_wp2_with fail
 have K:=AK (show WK v w w.heap.size A0 c0 A1 c1 A2 c2 A3 c3 G e A6 c6 (((w.alloc (.cells #[.slice A0 G.o.length c0,.slice A1 G.r.length c1,.slice A2 G.w.length c2,.slice A3 G.d.length c3] 33 (0,0))).alloc (.cells #[.int .i64 e.f0,.int .i64 e.f1,.int .i64 e.f2,.int .i64 e.f3,.int .i64 e.f4.f0,.string e.f4.f1,.slice A6 e.f4.f2.length c6] 37 (0,0))).alloc (.cells #[.slice none 0 0,.slice none 0 0,.slice none 0 0,.slice none 0 0] 33 (0,0)))from K0.out)
 have HWB:=AK (show Below w.heap.size w (((w.alloc (.cells #[.slice A0 G.o.length c0,.slice A1 G.r.length c1,.slice A2 G.w.length c2,.slice A3 G.d.length c3] 33 (0,0))).alloc (.cells #[.int .i64 e.f0,.int .i64 e.f1,.int .i64 e.f2,.int .i64 e.f3,.int .i64 e.f4.f0,.string e.f4.f1,.slice A6 e.f4.f2.length c6] 37 (0,0))).alloc (.cells #[.slice none 0 0,.slice none 0 0,.slice none 0 0,.slice none 0 0] 33 (0,0)))from below_alloc (below_alloc (below_alloc (Below.refl _ _) _) _) _)
 generalize (((w.alloc (.cells #[.slice A0 G.o.length c0,.slice A1 G.r.length c1,.slice A2 G.w.length c2,.slice A3 G.d.length c3] 33 (0,0))).alloc (.cells #[.int .i64 e.f0,.int .i64 e.f1,.int .i64 e.f2,.int .i64 e.f3,.int .i64 e.f4.f0,.string e.f4.f1,.slice A6 e.f4.f2.length c6] 37 (0,0))).alloc (.cells #[.slice none 0 0,.slice none 0 0,.slice none 0 0,.slice none 0 0] 33 (0,0)))=w1 at K HWB ⊢
 generalize w.heap.size=n at K ⊢
 clear K0 HK0
 refine(part_c (p:=e.f1) (a:=e.f3) K.out.own.reads HOK.out).mono ?_
 rintro en w2 ⟨rfl,hb⟩
 replace K:=AK (K.out.below hb)
 clear hb
 have htk:(R,s)=if partL G.o G.r e.f1 e.f3<0 then(G,sNo)else(⟨G.o.set (partL G.o G.r e.f1 e.f3).toNat (putRef (rd_T38 G.o (partL G.o G.r e.f1 e.f3)) e.f3 (knownL G.r e.f2)),G.r,G.w,G.d⟩,sOk):=HDO.out
 clear HDO
 have HPR:=AK (part_range HOK.out e.f1 e.f3)
 obtain⟨k,ek⟩:∃k,k=partL G.o G.r e.f1 e.f3:=⟨_,rfl⟩
 rw[←ek]at htk HPR ⊢
 clear ek
 by_cases ck:k<0
 case pos=>
  have ck1:decide (k<0)=true:=deT ck
  rw[if_pos ck]at htk
  injection htk with he1 he2
  subst he1 he2
  obtain⟨p0,p1,p2,p3⟩:=K.out.hc
  obtain⟨z0,z1,z2,z3⟩:=K.out.oc
  have y0:=K.out.of 0
  have y1:=K.out.of 1
  have y2:=K.out.of 2
  have y3:=K.out.of 3
  go_wp2
  refine bodyPost_ret (results_ct rfl _ _ (n+2) 33 #[.slice A0 R.o.length c0,.slice A1 R.r.length c1,.slice A2 R.w.length c2,.slice A3 R.d.length c3] (0,0) _ rfl K.out.fin.2.2.1 Tryd.underlying33 rfl (by kernel_rfl)) rfl ?_
  exact⟨A0,c0,A1,c1,A2,c2,A3,c3,rfl,K.out.fin.1,K.out.fin.2.1,K.out.fin.2.2.2⟩
 have ck1:decide (k<0)=false:=deF ck
 rw[if_neg ck]at htk
 have HP:=AK (HPR.out ck)
 clear HPR ck
 have hk0:=eq_true (show 0≤k from HP.out.1.1)
 have hk1:=eq_true (show k<(G.o.length:Int)from HP.out.1.2)
 have ha0:=eq_true (show 0≤e.f3 from HP.out.2.1)
 obtain⟨g0,m0,eo,_⟩:=Kd.S_form K.out.own.s0 (by have:=HP.out.1;omega)
 injection eo with eo1 eo2 eo3
 subst eo1 eo3
 clear eo2
 obtain⟨g6,m6,hc6⟩:=K.out.elem k e.f3 HP.out.1.1 HP.out.1.2 HP.out.2.1 HP.out.2.2
 obtain⟨z,ez⟩:∃z,z=rd_T38 G.o k:=⟨_,rfl⟩
 have HEZ:=AK ez
 rw[←ez]at hc6 htk
 have ha1:=eq_true (show e.f3<(z.f2.length:Int)by rw[ez];exact HP.out.2.2)
 clear ez
 obtain⟨o2,eo2⟩:∃o2,o2=G.o.set k.toNat (putRef z e.f3 (knownL G.r e.f2)):=⟨_,rfl⟩
 rw[←eo2]at htk
 have HEO:=AK (show o2=G.o.set k.toNat (putRef (rd_T38 G.o k) e.f3 (knownL G.r e.f2))by rw[←HEZ.out];exact eo2)
 clear eo2
 injection htk with he1 he2
 subst he1 he2
 have CS:=AK hc6
 clear hc6
 go_wp2_with fail
 replace K:=AK (K.out.below (below_drew1 (Below.refl _ _)))
 replace CS:=AK (pcb (below_drew1 (Below.refl _ _)) CS.out)
 refine start_ (n:=14) (S:=(fun w'=>(w'.cell? ⟨n,0,none⟩=some (.slice (some ⟨g0,0,none⟩) G.o.length c0)∧w'.cell? ⟨n,1,none⟩=some (.slice A1 G.r.length c1)∧w'.cell? ⟨n,2,none⟩=some (.slice A2 G.w.length c2)∧w'.cell? ⟨n,3,none⟩=some (.slice A3 G.d.length c3))∧w'.cell? ⟨n+1,1,none⟩=some (.int .i64 e.f1)∧w'.cell? ⟨n+1,2,none⟩=some (.int .i64 e.f2)∧w'.cell? ⟨n+1,3,none⟩=some (.int .i64 e.f3)∧w'.cell? ⟨g0,k.toNat*3+2,none⟩=some (.slice (some ⟨g6,0,none⟩) z.f2.length m6))) (ds:=[13]) #[fF,fF,fF,fF,fF,fF,fF,fF,fF,fF,fF,fF,fF,fF] (by kernel_rfl) rfl rfl ⟨K.out.hc,K.out.ec.2.1,K.out.ec.2.2.1,K.out.ec.2.2.2.1,CS.out⟩ (fun hHeld=>?_);refine with_tabW sdo14_tab sdo14_bits (fun HT_ HW_=>?_)
 generalize w2.drew=v5 at K CS hHeld ⊢
 refine pU HT_ 0 (some 65) (bM 14 1) ?_
 refine tU HT_ HW_ 1 (some 66) (bM 14 3) hHeld rfl (by refine Or.inl ⟨by rfl,?_⟩;rintro w' ⟨⟨s0,s1,s2,s3⟩,s4,s5,s6,s7⟩;go_simp;with_reducible rfl) ?_
 refine pU HT_ 2 (some 67) (bM 14 7) ?_
 refine pU HT_ 3 (some 68) (bM 14 15) ?_
 refine pU HT_ 4 (some 69) (bM 14 31) ?_
 refine tU HT_ HW_ 5 (some 70) (bM 14 63) hHeld rfl (by refine Or.inl ⟨by rfl,?_⟩;rintro w' ⟨⟨s0,s1,s2,s3⟩,s4,s5,s6,s7⟩;go_simp;with_reducible rfl) ?_
 refine pU HT_ 6 (some 71) (bM 14 127) ?_
 refine tU HT_ HW_ 7 (some 72) (bM 14 255) hHeld rfl (by refine Or.inl ⟨by rfl,?_⟩;rintro w' ⟨⟨s0,s1,s2,s3⟩,s4,s5,s6,s7⟩;go_simp;with_reducible rfl) ?_
 refine tU HT_ HW_ 8 (some 73) (bM 14 511) hHeld rfl (by refine Or.inl ⟨by rfl,?_⟩;rintro w' ⟨⟨s0,s1,s2,s3⟩,s4,s5,s6,s7⟩;go_simp;with_reducible rfl) ?_
 refine pU HT_ 9 (some 74) (bM 14 1023) ?_
 refine tU HT_ HW_ 10 (some 75) (bM 14 2047) hHeld rfl (by refine Or.inl ⟨by rfl,?_⟩;rintro w' ⟨⟨s0,s1,s2,s3⟩,s4,s5,s6,s7⟩;go_simp;with_reducible rfl) ?_
 refine one_ (i:=11) (N:=some 76) (bM 14 4095) rfl rfl (one_of HT_.out (by kernel_rfl)) (by decide) (fun K_ hK=>?_)
 refine goes_ Tryd.func36 (by kernel_rfl) rfl #[.agg #[.slice (some ⟨g0,0,none⟩) G.o.length c0,.slice A1 G.r.length c1,.slice A2 G.w.length c2,.slice A3 G.d.length c3],.int .i64 e.f2] (by rfl) rfl rfl zI ?_
 refine(root_c (p:=e.f2) K.out.own.reads HOK.out.r).mono ?_
 rintro en v6 ⟨rfl,hb⟩
 refine⟨_,rfl,?_⟩
 replace CS:=AK (pcb hb CS.out)
 replace K:=AK (K.out.below hb)
 clear hb
 refine hK.out _ _ ⟨K.out.hc,K.out.ec.2.1,K.out.ec.2.2.1,K.out.ec.2.2.2.1,CS.out⟩ (fun hHeld=>?_)
 clear hK K_
 refine nO (some 76) ?_
 refine pU HT_ 12 (some 77) (bM 14 8191) ?_
 refine last_ (i:=13) (N:=none) #[tT,tT,tT,tT,tT,tT,tT,tT,tT,tT,tT,tT,tT,tT] rfl rfl (one_of HT_.out (by kernel_rfl)) (by decide) (fun K_ hK=>?_)
 obtain⟨xf,N0_⟩:=K.out.setRef k e.f3 HP.out.1.1 HP.out.1.2 HP.out.2.1 HP.out.2.2 (by have h:=CS.out;rw[HEZ.out]at h;exact h) (knownL G.r e.f2) HEO.out
 have N0:=AK N0_
 obtain⟨x6,ex6⟩:∃x6,v6.cell? ⟨g6,e.f3.toNat,none⟩=some x6:=K.out.elem2 k e.f3 HP.out.1.1 HP.out.1.2 HP.out.2.1 HP.out.2.2 (by have h:=CS.out;rw[HEZ.out]at h;exact h)
 clear N0_
 refine skip_ (w1:=?_) (by rfl) rfl ?_ ?_
 rotate_left
 ·go_simp
  rfl
 clear xf ex6
 refine hK.out _ _ ?_
 clear hK K_
 refine done_ (done_of HT_.out (by kernel_rfl)) ?_
 clear HT_ HW_ hHeld
 generalize v6.setCell ⟨g6,e.f3.toNat,none⟩ (.int .i64 (knownL G.r e.f2))=v12 at N0 ⊢
 clear K CS
 have K11:=N0
 clear N0
 obtain⟨p0,p1,p2,p3⟩:=K11.out.hc
 obtain⟨z0,z1,z2,z3⟩:=K11.out.oc
 have y0:=K11.out.of 0
 have y1:=K11.out.of 1
 have y2:=K11.out.of 2
 have y3:=K11.out.of 3
 go_wp2
 refine bodyPost_ret (results_ct rfl _ _ (n+2) 33 #[.slice (some ⟨g0,0,none⟩) o2.length c0,.slice A1 G.r.length c1,.slice A2 G.w.length c2,.slice A3 G.d.length c3] (0,0) _ rfl K11.out.fin.2.2.1 Tryd.underlying33 rfl (by kernel_rfl)) rfl ?_
 exact⟨(some ⟨g0,0,none⟩),c0,A1,c1,A2,c2,A3,c3,rfl,K11.out.fin.1,K11.out.fin.2.1,K11.out.fin.2.2.2⟩
set_option maxHeartbeats 4000000 in
set_option maxRecDepth 100000 in
theorem l4Do_7 (v w:World) (A0 A1 A2 A3:Option Addr) (c0 c1 c2 c3:Nat) (G:Hp) (e:S40) (A6:Option Addr) (c6:Nat) (hB:Below v.heap.size v w) (hO:OwnG w v.heap.size A0 c0 A1 c1 A2 c2 A3 c3 G) (hk:OkH G.o G.r G.w G.d) (he:Kd.C (Kd.int .i64) w A6 e.f4.f2.length e.f4.f2) (hc:e.f4.f2.length≤c6) (hl6:e.f4.f2.length≤1048576) (hs6:(e.f4.f1.size:Int)≤4611686018427387903) (hkd:e.f0=7) (R:Hp) (s:ByteArray) (hR:(R,s)=doB G e) :
  Calls Tryd.prog 23 #[.agg #[.slice A0 G.o.length c0,.slice A1 G.r.length c1,.slice A2 G.w.length c2,.slice A3 G.d.length c3],.agg #[.int .i64 e.f0,.int .i64 e.f1,.int .i64 e.f2,.int .i64 e.f3,.int .i64 e.f4.f0,.string e.f4.f1,.slice A6 e.f4.f2.length c6]] w fun en w'=>∃B0 d0 B1 d1 B2 d2 B3 d3,en=.returned (.tuple #[.agg #[.slice B0 R.o.length d0,.slice B1 R.r.length d1,.slice B2 R.w.length d2,.slice B3 R.d.length d3],.string s]) ∧
   OwnG w' v.heap.size B0 d0 B1 d1 B2 d2 B3 d3 R∧Below v.heap.size v w'∧Keeps w w':=by
 have f1:(e.f0 == 1)=false:=beq_eq_false_iff_ne.mpr (by omega)
 have f2:(e.f0 == 2)=false:=beq_eq_false_iff_ne.mpr (by omega)
 have f3:(e.f0 == 3)=false:=beq_eq_false_iff_ne.mpr (by omega)
 have f4:(e.f0 == 4)=false:=beq_eq_false_iff_ne.mpr (by omega)
 have f5:(e.f0 == 5)=false:=beq_eq_false_iff_ne.mpr (by omega)
 have f6:(e.f0 == 6)=false:=beq_eq_false_iff_ne.mpr (by omega)
 have f7:(e.f0 == 7)=true:=beq_iff_eq.mpr hkd
 have hdo:(R,s)=((collectB G).1,sOk):=by rw[hR];unfold doB;rw[if_neg (by omega),if_neg (by omega),if_neg (by omega),if_neg (by omega),if_neg (by omega),if_neg (by omega),if_pos hkd]
 have HDO:=AK hdo
 have HL6:=AK (And.intro hl6 hs6)
 clear hdo hl6 hs6 hkd
 obtain⟨mv,emv⟩:∃mv,mv=(collectB G).2:=⟨_,rfl⟩
 have hc7:=HDO.out
 injection hc7 with hc1 hc2
 subst hc2
 have HCB:=AK (show (R,mv)=collectB ⟨G.o,G.r,G.w,G.d⟩by rw[hc1,emv])
 clear hc1 emv HDO
 have HK0:=AK hO
 have HOK:=AK hk
 have HR:=AK hR
 have HE0:=AK (And.intro he hc)
 have K0:=AK (WK.start hB hO e A6 c6)
 clear hB hO hk he hc hR
 go_enter Tryd.func23,Tryd.ntmps23
 go_wp2_with fail
 have K:=AK (show WK v w w.heap.size A0 c0 A1 c1 A2 c2 A3 c3 G e A6 c6 (((w.alloc (.cells #[.slice A0 G.o.length c0,.slice A1 G.r.length c1,.slice A2 G.w.length c2,.slice A3 G.d.length c3] 33 (0,0))).alloc (.cells #[.int .i64 e.f0,.int .i64 e.f1,.int .i64 e.f2,.int .i64 e.f3,.int .i64 e.f4.f0,.string e.f4.f1,.slice A6 e.f4.f2.length c6] 37 (0,0))).alloc (.cells #[.slice none 0 0,.slice none 0 0,.slice none 0 0,.slice none 0 0] 33 (0,0)))from K0.out)
 have HWB:=AK (show Below w.heap.size w (((w.alloc (.cells #[.slice A0 G.o.length c0,.slice A1 G.r.length c1,.slice A2 G.w.length c2,.slice A3 G.d.length c3] 33 (0,0))).alloc (.cells #[.int .i64 e.f0,.int .i64 e.f1,.int .i64 e.f2,.int .i64 e.f3,.int .i64 e.f4.f0,.string e.f4.f1,.slice A6 e.f4.f2.length c6] 37 (0,0))).alloc (.cells #[.slice none 0 0,.slice none 0 0,.slice none 0 0,.slice none 0 0] 33 (0,0)))from below_alloc (below_alloc (below_alloc (Below.refl _ _) _) _) _)
 generalize (((w.alloc (.cells #[.slice A0 G.o.length c0,.slice A1 G.r.length c1,.slice A2 G.w.length c2,.slice A3 G.d.length c3] 33 (0,0))).alloc (.cells #[.int .i64 e.f0,.int .i64 e.f1,.int .i64 e.f2,.int .i64 e.f3,.int .i64 e.f4.f0,.string e.f4.f1,.slice A6 e.f4.f2.length c6] 37 (0,0))).alloc (.cells #[.slice none 0 0,.slice none 0 0,.slice none 0 0,.slice none 0 0] 33 (0,0)))=w1 at K HWB ⊢
 generalize w.heap.size=n at K ⊢
 clear K0 HK0
 refine(specCollect_calls A0 A1 A2 A3 c0 c1 c2 c3 G.o G.r G.w G.d w1 K.out.own.reads HOK.out.fine R mv HCB.out).mono ?_
 rintro en w2 ⟨B0,d0,B1,d1,B2,d2,B3,d3,E,ee,rfl,hM,hb⟩
 have K2:=AK (K.out.below hb)
 have HO2:=AK (OwnH.lower hM.own K.out.b.size)
 have HW3:=AK (below_alloc (Below.refl w2.heap.size w2) (.cells #[.slice B0 R.o.length d0,.slice B1 R.r.length d1,.slice B2 R.w.length d2,.slice B3 R.d.length d3] 33 (0,0)))
 have K3:=AK (K2.out.below HW3.out)
 clear hM hb K
 obtain⟨z0,z1,z2,z3⟩:=K3.out.oc
 have y0:=K3.out.of 0
 have y1:=K3.out.of 1
 have y2:=K3.out.of 2
 have y3:=K3.out.of 3
 go_wp2
 refine bodyPost_ret (results_ct rfl _ _ (n+2) 33 #[.slice B0 R.o.length d0,.slice B1 R.r.length d1,.slice B2 R.w.length d2,.slice B3 R.d.length d3] (0,0) _ rfl (set4_blk K3.out.o) Tryd.underlying33 rfl (by kernel_rfl)) rfl ?_
 exact⟨B0,d0,B1,d1,B2,d2,B3,d3,rfl,(HO2.out.below HW3.out).set4 K3.out.o,set4_below K3.out.b (by have:=K3.out.n0;omega),fun j cs t h1 x y z=>set4_far (K3.out.k j cs t h1 x y z) (by have h2:=blk_lt h1;have h3:=K3.out.n1;omega)⟩
set_option maxHeartbeats 4000000 in
set_option maxRecDepth 100000 in
theorem l4Do_no (v w:World) (A0 A1 A2 A3:Option Addr) (c0 c1 c2 c3:Nat) (G:Hp) (e:S40) (A6:Option Addr) (c6:Nat) (hB:Below v.heap.size v w) (hO:OwnG w v.heap.size A0 c0 A1 c1 A2 c2 A3 c3 G) (hk:OkH G.o G.r G.w G.d) (he:Kd.C (Kd.int .i64) w A6 e.f4.f2.length e.f4.f2) (hc:e.f4.f2.length≤c6) (hk1:¬ e.f0=1) (hk2:¬ e.f0=2) (hk3:¬ e.f0=3) (hk4:¬ e.f0=4) (hk5:¬ e.f0=5) (hk6:¬ e.f0=6) (hk7:¬ e.f0=7) (R:Hp) (s:ByteArray) (hR:(R,s)=doB G e) :
  Calls Tryd.prog 23 #[.agg #[.slice A0 G.o.length c0,.slice A1 G.r.length c1,.slice A2 G.w.length c2,.slice A3 G.d.length c3],.agg #[.int .i64 e.f0,.int .i64 e.f1,.int .i64 e.f2,.int .i64 e.f3,.int .i64 e.f4.f0,.string e.f4.f1,.slice A6 e.f4.f2.length c6]] w fun en w'=>∃B0 d0 B1 d1 B2 d2 B3 d3,en=.returned (.tuple #[.agg #[.slice B0 R.o.length d0,.slice B1 R.r.length d1,.slice B2 R.w.length d2,.slice B3 R.d.length d3],.string s]) ∧
   OwnG w' v.heap.size B0 d0 B1 d1 B2 d2 B3 d3 R∧Below v.heap.size v w'∧Keeps w w':=by
 have f1:(e.f0 == 1)=false:=beq_eq_false_iff_ne.mpr hk1
 have f2:(e.f0 == 2)=false:=beq_eq_false_iff_ne.mpr hk2
 have f3:(e.f0 == 3)=false:=beq_eq_false_iff_ne.mpr hk3
 have f4:(e.f0 == 4)=false:=beq_eq_false_iff_ne.mpr hk4
 have f5:(e.f0 == 5)=false:=beq_eq_false_iff_ne.mpr hk5
 have f6:(e.f0 == 6)=false:=beq_eq_false_iff_ne.mpr hk6
 have f7:(e.f0 == 7)=false:=beq_eq_false_iff_ne.mpr hk7
 have hdo:(R,s)=(G,sNo):=by rw[hR];unfold doB;rw[if_neg hk1,if_neg hk2,if_neg hk3,if_neg hk4,if_neg hk5,if_neg hk6,if_neg hk7]
 injection hdo with he1 he2
 subst he1 he2
 clear hk1 hk2 hk3 hk4 hk5 hk6 hk7
 have K0:=AK (WK.start hB hO e A6 c6)
 clear hB hO hk he hc hR
 go_enter Tryd.func23,Tryd.ntmps23
 go_upto_region 1 with fail
 have K:=AK (show WK v w w.heap.size A0 c0 A1 c1 A2 c2 A3 c3 R e A6 c6 (((w.alloc (.cells #[.slice A0 R.o.length c0,.slice A1 R.r.length c1,.slice A2 R.w.length c2,.slice A3 R.d.length c3] 33 (0,0))).alloc (.cells #[.int .i64 e.f0,.int .i64 e.f1,.int .i64 e.f2,.int .i64 e.f3,.int .i64 e.f4.f0,.string e.f4.f1,.slice A6 e.f4.f2.length c6] 37 (0,0))).alloc (.cells #[.slice none 0 0,.slice none 0 0,.slice none 0 0,.slice none 0 0] 33 (0,0)))from K0.out)
 generalize (((w.alloc (.cells #[.slice A0 R.o.length c0,.slice A1 R.r.length c1,.slice A2 R.w.length c2,.slice A3 R.d.length c3] 33 (0,0))).alloc (.cells #[.int .i64 e.f0,.int .i64 e.f1,.int .i64 e.f2,.int .i64 e.f3,.int .i64 e.f4.f0,.string e.f4.f1,.slice A6 e.f4.f2.length c6] 37 (0,0))).alloc (.cells #[.slice none 0 0,.slice none 0 0,.slice none 0 0,.slice none 0 0] 33 (0,0)))=w1 at K ⊢
 generalize w.heap.size=n at K ⊢
 clear K0
 obtain⟨p0,p1,p2,p3⟩:=K.out.hc
 obtain⟨q0,q1,q2,q3,q4,q5,q6⟩:=K.out.ec
 obtain⟨z0,z1,z2,z3⟩:=K.out.oc
 have y0:=K.out.of 0
 have y1:=K.out.of 1
 have y2:=K.out.of 2
 have y3:=K.out.of 3
 go_wp2
 refine bodyPost_ret (results_ct rfl _ _ (n+2) 33 #[.slice A0 R.o.length c0,.slice A1 R.r.length c1,.slice A2 R.w.length c2,.slice A3 R.d.length c3] (0,0) _ rfl K.out.fin.2.2.1 Tryd.underlying33 rfl (by kernel_rfl)) rfl ?_
 exact⟨A0,c0,A1,c1,A2,c2,A3,c3,rfl,K.out.fin.1,K.out.fin.2.1,K.out.fin.2.2.2⟩
set_option maxHeartbeats 4000000 in
set_option maxRecDepth 100000 in
theorem l4Do_calls (v w:World) (A0 A1 A2 A3:Option Addr) (c0 c1 c2 c3:Nat) (G:Hp) (e:S40) (A6:Option Addr) (c6:Nat) (hB:Below v.heap.size v w) (hO:OwnG w v.heap.size A0 c0 A1 c1 A2 c2 A3 c3 G) (hk:OkH G.o G.r G.w G.d) (he:Kd.C (Kd.int .i64) w A6 e.f4.f2.length e.f4.f2) (hc:e.f4.f2.length≤c6) (hl6:e.f4.f2.length≤1048576) (hs6:(e.f4.f1.size:Int)≤4611686018427387903) (ht:e.f0=7∨toB G e=true) (R:Hp) (s:ByteArray) (hR:(R,s)=doB G e) :
  Calls Tryd.prog 23 #[.agg #[.slice A0 G.o.length c0,.slice A1 G.r.length c1,.slice A2 G.w.length c2,.slice A3 G.d.length c3],.agg #[.int .i64 e.f0,.int .i64 e.f1,.int .i64 e.f2,.int .i64 e.f3,.int .i64 e.f4.f0,.string e.f4.f1,.slice A6 e.f4.f2.length c6]] w fun en w'=>∃B0 d0 B1 d1 B2 d2 B3 d3,en=.returned (.tuple #[.agg #[.slice B0 R.o.length d0,.slice B1 R.r.length d1,.slice B2 R.w.length d2,.slice B3 R.d.length d3],.string s]) ∧
   OwnG w' v.heap.size B0 d0 B1 d1 B2 d2 B3 d3 R∧Below v.heap.size v w'∧Keeps w w':=by
 by_cases h1:e.f0=7
 ·exact l4Do_7 v w A0 A1 A2 A3 c0 c1 c2 c3 G e A6 c6 hB hO hk he hc hl6 hs6 h1 R s hR
 replace ht:=ht.resolve_left h1
 by_cases h2:e.f0=1
 ·exact l4Do_1 v w A0 A1 A2 A3 c0 c1 c2 c3 G e A6 c6 hB hO hk he hc hl6 hs6 h2 ht R s hR
 by_cases h3:e.f0=2
 ·exact l4Do_2 v w A0 A1 A2 A3 c0 c1 c2 c3 G e A6 c6 hB hO hk he hc hl6 hs6 h3 ht R s hR
 by_cases h4:e.f0=3
 ·exact l4Do_3 v w A0 A1 A2 A3 c0 c1 c2 c3 G e A6 c6 hB hO hk he hc hl6 hs6 h4 ht R s hR
 by_cases h5:e.f0=4
 ·exact l4Do_4 v w A0 A1 A2 A3 c0 c1 c2 c3 G e A6 c6 hB hO hk he hc hl6 hs6 h5 ht R s hR
 by_cases h6:e.f0=5
 ·exact l4Do_5 v w A0 A1 A2 A3 c0 c1 c2 c3 G e A6 c6 hB hO hk he hc hl6 hs6 h6 ht R s hR
 by_cases h7:e.f0=6
 ·exact l4Do_6 v w A0 A1 A2 A3 c0 c1 c2 c3 G e A6 c6 hB hO hk he hc hl6 hs6 h7 ht R s hR
 exact l4Do_no v w A0 A1 A2 A3 c0 c1 c2 c3 G e A6 c6 hB hO hk he hc h2 h3 h4 h5 h6 h7 h1 R s hR
end Go.Proofs.YtigjhfijkdlldaaDoor.H
