import Derived.Test.YtigjhfijkdlldaaDoorSliQc
import Derived.Test.YtigjhfijkdlldaaDoorSliYob
namespace Go.Proofs.YtigjhfijkdlldaaDoor.H
open Go.RowKit Go.Proofs.YtigjhfijkdlldaaDoorW.PrintWords Go.Proofs.YtigjhfijkdlldaaDoorW.PrintLast Go.Proofs.YtigjhfijkdlldaaDoorW.PrintMore Go.Proofs.YtigjhfijkdlldaaDoor.Q
set_option linter.unusedVariables false
set_option linter.unusedSimpArgs false
theorem smq9_tab:rtab .any (opsOf Tryd.f38 9)=(true,[([],[]),([0],[0]),([],[]),([2],[2]),([],[]),([4],[4]),([],[]),([5,6],[5,6]),([7],[7]),([8],[8]),([1,3,0,1,2,3,4,5,6,7,8,9],[1,3]),([10,9,0,1,2,3,4,5,6,7,8,9],[9,10])]):=by kernel_rfl
theorem smq9_bits:waitsOk [([],[]),([0],[0]),([],[]),([2],[2]),([],[]),([4],[4]),([],[]),([5,6],[5,6]),([7],[7]),([8],[8]),([1,3,0,1,2,3,4,5,6,7,8,9],[1,3]),([10,9,0,1,2,3,4,5,6,7,8,9],[9,10])] [0,1,0,4,0,16,0,112,240,496,1023,2047]=true:=by kernel_rfl
theorem smq10_tab:rtab .any (opsOf Tryd.f38 10)=(true,[([],[]),([],[]),([1],[1]),([],[]),([2,3],[2,3]),([0,4],[0,4]),([],[]),([6],[6]),([],[]),([8],[8]),([7,9],[7,9]),([5,10,5],[5,10]),([0,1,2,3,4,5,6,7,8,9,10,11],[]),([12,11,11,0,1,2,3,4,5,6,7,8,9,10,11],[11,12])]):=by kernel_rfl
theorem smq10_bits:waitsOk [([],[]),([],[]),([1],[1]),([],[]),([2,3],[2,3]),([0,4],[0,4]),([],[]),([6],[6]),([],[]),([8],[8]),([7,9],[7,9]),([5,10,5],[5,10]),([0,1,2,3,4,5,6,7,8,9,10,11],[]),([12,11,11,0,1,2,3,4,5,6,7,8,9,10,11],[11,12])] [0,0,2,0,14,31,0,64,0,256,960,2047,4095,8191]=true:=by kernel_rfl
theorem smq11b_tab:rtab .any (opsOf Tryd.f38 11)=(true,[([],[]),([],[]),([],[]),([2],[2]),([],[]),([4],[4]),([3,5],[3,5]),([6],[6]),([1,7],[1,7]),([0,8,0],[0]),([8,9,0,1,2,3,4,5,6,7,8,9],[8])]):=by kernel_rfl
theorem smq11b_bits:waitsOk [([],[]),([],[]),([],[]),([2],[2]),([],[]),([4],[4]),([3,5],[3,5]),([6],[6]),([1,7],[1,7]),([0,8,0],[0]),([8,9,0,1,2,3,4,5,6,7,8,9],[8])] [0,0,0,4,0,16,60,124,254,511,1023]=true:=by kernel_rfl
theorem smq11_tab:rtab .any (opsOf Tryd.f38 11)=(true,[([],[]),([],[]),([],[]),([2],[2]),([],[]),([4],[4]),([3,5],[3,5]),([6],[6]),([1,7],[1,7]),([0,8,0],[0]),([8,9,0,1,2,3,4,5,6,7,8,9],[8])]):=by kernel_rfl
theorem smq11_bits:waitsOk [([],[]),([],[]),([],[]),([2],[2]),([],[]),([4],[4]),([3,5],[3,5]),([6],[6]),([1,7],[1,7]),([0,8,0],[0]),([8,9,0,1,2,3,4,5,6,7,8,9],[8])] [0,0,0,4,0,16,60,124,254,511,1023]=true:=by kernel_rfl
set_option maxHeartbeats 4000000 in
set_option maxRecDepth 100000 in
theorem l4Asks_calls (v w:World) (A0 A1 A2 A3:Option Addr) (c0 c1 c2 c3:Nat) (G:Hp) (e:S40) (A6:Option Addr) (c6:Nat) (hB:Below v.heap.size v w) (hO:OwnG w v.heap.size A0 c0 A1 c1 A2 c2 A3 c3 G) (hk:OkH G.o G.r G.w G.d) (he:Kd.C (Kd.int .i64) w A6 e.f4.f2.length e.f4.f2) (hc:e.f4.f2.length≤c6) (ht:toB G e=true) (R:Hp) (s:ByteArray) (hR:(R,s)=asksB G e) :
  Calls Tryd.prog 38 #[.agg #[.slice A0 G.o.length c0,.slice A1 G.r.length c1,.slice A2 G.w.length c2,.slice A3 G.d.length c3],.agg #[.int .i64 e.f0,.int .i64 e.f1,.int .i64 e.f2,.int .i64 e.f3,.int .i64 e.f4.f0,.string e.f4.f1,.slice A6 e.f4.f2.length c6]] w fun en w'=>∃B0 d0 B1 d1 B2 d2 B3 d3,en=.returned (.tuple #[.agg #[.slice B0 R.o.length d0,.slice B1 R.r.length d1,.slice B2 R.w.length d2,.slice B3 R.d.length d3],.string s]) ∧
   OwnG w' v.heap.size B0 d0 B1 d1 B2 d2 B3 d3 R∧Below v.heap.size v w'∧Keeps w w':=by
 have HTO:=AK (show 0≤e.f1∧e.f1<G.r.length by unfold toB at ht;simpa using ht)
 clear ht
 obtain⟨b1,cr,er,_,_,_,_⟩:=Kd.R_form hO.s1 (by have:=HTO.out;omega)
 injection er with er1 er2 er3
 subst er1 er3
 clear er2
 have HK0:=AK hO
 have HOK:=AK hk
 have HR:=AK hR
 have HE0:=AK (And.intro he hc)
 have K0:=AK (WK.start hB hO e A6 c6)
 clear hB hO hk he hc hR
 go_enter Tryd.func38,Tryd.ntmps38
 go_wp2_with fail
 have K:=AK (show WK v w w.heap.size A0 c0 (some ⟨b1,0,none⟩) c1 A2 c2 A3 c3 G e A6 c6 (((w.alloc (.cells #[.slice A0 G.o.length c0,.slice (some ⟨b1,0,none⟩) G.r.length c1,.slice A2 G.w.length c2,.slice A3 G.d.length c3] 33 (0,0))).alloc (.cells #[.int .i64 e.f0,.int .i64 e.f1,.int .i64 e.f2,.int .i64 e.f3,.int .i64 e.f4.f0,.string e.f4.f1,.slice A6 e.f4.f2.length c6] 37 (0,0))).alloc (.cells #[.slice none 0 0,.slice none 0 0,.slice none 0 0,.slice none 0 0] 33 (0,0)))from K0.out)
 have HWB:=AK (show Below w.heap.size w (((w.alloc (.cells #[.slice A0 G.o.length c0,.slice (some ⟨b1,0,none⟩) G.r.length c1,.slice A2 G.w.length c2,.slice A3 G.d.length c3] 33 (0,0))).alloc (.cells #[.int .i64 e.f0,.int .i64 e.f1,.int .i64 e.f2,.int .i64 e.f3,.int .i64 e.f4.f0,.string e.f4.f1,.slice A6 e.f4.f2.length c6] 37 (0,0))).alloc (.cells #[.slice none 0 0,.slice none 0 0,.slice none 0 0,.slice none 0 0] 33 (0,0)))from below_alloc (below_alloc (below_alloc (Below.refl _ _) _) _) _)
 generalize (((w.alloc (.cells #[.slice A0 G.o.length c0,.slice (some ⟨b1,0,none⟩) G.r.length c1,.slice A2 G.w.length c2,.slice A3 G.d.length c3] 33 (0,0))).alloc (.cells #[.int .i64 e.f0,.int .i64 e.f1,.int .i64 e.f2,.int .i64 e.f3,.int .i64 e.f4.f0,.string e.f4.f1,.slice A6 e.f4.f2.length c6] 37 (0,0))).alloc (.cells #[.slice none 0 0,.slice none 0 0,.slice none 0 0,.slice none 0 0] 33 (0,0)))=w1 at K HWB ⊢
 generalize w.heap.size=n at K ⊢
 clear K0 HK0
 have hi0:=eq_true (show 0≤e.f1 from HTO.out.1)
 have hi1:=eq_true (show e.f1<(G.r.length:Int)from HTO.out.2)
 refine(root_c (p:=e.f2) K.out.own.reads HOK.out.r).mono ?_
 rintro en w2 ⟨rfl,hb⟩
 replace K:=AK (K.out.below hb)
 clear hb
 have hgg:=known_range HOK.out e.f2
 have hask:(R,s)=if isGuard G (knownL G.r e.f2)=true then(⟨G.o,G.r.set e.f1.toNat (askP (knownL G.r e.f2) G.d),G.w,askL (knownL G.r e.f2) G.d⟩,seesB G.o (askP (knownL G.r e.f2) G.d))else(G,sNo):=HR.out
 clear HR
 obtain⟨g,eg⟩:∃g,g=knownL G.r e.f2:=⟨_,rfl⟩
 rw[←eg]at hgg hask ⊢
 clear eg
 by_cases cg:g<0
 case pos=>
  have cg1:decide (g<0)=true:=deT cg
  rw[if_neg (by rw[isGuard_iff];omega)]at hask
  injection hask with he1 he2
  subst he1 he2
  obtain⟨p0,p1,p2,p3⟩:=K.out.hc
  obtain⟨z0,z1,z2,z3⟩:=K.out.oc
  have y0:=K.out.of 0
  have y1:=K.out.of 1
  have y2:=K.out.of 2
  have y3:=K.out.of 3
  go_wp2
  refine bodyPost_ret (results_ct rfl _ _ (n+2) 33 #[.slice A0 R.o.length c0,.slice (some ⟨b1,0,none⟩) R.r.length c1,.slice A2 R.w.length c2,.slice A3 R.d.length c3] (0,0) _ rfl K.out.fin.2.2.1 Tryd.underlying33 rfl (by kernel_rfl)) rfl ?_
  exact⟨A0,c0,(some ⟨b1,0,none⟩),c1,A2,c2,A3,c3,rfl,K.out.fin.1,K.out.fin.2.1,K.out.fin.2.2.2⟩
 have cg1:decide (g<0)=false:=deF cg
 obtain⟨ad,Af,cf,ea,ha0,_,_,_,_⟩:=at_T38 K.out.own.reads.r0 g (by omega) (by omega)
 subst ea
 have hg0:=eq_true (show 0≤g by omega)
 have hg1:=eq_true (show g<(G.o.length:Int)by omega)
 by_cases ck:(rd_T38 G.o g).f0=4
 case neg=>
  have ck1:((rd_T38 G.o g).f0 != 4)=true:=bne_iff_ne.mpr ck
  rw[if_neg (by rw[isGuard_iff];exact fun h=>ck h.2)]at hask
  injection hask with he1 he2
  subst he1 he2
  obtain⟨p0,p1,p2,p3⟩:=K.out.hc
  obtain⟨z0,z1,z2,z3⟩:=K.out.oc
  have y0:=K.out.of 0
  have y1:=K.out.of 1
  have y2:=K.out.of 2
  have y3:=K.out.of 3
  go_wp2
  refine bodyPost_ret (results_ct rfl _ _ (n+2) 33 #[.slice (some ad) R.o.length c0,.slice (some ⟨b1,0,none⟩) R.r.length c1,.slice A2 R.w.length c2,.slice A3 R.d.length c3] (0,0) _ rfl K.out.fin.2.2.1 Tryd.underlying33 rfl (by kernel_rfl)) rfl ?_
  exact⟨(some ad),c0,(some ⟨b1,0,none⟩),c1,A2,c2,A3,c3,rfl,K.out.fin.1,K.out.fin.2.1,K.out.fin.2.2.2⟩
 have ck1:((rd_T38 G.o g).f0 != 4)=false:=bne_eq_false_iff_eq.mpr ck
 rw[if_pos ((isGuard_iff _ _).2 ⟨by omega,ck⟩)]at hask
 have HASK:=AK hask
 obtain⟨r2,er2⟩:∃r2,r2=G.r.set e.f1.toNat (-1):=⟨_,rfl⟩
 have HRL:=AK (show r2.length=G.r.length∧(∀p,r2.set e.f1.toNat p=G.r.set e.f1.toNat p)by rw[er2];exact⟨List.length_set,fun p=>List.set_set _⟩)
 have HRD:=AK (show rd r2 e.f1=-1 by
  rw[er2];unfold rd;rw[List.getD_eq_getElem?_getD,List.getElem?_set_self (by have:=HTO.out;omega)];rfl)
 have K2:=AK (K.out.setR e.f1 HTO.out.1 HTO.out.2 (-1) er2)
 obtain⟨x0,xf⟩:=RI_at K.out.own.s1 e.f1 HTO.out.1 HTO.out.2
 have hi2:=eq_true (show e.f1<(r2.length:Int)by rw[show (r2.length:Int)=G.r.length by rw[HRL.out.1]];exact HTO.out.2)
 have HER:=AK er2
 clear hask er2
 obtain⟨p0,p1,p2,p3⟩:=K.out.hc
 obtain⟨q0,q1,q2,q3,q4,q5,q6⟩:=K.out.ec
 go_wp2
 clear ha0 x0 xf hg0 hg1 ck1 ck cg cg1
 clear p0 p1 p2 p3 q0 q1 q2 q3 q4 q5 q6
 generalize w2.setCell ⟨b1,e.f1.toNat,none⟩ (.int .i64 (-1))=w3 at K2 ⊢
 clear K
 go_loopg [7] G.d.length (fun kq v7 w'=>∃i:Int,v7=.int .i64 i∧Aside0 (0≤i∧i+kq=G.d.length)∧Aside0 (WK v w n (some ad) c0 (some ⟨b1,0,none⟩) c1 A2 c2 A3 c3 ⟨G.o,r2,G.w,G.d⟩ e A6 c6 w')∧Aside0 (askD g (G.d.take i.toNat)=none))
 case atStart=>exact⟨0,rfl,⟨by omega,by omega⟩,K2,⟨rfl⟩⟩
 case round=>
  clear K2
  obtain⟨i,rfl,HQ,K,HNO⟩:=hrel
  cases gk with
  | succ k4=>
   have c33:decide (i<(G.d.length:Int))=true:=deT (by have:=HQ.out;omega)
   have hj0:=eq_true (show 0≤i by have:=HQ.out;omega)
   have hj1:=eq_true (show i<(G.d.length:Int)by have:=HQ.out;omega)
   have hr3:Kd.C k60 wr A3 G.d.length G.d:=K.out.own.reads.r3
   obtain⟨adr,ea,ha0,ha1⟩:=at_T60 hr3 i (by have:=HQ.out;omega) (by have:=HQ.out;omega)
   subst ea
   obtain⟨z,ez⟩:∃z,z=rd_T60 G.d i:=⟨_,rfl⟩
   rw[←ez]at ha0 ha1
   have HEZ:=AK ez
   have CS:=AK ha1
   clear ez ha1 hr3
   by_cases cz:z.f0=g
   case neg=>
    have czb:(z.f0 == g)=false:=beq_eq_false_iff_ne.mpr cz
    obtain⟨p0,p1,p2,p3⟩:=K.out.hc
    go_wp2
    go_roundg k4
    case measure=>omega
    case rel=>
     have h1:=HQ.out
     have h2:=HOK.out.w
     rw[wrap_succ i (by omega) (by omega)]
     refine⟨i+1,rfl,⟨by omega,by omega⟩,K,⟨?_⟩⟩
     rw[show (i+1).toNat=i.toNat+1 by omega,List.take_add_one,List.getElem?_eq_getElem (show i.toNat<G.d.length by omega)]
     have h3:G.d[i.toNat]=z:=by rw[HEZ.out];unfold rd_T60;rw[List.getD_eq_getElem?_getD,List.getElem?_eq_getElem (show i.toNat<G.d.length by omega)];rfl
     exact askD_none g _ _ HNO.out (by rw[h3];exact cz)
   case pos=>
    have czb:(z.f0 == g)=true:=beq_iff_eq.mpr cz
    have hs1:Kd.R (Kd.int .i64) 3 wr v.heap.size (fun _=>True) (.slice (some ⟨b1,0,none⟩) r2.length c1) r2:=K.out.own.s1
    have hlt:e.f1<(r2.length:Int):=by rw[show (r2.length:Int)=G.r.length by rw[HRL.out.1]];exact HTO.out.2
    have HMEM:=AK (show z∈G.d by rw[HEZ.out];exact getD_mem G.d z60 i (by have:=HQ.out;omega) (by have:=HQ.out;omega))
    have HZB:=AK (wt_parts (HOK.out.ds z HMEM.out))
    have HSP:=AK (show G.d=G.d.take i.toNat++z :: G.d.drop (i+1).toNat by
     have h3:G.d[i.toNat]'(by have:=HQ.out;omega)=z:=by rw[HEZ.out];unfold rd_T60;rw[List.getD_eq_getElem?_getD,List.getElem?_eq_getElem (show i.toNat<G.d.length by have:=HQ.out;omega)];rfl
     rw[show (i+1).toNat=i.toNat+1 by have:=HQ.out;omega,←h3,←List.drop_eq_getElem_cons,List.take_append_drop])
    obtain⟨D2,eD2⟩:∃D2,D2=G.d.take i.toNat++G.d.drop (i+1).toNat:=⟨_,rfl⟩
    obtain⟨r3,er3⟩:∃r3,r3=r2.set e.f1.toNat z.f1:=⟨_,rfl⟩
    have hal:askD g G.d=some (z.f1,D2):=by
     have h4:=askD_at g (G.d.take i.toNat) (G.d.drop (i+1).toNat) z HNO.out cz
     rw[←HSP.out,←eD2]at h4;exact h4
    have hres:(R,s)=(⟨G.o,r3,G.w,D2⟩,seesB G.o z.f1):=by
     rw[HASK.out];unfold askP askL;rw[hal,er3,HRL.out.2];rfl
    injection hres with he1 he2
    subst he1 he2
    have HRD3:=AK (show rd r3 e.f1=z.f1 by
     rw[er3];unfold rd;rw[List.getD_eq_getElem?_getD,List.getElem?_set_self (by have:=HTO.out;omega)];rfl)
    have HRL3:=AK (show e.f1<(r3.length:Int)by rw[er3,List.length_set];exact hlt)
    have HER3:=AK (And.intro hlt (And.intro er3 eD2))
    have HC3:=AK (And.intro (show Kd.C k60 wr (some adr) G.d.length G.d from K.out.own.reads.r3) (show G.d.length≤c3 from K.out.own.reads.k3))
    clear hal hlt er3 eD2 hs1
    obtain⟨p0,p1,p2,p3⟩:=K.out.hc
    go_wp2_with fail
    clear p0 p1 p2 p3
    clear ha0
    replace K:=AK (K.out.below (below_drew1 (Below.refl _ _)))
    replace CS:=AK (pcb (below_drew1 (Below.refl _ _)) CS.out)
    replace HC3:=AK (show Kd.C k60 wr.drew (some adr) G.d.length G.d∧G.d.length≤c3 from⟨Kd.C_below HC3.out.1 (below_drew1 (Below.refl _ _)),HC3.out.2⟩)
    refine start_ (n:=12) (S:=(fun w'=>(w'.cell? ⟨n,0,none⟩=some (.slice (some ad) G.o.length c0)∧w'.cell? ⟨n,1,none⟩=some (.slice (some ⟨b1,0,none⟩) r2.length c1)∧w'.cell? ⟨n,2,none⟩=some (.slice A2 G.w.length c2)∧w'.cell? ⟨n,3,none⟩=some (.slice (some adr) G.d.length c3))∧w'.cell? ⟨n+1,1,none⟩=some (.int .i64 e.f1)∧w'.cell? ⟨(adr.add (i.toNat*2)).block,(adr.add (i.toNat*2)).off+1,none⟩=some (.int .i64 z.f1))) (ds:=[11]) #[fF,fF,fF,fF,fF,fF,fF,fF,fF,fF,fF,fF] (by kernel_rfl) rfl rfl ⟨K.out.hc,K.out.ec.2.1,CS.out⟩ (fun hHeld=>?_);refine with_tabW smq9_tab smq9_bits (fun HT_ HW_=>?_)
    generalize wr.drew=v5 at K CS HC3 hHeld ⊢
    refine pU HT_ 0 (some 44) (bM 12 1) ?_
    refine tU HT_ HW_ 1 (some 45) (bM 12 3) hHeld rfl (by refine Or.inl ⟨by rfl,?_⟩;rintro w' ⟨⟨s0,s1,s2,s3⟩,s4,s5⟩;go_simp;with_reducible rfl) ?_
    refine pU HT_ 2 (some 46) (bM 12 7) ?_
    refine tU HT_ HW_ 3 (some 47) (bM 12 15) hHeld rfl (by refine Or.inl ⟨by rfl,?_⟩;rintro w' ⟨⟨s0,s1,s2,s3⟩,s4,s5⟩;go_simp;with_reducible rfl) ?_
    refine pU HT_ 4 (some 48) (bM 12 31) ?_
    refine tU HT_ HW_ 5 (some 49) (bM 12 63) hHeld rfl (by refine Or.inl ⟨by rfl,?_⟩;rintro w' ⟨⟨s0,s1,s2,s3⟩,s4,s5⟩;go_simp;with_reducible rfl) ?_
    refine pU HT_ 6 (some 50) (bM 12 127) ?_
    refine pU HT_ 7 (some 51) (bM 12 255) ?_
    refine pU HT_ 8 (some 52) (bM 12 511) ?_
    refine tU HT_ HW_ 9 (some 53) (bM 12 1023) hHeld rfl (by refine Or.inl ⟨by rfl,?_⟩;rintro w' ⟨⟨s0,s1,s2,s3⟩,s4,s5⟩;go_simp;with_reducible rfl) ?_
    refine pU HT_ 10 (some 54) (bM 12 2047) ?_
    refine last_ (i:=11) (N:=none) #[tT,tT,tT,tT,tT,tT,tT,tT,tT,tT,tT,tT] rfl rfl (one_of HT_.out (by kernel_rfl)) (by decide) (fun K_ hK=>?_)
    have hs1:Kd.R (Kd.int .i64) 3 v5 v.heap.size (fun _=>True) (.slice (some ⟨b1,0,none⟩) r2.length c1) r2:=K.out.own.s1
    obtain⟨x0,xf⟩:=RI_at hs1 e.f1 HTO.out.1 HER3.out.1
    have N0:=AK (K.out.setR e.f1 HTO.out.1 HER3.out.1 z.f1 HER3.out.2.1)
    obtain⟨cc,hcc⟩:=Kd.R_typed hs1 b1 rfl
    have N1:=AK (show Kd.C k60 (v5.setCell ⟨b1,e.f1.toNat,none⟩ (.int .i64 z.f1)) (some adr) G.d.length G.d from N0.out.own.reads.r3)
    refine skip_ (w1:=?_) (by rfl) rfl ?_ ?_
    rotate_left
    ·go_simp
     rfl
    clear x0 xf hs1 hcc
    refine hK.out _ _ ?_
    clear hK K_
    refine done_ (done_of HT_.out (by kernel_rfl)) ?_
    clear HT_ HW_ hHeld
    go_wp2_with fail
    generalize v5.setCell ⟨b1,e.f1.toNat,none⟩ (.int .i64 z.f1)=u9 at N0 N1 ⊢
    clear K CS HC3 czb
    have K:=AK (N0.out.below (below_drew1 (Below.refl _ _)))
    have HC3:=AK (Kd.C_below N1.out (below_drew1 (Below.refl _ _)))
    clear N0 N1
    have hk3:G.d.length≤c3:=K.out.own.reads.k3
    obtain⟨i0,hinf,_,hsz,_⟩:=info_parts info60
    have hcutA:=cut_to (P:=Tryd.prog) 31 71 .i64 Tryd.underlying31 hinf (some adr) G.d.length c3 i (by have:=HQ.out;omega) (by have:=HQ.out;omega) hk3
    have hwr1:wrap64 (i+1)=i+1:=by have:=HQ.out;have:=HOK.out.w;unfold wrap64;omega
    have h01:=eq_true (show 0≤i+1 by have:=HQ.out;omega)
    have h11:=eq_true (show i+1≤(G.d.length:Int)by have:=HQ.out;omega)
    have hCd:=Kd.C_drop (m:=(i+1).toNat) HC3.out (by have:=HQ.out;omega) hk3
    have HCD:=AK (show Kd.C k60 u9.drew (if c3=(i+1).toNat then some adr else some (adr.add ((i+1).toNat*2))) (G.d.length - (i+1).toNat) (G.d.drop (i+1).toNat)by rw[←List.length_drop];exact hCd)
    have HCT:=AK (show Kd.C k60 u9.drew (some adr) i.toNat (G.d.take i.toNat)by
     have h5:=Kd.C_take (m:=i.toNat) HC3.out (by have:=HQ.out;omega)
     rwa [List.length_take,Nat.min_eq_left (by have:=HQ.out;omega)]at h5)
    have bxi:i≤1152921504606846976:=by have:=HQ.out;have:=HOK.out.w;omega
    have HM10:=AK (show i.toNat≤20∧G.d.length - (i+1).toNat≤20∧(G.d.take i.toNat).length=i.toNat by
     refine⟨by have:=HQ.out;have:=HOK.out.w;omega,by have:=HOK.out.w;omega,?_⟩
     rw[List.length_take,Nat.min_eq_left (by have:=HQ.out;omega)])
    clear hCd hk3 HC3
    have HB:=AK (Below.refl u9.drew.heap.size u9.drew)
    refine start_ (n:=14) (S:=(fun w'=>w'.cell? ⟨n,3,none⟩=some (.slice (some adr) G.d.length c3))) (ds:=[13]) #[fF,fF,fF,fF,fF,fF,fF,fF,fF,fF,fF,fF,fF,fF] (by kernel_rfl) rfl rfl (pcb HB.out K.out.hc.2.2.2) (fun hHeld=>?_);refine with_tabW smq10_tab smq10_bits (fun HT_ HW_=>?_)
    generalize u9.drew=v8 at K HCD HCT HB hHeld ⊢
    refine pU HT_ 1 (some 56) (bM 14 2) ?_
    refine tU HT_ HW_ 2 (some 57) (bM 14 6) hHeld rfl (by refine Or.inl ⟨by rfl,?_⟩;rintro w' s0;go_simp;with_reducible rfl) ?_
    refine pU HT_ 3 (some 58) (bM 14 14) ?_
    refine pU HT_ 4 (some 59) (bM 14 30) ?_
    refine pU HT_ 6 (some 61) (bM 14 94) ?_
    refine tU HT_ HW_ 7 (some 62) (bM 14 222) hHeld rfl (by refine Or.inl ⟨by rfl,?_⟩;rintro w' s0;go_simp;with_reducible rfl) ?_
    refine pU HT_ 8 (some 63) (bM 14 478) ?_
    refine pU HT_ 9 (some 64) (bM 14 990) ?_
    refine pU HT_ 10 (some 65) (bM 14 2014) ?_
    refine one_ (i:=0) (N:=some 55) (bM 14 2015) rfl rfl (one_of HT_.out (by kernel_rfl)) (by decide) (fun K_ hK=>?_)
    refine lit0_step k60 (W:=v8) v8.heap.size 71 (by rfl) (N:=55) rfl ?hr (Nat.le_refl _) ?_;(case hr=>first|(go_simp;done)|(go_simp;rfl))
    intro u1 v9 hu hb _
    have HU:=AK hu
    replace HB:=AK hb
    clear hu hb
    refine hK.out _ _ (pcb HB.out K.out.hc.2.2.2) (fun hHeld=>?_)
    clear hK K_
    refine nO (some 55) ?_
    refine one_ (i:=5) (N:=some 60) (bM 14 2047) rfl rfl (one_of HT_.out (by kernel_rfl)) (by decide) (fun K_ hK=>?_)
    refine Kd.R_append_rows_step k60 (w0:=v8) (W:=v9) v8.heap.size (by rfl) (.tmp 55) (.tmp 59) 31 71 (.agg #[.int .i64 0,.int .i64 0]) 16 rfl Tryd.underlying31 info60 rfl (by decide) (by omega) u1 [] (G.d.take i.toNat) (some adr) i.toNat c3 (fun _=>True) (fun _=>False) rfl rfl HU.out (Kd.C_below HCT.out HB.out) (fun _ _ h=>h) (fun _ hk=>hk.elim) (fun _ _=>trivial) HB.out HB.out.size (by have:=HM10.out;have h1:([]:List S60).length=0:=rfl;omega) ?_
    intro u2 v10 ho hb hg hat
    replace HU:=AK (show Kd.R k60 71 v10 v8.heap.size (fun _=>True) u2 (G.d.take i.toNat)from ho)
    replace HB:=AK hb
    clear ho hb hg hat
    refine hK.out _ _ (pcb HB.out K.out.hc.2.2.2) (fun hHeld=>?_)
    clear hK K_
    refine nO (some 60) ?_
    refine one_ (i:=11) (N:=some 66) (bM 14 4095) rfl rfl (one_of HT_.out (by kernel_rfl)) (by decide) (fun K_ hK=>?_)
    refine Kd.R_append_rows_step k60 (w0:=v8) (W:=v10) v8.heap.size (by rfl) (.tmp 60) (.tmp 65) 31 71 (.agg #[.int .i64 0,.int .i64 0]) 16 rfl Tryd.underlying31 info60 rfl (by decide) (by omega) u2 (G.d.take i.toNat) (G.d.drop (i+1).toNat) (if c3=(i+1).toNat then some adr else some (adr.add ((i+1).toNat*2))) (G.d.length - (i+1).toNat) (c3 - (i+1).toNat) (fun _=>True) (fun _=>False) rfl rfl HU.out (Kd.C_below HCD.out HB.out) (fun _ _ h=>h) (fun _ hk=>hk.elim) (fun _ _=>trivial) HB.out HB.out.size (by have:=HM10.out;have h1:([]:List S60).length=0:=rfl;omega) ?_
    intro u3 v11 ho hb hg hat
    replace HU:=AK (show Kd.R k60 71 v11 v8.heap.size (fun _=>True) u3 D2 from(by rw[HER3.out.2.2];exact ho))
    replace HB:=AK hb
    clear ho hb hg hat
    refine hK.out _ _ (pcb HB.out K.out.hc.2.2.2) (fun hHeld=>?_)
    clear hK K_
    refine nO (some 66) ?_
    refine pU HT_ 12 (some 67) (bM 14 8191) ?_
    refine last_ (i:=13) (N:=none) #[tT,tT,tT,tT,tT,tT,tT,tT,tT,tT,tT,tT,tT,tT] rfl rfl (one_of HT_.out (by kernel_rfl)) (by decide) (fun K_ hK=>?_)
    have hr:=HU.out
    obtain⟨B10,d10,ee⟩:=Kd.R_slice hr
    subst ee
    have N0:=AK (K.out.newD HB.out hr)
    have K9:=K.out.below HB.out
    obtain⟨z0,z1,z2,z3⟩:=K9.hc
    have y3:=K9.hf 3
    refine skip_ (w1:=?_) (by rfl) rfl ?_ ?_
    rotate_left
    ·go_simp
     rfl
    clear z0 z1 z2 z3 y3 K9 hr
    refine hK.out _ _ ?_
    clear hK K_
    refine done_ (done_of HT_.out (by kernel_rfl)) ?_
    clear HT_ HW_ hHeld
    clear HCD HCT hcutA hwr1 h01 h11
    generalize (if c3=(i+1).toNat then some adr else some (adr.add ((i+1).toNat*2)))=A10
    go_wp2_with fail
    generalize v11.setCell ⟨n,3,none⟩ (.slice B10 D2.length d10)=v12 at N0 ⊢
    have K11:=N0
    clear K N0 HB HU
    have hs1:Kd.R (Kd.int .i64) 3 v12 v.heap.size (fun _=>True) (.slice (some ⟨b1,0,none⟩) r3.length c1) r3:=K11.out.own.s1
    have HRT:=AK ((RI_at hs1 e.f1 HTO.out.1 HRL3.out).1.trans (by rw[HRD3.out]))
    have hi3:=eq_true HRL3.out
    clear hs1
    replace HRT:=AK (show (World.drew v12).cell? _=_ from pcb (below_drew1 (Below.refl _ _)) HRT.out)
    replace K11:=AK (K11.out.below (below_drew1 (Below.refl _ _)))
    refine start_ (n:=11) (S:=(fun w'=>(w'.cell? ⟨n,0,none⟩=some (.slice (some ad) G.o.length c0)∧w'.cell? ⟨n,1,none⟩=some (.slice (some ⟨b1,0,none⟩) r3.length c1)∧w'.cell? ⟨n,2,none⟩=some (.slice A2 G.w.length c2)∧w'.cell? ⟨n,3,none⟩=some (.slice B10 D2.length d10))∧w'.cell? ⟨n+1,1,none⟩=some (.int .i64 e.f1)∧w'.cell? ⟨b1,e.f1.toNat,none⟩=some (.int .i64 z.f1))) (ds:=[9]) #[fF,fF,fF,fF,fF,fF,fF,fF,fF,fF,fF] (by kernel_rfl) rfl rfl ⟨K11.out.hc,K11.out.ec.2.1,HRT.out⟩ (fun hHeld=>?_);refine with_tabW smq11b_tab smq11b_bits (fun HT_ HW_=>?_)
    generalize v12.drew=v5 at HRT K11 hHeld ⊢
    refine tU HT_ HW_ 0 (some 68) (bM 11 1) hHeld rfl (by refine Or.inl ⟨by rfl,?_⟩;rintro w' ⟨⟨s0,s1,s2,s3⟩,s4,s5⟩;go_simp;with_reducible rfl) ?_
    refine tU HT_ HW_ 1 (some 69) (bM 11 3) hHeld rfl (by refine Or.inl ⟨by rfl,?_⟩;rintro w' ⟨⟨s0,s1,s2,s3⟩,s4,s5⟩;go_simp;with_reducible rfl) ?_
    refine pU HT_ 2 (some 70) (bM 11 7) ?_
    refine tU HT_ HW_ 3 (some 71) (bM 11 15) hHeld rfl (by refine Or.inl ⟨by rfl,?_⟩;rintro w' ⟨⟨s0,s1,s2,s3⟩,s4,s5⟩;go_simp;with_reducible rfl) ?_
    refine pU HT_ 4 (some 72) (bM 11 31) ?_
    refine tU HT_ HW_ 5 (some 73) (bM 11 63) hHeld rfl (by refine Or.inl ⟨by rfl,?_⟩;rintro w' ⟨⟨s0,s1,s2,s3⟩,s4,s5⟩;go_simp;with_reducible rfl) ?_
    refine pU HT_ 6 (some 74) (bM 11 127) ?_
    refine tU HT_ HW_ 7 (some 75) (bM 11 255) hHeld rfl (by refine Or.inl ⟨by rfl,?_⟩;rintro w' ⟨⟨s0,s1,s2,s3⟩,s4,s5⟩;go_simp;with_reducible rfl) ?_
    refine one_ (i:=8) (N:=some 76) (bM 11 511) rfl rfl (one_of HT_.out (by kernel_rfl)) (by decide) (fun K_ hK=>?_)
    refine goes_ Tryd.func35 (by kernel_rfl) rfl #[.agg #[.slice (some ad) G.o.length c0,.slice (some ⟨b1,0,none⟩) r3.length c1,.slice A2 G.w.length c2,.slice B10 D2.length d10],.int .i64 z.f1] (by rfl) rfl rfl zI ?_
    refine(sees_c K11.out.own.reads HZB.out.2.2.2.2 (fun h=>(ob_small2 (ob_at HOK.out h HZB.out.2.2.2.2)).2)).mono ?_
    rintro en v6 ⟨rfl,hb⟩
    refine⟨_,rfl,?_⟩
    replace HRT:=AK (pcb hb HRT.out)
    replace K11:=AK (K11.out.below hb)
    clear hb
    refine hK.out _ _ ⟨K11.out.hc,K11.out.ec.2.1,HRT.out⟩ (fun hHeld=>?_)
    clear hK K_
    refine nO (some 76) ?_
    refine last_ (i:=9) (N:=none) #[tT,tT,tT,tT,tT,tT,tT,tT,tT,tT,fF] rfl rfl (one_of HT_.out (by kernel_rfl)) (by decide) (fun K_ hK=>?_)
    obtain⟨z0,z1,z2,z3⟩:=K11.out.oc
    have y0:=K11.out.of 0
    have y1:=K11.out.of 1
    have y2:=K11.out.of 2
    have y3:=K11.out.of 3
    refine skip_ (w1:=?_) (by rfl) rfl ?_ ?_
    rotate_left
    ·go_simp
     rfl
    clear z0 z1 z2 z3 y0 y1 y2 y3
    refine hK.out _ _ ?_
    clear hK K_
    refine pU HT_ 10 (some 5) (bM 11 2047) ?_
    refine done_ (done_of HT_.out (by kernel_rfl)) ?_
    clear HT_ HW_ hHeld
    go_wp2
    refine bodyPost_ret (results_ct rfl _ _ (n+2) 33 #[.slice (some ad) G.o.length c0,.slice (some ⟨b1,0,none⟩) r3.length c1,.slice A2 G.w.length c2,.slice B10 D2.length d10] (0,0) _ rfl K11.out.fin.2.2.1 Tryd.underlying33 rfl (by kernel_rfl)) rfl ?_
    exact⟨(some ad),c0,(some ⟨b1,0,none⟩),c1,A2,c2,B10,d10,rfl,K11.out.fin.1,K11.out.fin.2.1,K11.out.fin.2.2.2⟩
  | zero=>
   have c33:decide (i<(G.d.length:Int))=false:=deF (by have:=HQ.out;omega)
   have hno:=HNO.out
   rw[take_all _ _ (by have:=HQ.out;omega)]at hno
   have hres:(R,s)=(⟨G.o,r2,G.w,G.d⟩,seesB G.o (-1)):=by rw[HASK.out,HER.out];unfold askP askL;rw[hno];rfl
   injection hres with he1 he2
   subst he1 he2
   have hs1:Kd.R (Kd.int .i64) 3 wr v.heap.size (fun _=>True) (.slice (some ⟨b1,0,none⟩) r2.length c1) r2:=K.out.own.s1
   have HRT:=AK ((RI_at hs1 e.f1 HTO.out.1 (by rw[show (r2.length:Int)=G.r.length by rw[HRL.out.1]];exact HTO.out.2)).1.trans (by rw[HRD.out]))
   clear hs1 hno HNO HQ
   obtain⟨p0,p1,p2,p3⟩:=K.out.hc
   go_wp2_with fail
   clear p0 p1 p2 p3
   replace HRT:=AK (show (World.drew wr).cell? _=_ from pcb (below_drew1 (Below.refl _ _)) HRT.out)
   replace K:=AK (K.out.below (below_drew1 (Below.refl _ _)))
   refine start_ (n:=11) (S:=(fun w'=>(w'.cell? ⟨n,0,none⟩=some (.slice (some ad) G.o.length c0)∧w'.cell? ⟨n,1,none⟩=some (.slice (some ⟨b1,0,none⟩) r2.length c1)∧w'.cell? ⟨n,2,none⟩=some (.slice A2 G.w.length c2)∧w'.cell? ⟨n,3,none⟩=some (.slice A3 G.d.length c3))∧w'.cell? ⟨n+1,1,none⟩=some (.int .i64 e.f1)∧w'.cell? ⟨b1,e.f1.toNat,none⟩=some (.int .i64 (-1)))) (ds:=[9]) #[fF,fF,fF,fF,fF,fF,fF,fF,fF,fF,fF] (by kernel_rfl) rfl rfl ⟨K.out.hc,K.out.ec.2.1,HRT.out⟩ (fun hHeld=>?_);refine with_tabW smq11_tab smq11_bits (fun HT_ HW_=>?_)
   generalize wr.drew=v5 at HRT K hHeld ⊢
   refine tU HT_ HW_ 0 (some 68) (bM 11 1) hHeld rfl (by refine Or.inl ⟨by rfl,?_⟩;rintro w' ⟨⟨s0,s1,s2,s3⟩,s4,s5⟩;go_simp;with_reducible rfl) ?_
   refine tU HT_ HW_ 1 (some 69) (bM 11 3) hHeld rfl (by refine Or.inl ⟨by rfl,?_⟩;rintro w' ⟨⟨s0,s1,s2,s3⟩,s4,s5⟩;go_simp;with_reducible rfl) ?_
   refine pU HT_ 2 (some 70) (bM 11 7) ?_
   refine tU HT_ HW_ 3 (some 71) (bM 11 15) hHeld rfl (by refine Or.inl ⟨by rfl,?_⟩;rintro w' ⟨⟨s0,s1,s2,s3⟩,s4,s5⟩;go_simp;with_reducible rfl) ?_
   refine pU HT_ 4 (some 72) (bM 11 31) ?_
   refine tU HT_ HW_ 5 (some 73) (bM 11 63) hHeld rfl (by refine Or.inl ⟨by rfl,?_⟩;rintro w' ⟨⟨s0,s1,s2,s3⟩,s4,s5⟩;go_simp;with_reducible rfl) ?_
   refine pU HT_ 6 (some 74) (bM 11 127) ?_
   refine tU HT_ HW_ 7 (some 75) (bM 11 255) hHeld rfl (by refine Or.inl ⟨by rfl,?_⟩;rintro w' ⟨⟨s0,s1,s2,s3⟩,s4,s5⟩;go_simp;with_reducible rfl) ?_
   refine one_ (i:=8) (N:=some 76) (bM 11 511) rfl rfl (one_of HT_.out (by kernel_rfl)) (by decide) (fun K_ hK=>?_)
   refine goes_ Tryd.func35 (by kernel_rfl) rfl #[.agg #[.slice (some ad) G.o.length c0,.slice (some ⟨b1,0,none⟩) r2.length c1,.slice A2 G.w.length c2,.slice A3 G.d.length c3],.int .i64 (-1)] (by rfl) rfl rfl zI ?_
   refine(sees_c K.out.own.reads (by show (-1:Int)<(G.o.length:Int);omega) (fun h=>absurd h (by decide))).mono ?_
   rintro en v6 ⟨rfl,hb⟩
   refine⟨_,rfl,?_⟩
   replace HRT:=AK (pcb hb HRT.out)
   replace K:=AK (K.out.below hb)
   clear hb
   refine hK.out _ _ ⟨K.out.hc,K.out.ec.2.1,HRT.out⟩ (fun hHeld=>?_)
   clear hK K_
   refine nO (some 76) ?_
   refine last_ (i:=9) (N:=none) #[tT,tT,tT,tT,tT,tT,tT,tT,tT,tT,fF] rfl rfl (one_of HT_.out (by kernel_rfl)) (by decide) (fun K_ hK=>?_)
   obtain⟨z0,z1,z2,z3⟩:=K.out.oc
   have y0:=K.out.of 0
   have y1:=K.out.of 1
   have y2:=K.out.of 2
   have y3:=K.out.of 3
   refine skip_ (w1:=?_) (by rfl) rfl ?_ ?_
   rotate_left
   ·go_simp
    rfl
   clear z0 z1 z2 z3 y0 y1 y2 y3
   refine hK.out _ _ ?_
   clear hK K_
   refine pU HT_ 10 (some 5) (bM 11 2047) ?_
   refine done_ (done_of HT_.out (by kernel_rfl)) ?_
   clear HT_ HW_ hHeld
   go_wp2
   refine bodyPost_ret (results_ct rfl _ _ (n+2) 33 #[.slice (some ad) G.o.length c0,.slice (some ⟨b1,0,none⟩) r2.length c1,.slice A2 G.w.length c2,.slice A3 G.d.length c3] (0,0) _ rfl K.out.fin.2.2.1 Tryd.underlying33 rfl (by kernel_rfl)) rfl ?_
   exact⟨(some ad),c0,(some ⟨b1,0,none⟩),c1,A2,c2,A3,c3,rfl,K.out.fin.1,K.out.fin.2.1,K.out.fin.2.2.2⟩
end Go.Proofs.YtigjhfijkdlldaaDoor.H
