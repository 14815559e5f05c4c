import Derived.Test.YtigjhfijkdlldaaStpPt
import Derived.Test.YtigjhfijkdlldaaStpDe
import Derived.Test.YtigjhfijkdlldaaStpDt
import Derived.Test.YtigjhfijkdlldaaStpHsg
import Derived.Test.YtigjhfijkdlldaaStpQe
import Derived.Test.YtigjhfijkdlldaaStpHsm
namespace Go.Proofs.Ytigjhfijkdlldaa.H
open Go.RowKit Go.Proofs.YtigjhfijkdlldaaW.PrintWords Go.Proofs.YtigjhfijkdlldaaW.PrintLast Go.Proofs.YtigjhfijkdlldaaW.PrintMore Go.Proofs.Ytigjhfijkdlldaa.Q
set_option linter.unusedVariables false
set_option linter.unusedSimpArgs false
section
section
variable {l0:List S38} {l1:List Int} {l2 l3:List S60}
end
end
section
attribute [local go_sem high] eqA60
section
variable {w:World} {A B A0 A1 A2 A3 B0 B1 B2 B3:Option Addr} {c d c0 c1 c2 c3 d0 d1 d2 d3:Nat}
theorem wInts_q {l:List Int} (h:Kd.C (Kd.int .i64) w A l.length l) (h':Kd.C (Kd.int .i64) w B l.length l):Calls Try.prog 35 #[.slice A l.length c,.slice B l.length d] w fun e w'=>e=.returned (.bool true)∧Drawn0 w w':=by
  have HH:=AK (And.intro h (And.intro h' h.2.1))
  have hn:((l.length:Int) != (l.length:Int))=false:=by simp
  clear h h'
  go_enter Try.func35,Try.ntmps35
  go_wp2
  go_loopg [5] l.length (fun kq v5 w'=>∃i:Int,v5=.int .i64 i∧Aside0 (0≤i∧i+kq=l.length)∧Drawn0 w w')
  case atStart=>exact⟨0,rfl,⟨by omega,by omega⟩,Drawn0.refl _⟩
  case round=>
    obtain⟨i,rfl,HI,⟨m,rfl⟩⟩:=hrel
    cases gk with
    | zero=>
      have c9:decide (i<(l.length:Int))=false:=deF (by have:=HI.out;omega)
      go_wp2
      go_ret
      exact⟨rfl,⟨_,rfl⟩⟩
    | succ k1=>
      have c9:decide (i<(l.length:Int))=true:=deT (by have:=HI.out;omega)
      have hi0:=eq_true (show 0≤i by have:=HI.out;omega)
      have hi1:=eq_true (show i<(l.length:Int)by have:=HI.out;omega)
      obtain⟨ad,e1,hx⟩:=Kd.at_int HH.out.1 i (by have:=HI.out;omega) (by have:=HI.out;omega)
      obtain⟨be,e2,hy⟩:=Kd.at_int HH.out.2.1 i (by have:=HI.out;omega) (by have:=HI.out;omega)
      subst e1 e2
      have hne:(rd l i != rd l i)=false:=by simp
      go_wp2_with fail
      go_quiet (fail)
      go_wp2
      go_roundg k1
      case measure=>omega
      case rel=>
        rw[wrap_succ i (by have:=HI.out;omega) (by have:=HI.out;have:=HH.out.2.2;omega)]
        exact⟨i+1,rfl,⟨by have:=HI.out;omega,by have:=HI.out;omega⟩,by repeat (first|exact Drawn0.refl _|apply Drawn0.step)⟩
theorem wInts_n {n:Nat} {l:List Int} (h:Kd.C (Kd.int .i64) w A l.length l) (h':Kd.C (Kd.int .i64) w B l.length l):Calls Try.prog 35 #[.slice A l.length c,.slice B l.length d] (w.drewN n) fun e w'=>e=.returned (.bool true)∧∃m,w'=w.drewN m:=
  (wInts_q (Kd.C_drewN h n) (Kd.C_drewN h' n)).mono fun e w' ⟨he,hd⟩=>⟨he,by obtain⟨k,rfl⟩:=hd.out;exact⟨n+k,World.drewN_drewN _ _ _⟩⟩
theorem wTexts_q {l:List ByteArray} (h:Kd.C Kd.string w A l.length l) (h':Kd.C Kd.string w B l.length l):Calls Try.prog 20 #[.slice A l.length c,.slice B l.length d] w fun e w'=>e=.returned (.bool true)∧Drawn0 w w':=by
  have HH:=AK (And.intro h (And.intro h' h.2.1))
  have hn:((l.length:Int) != (l.length:Int))=false:=by simp
  clear h h'
  go_enter Try.func20,Try.ntmps20
  go_wp2
  go_loopg [5] l.length (fun kq v5 w'=>∃i:Int,v5=.int .i64 i∧Aside0 (0≤i∧i+kq=l.length)∧Drawn0 w w')
  case atStart=>exact⟨0,rfl,⟨by omega,by omega⟩,Drawn0.refl _⟩
  case round=>
    obtain⟨i,rfl,HI,⟨m,rfl⟩⟩:=hrel
    cases gk with
    | zero=>
      have c9:decide (i<(l.length:Int))=false:=deF (by have:=HI.out;omega)
      go_wp2
      go_ret
      exact⟨rfl,⟨_,rfl⟩⟩
    | succ k1=>
      have c9:decide (i<(l.length:Int))=true:=deT (by have:=HI.out;omega)
      have hi0:=eq_true (show 0≤i by have:=HI.out;omega)
      have hi1:=eq_true (show i<(l.length:Int)by have:=HI.out;omega)
      obtain⟨ad,e1,hx⟩:=Kd.at_string HH.out.1 i (by have:=HI.out;omega) (by have:=HI.out;omega)
      obtain⟨be,e2,hy⟩:=Kd.at_string HH.out.2.1 i (by have:=HI.out;omega) (by have:=HI.out;omega)
      subst e1 e2
      have hne:((rdOf ByteArray.empty l i).toList != (rdOf ByteArray.empty l i).toList)=false:=by simp
      go_wp2_with fail
      go_quiet (fail)
      go_wp2
      go_roundg k1
      case measure=>omega
      case rel=>
        rw[wrap_succ i (by have:=HI.out;omega) (by have:=HI.out;have:=HH.out.2.2;omega)]
        exact⟨i+1,rfl,⟨by have:=HI.out;omega,by have:=HI.out;omega⟩,by repeat (first|exact Drawn0.refl _|apply Drawn0.step)⟩
theorem wWatch_q {l:List S60} (h:Kd.C k60 w A l.length l) (h':Kd.C k60 w B l.length l):Calls Try.prog 66 #[.slice A l.length c,.slice B l.length d] w fun e w'=>e=.returned (.bool true)∧Drawn0 w w':=by
  have HH:=AK (And.intro h (And.intro h' h.2.1))
  have hn:((l.length:Int) != (l.length:Int))=false:=by simp
  clear h h'
  go_enter Try.func66,Try.ntmps66
  go_wp2
  go_loopg [5] l.length (fun kq v5 w'=>∃i:Int,v5=.int .i64 i∧Aside0 (0≤i∧i+kq=l.length)∧Drawn0 w w')
  case atStart=>exact⟨0,rfl,⟨by omega,by omega⟩,Drawn0.refl _⟩
  case round=>
    obtain⟨i,rfl,HI,⟨m,rfl⟩⟩:=hrel
    cases gk with
    | zero=>
      have c9:decide (i<(l.length:Int))=false:=deF (by have:=HI.out;omega)
      go_wp2
      go_ret
      exact⟨rfl,⟨_,rfl⟩⟩
    | succ k1=>
      have c9:decide (i<(l.length:Int))=true:=deT (by have:=HI.out;omega)
      have hi0:=eq_true (show 0≤i by have:=HI.out;omega)
      have hi1:=eq_true (show i<(l.length:Int)by have:=HI.out;omega)
      obtain⟨ad,e1,x0,x1⟩:=at_T60 HH.out.1 i (by have:=HI.out;omega) (by have:=HI.out;omega)
      obtain⟨be,e2,y0,y1⟩:=at_T60 HH.out.2.1 i (by have:=HI.out;omega) (by have:=HI.out;omega)
      subst e1 e2
      obtain⟨z,ez⟩:∃z,z=rd_T60 l i:=⟨_,rfl⟩
      rw[←ez]at x0 x1 y0 y1
      clear ez
      have hz0:(z.f0 == z.f0)=true:=by simp
      have hz1:(z.f1 == z.f1)=true:=by simp
      go_wp2_with fail
      go_quiet (fail)
      go_wp2
      go_roundg k1
      case measure=>omega
      case rel=>
        rw[wrap_succ i (by have:=HI.out;omega) (by have:=HI.out;have:=HH.out.2.2;omega)]
        exact⟨i+1,rfl,⟨by have:=HI.out;omega,by have:=HI.out;omega⟩,by repeat (first|exact Drawn0.refl _|apply Drawn0.step)⟩
set_option maxHeartbeats 2000000 in
theorem wHeap_c {l0:List S38} {l1:List Int} {l2 l3:List S60} (h:InH w A0 c0 A1 c1 A2 c2 A3 c3 l0 l1 l2 l3) (h':InH w B0 d0 B1 d1 B2 d2 B3 d3 l0 l1 l2 l3) :
    Calls Try.prog 19 #[.agg #[.slice A0 l0.length c0,.slice A1 l1.length c1,.slice A2 l2.length c2,.slice A3 l3.length c3],.agg #[.slice B0 l0.length d0,.slice B1 l1.length d1,.slice B2 l2.length d2,.slice B3 l3.length d3]] w fun e w'=>e=.returned (.bool true)∧Below w.heap.size w w':=by
  have HB:=AK (show Below w.heap.size w ((w.alloc (.cells #[.slice A0 l0.length c0,.slice A1 l1.length c1,.slice A2 l2.length c2,.slice A3 l3.length c3] 28 (0,0))).alloc (.cells #[.slice B0 l0.length d0,.slice B1 l1.length d1,.slice B2 l2.length d2,.slice B3 l3.length d3] 28 (0,0)))from below_alloc (below_alloc (Below.refl _ _) _) _)
  have HX:=AK (show ((w.alloc (.cells #[.slice A0 l0.length c0,.slice A1 l1.length c1,.slice A2 l2.length c2,.slice A3 l3.length c3] 28 (0,0))).alloc (.cells #[.slice B0 l0.length d0,.slice B1 l1.length d1,.slice B2 l2.length d2,.slice B3 l3.length d3] 28 (0,0))).heap[w.heap.size]?=some (.cells #[.slice A0 l0.length c0,.slice A1 l1.length c1,.slice A2 l2.length c2,.slice A3 l3.length c3] 28 (0,0))from blk_alloc (blk_new w _) _)
  have HY:=AK (show ((w.alloc (.cells #[.slice A0 l0.length c0,.slice A1 l1.length c1,.slice A2 l2.length c2,.slice A3 l3.length c3] 28 (0,0))).alloc (.cells #[.slice B0 l0.length d0,.slice B1 l1.length d1,.slice B2 l2.length d2,.slice B3 l3.length d3] 28 (0,0))).heap[w.heap.size+1]?=some (.cells #[.slice B0 l0.length d0,.slice B1 l1.length d1,.slice B2 l2.length d2,.slice B3 l3.length d3] 28 (0,0))from blk_new1 w _ _)
  have HH:=AK (And.intro h h')
  have hn:((l0.length:Int) != (l0.length:Int))=false:=by simp
  clear h h'
  go_enter Try.func19,Try.ntmps19
  go_wp2_with fail
  generalize ((w.alloc (.cells #[.slice A0 l0.length c0,.slice A1 l1.length c1,.slice A2 l2.length c2,.slice A3 l3.length c3] 28 (0,0))).alloc (.cells #[.slice B0 l0.length d0,.slice B1 l1.length d1,.slice B2 l2.length d2,.slice B3 l3.length d3] 28 (0,0)))=w1 at HB HX HY ⊢
  refine(wInts_q (Kd.C_below HH.out.1.r1 HB.out) (Kd.C_below HH.out.2.r1 HB.out)).mono ?_
  rintro e v0 ⟨rfl,hb⟩
  replace hb:Below _ _ _:=hb.below
  replace HB:=AK (bst HB.out hb)
  replace HX:=AK (bbl HX.out hb)
  replace HY:=AK (bbl HY.out hb)
  clear hb
  obtain⟨p0,p1,p2,p3⟩:=box4 HX.out
  obtain⟨q0,q1,q2,q3⟩:=box4 HY.out
  go_wp2_with fail
  clear p0 p1 p2 p3 q0 q1 q2 q3
  refine(wWatch_q (Kd.C_below HH.out.1.r2 HB.out) (Kd.C_below HH.out.2.r2 HB.out)).mono ?_
  rintro e v1 ⟨rfl,hb⟩
  replace hb:Below _ _ _:=hb.below
  replace HB:=AK (bst HB.out hb)
  replace HX:=AK (bbl HX.out hb)
  replace HY:=AK (bbl HY.out hb)
  clear hb
  obtain⟨p0,p1,p2,p3⟩:=box4 HX.out
  obtain⟨q0,q1,q2,q3⟩:=box4 HY.out
  go_wp2_with fail
  clear p0 p1 p2 p3 q0 q1 q2 q3
  refine(wWatch_q (Kd.C_below HH.out.1.r3 HB.out) (Kd.C_below HH.out.2.r3 HB.out)).mono ?_
  rintro e v2 ⟨rfl,hb⟩
  replace hb:Below _ _ _:=hb.below
  replace HB:=AK (bst HB.out hb)
  replace HX:=AK (bbl HX.out hb)
  replace HY:=AK (bbl HY.out hb)
  clear hb
  obtain⟨p0,p1,p2,p3⟩:=box4 HX.out
  obtain⟨q0,q1,q2,q3⟩:=box4 HY.out
  go_wp2
  clear p0 p1 p2 p3 q0 q1 q2 q3
  go_loopg [5] l0.length (fun kq v5 w'=>∃i:Int,v5=.int .i64 i∧Aside0 (0≤i∧i+kq=l0.length)∧Aside0 (Below w.heap.size w w')∧Aside0 (w'.heap[w.heap.size]?=some (.cells #[.slice A0 l0.length c0,.slice A1 l1.length c1,.slice A2 l2.length c2,.slice A3 l3.length c3] 28 (0,0)))∧Aside0 (w'.heap[w.heap.size+1]?=some (.cells #[.slice B0 l0.length d0,.slice B1 l1.length d1,.slice B2 l2.length d2,.slice B3 l3.length d3] 28 (0,0))))
  case atStart=>exact⟨0,rfl,⟨by omega,by omega⟩,⟨by repeat (first|exact HB.out|apply pw_below_drewN|apply below_drew1)⟩,⟨HX.out⟩,⟨HY.out⟩⟩
  case round=>
    clear HB HX HY
    obtain⟨i,rfl,HI,HB,HX,HY⟩:=hrel
    obtain⟨p0,p1,p2,p3⟩:=box4 HX.out
    obtain⟨q0,q1,q2,q3⟩:=box4 HY.out
    cases gk with
    | zero=>
      have c9:decide (i<(l0.length:Int))=false:=deF (by have:=HI.out;omega)
      go_wp2
      go_ret
      exact⟨rfl,HB.out⟩
    | succ k1=>
      have c9:decide (i<(l0.length:Int))=true:=deT (by have:=HI.out;omega)
      have hi0:=eq_true (show 0≤i by have:=HI.out;omega)
      have hi1:=eq_true (show i<(l0.length:Int)by have:=HI.out;omega)
      have HM:=AK (C_max HH.out.1.r0)
      obtain⟨ad,F,f,e1,x0,x1,x2,_,hx⟩:=at_T38 (Kd.C_below HH.out.1.r0 HB.out) i (by have:=HI.out;omega) (by have:=HI.out;omega)
      obtain⟨be,G,g,e2,y0,y1,y2,_,hy⟩:=at_T38 (Kd.C_below HH.out.2.r0 HB.out) i (by have:=HI.out;omega) (by have:=HI.out;omega)
      subst e1 e2
      obtain⟨z,ez⟩:∃z,z=rd_T38 l0 i:=⟨_,rfl⟩
      rw[←ez]at x0 x1 x2 y0 y1 y2 hx hy
      have hk0:(z.f0 != z.f0)=false:=by simp
      have hs0:(z.f1.toList != z.f1.toList)=false:=by simp
      have HC:=AK (And.intro hx hy)
      clear ez hx hy
      go_wp2_with fail
      go_quiet (refine wInts_n HC.out.1 HC.out.2)
      go_wp2
      go_roundg k1
      case measure=>omega
      case rel=>
        rw[wrap_succ i (by have:=HI.out;omega) (by have:=HI.out;have:=HM.out;omega)]
        exact⟨i+1,rfl,⟨by have:=HI.out;omega,by have:=HI.out;omega⟩,⟨by repeat (first|exact HB.out|apply pw_below_drewN|apply below_drew1)⟩,⟨HX.out⟩,⟨HY.out⟩⟩
end
end
section
theorem OwnX.reads {w:World} {base:Nat} {A0 A1 A2 A3:Option Addr} {c0 c1 c2 c3:Nat} {G:Hp} (h:OwnX w base A0 c0 A1 c1 A2 c2 A3 c3 G):InH w A0 c0 A1 c1 A2 c2 A3 c3 G.o G.r G.w G.d:=by
  obtain⟨⟨x,ho⟩,hk⟩:=h
  have r:=ho.reads
  exact⟨r.r0,r.r1,r.r2,r.r3,r.k0,r.k1,r.k2,hk⟩
theorem drop_tail {α:Type} {l m:List α} {x:α} {n:Nat} (h:l.drop n=x :: m):l.drop (n+1)=m:=by
  rw[←List.drop_drop,h];rfl
theorem drop_head {l m:List ByteArray} {x:ByteArray} {i:Int} (h:l.drop i.toNat=x :: m):rdOf ByteArray.empty l i=x:=by
  have h1:(l.drop i.toNat)[0]?=some x:=by rw[h];rfl
  rw[List.getElem?_drop]at h1
  unfold rdOf
  rw[List.getD_eq_getElem?_getD]
  simpa using congrArg (Option.getD · ByteArray.empty) h1
set_option maxHeartbeats 4000000 in
set_option maxRecDepth 100000 in
theorem FnTop_walk {A:Option Addr} {c:Nat} {code:List Int} (w:World) (hr:Kd.C (Kd.int .u8) w A code.length code) (hc:code.length≤c) (hb:∀b∈code,0≤b∧b<256) :
    Calls Try.prog 4 #[.slice A code.length c] w fun e w'=>e=.returned (.bool true)∧Below w.heap.size w w':=by
  have HC:=AK (And.intro hr (And.intro hc hb))
  clear hr hc hb
  by_cases h20:(1048576:Int)<(code.length:Int)
  · have c1:decide ((1048576:Int)<(code.length:Int))=true:=deT h20
    have c2:decide (1048576<code.length)=true:=deT (by omega)
    have c3:=eq_true (show 1048576<code.length by omega)
    clear h20
    go_enter Try.func4,Try.ntmps4
    go_wp2
    go_ret
    exact⟨rfl,Below.refl _ _⟩
  have c1:decide ((1048576:Int)<(code.length:Int))=false:=deF h20
  have c2:decide (1048576<code.length)=false:=deF (by omega)
  have c3:=eq_false (show ¬ 1048576<code.length by omega)
  clear h20
  go_enter Try.func4,Try.ntmps4
  go_wp2_with fail
  clear c1 c2 c3
  refine(drawMoments_c _ HC.out.1 HC.out.2.1 HC.out.2.2).mono ?_
  rintro en w1 ⟨m,G,B0,d0,B1,d1,B2,d2,B3,d3,es,Ka,ck,ms,Ma,cm,rfl,hm,he,hms,hi,hk,hmk,hb⟩
  have HPL:=AK (show Pl G from by
    rw[hm.2];exact⟨base_ok m hm.1,(fun x hx=>by cases hx),rfl,rfl⟩)
  have HG0:=AK (show G.o.length=0 from by rw[hm.2];rfl)
  have HF:=AK (show Fine G.o G.r G.w G.d from OkH.fine (ok_parts HPL.out.k))
  have HE:=AK (show es.length≤39∧∀x∈es,x.f4.f2.length≤1048576∧(x.f4.f1.size:Int)≤4611686018427387903 from⟨by omega,fun x hx=>⟨by have:=(he.2 x hx).1;omega,by have:=(he.2 x hx).2.1.1;omega⟩⟩)
  have HM:=AK (show ms.length≤80∧∀x∈ms,x.f4.f2.length≤1048576∧(x.f4.f1.size:Int)≤4611686018427387903 from⟨hms.1,fun x hx=>⟨by have:=(hms.2.1 x hx).1;omega,by have:=(hms.2.1 x hx).2.1.1;omega⟩⟩)
  obtain⟨Ya,sa,hY⟩:∃Y t,(Y,t)=playB G es:=⟨_,_,rfl⟩
  obtain⟨Yb,sb,hZ⟩:∃Y t,(Y,t)=playB G ms:=⟨_,_,rfl⟩
  have HY:=AK hY
  have HZ:=AK hZ
  have HAL:=AK (show Al Ya Yb (es.drop (0:Int).toNat) (ms.drop (0:Int).toNat) (sa.drop (0:Int).toNat) (sb.drop (0:Int).toNat)from by
    show Al Ya Yb es ms sa sb
    obtain⟨ρ,hs⟩:=sim_refl HPL.out
    have e1:playB G es=runL G es:=by unfold playB;rw[if_pos HPL.out.k]
    have e2:playB G ms=runL G ms:=by unfold playB;rw[if_pos HPL.out.k]
    exact⟨⟨G,G,ρ,hs,HPL.out,HPL.out,by rw[←e1];exact hY.symm,by rw[←e2];exact hZ.symm,by have:=HG0.out;show G.o.length+es.length<60;omega,by have:=HG0.out;show G.o.length+es.length<60;omega⟩,hms.2.2,fun x hx=>(he.2 x hx).2.2 rfl⟩)
  have HSL:=AK (show sa.length=es.length∧sb.length=ms.length from by
    have e1:playB G es=runL G es:=by unfold playB;rw[if_pos HPL.out.k]
    have e2:playB G ms=runL G ms:=by unfold playB;rw[if_pos HPL.out.k]
    have h1:sa=(playB G es).2:=congrArg Prod.snd hY
    have h2:sb=(playB G ms).2:=congrArg Prod.snd hZ
    rw[h1,h2,e1,e2];exact⟨run_len es G,run_len ms G⟩)
  have HFA:=AK (show Fine Ya.o Ya.r Ya.w Ya.d from by
    have h1:Ya=(playB G es).1:=congrArg Prod.fst hY
    rw[h1];exact OkH.fine (ok_parts (play_ok G es)))
  have HFB:=AK (show Fine Yb.o Yb.r Yb.w Yb.d from by
    have h1:Yb=(playB G ms).1:=congrArg Prod.fst hZ
    rw[h1];exact OkH.fine (ok_parts (play_ok G ms)))
  have HB:=AK hb
  have HI:=AK hi
  have HK:=AK hk
  have HMS:=AK hmk
  clear hm he hms hi hk hmk hb hY hZ HC
  go_upto_region 4 with fail
  have HX:=AK (blk_new w1 (.cells #[.slice B0 G.o.length d0,.slice B1 G.r.length d1,.slice B2 G.w.length d2,.slice B3 G.d.length d3] 28 (0,0)))
  replace HB:=AK (bst HB.out (below_alloc (Below.refl _ _) (.cells #[.slice B0 G.o.length d0,.slice B1 G.r.length d1,.slice B2 G.w.length d2,.slice B3 G.d.length d3] 28 (0,0))))
  replace HI:=AK (HI.out.below (below_alloc (Below.refl _ _) (.cells #[.slice B0 G.o.length d0,.slice B1 G.r.length d1,.slice B2 G.w.length d2,.slice B3 G.d.length d3] 28 (0,0))))
  replace HK:=AK (Kd.C_below HK.out (below_alloc (Below.refl _ _) (.cells #[.slice B0 G.o.length d0,.slice B1 G.r.length d1,.slice B2 G.w.length d2,.slice B3 G.d.length d3] 28 (0,0))))
  replace HMS:=AK (Kd.C_below HMS.out (below_alloc (Below.refl _ _) (.cells #[.slice B0 G.o.length d0,.slice B1 G.r.length d1,.slice B2 G.w.length d2,.slice B3 G.d.length d3] 28 (0,0))))
  generalize w1.alloc (.cells #[.slice B0 G.o.length d0,.slice B1 G.r.length d1,.slice B2 G.w.length d2,.slice B3 G.d.length d3] 28 (0,0))=w3 at HB HI HK HMS HX ⊢
  generalize w1.heap.size=n3 at HX ⊢
  obtain⟨p0,p1,p2,p3⟩:=box4 HX.out
  go_wp2_with fail
  clear p0 p1 p2 p3
  refine(MemPlay_calls _ _ _ _ _ _ _ _ _ G es Ka ck HI.out HF.out HK.out (by have:=HE.out.1;omega) HE.out.2 Ya sa HY.out).mono ?_
  rintro en w4 ⟨U0,s0,U1,s1,U2,s2,U3,s3,L,lc,rfl,hO,hT,hb⟩
  have HU:=AK hO.reads
  have HT:=AK (Kd.R_reads' hT).2.2
  replace HB:=AK (bst HB.out hb)
  replace HI:=AK (HI.out.below hb)
  replace HK:=AK (Kd.C_below HK.out hb)
  replace HMS:=AK (Kd.C_below HMS.out hb)
  replace HX:=AK (bbl HX.out hb)
  clear hO hT hb
  go_upto_region 5 with fail
  have HP:=AK (blk_new w4 (.cells #[.slice U0 Ya.o.length s0,.slice U1 Ya.r.length s1,.slice U2 Ya.w.length s2,.slice U3 Ya.d.length s3] 28 (0,0)))
  replace HB:=AK (bst HB.out (below_alloc (Below.refl _ _) (.cells #[.slice U0 Ya.o.length s0,.slice U1 Ya.r.length s1,.slice U2 Ya.w.length s2,.slice U3 Ya.d.length s3] 28 (0,0))))
  replace HI:=AK (HI.out.below (below_alloc (Below.refl _ _) (.cells #[.slice U0 Ya.o.length s0,.slice U1 Ya.r.length s1,.slice U2 Ya.w.length s2,.slice U3 Ya.d.length s3] 28 (0,0))))
  replace HK:=AK (Kd.C_below HK.out (below_alloc (Below.refl _ _) (.cells #[.slice U0 Ya.o.length s0,.slice U1 Ya.r.length s1,.slice U2 Ya.w.length s2,.slice U3 Ya.d.length s3] 28 (0,0))))
  replace HMS:=AK (Kd.C_below HMS.out (below_alloc (Below.refl _ _) (.cells #[.slice U0 Ya.o.length s0,.slice U1 Ya.r.length s1,.slice U2 Ya.w.length s2,.slice U3 Ya.d.length s3] 28 (0,0))))
  replace HX:=AK (bbl HX.out (below_alloc (Below.refl _ _) (.cells #[.slice U0 Ya.o.length s0,.slice U1 Ya.r.length s1,.slice U2 Ya.w.length s2,.slice U3 Ya.d.length s3] 28 (0,0))))
  replace HU:=AK (HU.out.below (below_alloc (Below.refl _ _) (.cells #[.slice U0 Ya.o.length s0,.slice U1 Ya.r.length s1,.slice U2 Ya.w.length s2,.slice U3 Ya.d.length s3] 28 (0,0))))
  replace HT:=AK (Kd.C_below HT.out (below_alloc (Below.refl _ _) (.cells #[.slice U0 Ya.o.length s0,.slice U1 Ya.r.length s1,.slice U2 Ya.w.length s2,.slice U3 Ya.d.length s3] 28 (0,0))))
  generalize w4.alloc (.cells #[.slice U0 Ya.o.length s0,.slice U1 Ya.r.length s1,.slice U2 Ya.w.length s2,.slice U3 Ya.d.length s3] 28 (0,0))=w5 at HB HI HK HMS HX HU HT HP ⊢
  generalize w4.heap.size=n6 at HP ⊢
  obtain⟨p0,p1,p2,p3⟩:=box4 HX.out
  go_wp2_with fail
  clear p0 p1 p2 p3
  refine(MemPlay_calls _ _ _ _ _ _ _ _ _ G ms Ma cm HI.out HF.out HMS.out (by have:=HM.out.1;omega) HM.out.2 Yb sb HZ.out).mono ?_
  rintro en w6 ⟨V0,u0,V1,u1,V2,u2,V3,u3,L2,lc2,rfl,hO,hT,hb⟩
  have HV:=AK hO.reads
  have HT2:=AK (Kd.R_reads' hT).2.2
  replace HB:=AK (bst HB.out hb)
  replace HI:=AK (HI.out.below hb)
  replace HK:=AK (Kd.C_below HK.out hb)
  replace HMS:=AK (Kd.C_below HMS.out hb)
  replace HX:=AK (bbl HX.out hb)
  replace HU:=AK (HU.out.below hb)
  replace HT:=AK (Kd.C_below HT.out hb)
  replace HP:=AK (bbl HP.out hb)
  clear hO hT hb
  go_upto_region 6 with fail
  have HQ:=AK (blk_new w6 (.cells #[.slice V0 Yb.o.length u0,.slice V1 Yb.r.length u1,.slice V2 Yb.w.length u2,.slice V3 Yb.d.length u3] 28 (0,0)))
  replace HB:=AK (bst HB.out (below_alloc (Below.refl _ _) (.cells #[.slice V0 Yb.o.length u0,.slice V1 Yb.r.length u1,.slice V2 Yb.w.length u2,.slice V3 Yb.d.length u3] 28 (0,0))))
  replace HI:=AK (HI.out.below (below_alloc (Below.refl _ _) (.cells #[.slice V0 Yb.o.length u0,.slice V1 Yb.r.length u1,.slice V2 Yb.w.length u2,.slice V3 Yb.d.length u3] 28 (0,0))))
  replace HK:=AK (Kd.C_below HK.out (below_alloc (Below.refl _ _) (.cells #[.slice V0 Yb.o.length u0,.slice V1 Yb.r.length u1,.slice V2 Yb.w.length u2,.slice V3 Yb.d.length u3] 28 (0,0))))
  replace HMS:=AK (Kd.C_below HMS.out (below_alloc (Below.refl _ _) (.cells #[.slice V0 Yb.o.length u0,.slice V1 Yb.r.length u1,.slice V2 Yb.w.length u2,.slice V3 Yb.d.length u3] 28 (0,0))))
  replace HX:=AK (bbl HX.out (below_alloc (Below.refl _ _) (.cells #[.slice V0 Yb.o.length u0,.slice V1 Yb.r.length u1,.slice V2 Yb.w.length u2,.slice V3 Yb.d.length u3] 28 (0,0))))
  replace HU:=AK (HU.out.below (below_alloc (Below.refl _ _) (.cells #[.slice V0 Yb.o.length u0,.slice V1 Yb.r.length u1,.slice V2 Yb.w.length u2,.slice V3 Yb.d.length u3] 28 (0,0))))
  replace HT:=AK (Kd.C_below HT.out (below_alloc (Below.refl _ _) (.cells #[.slice V0 Yb.o.length u0,.slice V1 Yb.r.length u1,.slice V2 Yb.w.length u2,.slice V3 Yb.d.length u3] 28 (0,0))))
  replace HP:=AK (bbl HP.out (below_alloc (Below.refl _ _) (.cells #[.slice V0 Yb.o.length u0,.slice V1 Yb.r.length u1,.slice V2 Yb.w.length u2,.slice V3 Yb.d.length u3] 28 (0,0))))
  replace HV:=AK (HV.out.below (below_alloc (Below.refl _ _) (.cells #[.slice V0 Yb.o.length u0,.slice V1 Yb.r.length u1,.slice V2 Yb.w.length u2,.slice V3 Yb.d.length u3] 28 (0,0))))
  replace HT2:=AK (Kd.C_below HT2.out (below_alloc (Below.refl _ _) (.cells #[.slice V0 Yb.o.length u0,.slice V1 Yb.r.length u1,.slice V2 Yb.w.length u2,.slice V3 Yb.d.length u3] 28 (0,0))))
  generalize w6.alloc (.cells #[.slice V0 Yb.o.length u0,.slice V1 Yb.r.length u1,.slice V2 Yb.w.length u2,.slice V3 Yb.d.length u3] 28 (0,0))=w7 at HB HI HK HMS HX HU HT HP HV HT2 HQ ⊢
  generalize w6.heap.size=n8 at HQ ⊢
  obtain⟨p0,p1,p2,p3⟩:=box4 HX.out
  go_wp2_with fail
  clear p0 p1 p2 p3
  refine(specPlay_calls _ _ _ _ _ _ _ _ _ G es Ka ck HI.out HF.out HK.out (by have:=HE.out.1;omega) HE.out.2 Ya sa HY.out).mono ?_
  rintro en w8 ⟨Q0,t0,Q1,t1,Q2,t2,Q3,t3,L3,lc3,rfl,hO,hT,hb⟩
  have HW:=AK hO.reads
  have HT3:=AK (Kd.R_reads' hT).2.2
  replace HB:=AK (bst HB.out hb)
  replace HI:=AK (HI.out.below hb)
  replace HK:=AK (Kd.C_below HK.out hb)
  replace HMS:=AK (Kd.C_below HMS.out hb)
  replace HX:=AK (bbl HX.out hb)
  replace HU:=AK (HU.out.below hb)
  replace HT:=AK (Kd.C_below HT.out hb)
  replace HP:=AK (bbl HP.out hb)
  replace HV:=AK (HV.out.below hb)
  replace HT2:=AK (Kd.C_below HT2.out hb)
  replace HQ:=AK (bbl HQ.out hb)
  clear hO hT hb
  go_upto_region 7 with fail
  have HR:=AK (blk_new w8 (.cells #[.slice Q0 Ya.o.length t0,.slice Q1 Ya.r.length t1,.slice Q2 Ya.w.length t2,.slice Q3 Ya.d.length t3] 28 (0,0)))
  replace HB:=AK (bst HB.out (below_alloc (Below.refl _ _) (.cells #[.slice Q0 Ya.o.length t0,.slice Q1 Ya.r.length t1,.slice Q2 Ya.w.length t2,.slice Q3 Ya.d.length t3] 28 (0,0))))
  replace HI:=AK (HI.out.below (below_alloc (Below.refl _ _) (.cells #[.slice Q0 Ya.o.length t0,.slice Q1 Ya.r.length t1,.slice Q2 Ya.w.length t2,.slice Q3 Ya.d.length t3] 28 (0,0))))
  replace HK:=AK (Kd.C_below HK.out (below_alloc (Below.refl _ _) (.cells #[.slice Q0 Ya.o.length t0,.slice Q1 Ya.r.length t1,.slice Q2 Ya.w.length t2,.slice Q3 Ya.d.length t3] 28 (0,0))))
  replace HMS:=AK (Kd.C_below HMS.out (below_alloc (Below.refl _ _) (.cells #[.slice Q0 Ya.o.length t0,.slice Q1 Ya.r.length t1,.slice Q2 Ya.w.length t2,.slice Q3 Ya.d.length t3] 28 (0,0))))
  replace HX:=AK (bbl HX.out (below_alloc (Below.refl _ _) (.cells #[.slice Q0 Ya.o.length t0,.slice Q1 Ya.r.length t1,.slice Q2 Ya.w.length t2,.slice Q3 Ya.d.length t3] 28 (0,0))))
  replace HU:=AK (HU.out.below (below_alloc (Below.refl _ _) (.cells #[.slice Q0 Ya.o.length t0,.slice Q1 Ya.r.length t1,.slice Q2 Ya.w.length t2,.slice Q3 Ya.d.length t3] 28 (0,0))))
  replace HT:=AK (Kd.C_below HT.out (below_alloc (Below.refl _ _) (.cells #[.slice Q0 Ya.o.length t0,.slice Q1 Ya.r.length t1,.slice Q2 Ya.w.length t2,.slice Q3 Ya.d.length t3] 28 (0,0))))
  replace HP:=AK (bbl HP.out (below_alloc (Below.refl _ _) (.cells #[.slice Q0 Ya.o.length t0,.slice Q1 Ya.r.length t1,.slice Q2 Ya.w.length t2,.slice Q3 Ya.d.length t3] 28 (0,0))))
  replace HV:=AK (HV.out.below (below_alloc (Below.refl _ _) (.cells #[.slice Q0 Ya.o.length t0,.slice Q1 Ya.r.length t1,.slice Q2 Ya.w.length t2,.slice Q3 Ya.d.length t3] 28 (0,0))))
  replace HT2:=AK (Kd.C_below HT2.out (below_alloc (Below.refl _ _) (.cells #[.slice Q0 Ya.o.length t0,.slice Q1 Ya.r.length t1,.slice Q2 Ya.w.length t2,.slice Q3 Ya.d.length t3] 28 (0,0))))
  replace HQ:=AK (bbl HQ.out (below_alloc (Below.refl _ _) (.cells #[.slice Q0 Ya.o.length t0,.slice Q1 Ya.r.length t1,.slice Q2 Ya.w.length t2,.slice Q3 Ya.d.length t3] 28 (0,0))))
  replace HW:=AK (HW.out.below (below_alloc (Below.refl _ _) (.cells #[.slice Q0 Ya.o.length t0,.slice Q1 Ya.r.length t1,.slice Q2 Ya.w.length t2,.slice Q3 Ya.d.length t3] 28 (0,0))))
  replace HT3:=AK (Kd.C_below HT3.out (below_alloc (Below.refl _ _) (.cells #[.slice Q0 Ya.o.length t0,.slice Q1 Ya.r.length t1,.slice Q2 Ya.w.length t2,.slice Q3 Ya.d.length t3] 28 (0,0))))
  generalize w8.alloc (.cells #[.slice Q0 Ya.o.length t0,.slice Q1 Ya.r.length t1,.slice Q2 Ya.w.length t2,.slice Q3 Ya.d.length t3] 28 (0,0))=w9 at HB HI HK HMS HX HU HT HP HV HT2 HQ HW HT3 HR ⊢
  generalize w8.heap.size=n10 at HR ⊢
  obtain⟨p0,p1,p2,p3⟩:=box4 HP.out
  obtain⟨q0,q1,q2,q3⟩:=box4 HR.out
  go_wp2_with fail
  clear p0 p1 p2 p3
  clear q0 q1 q2 q3
  refine(wHeap_c HU.out HW.out).mono ?_
  rintro en w10 ⟨rfl,hb⟩
  replace HB:=AK (bst HB.out hb)
  replace HI:=AK (HI.out.below hb)
  replace HK:=AK (Kd.C_below HK.out hb)
  replace HMS:=AK (Kd.C_below HMS.out hb)
  replace HX:=AK (bbl HX.out hb)
  replace HU:=AK (HU.out.below hb)
  replace HT:=AK (Kd.C_below HT.out hb)
  replace HP:=AK (bbl HP.out hb)
  replace HV:=AK (HV.out.below hb)
  replace HT2:=AK (Kd.C_below HT2.out hb)
  replace HQ:=AK (bbl HQ.out hb)
  replace HW:=AK (HW.out.below hb)
  replace HT3:=AK (Kd.C_below HT3.out hb)
  replace HR:=AK (bbl HR.out hb)
  clear hb
  go_wp2_with fail
  refine(wTexts_q HT.out HT3.out).mono ?_
  rintro en w11 ⟨rfl,hd⟩
  have hb:=hd.below
  replace HB:=AK (bst HB.out hb)
  replace HI:=AK (HI.out.below hb)
  replace HK:=AK (Kd.C_below HK.out hb)
  replace HMS:=AK (Kd.C_below HMS.out hb)
  replace HX:=AK (bbl HX.out hb)
  replace HU:=AK (HU.out.below hb)
  replace HT:=AK (Kd.C_below HT.out hb)
  replace HP:=AK (bbl HP.out hb)
  replace HV:=AK (HV.out.below hb)
  replace HT2:=AK (Kd.C_below HT2.out hb)
  replace HQ:=AK (bbl HQ.out hb)
  replace HW:=AK (HW.out.below hb)
  replace HT3:=AK (Kd.C_below HT3.out hb)
  replace HR:=AK (bbl HR.out hb)
  clear HR HW HT3 HI HX
  clear hb hd HY HZ HPL HG0 HF
  go_wp2_with fail
  go_loopg [12,13] ms.length (fun kq v12 v13 w'=>∃(k i:Int),v12=.int .i64 k∧v13=.int .i64 i∧Aside0 (0≤i∧i+kq=ms.length∧0≤k∧k≤es.length)∧Aside0 (Al Ya Yb (es.drop k.toNat) (ms.drop i.toNat) (sa.drop k.toNat) (sb.drop i.toNat))∧Aside0 (Below w.heap.size w w')∧Aside0 (Kd.C k40 w' Ka es.length es)∧Aside0 (Kd.C k40 w' Ma ms.length ms)∧Aside0 (InH w' U0 s0 U1 s1 U2 s2 U3 s3 Ya.o Ya.r Ya.w Ya.d)∧Aside0 (Kd.C Kd.string w' L sa.length sa)∧Aside0 (w'.heap[n6]?=some (.cells #[.slice U0 Ya.o.length s0,.slice U1 Ya.r.length s1,.slice U2 Ya.w.length s2,.slice U3 Ya.d.length s3] 28 (0,0)))∧Aside0 (InH w' V0 u0 V1 u1 V2 u2 V3 u3 Yb.o Yb.r Yb.w Yb.d)∧Aside0 (Kd.C Kd.string w' L2 sb.length sb)∧Aside0 (w'.heap[n8]?=some (.cells #[.slice V0 Yb.o.length u0,.slice V1 Yb.r.length u1,.slice V2 Yb.w.length u2,.slice V3 Yb.d.length u3] 28 (0,0))))
  case atStart=>exact⟨0,0,rfl,rfl,⟨by omega,by omega,by omega,by omega⟩,HAL,HB,HK,HMS,HU,HT,HP,HV,HT2,HQ⟩
  case round=>
    clear HAL HB HK HMS HU HT HP HV HT2 HQ
    obtain⟨k,i,rfl,rfl,HJ,HAL,HB,HK,HMS,HU,HT,HP,HV,HT2,HQ⟩:=hrel
    cases gk with
    | zero=>
      as_aux_lemma=>
        have c9:decide (i<(ms.length:Int))=false:=deF (by have:=HJ.out;omega)
        have HSM:=AK (show k=es.length∧sameB Ya.o Ya.r Ya.w Ya.d Yb.o Yb.r Yb.w Yb.d=true from by
          have h:=HAL.out
          rw[List.drop_eq_nil_of_le (show ms.length≤i.toNat by have:=HJ.out;omega)]at h
          have h2:=al_end h
          have h3:es.length≤k.toNat:=List.drop_eq_nil_iff.1 h2.1
          exact⟨by have:=HJ.out;omega,h2.2⟩)
        have c8:(k == (es.length:Int))=true:=by rw[HSM.out.1];simp
        have c7:=eq_true HSM.out.1
        obtain⟨p0,p1,p2,p3⟩:=box4 HP.out
        obtain⟨q0,q1,q2,q3⟩:=box4 HQ.out
        go_wp2_with fail
        clear p0 p1 p2 p3
        clear q0 q1 q2 q3
        refine(MemSame_calls _ _ _ _ _ _ _ _ _ _ _ _ _ _ _ _ _ _ _ _ _ _ _ _ _ HU.out HV.out ⟨by have:=HFA.out.w;omega,HFA.out.f⟩ ⟨by have:=HFB.out.w;omega,HFB.out.f⟩).mono ?_
        rintro en w12 ⟨rfl,hb⟩
        rw[HSM.out.2]
        go_wp2
        go_ret
        exact⟨rfl,bst HB.out hb⟩
    | succ k1=>
      have c9:decide (i<(ms.length:Int))=true:=deT (by have:=HJ.out;omega)
      have hi0:=eq_true (show 0≤i by have:=HJ.out;omega)
      have hi1:=eq_true (show i<(ms.length:Int)by have:=HJ.out;omega)
      have HDM:=AK (drop_cons ms z40 i (by have:=HJ.out;omega) (by have:=HJ.out;omega))
      obtain⟨ad,F,f,e1,x0,_⟩:=at_T40 HMS.out i (by have:=HJ.out;omega) (by have:=HJ.out;omega)
      subst e1
      obtain⟨z,ez⟩:∃z,z=rd_T40 ms i:=⟨_,rfl⟩
      rw[←ez]at x0
      rw[show ms.getD i.toNat z40=z from ez.symm]at HDM
      clear ez
      obtain⟨b1,hb1⟩:∃b,(z.f0 == 7)=b:=⟨_,rfl⟩
      have HB1:=AK hb1
      obtain⟨b2,hb2⟩:∃b,decide ((es.length:Int)≤k)=b:=⟨_,rfl⟩
      have HB2:=AK hb2
      cases b1
      · as_aux_lemma =>
          obtain⟨e,es',t,sa',u,sb',h1,h2,h3,h4,h5⟩:=al_next (m:=z) (ms:=ms.drop (i+1).toNat) (show Al Ya Yb (es.drop k.toNat) (z :: ms.drop (i+1).toNat) (sa.drop k.toNat) (sb.drop i.toNat)from by rw[←HDM.out];exact HAL.out) (fun h=>by have h1:=HB1.out;have h2:=h.1;simp[h2]at h1)
          have hk1:k.toNat<es.length:=by
            by_cases h:k.toNat<es.length
            · exact h
            · rw[List.drop_eq_nil_of_le (by omega)]at h1;cases h1
          have HKL:=AK (show k<es.length by have:=HJ.out;omega)
          have HA2:=AK (show Al Ya Yb (es.drop (k+1).toNat) (ms.drop (i+1).toNat) (sa.drop (k+1).toNat) (sb.drop (i+1).toNat)from by
            have q1:(k+1).toNat=k.toNat+1:=by have:=HJ.out;omega
            have q2:(i+1).toNat=i.toNat+1:=by have:=HJ.out;omega
            rw[q1,drop_tail h1,drop_tail h2]
            rw[show (sb.drop (i+1).toNat)=sb' by rw[q2];exact drop_tail h3]
            exact h5)
          obtain⟨ap,e5,y1⟩:=Kd.at_string HT.out k (by have:=HJ.out;omega) (by have:=HKL.out;have:=HSL.out.1;omega)
          obtain⟨al,e6,y2⟩:=Kd.at_string HT2.out i (by have:=HJ.out;omega) (by have:=HJ.out;have:=HSL.out.2;omega)
          subst e5 e6
          rw[show rdOf ByteArray.empty sa k=t from drop_head h2]at y1
          rw[show rdOf ByteArray.empty sb i=u from drop_head h3]at y2
          have d1:decide ((sa.length:Int)≤k)=false:=deF (by have:=HKL.out;have:=HSL.out.1;omega)
          have d2:(u.toList == t.toList)=true:=by rw[h4];simp
          have d3:=eq_true (show 0≤k by have:=HJ.out;omega)
          have d4:=eq_true (show k<(sa.length:Int)by have:=HKL.out;have:=HSL.out.1;omega)
          have d5:=eq_true (show i<(sb.length:Int)by have:=HJ.out;have:=HSL.out.2;omega)
          clear h1 h2 h3 h4 h5 hk1
          go_wp2_with fail
          go_quiet (fail)
          have hb:Below wr.heap.size wr (wr.drewN nq):=pw_below_drewN (Below.refl _ _) nq
          replace HB:=AK (bst HB.out hb)
          replace HK:=AK (Kd.C_below HK.out hb)
          replace HMS:=AK (Kd.C_below HMS.out hb)
          replace HU:=AK (HU.out.below hb)
          replace HT:=AK (Kd.C_below HT.out hb)
          replace HP:=AK (bbl HP.out hb)
          replace HV:=AK (HV.out.below hb)
          replace HT2:=AK (Kd.C_below HT2.out hb)
          replace HQ:=AK (bbl HQ.out hb)
          clear hb
          go_wp2
          go_roundg k1
          case measure=>omega
          case rel=>
            rw[wrap_succ k (by have:=HJ.out;omega) (by have:=HKL.out;have:=HE.out.1;omega),wrap_succ i (by have:=HJ.out;omega) (by have:=HJ.out;have:=HM.out.1;omega)]
            exact⟨k+1,i+1,rfl,rfl,⟨by have:=HJ.out;omega,by have:=HJ.out;omega,by have:=HJ.out;omega,by have:=HKL.out;omega⟩,HA2,HB,HK,HMS,HU,HT,HP,HV,HT2,HQ⟩
      cases b2
      · as_aux_lemma =>
          have k0:=eq_true (show 0≤k by have:=HJ.out;omega)
          have kl:=eq_true (show k<(es.length:Int)by have:=of_decide_eq_false HB2.out;omega)
          obtain⟨ak,F2,f2,e2,v0,_⟩:=at_T40 HK.out k (by have:=HJ.out;omega) (by have:=of_decide_eq_false HB2.out;omega)
          subst e2
          have HDE:=AK (drop_cons es z40 k (by have:=HJ.out;omega) (by have:=of_decide_eq_false HB2.out;omega))
          obtain⟨y,ey⟩:∃y,y=rd_T40 es k:=⟨_,rfl⟩
          rw[←ey]at v0
          rw[show es.getD k.toNat z40=y from ey.symm]at HDE
          clear ey
          obtain⟨b3,hb3⟩:∃b,(y.f0 != 7)=b:=⟨_,rfl⟩
          have HB3:=AK hb3
          cases b3
          · skip
            obtain⟨e,es',t,sa',u,sb',h1,h2,h3,h4,h5⟩:=al_next (m:=z) (ms:=ms.drop (i+1).toNat) (show Al Ya Yb (es.drop k.toNat) (z :: ms.drop (i+1).toNat) (sa.drop k.toNat) (sb.drop i.toNat)from by rw[←HDM.out];exact HAL.out) (fun h=>by have h1:=h.2 _ _ HDE.out;have h2:=HB3.out;simp[h1]at h2)
            have hk1:k.toNat<es.length:=by
              by_cases h:k.toNat<es.length
              · exact h
              · rw[List.drop_eq_nil_of_le (by omega)]at h1;cases h1
            have HKL:=AK (show k<es.length by have:=HJ.out;omega)
            have HA2:=AK (show Al Ya Yb (es.drop (k+1).toNat) (ms.drop (i+1).toNat) (sa.drop (k+1).toNat) (sb.drop (i+1).toNat)from by
              have q1:(k+1).toNat=k.toNat+1:=by have:=HJ.out;omega
              have q2:(i+1).toNat=i.toNat+1:=by have:=HJ.out;omega
              rw[q1,drop_tail h1,drop_tail h2]
              rw[show (sb.drop (i+1).toNat)=sb' by rw[q2];exact drop_tail h3]
              exact h5)
            obtain⟨ap,e5,y1⟩:=Kd.at_string HT.out k (by have:=HJ.out;omega) (by have:=HKL.out;have:=HSL.out.1;omega)
            obtain⟨al,e6,y2⟩:=Kd.at_string HT2.out i (by have:=HJ.out;omega) (by have:=HJ.out;have:=HSL.out.2;omega)
            subst e5 e6
            rw[show rdOf ByteArray.empty sa k=t from drop_head h2]at y1
            rw[show rdOf ByteArray.empty sb i=u from drop_head h3]at y2
            have d1:decide ((sa.length:Int)≤k)=false:=deF (by have:=HKL.out;have:=HSL.out.1;omega)
            have d2:(u.toList == t.toList)=true:=by rw[h4];simp
            have d3:=eq_true (show 0≤k by have:=HJ.out;omega)
            have d4:=eq_true (show k<(sa.length:Int)by have:=HKL.out;have:=HSL.out.1;omega)
            have d5:=eq_true (show i<(sb.length:Int)by have:=HJ.out;have:=HSL.out.2;omega)
            clear h1 h2 h3 h4 h5 hk1
            go_wp2_with fail
            go_quiet (fail)
            have hb:Below wr.heap.size wr (wr.drewN nq):=pw_below_drewN (Below.refl _ _) nq
            replace HB:=AK (bst HB.out hb)
            replace HK:=AK (Kd.C_below HK.out hb)
            replace HMS:=AK (Kd.C_below HMS.out hb)
            replace HU:=AK (HU.out.below hb)
            replace HT:=AK (Kd.C_below HT.out hb)
            replace HP:=AK (bbl HP.out hb)
            replace HV:=AK (HV.out.below hb)
            replace HT2:=AK (Kd.C_below HT2.out hb)
            replace HQ:=AK (bbl HQ.out hb)
            clear hb
            go_wp2
            go_roundg k1
            case measure=>omega
            case rel=>
              rw[wrap_succ k (by have:=HJ.out;omega) (by have:=HKL.out;have:=HE.out.1;omega),wrap_succ i (by have:=HJ.out;omega) (by have:=HJ.out;have:=HM.out.1;omega)]
              exact⟨k+1,i+1,rfl,rfl,⟨by have:=HJ.out;omega,by have:=HJ.out;omega,by have:=HJ.out;omega,by have:=HKL.out;omega⟩,HA2,HB,HK,HMS,HU,HT,HP,HV,HT2,HQ⟩
          · skip
            have HA2:=AK (show Al Ya Yb (es.drop k.toNat) (ms.drop (i+1).toNat) (sa.drop k.toNat) (sb.drop (i+1).toNat)from by
              have h:=HAL.out
              rw[HDM.out]at h
              obtain⟨t,sb',h1,h2⟩:=al_skip h (by have:=HB1.out;simpa using this) (fun e es' he=>by have h1:=HDE.out;rw[h1]at he;injection he with he _;rw[←he];have h2:=HB3.out;simpa using h2)
              rw[show (i+1).toNat=i.toNat+1 by have:=HJ.out;omega,drop_tail h1]
              rw[show (i+1).toNat=i.toNat+1 by have:=HJ.out;omega]at h2
              exact h2)
            go_wp2
            go_roundg k1
            case measure=>omega
            case rel=>
              rw[wrap_succ i (by have:=HJ.out;omega) (by have:=HJ.out;have:=HM.out.1;omega)]
              exact⟨k,i+1,rfl,rfl,⟨by have:=HJ.out;omega,by have:=HJ.out;omega,by have:=HJ.out;omega,by have:=HJ.out;omega⟩,HA2,HB,HK,HMS,HU,HT,HP,HV,HT2,HQ⟩
      · as_aux_lemma =>
          have HA2:=AK (show Al Ya Yb (es.drop k.toNat) (ms.drop (i+1).toNat) (sa.drop k.toNat) (sb.drop (i+1).toNat)from by
            have h:=HAL.out
            rw[HDM.out]at h
            obtain⟨t,sb',h1,h2⟩:=al_skip h (by have:=HB1.out;simpa using this) (fun e es' he=>by have h1:=of_decide_eq_true HB2.out;rw[List.drop_eq_nil_of_le (by have:=HJ.out;omega)]at he;cases he)
            rw[show (i+1).toNat=i.toNat+1 by have:=HJ.out;omega,drop_tail h1]
            rw[show (i+1).toNat=i.toNat+1 by have:=HJ.out;omega]at h2
            exact h2)
          go_wp2
          go_roundg k1
          case measure=>omega
          case rel=>
            rw[wrap_succ i (by have:=HJ.out;omega) (by have:=HJ.out;have:=HM.out.1;omega)]
            exact⟨k,i+1,rfl,rfl,⟨by have:=HJ.out;omega,by have:=HJ.out;omega,by have:=HJ.out;omega,by have:=HJ.out;omega⟩,HA2,HB,HK,HMS,HU,HT,HP,HV,HT2,HQ⟩
end
end Go.Proofs.Ytigjhfijkdlldaa.H
