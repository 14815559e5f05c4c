import Derived.Test.YtigjhfijkdlldaaSfpDk
namespace Go.Proofs.Ytigjhfijkdlldaa.H
open Go.RowKit Go.Proofs.YtigjhfijkdlldaaW.PrintWords Go.Proofs.YtigjhfijkdlldaaW.PrintLast Go.Proofs.YtigjhfijkdlldaaW.PrintMore Go.Proofs.Ytigjhfijkdlldaa.Q
set_option linter.unusedVariables false
set_option linter.unusedSimpArgs false
theorem open_v {v w:World} {A:Option Addr} {c:Nat} {code:List Int} (hB:Below v.heap.size v w) (hr:Kd.C (Kd.int .u8) v A code.length code) (hc:code.length≤c) (hb:∀b∈code,0≤b∧b<256) :
    Calls Try.prog 60 #[.slice A code.length c] w fun e w'=>∃g:Nat,e=.returned (.pointer (some ⟨g,0,none⟩))∧Rdr v w' g 0∧Below v.heap.size v w'∧Below w.heap.size w w':=by
  have hf:∃bs,spec_l1Open.f code=some (bs,0)∧∀b∈bs,0≤b∧b<256:=by
    unfold spec_l1Open.f
    by_cases d:(code.length:Int) > 2000
    · rw[if_pos d,if_pos (by omega)]
      exact⟨_,rfl,fun b h=>hb b (List.mem_of_mem_take h)⟩
    · rw[if_neg d]
      exact⟨_,rfl,hb⟩
  obtain⟨bs,hf,hb2⟩:=hf
  refine(spec_l1Open.calls A c code bs 0 v w hB hr hc hf).mono ?_
  rintro e w' ⟨g,rfl,hi,hb3,hb4⟩
  exact⟨g,rfl,⟨bs,0,hi,⟨by omega,by omega⟩,hb2⟩,hb3,hb4⟩
structure SB (w0:World) (g n5 n6:Nat) (P:Int) (A0:Option Addr) (c0:Nat) (A1:Option Addr) (c1:Nat) (A2:Option Addr) (c2:Nat) (A3:Option Addr) (c3:Nat) (G:Hp) (e:S40) (F:Option Addr) (f:Nat) (w:World):Prop where
  h:HW w0 w0 g P w0.heap.size n5 A0 c0 A1 c1 A2 c2 A3 c3 G w
  x3:w.heap[w0.heap.size+1]?=some (.cells zevC 40 (0,0))
  x6:w.heap[n6]?=some (.cells #[.int .i64 e.f0,.int .i64 e.f1,.int .i64 e.f2,.int .i64 e.f3,.int .i64 e.f4.f0,.string e.f4.f1,.slice F e.f4.f2.length f] 40 (0,0))
  m:Kd.R (Kd.int .i64) 3 w w0.heap.size (fun _=>True) (.slice F e.f4.f2.length f) e.f4.f2
  l6:w0.heap.size+1<n6
section
variable {w0 w w1:World} {g n5 n6:Nat} {P:Int} {A0 A1 A2 A3 F:Option Addr} {c0 c1 c2 c3 f:Nat} {G:Hp} {e:S40}
theorem SB.below (s:SB w0 g n5 n6 P A0 c0 A1 c1 A2 c2 A3 c3 G e F f w) (hb:Below w.heap.size w w1):SB w0 g n5 n6 P A0 c0 A1 c1 A2 c2 A3 c3 G e F f w1:=
  ⟨s.h.below hb,bbl s.x3 hb,bbl s.x6 hb,Kd.R_below s.m hb,s.l6⟩
theorem SB.more {Q:Int} (s:SB w0 g n5 n6 P A0 c0 A1 c1 A2 c2 A3 c3 G e F f w) (hq:P≤Q):SB w0 g n5 n6 Q A0 c0 A1 c1 A2 c2 A3 c3 G e F f w:=⟨s.h.more hq,s.x3,s.x6,s.m,s.l6⟩
theorem SB.pick {Q:Int} (s:SB w0 g n5 n6 P A0 c0 A1 c1 A2 c2 A3 c3 G e F f w) (hr:Rdr w0 w1 g Q) (hb:Below w0.heap.size w0 w1) (hk:KeepBut w w1 g none):SB w0 g n5 n6 Q A0 c0 A1 c1 A2 c2 A3 c3 G e F f w1:=
  ⟨s.h.pick hr hb hk,s.h.r.blk hk s.x3 (by decide),s.h.r.blk hk s.x6 (by decide),s.h.r.R hk s.m (int_ap 121 (by decide)),s.l6⟩
theorem blk_row {w w1:World} {k t e:Nat} {cs:Array Value} {row:Option Nat} (hx:w.heap[k]?=some (.cells cs t (0,0))) (hg:w.grownBy w1 row) (hty:∀j,row=some j→∃cells,w.heap[j]?=some (.cells cells e (0,0))) (hne:t≠e):w1.heap[k]?=some (.cells cs t (0,0)):=
  blk_grown hx hg fun h=>by
    obtain⟨cells,hc⟩:=hty k h.symm
    exact blk_ne hx hc hne rfl
theorem SB.pushO (s:SB w0 g n5 n6 P A0 c0 A1 c1 A2 c2 A3 c3 G e F f w) {O2:List S38} {B:Option Addr} {c:Nat} (hr:Kd.S k38 38 w1 w0.heap.size (fun k=>some k≠(Value.slice A1 G.r.length c1).ownBlock) (.slice B O2.length c) O2)
    (hg:w.grownBy w1 (Value.slice A0 G.o.length c0).ownBlock):SB w0 g n5 n6 P B c A1 c1 A2 c2 A3 c3 ⟨O2,G.r,G.w,G.d⟩ e F f (w1.setCell ⟨n5,0,none⟩ (.slice B O2.length c)):=by
  have hty:=Kd.S_typed s.h.O.s0
  have hxb:=blk_row s.h.xb hg hty (by decide)
  have h3:=blk_row s.x3 hg hty (by decide)
  have h6:=blk_row s.x6 hg hty (by decide)
  exact⟨s.h.pushO hr hg,blk_far h3 (p:=⟨n5,0,none⟩) (blk_ne h3 hxb (by decide)) _,blk_far h6 (p:=⟨n5,0,none⟩) (blk_ne h6 hxb (by decide)) _,Kd.R_set (Kd.R_over' s.m hty (by decide) hg) hxb (int_ap 28 (by decide)) 0 _,s.l6⟩
theorem SB.pushW (s:SB w0 g n5 n6 P A0 c0 A1 c1 A2 c2 A3 c3 G e F f w) {W2:List S60} {B:Option Addr} {c:Nat} (hr:Kd.R k60 60 w1 w0.heap.size (fun k=>some k≠(Value.slice A3 G.d.length c3).ownBlock) (.slice B W2.length c) W2)
    (hg:w.grownBy w1 (Value.slice A2 G.w.length c2).ownBlock) (hat:(Value.slice B W2.length c).ownBlock=(Value.slice A2 G.w.length c2).ownBlock∨∃b,(Value.slice B W2.length c).ownBlock=some b∧w.heap.size≤b) :
    SB w0 g n5 n6 P A0 c0 A1 c1 B c A3 c3 ⟨G.o,G.r,W2,G.d⟩ e F f (w1.setCell ⟨n5,2,none⟩ (.slice B W2.length c)):=by
  have hty:=Kd.R_typed s.h.O.s2
  have hxb:=blk_row s.h.xb hg hty (by decide)
  have h3:=blk_row s.x3 hg hty (by decide)
  have h6:=blk_row s.x6 hg hty (by decide)
  exact⟨s.h.pushW hr hg hat,blk_far h3 (p:=⟨n5,2,none⟩) (blk_ne h3 hxb (by decide)) _,blk_far h6 (p:=⟨n5,2,none⟩) (blk_ne h6 hxb (by decide)) _,Kd.R_set (Kd.R_over' s.m hty (by decide) hg) hxb (int_ap 28 (by decide)) 2 _,s.l6⟩
end
theorem HW.put {w0 w:World} {g nr nb:Nat} {P:Int} {A0 A1 A2 A3 U0 U1 U2 U3:Option Addr} {c0 c1 c2 c3 s0 s1 s2 s3:Nat} {G T:Hp} (h:HW w0 w0 g P nr nb A0 c0 A1 c1 A2 c2 A3 c3 G w) (ht:OwnG w w0.heap.size U0 s0 U1 s1 U2 s2 U3 s3 T):HW w0 w0 g P nr nb U0 s0 U1 s1 U2 s2 U3 s3 T (set4 w nb (.slice U0 T.o.length s0) (.slice U1 T.r.length s1) (.slice U2 T.w.length s2) (.slice U3 T.d.length s3)):=by
  have hne:g≠nb:=h.r.ne h.xb (by decide)
  have hlb:w0.heap.size≤nb:=by have:=h.lr;have:=h.lb;omega
  exact⟨set4_below h.b hlb,(((h.r.far (a:=⟨nb,0,none⟩) hne _).far (a:=⟨nb,1,none⟩) hne _).far (a:=⟨nb,2,none⟩) hne _).far (a:=⟨nb,3,none⟩) hne _,keep_far (keep_far (keep_far (keep_far h.k (p:=⟨nb,0,none⟩) hlb _) (p:=⟨nb,1,none⟩) hlb _) (p:=⟨nb,2,none⟩) hlb _) (p:=⟨nb,3,none⟩) hlb _,set4_far h.ob (by have:=h.lb;omega),set4_blk h.xb,h.vl,h.lr,h.lb,OwnH.set4 ht h.xb⟩
def set7 (w:World) (k:Nat) (a b c d e1 f1 h1:Value):World:=((((((w.setCell ⟨k,0,none⟩ a).setCell ⟨k,1,none⟩ b).setCell ⟨k,2,none⟩ c).setCell ⟨k,3,none⟩ d).setCell ⟨k,4,none⟩ e1).setCell ⟨k,5,none⟩ f1).setCell ⟨k,6,none⟩ h1
section
variable {w w1:World} {k:Nat} {a b c d e1 f1 h1:Value}
theorem set7_blk {q0 q1 q2 q3 q4 q5 q6:Value} (h:w.heap[k]?=some (.cells #[q0,q1,q2,q3,q4,q5,q6] 40 (0,0))):(set7 w k a b c d e1 f1 h1).heap[k]?=some (.cells #[a,b,c,d,e1,f1,h1] 40 (0,0)):=by
  have s0:(w.setCell ⟨k,0,none⟩ a).heap[k]?=some (.cells #[a,q1,q2,q3,q4,q5,q6] 40 (0,0)):=blk_put h 0 _ rfl
  have s1:((w.setCell ⟨k,0,none⟩ a).setCell ⟨k,1,none⟩ b).heap[k]?=some (.cells #[a,b,q2,q3,q4,q5,q6] 40 (0,0)):=blk_put s0 1 _ rfl
  have s2:(((w.setCell ⟨k,0,none⟩ a).setCell ⟨k,1,none⟩ b).setCell ⟨k,2,none⟩ c).heap[k]?=some (.cells #[a,b,c,q3,q4,q5,q6] 40 (0,0)):=blk_put s1 2 _ rfl
  have s3:((((w.setCell ⟨k,0,none⟩ a).setCell ⟨k,1,none⟩ b).setCell ⟨k,2,none⟩ c).setCell ⟨k,3,none⟩ d).heap[k]?=some (.cells #[a,b,c,d,q4,q5,q6] 40 (0,0)):=blk_put s2 3 _ rfl
  have s4:(((((w.setCell ⟨k,0,none⟩ a).setCell ⟨k,1,none⟩ b).setCell ⟨k,2,none⟩ c).setCell ⟨k,3,none⟩ d).setCell ⟨k,4,none⟩ e1).heap[k]?=some (.cells #[a,b,c,d,e1,q5,q6] 40 (0,0)):=blk_put s3 4 _ rfl
  have s5:((((((w.setCell ⟨k,0,none⟩ a).setCell ⟨k,1,none⟩ b).setCell ⟨k,2,none⟩ c).setCell ⟨k,3,none⟩ d).setCell ⟨k,4,none⟩ e1).setCell ⟨k,5,none⟩ f1).heap[k]?=some (.cells #[a,b,c,d,e1,f1,q6] 40 (0,0)):=blk_put s4 5 _ rfl
  have s6:(((((((w.setCell ⟨k,0,none⟩ a).setCell ⟨k,1,none⟩ b).setCell ⟨k,2,none⟩ c).setCell ⟨k,3,none⟩ d).setCell ⟨k,4,none⟩ e1).setCell ⟨k,5,none⟩ f1).setCell ⟨k,6,none⟩ h1).heap[k]?=some (.cells #[a,b,c,d,e1,f1,h1] 40 (0,0)):=blk_put s5 6 _ rfl
  exact s6
theorem set7_far {j t:Nat} {cs:Array Value} (h:w.heap[j]?=some (.cells cs t (0,0))) (hne:j≠k):(set7 w k a b c d e1 f1 h1).heap[j]?=some (.cells cs t (0,0)):=
  blk_far (blk_far (blk_far (blk_far (blk_far (blk_far (blk_far h (p:=⟨k,0,none⟩) hne a) (p:=⟨k,1,none⟩) hne b) (p:=⟨k,2,none⟩) hne c) (p:=⟨k,3,none⟩) hne d) (p:=⟨k,4,none⟩) hne e1) (p:=⟨k,5,none⟩) hne f1) (p:=⟨k,6,none⟩) hne h1
theorem set7_below {w0:World} (h:Below w0.heap.size w0 w) (hg:w0.heap.size≤k):Below w0.heap.size w0 (set7 w k a b c d e1 f1 h1):=below_set (below_set (below_set (below_set (below_set (below_set (below_set h hg) hg) hg) hg) hg) hg) hg
theorem set7_R {α:Type} {dk:Kd α} {e base:Nat} {ok:Nat→Prop} {v:Value} {xs:List α} {cs:Array Value} (h:dk.R e w base ok v xs) (hb:w.heap[k]?=some (.cells cs 40 (0,0))) (ht:∀q,q∈e :: dk.E→q≠40):dk.R e (set7 w k a b c d e1 f1 h1) base ok v xs:=
  Kd.R_set (Kd.R_set (Kd.R_set (Kd.R_set (Kd.R_set (Kd.R_set (Kd.R_set h hb ht 0 a) (blk_set hb 0 a) ht 1 b) (blk_set (blk_set hb 0 a) 1 b) ht 2 c) (blk_set (blk_set (blk_set hb 0 a) 1 b) 2 c) ht 3 d) (blk_set (blk_set (blk_set (blk_set hb 0 a) 1 b) 2 c) 3 d) ht 4 e1) (blk_set (blk_set (blk_set (blk_set (blk_set hb 0 a) 1 b) 2 c) 3 d) 4 e1) ht 5 f1) (blk_set (blk_set (blk_set (blk_set (blk_set (blk_set hb 0 a) 1 b) 2 c) 3 d) 4 e1) 5 f1) ht 6 h1
theorem set7_S {base:Nat} {ok:Nat→Prop} {v:Value} {xs:List S38} {cs:Array Value} (h:Kd.S k38 38 w base ok v xs) (hb:w.heap[k]?=some (.cells cs 40 (0,0))):Kd.S k38 38 (set7 w k a b c d e1 f1 h1) base ok v xs:=
  have ht:=k38_ap 40 (by decide) (by decide)
  Kd.S_set (Kd.S_set (Kd.S_set (Kd.S_set (Kd.S_set (Kd.S_set (Kd.S_set h hb ht 0 a) (blk_set hb 0 a) ht 1 b) (blk_set (blk_set hb 0 a) 1 b) ht 2 c) (blk_set (blk_set (blk_set hb 0 a) 1 b) 2 c) ht 3 d) (blk_set (blk_set (blk_set (blk_set hb 0 a) 1 b) 2 c) 3 d) ht 4 e1) (blk_set (blk_set (blk_set (blk_set (blk_set hb 0 a) 1 b) 2 c) 3 d) 4 e1) ht 5 f1) (blk_set (blk_set (blk_set (blk_set (blk_set (blk_set hb 0 a) 1 b) 2 c) 3 d) 4 e1) 5 f1) ht 6 h1
theorem OwnH.set7 {base:Nat} {A0 A1 A2 A3:Option Addr} {c0 c1 c2 c3:Nat} {l0:List S38} {l1:List Int} {l2 l3:List S60} (h:OwnH w base A0 c0 A1 c1 A2 c2 A3 c3 l0 l1 l2 l3) {cs:Array Value} (hb:w.heap[k]?=some (.cells cs 40 (0,0))):OwnH (H.set7 w k a b c d e1 f1 h1) base A0 c0 A1 c1 A2 c2 A3 c3 l0 l1 l2 l3:=
  ⟨set7_S h.s0 hb,set7_R h.s1 hb (int_ap 40 (by decide)),set7_R h.s2 hb (k60_ap 40 (by decide)),set7_R h.s3 hb (k60_ap 40 (by decide))⟩
end
theorem dstep10_tab:rtab .any (opsOf Try.f45 10)=(true,[([],[]),([0],[0]),([1],[1]),([],[]),([3],[3]),([4],[4]),([2,5],[2,5])]):=by kernel_rfl
theorem dstep10_bits:waitsOk [([],[]),([0],[0]),([1],[1]),([],[]),([3],[3]),([4],[4]),([2,5],[2,5])] [0,1,3,0,8,24,63]=true:=by kernel_rfl
theorem dstep15_tab:rtab .any (opsOf Try.f45 15)=(true,[([],[]),([],[]),([0,0],[0]),([1,2,0,1,2],[1])]):=by kernel_rfl
theorem dstep15_bits:waitsOk [([],[]),([],[]),([0,0],[0]),([1,2,0,1,2],[1])] [0,0,1,7]=true:=by kernel_rfl
theorem dstep8_tab:rtab .any (opsOf Try.f45 8)=(true,[([],[]),([],[]),([0,1],[0,1]),([],[]),([2,2,0,1,2],[2]),([3,4,0,1,2,3,4],[3])]):=by kernel_rfl
theorem dstep8_bits:waitsOk [([],[]),([],[]),([0,1],[0,1]),([],[]),([2,2,0,1,2],[2]),([3,4,0,1,2,3,4],[3])] [0,0,3,0,7,31]=true:=by kernel_rfl
theorem dstep13_tab:rtab .any (opsOf Try.f45 13)=(true,[([],[]),([0],[0]),([1],[1]),([2],[2]),([3],[3]),([4],[4]),([5,4],[4,5]),([6,4],[4,6]),([7,4],[4,7]),([8,4],[4,8]),([9,4],[4,9]),([4,10],[4,10]),([11,4],[11]),([12],[12]),([13,12],[12,13]),([14,12],[12,14]),([12],[12]),([16,12,12],[12,16]),([17,12],[12,17]),([15,18,12],[12,15,18]),([12,19],[12,19])]):=by kernel_rfl
theorem dstep13_bits:waitsOk [([],[]),([0],[0]),([1],[1]),([2],[2]),([3],[3]),([4],[4]),([5,4],[4,5]),([6,4],[4,6]),([7,4],[4,7]),([8,4],[4,8]),([9,4],[4,9]),([4,10],[4,10]),([11,4],[11]),([12],[12]),([13,12],[12,13]),([14,12],[12,14]),([12],[12]),([16,12,12],[12,16]),([17,12],[12,17]),([15,18,12],[12,15,18]),([12,19],[12,19])] [0,1,3,7,15,31,63,127,255,511,1023,2047,4095,8191,16383,32767,8191,73727,204799,524287,1048575]=true:=by kernel_rfl
theorem T38_first {w:World} {ado:Addr} {l:List S38} {z:Int} (ez:z=(rd_T38 l 0).f0) (h:Kd.C k38 w (some ado) l.length l) (hl:0<l.length):w.cell? ado=some (.int .i64 z):=by
  obtain⟨ad2,Ao,co,e0,x0,_,_,_,_⟩:=at_T38 h 0 (by omega) (by omega)
  injection e0 with e0
  subst e0
  simp only[Int.toNat_zero,Nat.zero_mul]at x0
  rw[show ado.add 0=ado from by cases ado;rfl]at x0
  rw[ez];exact x0
set_option maxHeartbeats 4000000 in
set_option maxRecDepth 100000 in
theorem drawStep_c {A:Option Addr} {c:Nat} {code:List Int} (w:World) (hr:Kd.C (Kd.int .u8) w A code.length code) (hc:code.length≤c) (hb:∀b∈code,0≤b∧b<256) :
    Calls Try.prog 45 #[.slice A code.length c] w fun en w'=>∃(R:Hp) (B0:Option Addr) (d0:Nat) (B1:Option Addr) (d1:Nat) (B2:Option Addr) (d2:Nat) (B3:Option Addr) (d3:Nat) (e:S40) (F:Option Addr) (f:Nat),en=.returned (.tuple #[.agg #[.slice B0 R.o.length d0,.slice B1 R.r.length d1,.slice B2 R.w.length d2,.slice B3 R.d.length d3],.agg #[.int .i64 e.f0,.int .i64 e.f1,.int .i64 e.f2,.int .i64 e.f3,.int .i64 e.f4.f0,.string e.f4.f1,.slice F e.f4.f2.length f]])∧(Fine R.o R.r R.w R.d∧TxH R)∧EvOk false e∧InH w' B0 d0 B1 d1 B2 d2 B3 d3 R.o R.r R.w R.d∧(e.f4.f2.length≤f∧Kd.C (Kd.int .i64) w' F e.f4.f2.length e.f4.f2)∧Below w.heap.size w w':=by
  have hb1:Below w.heap.size w ((w.alloc (.cells #[.slice none 0 0,.slice none 0 0,.slice none 0 0,.slice none 0 0] 28 (0,0))).alloc (.cells #[.int .i64 0,.int .i64 0,.int .i64 0,.int .i64 0,.int .i64 0,.string ⟨#[]⟩,.slice none 0 0] 40 (0,0))):=below_alloc (below_alloc (Below.refl w.heap.size w) _) _
  have HC:=AK (And.intro hr (And.intro hc hb))
  have HB:=AK hb1
  have HX:=AK (show ((w.alloc (.cells #[.slice none 0 0,.slice none 0 0,.slice none 0 0,.slice none 0 0] 28 (0,0))).alloc (.cells #[.int .i64 0,.int .i64 0,.int .i64 0,.int .i64 0,.int .i64 0,.string ⟨#[]⟩,.slice none 0 0] 40 (0,0))).heap[w.heap.size]?=some (.cells #[.slice none 0 0,.slice none 0 0,.slice none 0 0,.slice none 0 0] 28 (0,0))∧((w.alloc (.cells #[.slice none 0 0,.slice none 0 0,.slice none 0 0,.slice none 0 0] 28 (0,0))).alloc (.cells #[.int .i64 0,.int .i64 0,.int .i64 0,.int .i64 0,.int .i64 0,.string ⟨#[]⟩,.slice none 0 0] 40 (0,0))).heap[w.heap.size+1]?=some (.cells zevC 40 (0,0))from⟨blk_alloc (blk_new w _) _,blk_new1 w _ _⟩)
  clear hr hc hb hb1
  go_enter Try.func45,Try.ntmps45
  go_upto_region 1 with fail
  generalize hw1:((w.alloc (.cells #[.slice none 0 0,.slice none 0 0,.slice none 0 0,.slice none 0 0] 28 (0,0))).alloc (.cells #[.int .i64 0,.int .i64 0,.int .i64 0,.int .i64 0,.int .i64 0,.string ⟨#[]⟩,.slice none 0 0] 40 (0,0)))=w1
  replace HB:=AK (show Below w.heap.size w w1 by rw[←hw1];exact HB.out)
  replace HX:=AK (show w1.heap[w.heap.size]?=some (.cells #[.slice none 0 0,.slice none 0 0,.slice none 0 0,.slice none 0 0] 28 (0,0))∧w1.heap[w.heap.size+1]?=some (.cells zevC 40 (0,0))by rw[←hw1];exact HX.out)
  clear hw1
  go_wp2_with fail
  refine(open_v HB.out HC.out.1 HC.out.2.1 HC.out.2.2).mono ?_
  rintro en w2 ⟨g,rfl,hr,hb,hb2⟩
  have D:=AK (And.intro hr hb)
  replace HX:=AK (And.intro (bbl HX.out.1 hb2) (bbl HX.out.2 hb2))
  clear hr hb hb2
  go_wp2_with fail
  refine(l5Heap_c D.out.1 D.out.2 (by omega)).mono ?_
  rintro en w3 ⟨R,B0,d0,B1,d1,B2,d2,B3,d3,rfl,hg,hO,hr,hb,hk⟩
  have HG:=AK (And.intro (bdg_ok hg.1 hg.2) (show ∀p∈R.r,p<R.o.length from fun p hp=>((ok_parts hg.1).rs p hp).2))
  have O:=AK (hO.lower2 (show w.heap.size≤w2.heap.size from D.out.2.size))
  replace HX:=AK (And.intro (D.out.1.blk hk HX.out.1 (by decide)) (D.out.1.blk hk HX.out.2 (by decide)))
  replace D:=AK (And.intro (hr.more (show (0:Int)+1100≤1100 by omega)) hb)
  clear hg hO hr hb hk
  go_upto_region 3 with fail
  have K:=AK (show HW w w g 1100 w.heap.size w3.heap.size B0 d0 B1 d1 B2 d2 B3 d3 R (w3.alloc (.cells #[.slice B0 R.o.length d0,.slice B1 R.r.length d1,.slice B2 R.w.length d2,.slice B3 R.d.length d3] 28 (0,0)))from
    ⟨below_alloc D.out.2 _,D.out.1.below (below_alloc (Below.refl _ _) _),KeepBut.of_below (below_alloc D.out.2 _) g none,blk_alloc HX.out.1 _,blk_new w3 _,Nat.le_refl _,Nat.le_refl _,blk_lt HX.out.1,O.out.below (below_alloc (Below.refl _ _) _)⟩)
  have X3:=AK (blk_alloc HX.out.2 (.cells #[.slice B0 R.o.length d0,.slice B1 R.r.length d1,.slice B2 R.w.length d2,.slice B3 R.d.length d3] 28 (0,0)))
  clear O D HX HB HC
  generalize w3.alloc (.cells #[.slice B0 R.o.length d0,.slice B1 R.r.length d1,.slice B2 R.w.length d2,.slice B3 R.d.length d3] 28 (0,0))=w4 at K X3 ⊢
  generalize w3.heap.size=n5 at K ⊢
  go_wp2_with fail
  refine(pick_c 10 K.out.r K.out.b (by omega)).mono ?_
  rintro en w5 ⟨k,rfl,_,hr,hb,hk⟩
  replace X3:=AK (K.out.r.blk hk X3.out (by decide))
  replace K:=AK (K.out.pick hr hb hk)
  clear hr hb hk
  obtain⟨bk,hbk⟩:∃b,(k == 0)=b:=⟨_,rfl⟩
  go_upto_if 13 with fail
  go_cut [] (fun wc=>∃(R:Hp) (B0:Option Addr) (d0:Nat) (B1:Option Addr) (d1:Nat) (B2:Option Addr) (d2:Nat) (B3:Option Addr) (d3:Nat),Aside0 (BdG R∧∀p∈R.r,p<R.o.length)∧Aside0 (wc.heap[w.heap.size+1]?=some (.cells zevC 40 (0,0)))∧Aside0 (HW w w g 1400 w.heap.size n5 B0 d0 B1 d1 B2 d2 B3 d3 R wc))
  case first=>
    cases bk
    · go_wp2
      go_meet
      case rel=>exact⟨R,B0,d0,B1,d1,B2,d2,B3,d3,HG,X3,⟨K.out.more (by omega)⟩⟩
    · go_wp2_with fail
      refine(l5Many_c K.out.r K.out.b (by omega)).mono ?_
      rintro en w6 ⟨T,U0,s0,U1,s1,U2,s2,U3,s3,rfl,hg,hO,hr,hb,hk⟩
      have HT:=AK hg
      have OT:=AK (hO.lower2 (show w.heap.size≤w5.heap.size from K.out.b.size))
      replace X3:=AK (K.out.r.blk hk X3.out (by decide))
      replace K:=AK (K.out.pick hr hb hk)
      clear hg hO hr hb hk
      have K2:=AK (K.out.put OT.out)
      have X32:=AK (set4_far (g:=n5) (a:=.slice U0 T.o.length s0) (b:=.slice U1 T.r.length s1) (c:=.slice U2 T.w.length s2) (d:=.slice U3 T.d.length s3) X3.out (blk_ne X3.out K.out.xb (by decide)))
      obtain⟨z0,z1,z2,z3⟩:=box4 (show w6.heap[n5]?=some (Obj.cells #[.slice B0 R.o.length d0,.slice B1 R.r.length d1,.slice B2 R.w.length d2,.slice B3 R.d.length d3] 28 (0,0))from K.out.xb)
      have y0:=bfz K.out.xb 0
      have y1:=bfz K.out.xb 1
      have y2:=bfz K.out.xb 2
      have y3:=bfz K.out.xb 3
      go_wp2
      clear z0 z1 z2 z3 y0 y1 y2 y3
      go_meet
      case rel=>exact⟨T,U0,s0,U1,s1,U2,s2,U3,s3,HT,X32,⟨K2.out.more (by omega)⟩⟩
  case rest=>
    clear HG K X3 hbk
    obtain⟨R,B0,d0,B1,d1,B2,d2,B3,d3,HG,X3,K⟩:=hcut
    obtain⟨p0,p1,p2,p3⟩:=box4 (show wc.heap[n5]?=some (Obj.cells #[.slice B0 R.o.length d0,.slice B1 R.r.length d1,.slice B2 R.w.length d2,.slice B3 R.d.length d3] 28 (0,0))from K.out.xb)
    go_wp2_with fail
    clear p0 p1 p2 p3
    refine(l5Draw_c K.out.r K.out.b (by omega) K.out.O (by have:=HG.out.1.r;omega) HG.out.2 false).mono ?_
    rintro en w6 ⟨e,F,f,rfl,he1,he2,he3,he4,hr,hb,hk⟩
    have HE:=AK (show EvOk false e from⟨he1,he2,he3⟩)
    have HF:=AK (Kd.R_lower (base':=w.heap.size) he4 K.out.b.size)
    replace X3:=AK (K.out.r.blk hk X3.out (by decide))
    replace K:=AK (K.out.pick hr hb hk)
    clear hr hb hk he1 he2 he3 he4
    unfold evC
    go_upto_region 6 with fail
    have SS:=AK (show SB w g n5 w6.heap.size 1500 B0 d0 B1 d1 B2 d2 B3 d3 R e F f (w6.alloc (.cells #[.int .i64 e.f0,.int .i64 e.f1,.int .i64 e.f2,.int .i64 e.f3,.int .i64 e.f4.f0,.string e.f4.f1,.slice F e.f4.f2.length f] 40 (0,0)))from
      ⟨(K.out.more (by omega)).below (below_alloc (Below.refl _ _) _),blk_alloc X3.out _,blk_new w6 _,Kd.R_alloc HF.out _,blk_lt X3.out⟩)
    clear K X3 HF
    generalize w6.alloc (.cells #[.int .i64 e.f0,.int .i64 e.f1,.int .i64 e.f2,.int .i64 e.f3,.int .i64 e.f4.f0,.string e.f4.f1,.slice F e.f4.f2.length f] 40 (0,0))=w7 at SS ⊢
    generalize w6.heap.size=n6 at SS ⊢
    go_wp2_with fail
    refine(pick_c 20 SS.out.h.r SS.out.h.b (by omega)).mono ?_
    rintro en w8 ⟨k,rfl,hk0,hr,hb,hk⟩
    replace SS:=AK (SS.out.pick hr hb hk)
    have HK0:=AK hk0
    clear hr hb hk hk0
    go_upto_block 0 with fail
    go_cut [] (fun wc=>∃(R:Hp) (B0:Option Addr) (d0:Nat) (B1:Option Addr) (d1:Nat) (B2:Option Addr) (d2:Nat) (B3:Option Addr) (d3:Nat),Aside0 (Fine R.o R.r R.w R.d∧TxH R)∧Aside0 (SB w g n5 n6 9000 B0 d0 B1 d1 B2 d2 B3 d3 R e F f wc))
    case first=>
      rcases(show k=0∨k=1∨k=2∨3≤k by have:=HK0.out.1;omega)with h|h|h|h
      · subst h
        go_upto_region 8 with fail
        replace SS:=AK (SS.out.below (below_drew1 (Below.refl _ _)))
        refine start_ (n:=6) (S:=(fun w'=>(w'.cell? ⟨n5,0,none⟩=some (.slice B0 R.o.length d0)∧w'.cell? ⟨n5,1,none⟩=some (.slice B1 R.r.length d1)∧w'.cell? ⟨n5,2,none⟩=some (.slice B2 R.w.length d2)∧w'.cell? ⟨n5,3,none⟩=some (.slice B3 R.d.length d3))∧w'.cell? ⟨n6,0,none⟩=some (.int .i64 e.f0)∧w'.cell? ⟨n6,1,none⟩=some (.int .i64 e.f1)∧w'.cell? ⟨n6,2,none⟩=some (.int .i64 e.f2)∧w'.cell? ⟨n6,3,none⟩=some (.int .i64 e.f3)∧w'.cell? ⟨n6,4,none⟩=some (.int .i64 e.f4.f0)∧w'.cell? ⟨n6,5,none⟩=some (.string e.f4.f1)∧w'.cell? ⟨n6,6,none⟩=some (.slice F e.f4.f2.length f))) (ds:=[]) #[fF,fF,fF,fF,fF,fF] (by kernel_rfl) rfl rfl ⟨box4 SS.out.h.xb,box7 SS.out.x6⟩ (fun hHeld=>?_);refine with_tabW dstep8_tab dstep8_bits (fun HT_ HW_=>?_)
        generalize World.drew w8=v5 at SS hHeld ⊢
        refine pU HT_ 0 (some 23) (bM 6 1) ?_
        refine tU HT_ HW_ 1 (some 24) (bM 6 3) hHeld rfl (by refine Or.inl ⟨by rfl,?_⟩;rintro w' ⟨⟨a_0,a_1,a_2,a_3⟩,b_0,b_1,b_2,b_3,b_4,b_5,b_6⟩;go_simp;with_reducible rfl) ?_
        refine tU HT_ HW_ 3 (some 26) (bM 6 11) hHeld rfl (by refine Or.inl ⟨by rfl,?_⟩;rintro w' ⟨⟨a_0,a_1,a_2,a_3⟩,b_0,b_1,b_2,b_3,b_4,b_5,b_6⟩;go_simp;with_reducible rfl) ?_
        refine one_ (i:=2) (N:=some 25) (bM 6 15) rfl rfl (one_of HT_.out (by kernel_rfl)) (by decide) (fun K hK=>?_)
        refine goes_ Try.func105 (by kernel_rfl) rfl #[.pointer (some ⟨g,0,none⟩),.agg #[.slice B0 R.o.length d0,.slice B1 R.r.length d1,.slice B2 R.w.length d2,.slice B3 R.d.length d3]] (by rfl) rfl rfl zI ?_
        refine(l5Spoil_c SS.out.h.r SS.out.h.b (by omega) SS.out.h.O.reads HG.out.1).mono ?_
        rintro en v6 ⟨T,U0,s0,U1,s1,U2,s2,U3,s3,rfl,hg,hO,hr,hb,hk⟩
        refine⟨_,rfl,?_⟩
        have HT:=AK hg
        have OO:=AK (hO.lower2 (show w.heap.size≤v5.heap.size from SS.out.h.b.size))
        replace SS:=AK (SS.out.pick hr hb hk)
        clear hg hO hr hb hk
        have HB:=AK SS.out.h.b
        have HM:=AK SS.out.m
        have HY2:=AK SS.out.h.ob
        have HY3:=AK SS.out.x3
        have X5:=AK SS.out.h.xb
        have X6:=AK SS.out.x6
        have HN:=AK (show w.heap.size<n5∧w.heap.size+1<n6∧w.heap.size≠n6∧n5≠w.heap.size+1 from⟨SS.out.h.lb,SS.out.l6,by have:=SS.out.l6;omega,blk_ne SS.out.h.xb SS.out.x3 (by decide)⟩)
        clear SS
        refine hK.out _ _ ⟨box4 X5.out,box7 X6.out⟩ (fun hHeld=>?_)
        clear hK K
        refine nO (some 25) ?_
        refine one_ (i:=4) (N:=none) (bM 6 31) rfl rfl (one_of HT_.out (by kernel_rfl)) (by decide) (fun K hK=>?_)
        obtain⟨z0,z1,z2,z3⟩:=box4 (show v6.heap[w.heap.size]?=some (Obj.cells #[.slice none 0 0,.slice none 0 0,.slice none 0 0,.slice none 0 0] 28 (0,0))from HY2.out)
        have y0:=bfz HY2.out 0
        have y1:=bfz HY2.out 1
        have y2:=bfz HY2.out 2
        have y3:=bfz HY2.out 3
        refine skip_ (w1:=?_) (by rfl) rfl ?_ ?_
        rotate_left
        · go_simp
          rfl
        clear z0 z1 z2 z3 y0 y1 y2 y3
        have hw8:((((v6.setCell ⟨w.heap.size,0,none⟩ (.slice U0 T.o.length s0)).setCell ⟨w.heap.size,1,none⟩ (.slice U1 T.r.length s1)).setCell ⟨w.heap.size,2,none⟩ (.slice U2 T.w.length s2)).setCell ⟨w.heap.size,3,none⟩ (.slice U3 T.d.length s3))=(set4 v6 w.heap.size (.slice U0 T.o.length s0) (.slice U1 T.r.length s1) (.slice U2 T.w.length s2) (.slice U3 T.d.length s3)):=rfl
        rw[hw8]
        clear hw8
        have N1:=AK (show Below w.heap.size w (set4 v6 w.heap.size (.slice U0 T.o.length s0) (.slice U1 T.r.length s1) (.slice U2 T.w.length s2) (.slice U3 T.d.length s3))from set4_below HB.out (Nat.le_refl _))
        have N2:=AK (show OwnG (set4 v6 w.heap.size (.slice U0 T.o.length s0) (.slice U1 T.r.length s1) (.slice U2 T.w.length s2) (.slice U3 T.d.length s3)) w.heap.size U0 s0 U1 s1 U2 s2 U3 s3 T from OwnH.set4 OO.out HY2.out)
        have N3:=AK (show Kd.R (Kd.int .i64) 3 (set4 v6 w.heap.size (.slice U0 T.o.length s0) (.slice U1 T.r.length s1) (.slice U2 T.w.length s2) (.slice U3 T.d.length s3)) w.heap.size (fun _=>True) (.slice F e.f4.f2.length f) e.f4.f2 from set4_R HM.out HY2.out (int_ap 28 (by decide)))
        have N4:=AK (show (set4 v6 w.heap.size (.slice U0 T.o.length s0) (.slice U1 T.r.length s1) (.slice U2 T.w.length s2) (.slice U3 T.d.length s3)).heap[w.heap.size]?=some (.cells #[.slice U0 T.o.length s0,.slice U1 T.r.length s1,.slice U2 T.w.length s2,.slice U3 T.d.length s3] 28 (0,0))from set4_blk HY2.out)
        have N5:=AK (show (set4 v6 w.heap.size (.slice U0 T.o.length s0) (.slice U1 T.r.length s1) (.slice U2 T.w.length s2) (.slice U3 T.d.length s3)).heap[w.heap.size+1]?=some (.cells zevC 40 (0,0))from set4_far HY3.out (by omega))
        have N6:=AK (show (set4 v6 w.heap.size (.slice U0 T.o.length s0) (.slice U1 T.r.length s1) (.slice U2 T.w.length s2) (.slice U3 T.d.length s3)).heap[n5]?=some (.cells #[.slice B0 R.o.length d0,.slice B1 R.r.length d1,.slice B2 R.w.length d2,.slice B3 R.d.length d3] 28 (0,0))from set4_far X5.out (by have:=HN.out;omega))
        have N7:=AK (show (set4 v6 w.heap.size (.slice U0 T.o.length s0) (.slice U1 T.r.length s1) (.slice U2 T.w.length s2) (.slice U3 T.d.length s3)).heap[n6]?=some (.cells #[.int .i64 e.f0,.int .i64 e.f1,.int .i64 e.f2,.int .i64 e.f3,.int .i64 e.f4.f0,.string e.f4.f1,.slice F e.f4.f2.length f] 40 (0,0))from set4_far X6.out (by have:=HN.out;omega))
        clear HB OO HM HY2 HY3 X5 X6
        generalize (set4 v6 w.heap.size (.slice U0 T.o.length s0) (.slice U1 T.r.length s1) (.slice U2 T.w.length s2) (.slice U3 T.d.length s3))=v9 at N1 N2 N3 N4 N5 N6 N7 ⊢
        have HB:=N1
        have OO:=N2
        have HM:=N3
        have HY2:=N4
        have HY3:=N5
        have X5:=N6
        have X6:=N7
        clear N1 N2 N3 N4 N5 N6 N7
        refine hK.out _ _ ⟨box4 X5.out,box7 X6.out⟩ (fun hHeld=>?_)
        clear hK K
        refine one_ (i:=5) (N:=none) (bM 6 63) rfl rfl (one_of HT_.out (by kernel_rfl)) (by decide) (fun K hK=>?_)
        obtain⟨z0,z1,z2,z3,z4,z5,z6⟩:=box7 (show v9.heap[w.heap.size+1]?=some (Obj.cells #[.int .i64 0,.int .i64 0,.int .i64 0,.int .i64 0,.int .i64 0,.string ⟨#[]⟩,.slice none 0 0] 40 (0,0))from HY3.out)
        have y0:=bfz HY3.out 0
        have y1:=bfz HY3.out 1
        have y2:=bfz HY3.out 2
        have y3:=bfz HY3.out 3
        have y4:=bfz HY3.out 4
        have y5:=bfz HY3.out 5
        have y6:=bfz HY3.out 6
        refine skip_ (w1:=?_) (by rfl) rfl ?_ ?_
        rotate_left
        · go_simp
          rfl
        clear z0 z1 z2 z3 z4 z5 z6 y0 y1 y2 y3 y4 y5 y6
        have hw8:(((((((v9.setCell ⟨w.heap.size+1,0,none⟩ (.int .i64 e.f0)).setCell ⟨w.heap.size+1,1,none⟩ (.int .i64 e.f1)).setCell ⟨w.heap.size+1,2,none⟩ (.int .i64 e.f2)).setCell ⟨w.heap.size+1,3,none⟩ (.int .i64 e.f3)).setCell ⟨w.heap.size+1,4,none⟩ (.int .i64 e.f4.f0)).setCell ⟨w.heap.size+1,5,none⟩ (.string e.f4.f1)).setCell ⟨w.heap.size+1,6,none⟩ (.slice F e.f4.f2.length f))=(set7 v9 (w.heap.size+1) (.int .i64 e.f0) (.int .i64 e.f1) (.int .i64 e.f2) (.int .i64 e.f3) (.int .i64 e.f4.f0) (.string e.f4.f1) (.slice F e.f4.f2.length f)):=rfl
        rw[hw8]
        clear hw8
        have N1:=AK (show Below w.heap.size w (set7 v9 (w.heap.size+1) (.int .i64 e.f0) (.int .i64 e.f1) (.int .i64 e.f2) (.int .i64 e.f3) (.int .i64 e.f4.f0) (.string e.f4.f1) (.slice F e.f4.f2.length f))from set7_below HB.out (by omega))
        have N2:=AK (show OwnG (set7 v9 (w.heap.size+1) (.int .i64 e.f0) (.int .i64 e.f1) (.int .i64 e.f2) (.int .i64 e.f3) (.int .i64 e.f4.f0) (.string e.f4.f1) (.slice F e.f4.f2.length f)) w.heap.size U0 s0 U1 s1 U2 s2 U3 s3 T from OwnH.set7 OO.out HY3.out)
        have N3:=AK (show Kd.R (Kd.int .i64) 3 (set7 v9 (w.heap.size+1) (.int .i64 e.f0) (.int .i64 e.f1) (.int .i64 e.f2) (.int .i64 e.f3) (.int .i64 e.f4.f0) (.string e.f4.f1) (.slice F e.f4.f2.length f)) w.heap.size (fun _=>True) (.slice F e.f4.f2.length f) e.f4.f2 from set7_R HM.out HY3.out (int_ap 40 (by decide)))
        have N4:=AK (show (set7 v9 (w.heap.size+1) (.int .i64 e.f0) (.int .i64 e.f1) (.int .i64 e.f2) (.int .i64 e.f3) (.int .i64 e.f4.f0) (.string e.f4.f1) (.slice F e.f4.f2.length f)).heap[w.heap.size]?=some (.cells #[.slice U0 T.o.length s0,.slice U1 T.r.length s1,.slice U2 T.w.length s2,.slice U3 T.d.length s3] 28 (0,0))from set7_far HY2.out (by omega))
        have N5:=AK (show (set7 v9 (w.heap.size+1) (.int .i64 e.f0) (.int .i64 e.f1) (.int .i64 e.f2) (.int .i64 e.f3) (.int .i64 e.f4.f0) (.string e.f4.f1) (.slice F e.f4.f2.length f)).heap[w.heap.size+1]?=some (.cells #[.int .i64 e.f0,.int .i64 e.f1,.int .i64 e.f2,.int .i64 e.f3,.int .i64 e.f4.f0,.string e.f4.f1,.slice F e.f4.f2.length f] 40 (0,0))from set7_blk HY3.out)
        have N6:=AK (show (set7 v9 (w.heap.size+1) (.int .i64 e.f0) (.int .i64 e.f1) (.int .i64 e.f2) (.int .i64 e.f3) (.int .i64 e.f4.f0) (.string e.f4.f1) (.slice F e.f4.f2.length f)).heap[n5]?=some (.cells #[.slice B0 R.o.length d0,.slice B1 R.r.length d1,.slice B2 R.w.length d2,.slice B3 R.d.length d3] 28 (0,0))from set7_far X5.out HN.out.2.2.2)
        have N7:=AK (show (set7 v9 (w.heap.size+1) (.int .i64 e.f0) (.int .i64 e.f1) (.int .i64 e.f2) (.int .i64 e.f3) (.int .i64 e.f4.f0) (.string e.f4.f1) (.slice F e.f4.f2.length f)).heap[n6]?=some (.cells #[.int .i64 e.f0,.int .i64 e.f1,.int .i64 e.f2,.int .i64 e.f3,.int .i64 e.f4.f0,.string e.f4.f1,.slice F e.f4.f2.length f] 40 (0,0))from set7_far X6.out (by have:=HN.out;omega))
        clear HB OO HM HY2 HY3 X5 X6
        generalize (set7 v9 (w.heap.size+1) (.int .i64 e.f0) (.int .i64 e.f1) (.int .i64 e.f2) (.int .i64 e.f3) (.int .i64 e.f4.f0) (.string e.f4.f1) (.slice F e.f4.f2.length f))=v10 at N1 N2 N3 N4 N5 N6 N7 ⊢
        have HB:=N1
        have OO:=N2
        have HM:=N3
        have HY2:=N4
        have HY3:=N5
        have X5:=N6
        have X6:=N7
        clear N1 N2 N3 N4 N5 N6 N7
        refine hK.out _ _ ⟨box4 X5.out,box7 X6.out⟩ (fun hHeld=>?_)
        clear hK K
        refine done_ (done_of HT_.out (by kernel_rfl)) ?_
        clear HT_ HW_ hHeld
        go_wp2
        refine bodyPost_ret (results_cc rfl _ _ w.heap.size (w.heap.size+1) 28 40 #[.slice U0 T.o.length s0,.slice U1 T.r.length s1,.slice U2 T.w.length s2,.slice U3 T.d.length s3] #[.int .i64 e.f0,.int .i64 e.f1,.int .i64 e.f2,.int .i64 e.f3,.int .i64 e.f4.f0,.string e.f4.f1,.slice F e.f4.f2.length f] (0,0) (0,0) _ _ rfl HY2.out Try.underlying28 rfl (by kernel_rfl) rfl HY3.out Try.underlying40 rfl (by kernel_rfl)) rfl ?_
        exact⟨T,U0,s0,U1,s1,U2,s2,U3,s3,e,F,f,rfl,⟨HT.out.fine,HT.out.t⟩,HE.out,OO.out.reads,(Kd.R_reads' HM.out).2,HB.out⟩
      · subst h
        go_wp2_with fail
        go_loopg [] (61 - R.o.length) (fun kq w'=>∃(O2:List S38) (B0:Option Addr) (d0:Nat),Aside0 (kq=61 - O2.length∧O2.length≤61)∧Aside0 (∀x∈O2,x.f2.length≤8∧TxA x.f1)∧Aside0 (SB w g n5 n6 (4000 - (kq:Int)) B0 d0 B1 d1 B2 d2 B3 d3 ⟨O2,R.r,R.w,R.d⟩ e F f w'))
        case atStart=>exact⟨R.o,B0,d0,⟨rfl,HG.out.1.n⟩,⟨fun x hx=>⟨by have:=HG.out.1.f x hx;omega,HG.out.1.t x hx⟩⟩,⟨SS.out.more (by omega)⟩⟩
        case round=>
          clear SS
          obtain⟨O2,B0,d0,HI,HF,SS⟩:=hrel
          go_upto_region 10 with fail
          replace SS:=AK (SS.out.below (below_drew1 (Below.refl _ _)))
          refine start_ (n:=7) (S:=(fun w'=>w'.cell? ⟨n5,0,none⟩=some (.slice B0 O2.length d0))) (ds:=[]) #[fF,fF,fF,fF,fF,fF,fF] (by kernel_rfl) rfl rfl ((bcl SS.out.h.xb 0).trans rfl) (fun hHeld=>?_);refine with_tabW dstep10_tab dstep10_bits (fun HT_ HW_=>?_)
          generalize World.drew wr=v5 at SS hHeld ⊢
          refine pU HT_ 0 (some 29) (bM 7 1) ?_
          refine tU HT_ HW_ 1 (some 30) (bM 7 3) hHeld rfl (by refine Or.inl ⟨by rfl,?_⟩;rintro w' s_0;go_simp;with_reducible rfl) ?_
          refine pU HT_ 2 (some 31) (bM 7 7) ?_
          refine pU HT_ 3 (some 32) (bM 7 15) ?_
          refine one_ (i:=4) (N:=some 33) (bM 7 31) rfl rfl (one_of HT_.out (by kernel_rfl)) (by decide) (fun K hK=>?_)
          refine goes_ Try.func63 (by kernel_rfl) rfl #[.pointer (some ⟨g,0,none⟩),.int .i64 2] (by rfl) rfl rfl zI ?_
          refine(pick_c 2 SS.out.h.r SS.out.h.b (by omega)).mono ?_
          rintro en v6 ⟨q,rfl,hq,hr,hb,hk⟩
          refine⟨_,rfl,?_⟩
          replace SS:=AK (SS.out.pick hr hb hk)
          have HQ:=AK (show 0≤q∧q<2 from⟨hq.1,hq.2.1 (by omega)⟩)
          obtain⟨s,hw60⟩:∃s,wrap64 (60 - q)=s:=⟨_,rfl⟩
          have HS:=AK (show s=60 - q from hw60.symm.trans (wrap_in (by have:=HQ.out;omega) (by have:=HQ.out;omega)))
          obtain⟨bt,hbt⟩:∃b,decide ((O2.length:Int)<s)=b:=⟨_,rfl⟩
          clear hr hb hk hq
          refine hK.out _ _ ((bcl SS.out.h.xb 0).trans rfl) (fun hHeld=>?_)
          clear hK K
          refine nO (some 33) ?_
          refine pU HT_ 5 (some 34) (bM 7 63) ?_
          refine pU HT_ 6 (some 35) (bM 7 127) ?_
          refine done_ (done_of HT_.out (by kernel_rfl)) ?_
          clear HT_ HW_ hHeld
          have HBT:=AK hbt
          clear hbt hw60
          cases bt
          · go_wp2
            go_meet
            case rel=>exact⟨⟨O2,R.r,R.w,R.d⟩,B0,d0,B1,d1,B2,d2,B3,d3,⟨⟨by have:=HI.out.2;show (O2.length:Int)≤1048576;omega,fun x hx=>⟨by have:=(HF.out x hx).2.1;omega,by have:=(HF.out x hx).1;omega⟩,by have:=HG.out.1.r;show (R.r.length:Int)≤1048576;omega,by have:=HG.out.1.w;show (R.w.length:Int)+R.d.length≤1048576;omega⟩,fun x hx=>(HF.out x hx).2⟩,⟨SS.out.more (by omega)⟩⟩
          · have c:(O2.length:Int)<s:=of_decide_eq_true HBT.out
            obtain⟨O3,eO3⟩:∃l,l=O2++[(⟨4,⟨#[]⟩,[]⟩:S38)]:=⟨_,rfl⟩
            have EO:=AK eO3
            have HC:=AK c
            clear eO3 c
            have y0:=bfz SS.out.h.xb 0
            obtain⟨p0,p1,p2,p3⟩:=box4 (show (World.heap v6)[n5]?=some (Obj.cells #[.slice B0 O2.length d0,.slice B1 R.r.length d1,.slice B2 R.w.length d2,.slice B3 R.d.length d3] 28 (0,0))from SS.out.h.xb)
            go_wp2_with ((with_reducible refine gate_builtin (b:=.append) (xs:=#[.tmp 37,.tmp 39]) rfl ?_);at_builtin;refine Kd.S_append k38 (w0:=v6) w.heap.size rfl (.tmp 37) (.tmp 39) 24 38 (.agg #[.int .i64 0,.string ⟨#[]⟩,.slice none 0 0]) 48 rfl Try.underlying24 info38 rfl (by decide) (by omega) (.slice B0 O2.length d0) O2 (⟨4,⟨#[]⟩,[]⟩:S38) [.int .i64 4,.string ⟨#[]⟩,.slice none 0 0] (fun k=>some k≠(Value.slice B1 R.r.length d1).ownBlock) (fun _=>False) rfl rfl ?aP (fun _ hk=>hk.elim) ?aF ?aO (Below.refl _ _) ?aS ?aL ?_;(case aP=>exact k38_mkM _ _ _ (⟨4,⟨#[]⟩,[]⟩:S38) (Kd.R_nil _ _ _ _ _));(case aF=>exact fun k hk e=>by have:=Kd.R_lt SS.out.h.O.s1 k e.symm;omega);(case aO=>exact Kd.S_mono SS.out.h.O.s0 (fun k hk=>⟨hk,fun h=>h⟩));(case aS=>exact SS.out.h.k.1);(case aL=>have:=HI.out.2;omega);intro v3 w9 ho hb hg hat;rw[←EO.out]at ho;obtain⟨Q,qc,ee⟩:=Kd.S_slice ho;subst ee;have N0:=AK (SS.out.pushO ho hg);have hxx:=(SS.out.h.fr hg (row_of (Kd.S_R SS.out.h.O.s0) (by decide) (by decide))).xb;have hx:=(show w9.cell? ⟨n5,0,none⟩=some (.slice B0 O2.length d0)from(bcl hxx 0).trans rfl);have hf:=bfz hxx 0;clear ho hb hg hat hxx)
            cases gk with
            | zero=>exact absurd HI.out.1 (by have:=HC.out;have:=HQ.out;have:=HS.out;omega)
            | succ k1=>
              go_roundg k1
              case measure=>omega
              case rel=>
                have hl:O3.length=O2.length+1:=by rw[EO.out];simp
                refine⟨O3,Q,qc,⟨by have:=HI.out;have:=HC.out;have:=HQ.out;have:=HS.out;omega,by have:=HQ.out;have:=HC.out;have:=HS.out;omega⟩,⟨fun x hx=>?_⟩,⟨N0.out.more (by omega)⟩⟩
                rw[EO.out]at hx
                rcases List.mem_append.1 hx with hx|hx
                · exact HF.out x hx
                · rw[List.mem_singleton.1 hx];exact⟨by simp,tx_0⟩
      · subst h
        obtain⟨b1,hb1⟩:∃b,decide (0<R.o.length)=b:=⟨_,rfl⟩
        have HB1:=AK hb1
        clear hb1
        go_wp2_with fail
        go_loopg [] (21 - R.w.length) (fun kq w'=>∃(W2:List S60) (B2:Option Addr) (d2:Nat),Aside0 (kq=21 - W2.length∧W2.length≤21)∧Aside0 (SB w g n5 n6 (4000 - (kq:Int)) B0 d0 B1 d1 B2 d2 B3 d3 ⟨R.o,R.r,W2,R.d⟩ e F f w'))
        case atStart=>exact⟨R.w,B2,d2,⟨rfl,by have:=HG.out.1.w;omega⟩,⟨SS.out.more (by omega)⟩⟩
        case round=>
          clear SS
          obtain⟨W2,B2,d2,HI,SS⟩:=hrel
          go_upto_region 13 with fail
          cases b1
          · skip
            have c0:decide ((0:Int)<(R.o.length:Int))=false:=deF (by have:=of_decide_eq_false HB1.out;omega)
            have c1:=HB1.out
            have c2:=eq_true (show R.o=[]from List.length_eq_zero_iff.1 (by have:=of_decide_eq_false HB1.out;omega))
            obtain⟨p0,p1,p2,p3⟩:=box4 (show (World.heap wr)[n5]?=some (Obj.cells #[.slice B0 R.o.length d0,.slice B1 R.r.length d1,.slice B2 W2.length d2,.slice B3 R.d.length d3] 28 (0,0))from SS.out.h.xb)
            go_quiet (fail)
            have hb:Below wr.heap.size wr (wr.drewN nq):=pw_below_drewN (Below.refl _ _) nq
            replace SS:=AK (SS.out.below hb)
            clear hb p0 p1 p2 p3 c0 c1 c2
            go_wp2
            go_meet
            case rel=>exact⟨⟨R.o,R.r,W2,R.d⟩,B0,d0,B1,d1,B2,d2,B3,d3,⟨⟨by have:=HG.out.1.n;show (R.o.length:Int)≤1048576;omega,fun x hx=>⟨by have:=(HG.out.1.t x hx).1;omega,by have:=HG.out.1.f x hx;omega⟩,by have:=HG.out.1.r;show (R.r.length:Int)≤1048576;omega,by have:=HG.out.1.w;have:=HI.out.2;show (W2.length:Int)+R.d.length≤1048576;omega⟩,HG.out.1.t⟩,⟨SS.out.more (by omega)⟩⟩
          · skip
            have c0:decide ((0:Int)<(R.o.length:Int))=true:=deT (by have:=of_decide_eq_true HB1.out;omega)
            have c1:=HB1.out
            have c3:=eq_true (of_decide_eq_true HB1.out)
            have c2:=eq_false (show ¬ R.o=[]from fun h=>by have:=of_decide_eq_true HB1.out;rw[h]at this;exact absurd this (by decide))
            obtain⟨ado,Ao,co,e0,x0,_,_,_,_⟩:=at_T38 SS.out.h.O.reads.r0 0 (by omega) (by have:=of_decide_eq_true HB1.out;show (0:Int)<(R.o.length:Int);omega)
            subst e0
            obtain⟨z,ez⟩:∃z,z=(rd_T38 R.o 0).f0:=⟨_,rfl⟩
            replace x0:wr.cell? (ado.add ((0:Int).toNat*3))=some (.int .i64 z):=by rw[ez];exact x0
            have x1:=x0
            simp only[Int.toNat_zero,Nat.zero_mul]at x1
            have x2:wr.cell? ado=some (.int .i64 z):=by
              have h:=x1
              rwa [show ado.add 0=ado from by cases ado;rfl]at h
            have x3:wr.cell? ⟨ado.block,ado.off,none⟩=some (.int .i64 z)∨True:=.inr trivial
            clear x3
            have EZ:=AK ez
            clear ez
            obtain⟨b2,hb2⟩:∃b,(z == 4)=b:=⟨_,rfl⟩
            obtain⟨p0,p1,p2,p3⟩:=box4 (show (World.heap wr)[n5]?=some (Obj.cells #[.slice (some ado) R.o.length d0,.slice B1 R.r.length d1,.slice B2 W2.length d2,.slice B3 R.d.length d3] 28 (0,0))from SS.out.h.xb)
            cases b2
            · go_quiet (fail)
              have hb:Below wr.heap.size wr (wr.drewN nq):=pw_below_drewN (Below.refl _ _) nq
              replace SS:=AK (SS.out.below hb)
              clear hb p0 p1 p2 p3 c0 c1 c2 c3 x0 x1 x2
              go_wp2
              go_meet
              case rel=>exact⟨⟨R.o,R.r,W2,R.d⟩,some ado,d0,B1,d1,B2,d2,B3,d3,⟨⟨by have:=HG.out.1.n;show (R.o.length:Int)≤1048576;omega,fun x hx=>⟨by have:=(HG.out.1.t x hx).1;omega,by have:=HG.out.1.f x hx;omega⟩,by have:=HG.out.1.r;show (R.r.length:Int)≤1048576;omega,by have:=HG.out.1.w;have:=HI.out.2;show (W2.length:Int)+R.d.length≤1048576;omega⟩,HG.out.1.t⟩,⟨SS.out.more (by omega)⟩⟩
            · skip
              have HL1:=AK (show 0<R.o.length from of_decide_eq_true HB1.out)
              clear p0 p1 p2 p3 x0 x1 x2
              replace SS:=AK (SS.out.below (below_drew1 (Below.refl _ _)))
              refine start_ (n:=21) (S:=(fun w'=>w'.cell? ⟨n5,0,none⟩=some (.slice (some ado) R.o.length d0)∧w'.cell? ⟨n5,2,none⟩=some (.slice B2 W2.length d2)∧w'.cell? ado=some (.int .i64 z))) (ds:=[]) #[fF,fF,fF,fF,fF,fF,fF,fF,fF,fF,fF,fF,fF,fF,fF,fF,fF,fF,fF,fF,fF] (by kernel_rfl) rfl rfl ⟨(bcl SS.out.h.xb 0).trans rfl,(bcl SS.out.h.xb 2).trans rfl,T38_first EZ.out SS.out.h.O.reads.r0 HL1.out⟩ (fun hHeld=>?_);refine with_tabW dstep13_tab dstep13_bits (fun HT_ HW_=>?_)
              generalize World.drew wr=v5 at SS hHeld ⊢
              refine pU HT_ 0 (some 44) (bM 21 1) ?_
              refine tU HT_ HW_ 1 (some 45) (bM 21 3) hHeld rfl (by refine Or.inl ⟨by rfl,?_⟩;rintro w' ⟨s_0,s_1,s_2⟩;go_simp;with_reducible rfl) ?_
              refine pU HT_ 2 (some 46) (bM 21 7) ?_
              refine pU HT_ 3 (some 47) (bM 21 15) ?_
              refine pU HT_ 4 (some 48) (bM 21 31) ?_
              refine pU HT_ 5 (some 49) (bM 21 63) ?_
              refine tU HT_ HW_ 6 (some 50) (bM 21 127) hHeld rfl (by refine Or.inl ⟨by rfl,?_⟩;rintro w' ⟨s_0,s_1,s_2⟩;go_simp;with_reducible rfl) ?_
              refine pU HT_ 7 (some 51) (bM 21 255) ?_
              refine pU HT_ 8 (some 52) (bM 21 511) ?_
              refine tU HT_ HW_ 9 (some 53) (bM 21 1023) hHeld rfl (by refine Or.inl ⟨by rfl,?_⟩;rintro w' ⟨s_0,s_1,s_2⟩;go_simp;with_reducible rfl) ?_
              refine pU HT_ 10 (some 54) (bM 21 2047) ?_
              refine pU HT_ 11 (some 55) (bM 21 4095) ?_
              refine pU HT_ 12 (some 56) (bM 21 8191) ?_
              refine pU HT_ 13 (some 57) (bM 21 16383) ?_
              refine tU HT_ HW_ 14 (some 58) (bM 21 32767) hHeld rfl (by refine Or.inl ⟨by rfl,?_⟩;rintro w' ⟨s_0,s_1,s_2⟩;go_simp;with_reducible rfl) ?_
              refine pU HT_ 15 (some 59) (bM 21 65535) ?_
              refine pU HT_ 16 (some 60) (bM 21 131071) ?_
              refine one_ (i:=17) (N:=some 61) (bM 21 262143) rfl rfl (one_of HT_.out (by kernel_rfl)) (by decide) (fun K hK=>?_)
              refine goes_ Try.func63 (by kernel_rfl) rfl #[.pointer (some ⟨g,0,none⟩),.int .i64 2] (by rfl) rfl rfl zI ?_
              refine(pick_c 2 SS.out.h.r SS.out.h.b (by omega)).mono ?_
              rintro en v6 ⟨q,rfl,hq,hr,hb,hk⟩
              refine⟨_,rfl,?_⟩
              replace SS:=AK (SS.out.pick hr hb hk)
              have HQ:=AK (show 0≤q∧q<2 from⟨hq.1,hq.2.1 (by omega)⟩)
              obtain⟨s,hw60⟩:∃s,wrap64 (20 - q)=s:=⟨_,rfl⟩
              have HS:=AK (show s=20 - q from hw60.symm.trans (wrap_in (by have:=HQ.out;omega) (by have:=HQ.out;omega)))
              obtain⟨bt,hbt⟩:∃b,decide ((W2.length:Int)<s)=b:=⟨_,rfl⟩
              clear hr hb hk hq
              refine hK.out _ _ ⟨(bcl SS.out.h.xb 0).trans rfl,(bcl SS.out.h.xb 2).trans rfl,T38_first EZ.out SS.out.h.O.reads.r0 HL1.out⟩ (fun hHeld=>?_)
              clear hK K
              refine nO (some 61) ?_
              refine pU HT_ 18 (some 62) (bM 21 524287) ?_
              refine pU HT_ 19 (some 63) (bM 21 1048575) ?_
              refine pU HT_ 20 (some 64) (bM 21 2097151) ?_
              refine done_ (done_of HT_.out (by kernel_rfl)) ?_
              clear HT_ HW_ hHeld c0 hb2 c1 c2 c3
              have HBT:=AK hbt
              clear hbt hw60
              cases bt
              · go_wp2
                go_meet
                case rel=>exact⟨⟨R.o,R.r,W2,R.d⟩,some ado,d0,B1,d1,B2,d2,B3,d3,⟨⟨by have:=HG.out.1.n;show (R.o.length:Int)≤1048576;omega,fun x hx=>⟨by have:=(HG.out.1.t x hx).1;omega,by have:=HG.out.1.f x hx;omega⟩,by have:=HG.out.1.r;show (R.r.length:Int)≤1048576;omega,by have:=HG.out.1.w;have:=HI.out.2;show (W2.length:Int)+R.d.length≤1048576;omega⟩,HG.out.1.t⟩,⟨SS.out.more (by omega)⟩⟩
              · have c:(W2.length:Int)<s:=of_decide_eq_true HBT.out
                obtain⟨W3,eW3⟩:∃l,l=W2++[(⟨0,0⟩:S60)]:=⟨_,rfl⟩
                have EW:=AK eW3
                have HC:=AK c
                clear eW3 c
                have y0:=bfz SS.out.h.xb 2
                obtain⟨p0,p1,p2,p3⟩:=box4 (show (World.heap v6)[n5]?=some (Obj.cells #[.slice (some ado) R.o.length d0,.slice B1 R.r.length d1,.slice B2 W2.length d2,.slice B3 R.d.length d3] 28 (0,0))from SS.out.h.xb)
                go_wp2_with ((with_reducible refine gate_builtin (b:=.append) (xs:=#[.tmp 66,.tmp 68]) rfl ?_);at_builtin;refine Kd.R_append k60 (w0:=v6) w.heap.size rfl (.tmp 66) (.tmp 68) 26 60 (.agg #[.int .i64 0,.int .i64 0]) 16 rfl Try.underlying26 info60 rfl (by decide) (by omega) (.slice B2 W2.length d2) W2 (⟨0,0⟩:S60) [.int .i64 0,.int .i64 0] (fun k=>some k≠(Value.slice B3 R.d.length d3).ownBlock) (fun _=>False) rfl rfl ?aP (fun _ hk=>hk.elim) ?aF ?aO (Below.refl _ _) ?aS ?aL ?_;(case aP=>exact k60_mkM _ _ _ (⟨0,0⟩:S60));(case aF=>exact fun k hk e=>by have:=Kd.R_lt SS.out.h.O.s3 k e.symm;omega);(case aO=>exact SS.out.h.O.s2);(case aS=>exact SS.out.h.k.1);(case aL=>have:=HI.out;omega);intro v3 w9 ho hb hg hat;rw[←EW.out]at ho;obtain⟨Q,qc,ee⟩:=Kd.R_slice ho;subst ee;have N0:=AK (SS.out.pushW ho hg hat);have hxx:=(SS.out.h.fr hg (row_of SS.out.h.O.s2 (by decide) (by decide))).xb;have hx:=(show w9.cell? ⟨n5,2,none⟩=some (.slice B2 W2.length d2)from(bcl hxx 2).trans rfl);have hf:=bfz hxx 2;clear ho hb hg hat hxx)
                cases gk with
                | zero=>exact absurd HI.out.1 (by have:=HC.out;have:=HQ.out;have:=HS.out;omega)
                | succ k1=>
                  go_roundg k1
                  case measure=>omega
                  case rel=>
                    have hl:W3.length=W2.length+1:=by rw[EW.out];simp
                    exact⟨W3,Q,qc,⟨by have:=HI.out;have:=HC.out;have:=HQ.out;have:=HS.out;omega,by have:=HQ.out;have:=HC.out;have:=HS.out;omega⟩,⟨N0.out.more (by omega)⟩⟩
      · have c0:(k == 0)=false:=beq_eq_false_iff_ne.2 (by omega)
        have c1:(k == 1)=false:=beq_eq_false_iff_ne.2 (by omega)
        have c2:(k == 2)=false:=beq_eq_false_iff_ne.2 (by omega)
        clear h
        go_wp2
        go_meet
        case rel=>exact⟨R,B0,d0,B1,d1,B2,d2,B3,d3,⟨HG.out.1.loose.fine,HG.out.1.t⟩,⟨SS.out.more (by omega)⟩⟩
    case rest=>
      clear SS HG HK0
      obtain⟨R,B0,d0,B1,d1,B2,d2,B3,d3,HG,SS⟩:=hcut
      go_upto_region 15 with fail
      have HB:=AK SS.out.h.b
      have OO:=AK SS.out.h.O
      have HM:=AK SS.out.m
      have HY2:=AK SS.out.h.ob
      have HY3:=AK SS.out.x3
      have X5:=AK SS.out.h.xb
      have X6:=AK SS.out.x6
      have HN:=AK (show w.heap.size<n5∧w.heap.size+1<n6∧w.heap.size≠n6∧n5≠w.heap.size+1 from⟨SS.out.h.lb,SS.out.l6,by have:=SS.out.l6;omega,blk_ne SS.out.h.xb SS.out.x3 (by decide)⟩)
      clear SS
      have hb:=below_drew1 (Below.refl (World.heap wc).size wc)
      replace HB:=AK (bst HB.out hb)
      replace OO:=AK (OO.out.below hb)
      replace HM:=AK (Kd.R_below HM.out hb)
      replace HY2:=AK (bbl HY2.out hb)
      replace HY3:=AK (bbl HY3.out hb)
      replace X5:=AK (bbl X5.out hb)
      replace X6:=AK (bbl X6.out hb)
      clear hb
      refine start_ (n:=4) (S:=(fun w'=>(w'.cell? ⟨n5,0,none⟩=some (.slice B0 R.o.length d0)∧w'.cell? ⟨n5,1,none⟩=some (.slice B1 R.r.length d1)∧w'.cell? ⟨n5,2,none⟩=some (.slice B2 R.w.length d2)∧w'.cell? ⟨n5,3,none⟩=some (.slice B3 R.d.length d3))∧w'.cell? ⟨n6,0,none⟩=some (.int .i64 e.f0)∧w'.cell? ⟨n6,1,none⟩=some (.int .i64 e.f1)∧w'.cell? ⟨n6,2,none⟩=some (.int .i64 e.f2)∧w'.cell? ⟨n6,3,none⟩=some (.int .i64 e.f3)∧w'.cell? ⟨n6,4,none⟩=some (.int .i64 e.f4.f0)∧w'.cell? ⟨n6,5,none⟩=some (.string e.f4.f1)∧w'.cell? ⟨n6,6,none⟩=some (.slice F e.f4.f2.length f))) (ds:=[]) #[fF,fF,fF,fF] (by kernel_rfl) rfl rfl ⟨box4 X5.out,box7 X6.out⟩ (fun hHeld=>?_);refine with_tabW dstep15_tab dstep15_bits (fun HT_ HW_=>?_)
      generalize World.drew wc=v5 at HB OO HM HY2 HY3 X5 X6 hHeld ⊢
      refine tU HT_ HW_ 0 (some 71) #[tT,fF,fF,fF] hHeld rfl (by refine Or.inl ⟨by rfl,?_⟩;rintro w' ⟨⟨a_0,a_1,a_2,a_3⟩,b_0,b_1,b_2,b_3,b_4,b_5,b_6⟩;go_simp;with_reducible rfl) ?_
      refine tU HT_ HW_ 1 (some 72) #[tT,tT,fF,fF] hHeld rfl (by refine Or.inl ⟨by rfl,?_⟩;rintro w' ⟨⟨a_0,a_1,a_2,a_3⟩,b_0,b_1,b_2,b_3,b_4,b_5,b_6⟩;go_simp;with_reducible rfl) ?_
      refine one_ (i:=2) (N:=none) #[tT,tT,tT,fF] rfl rfl (one_of HT_.out (by kernel_rfl)) (by decide) (fun K hK=>?_)
      obtain⟨z0,z1,z2,z3⟩:=box4 (show v5.heap[w.heap.size]?=some (Obj.cells #[.slice none 0 0,.slice none 0 0,.slice none 0 0,.slice none 0 0] 28 (0,0))from HY2.out)
      have y0:=bfz HY2.out 0
      have y1:=bfz HY2.out 1
      have y2:=bfz HY2.out 2
      have y3:=bfz HY2.out 3
      refine skip_ (w1:=?_) (by rfl) rfl ?_ ?_
      rotate_left
      · go_simp
        rfl
      clear z0 z1 z2 z3 y0 y1 y2 y3
      have hw8:((((v5.setCell ⟨w.heap.size,0,none⟩ (.slice B0 R.o.length d0)).setCell ⟨w.heap.size,1,none⟩ (.slice B1 R.r.length d1)).setCell ⟨w.heap.size,2,none⟩ (.slice B2 R.w.length d2)).setCell ⟨w.heap.size,3,none⟩ (.slice B3 R.d.length d3))=(set4 v5 w.heap.size (.slice B0 R.o.length d0) (.slice B1 R.r.length d1) (.slice B2 R.w.length d2) (.slice B3 R.d.length d3)):=rfl
      rw[hw8]
      clear hw8
      have N1:=AK (show Below w.heap.size w (set4 v5 w.heap.size (.slice B0 R.o.length d0) (.slice B1 R.r.length d1) (.slice B2 R.w.length d2) (.slice B3 R.d.length d3))from set4_below HB.out (Nat.le_refl _))
      have N2:=AK (show OwnG (set4 v5 w.heap.size (.slice B0 R.o.length d0) (.slice B1 R.r.length d1) (.slice B2 R.w.length d2) (.slice B3 R.d.length d3)) w.heap.size B0 d0 B1 d1 B2 d2 B3 d3 R from OwnH.set4 OO.out HY2.out)
      have N3:=AK (show Kd.R (Kd.int .i64) 3 (set4 v5 w.heap.size (.slice B0 R.o.length d0) (.slice B1 R.r.length d1) (.slice B2 R.w.length d2) (.slice B3 R.d.length d3)) w.heap.size (fun _=>True) (.slice F e.f4.f2.length f) e.f4.f2 from set4_R HM.out HY2.out (int_ap 28 (by decide)))
      have N4:=AK (show (set4 v5 w.heap.size (.slice B0 R.o.length d0) (.slice B1 R.r.length d1) (.slice B2 R.w.length d2) (.slice B3 R.d.length d3)).heap[w.heap.size]?=some (.cells #[.slice B0 R.o.length d0,.slice B1 R.r.length d1,.slice B2 R.w.length d2,.slice B3 R.d.length d3] 28 (0,0))from set4_blk HY2.out)
      have N5:=AK (show (set4 v5 w.heap.size (.slice B0 R.o.length d0) (.slice B1 R.r.length d1) (.slice B2 R.w.length d2) (.slice B3 R.d.length d3)).heap[w.heap.size+1]?=some (.cells zevC 40 (0,0))from set4_far HY3.out (by omega))
      have N6:=AK (show (set4 v5 w.heap.size (.slice B0 R.o.length d0) (.slice B1 R.r.length d1) (.slice B2 R.w.length d2) (.slice B3 R.d.length d3)).heap[n5]?=some (.cells #[.slice B0 R.o.length d0,.slice B1 R.r.length d1,.slice B2 R.w.length d2,.slice B3 R.d.length d3] 28 (0,0))from set4_far X5.out (by have:=HN.out;omega))
      have N7:=AK (show (set4 v5 w.heap.size (.slice B0 R.o.length d0) (.slice B1 R.r.length d1) (.slice B2 R.w.length d2) (.slice B3 R.d.length d3)).heap[n6]?=some (.cells #[.int .i64 e.f0,.int .i64 e.f1,.int .i64 e.f2,.int .i64 e.f3,.int .i64 e.f4.f0,.string e.f4.f1,.slice F e.f4.f2.length f] 40 (0,0))from set4_far X6.out (by have:=HN.out;omega))
      clear HB OO HM HY2 HY3 X5 X6
      generalize (set4 v5 w.heap.size (.slice B0 R.o.length d0) (.slice B1 R.r.length d1) (.slice B2 R.w.length d2) (.slice B3 R.d.length d3))=v6 at N1 N2 N3 N4 N5 N6 N7 ⊢
      have HB:=N1
      have OO:=N2
      have HM:=N3
      have HY2:=N4
      have HY3:=N5
      have X5:=N6
      have X6:=N7
      clear N1 N2 N3 N4 N5 N6 N7
      refine hK.out _ _ ⟨box4 X5.out,box7 X6.out⟩ (fun hHeld=>?_)
      clear hK K
      refine one_ (i:=3) (N:=none) #[tT,tT,tT,tT] rfl rfl (one_of HT_.out (by kernel_rfl)) (by decide) (fun K hK=>?_)
      obtain⟨z0,z1,z2,z3,z4,z5,z6⟩:=box7 (show v6.heap[w.heap.size+1]?=some (Obj.cells #[.int .i64 0,.int .i64 0,.int .i64 0,.int .i64 0,.int .i64 0,.string ⟨#[]⟩,.slice none 0 0] 40 (0,0))from HY3.out)
      have y0:=bfz HY3.out 0
      have y1:=bfz HY3.out 1
      have y2:=bfz HY3.out 2
      have y3:=bfz HY3.out 3
      have y4:=bfz HY3.out 4
      have y5:=bfz HY3.out 5
      have y6:=bfz HY3.out 6
      refine skip_ (w1:=?_) (by rfl) rfl ?_ ?_
      rotate_left
      · go_simp
        rfl
      clear z0 z1 z2 z3 z4 z5 z6 y0 y1 y2 y3 y4 y5 y6
      have hw8:(((((((v6.setCell ⟨w.heap.size+1,0,none⟩ (.int .i64 e.f0)).setCell ⟨w.heap.size+1,1,none⟩ (.int .i64 e.f1)).setCell ⟨w.heap.size+1,2,none⟩ (.int .i64 e.f2)).setCell ⟨w.heap.size+1,3,none⟩ (.int .i64 e.f3)).setCell ⟨w.heap.size+1,4,none⟩ (.int .i64 e.f4.f0)).setCell ⟨w.heap.size+1,5,none⟩ (.string e.f4.f1)).setCell ⟨w.heap.size+1,6,none⟩ (.slice F e.f4.f2.length f))=(set7 v6 (w.heap.size+1) (.int .i64 e.f0) (.int .i64 e.f1) (.int .i64 e.f2) (.int .i64 e.f3) (.int .i64 e.f4.f0) (.string e.f4.f1) (.slice F e.f4.f2.length f)):=rfl
      rw[hw8]
      clear hw8
      have N1:=AK (show Below w.heap.size w (set7 v6 (w.heap.size+1) (.int .i64 e.f0) (.int .i64 e.f1) (.int .i64 e.f2) (.int .i64 e.f3) (.int .i64 e.f4.f0) (.string e.f4.f1) (.slice F e.f4.f2.length f))from set7_below HB.out (by omega))
      have N2:=AK (show OwnG (set7 v6 (w.heap.size+1) (.int .i64 e.f0) (.int .i64 e.f1) (.int .i64 e.f2) (.int .i64 e.f3) (.int .i64 e.f4.f0) (.string e.f4.f1) (.slice F e.f4.f2.length f)) w.heap.size B0 d0 B1 d1 B2 d2 B3 d3 R from OwnH.set7 OO.out HY3.out)
      have N3:=AK (show Kd.R (Kd.int .i64) 3 (set7 v6 (w.heap.size+1) (.int .i64 e.f0) (.int .i64 e.f1) (.int .i64 e.f2) (.int .i64 e.f3) (.int .i64 e.f4.f0) (.string e.f4.f1) (.slice F e.f4.f2.length f)) w.heap.size (fun _=>True) (.slice F e.f4.f2.length f) e.f4.f2 from set7_R HM.out HY3.out (int_ap 40 (by decide)))
      have N4:=AK (show (set7 v6 (w.heap.size+1) (.int .i64 e.f0) (.int .i64 e.f1) (.int .i64 e.f2) (.int .i64 e.f3) (.int .i64 e.f4.f0) (.string e.f4.f1) (.slice F e.f4.f2.length f)).heap[w.heap.size]?=some (.cells #[.slice B0 R.o.length d0,.slice B1 R.r.length d1,.slice B2 R.w.length d2,.slice B3 R.d.length d3] 28 (0,0))from set7_far HY2.out (by omega))
      have N5:=AK (show (set7 v6 (w.heap.size+1) (.int .i64 e.f0) (.int .i64 e.f1) (.int .i64 e.f2) (.int .i64 e.f3) (.int .i64 e.f4.f0) (.string e.f4.f1) (.slice F e.f4.f2.length f)).heap[w.heap.size+1]?=some (.cells #[.int .i64 e.f0,.int .i64 e.f1,.int .i64 e.f2,.int .i64 e.f3,.int .i64 e.f4.f0,.string e.f4.f1,.slice F e.f4.f2.length f] 40 (0,0))from set7_blk HY3.out)
      have N6:=AK (show (set7 v6 (w.heap.size+1) (.int .i64 e.f0) (.int .i64 e.f1) (.int .i64 e.f2) (.int .i64 e.f3) (.int .i64 e.f4.f0) (.string e.f4.f1) (.slice F e.f4.f2.length f)).heap[n5]?=some (.cells #[.slice B0 R.o.length d0,.slice B1 R.r.length d1,.slice B2 R.w.length d2,.slice B3 R.d.length d3] 28 (0,0))from set7_far X5.out HN.out.2.2.2)
      have N7:=AK (show (set7 v6 (w.heap.size+1) (.int .i64 e.f0) (.int .i64 e.f1) (.int .i64 e.f2) (.int .i64 e.f3) (.int .i64 e.f4.f0) (.string e.f4.f1) (.slice F e.f4.f2.length f)).heap[n6]?=some (.cells #[.int .i64 e.f0,.int .i64 e.f1,.int .i64 e.f2,.int .i64 e.f3,.int .i64 e.f4.f0,.string e.f4.f1,.slice F e.f4.f2.length f] 40 (0,0))from set7_far X6.out (by have:=HN.out;omega))
      clear HB OO HM HY2 HY3 X5 X6
      generalize (set7 v6 (w.heap.size+1) (.int .i64 e.f0) (.int .i64 e.f1) (.int .i64 e.f2) (.int .i64 e.f3) (.int .i64 e.f4.f0) (.string e.f4.f1) (.slice F e.f4.f2.length f))=v7 at N1 N2 N3 N4 N5 N6 N7 ⊢
      have HB:=N1
      have OO:=N2
      have HM:=N3
      have HY2:=N4
      have HY3:=N5
      have X5:=N6
      have X6:=N7
      clear N1 N2 N3 N4 N5 N6 N7
      refine hK.out _ _ ⟨box4 X5.out,box7 X6.out⟩ (fun hHeld=>?_)
      clear hK K
      refine done_ (done_of HT_.out (by kernel_rfl)) ?_
      clear HT_ HW_ hHeld
      go_wp2
      refine bodyPost_ret (results_cc rfl _ _ w.heap.size (w.heap.size+1) 28 40 #[.slice B0 R.o.length d0,.slice B1 R.r.length d1,.slice B2 R.w.length d2,.slice B3 R.d.length d3] #[.int .i64 e.f0,.int .i64 e.f1,.int .i64 e.f2,.int .i64 e.f3,.int .i64 e.f4.f0,.string e.f4.f1,.slice F e.f4.f2.length f] (0,0) (0,0) _ _ rfl HY2.out Try.underlying28 rfl (by kernel_rfl) rfl HY3.out Try.underlying40 rfl (by kernel_rfl)) rfl ?_
      exact⟨R,B0,d0,B1,d1,B2,d2,B3,d3,e,F,f,rfl,HG.out,HE.out,OO.out.reads,(Kd.R_reads' HM.out).2,HB.out⟩
end Go.Proofs.Ytigjhfijkdlldaa.H
