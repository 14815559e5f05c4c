import Derived.Test.YtigjhfijkdlldaaDoorSliSa
import Derived.Test.YtigjhfijkdlldaaDoorSliSc
namespace Go.Proofs.YtigjhfijkdlldaaDoor.H
open Go.RowKit Go.Proofs.YtigjhfijkdlldaaDoorW.PrintWords Go.Proofs.YtigjhfijkdlldaaDoorW.PrintLast Go.Proofs.YtigjhfijkdlldaaDoorW.PrintMore Go.Proofs.YtigjhfijkdlldaaDoor.Q
set_option linter.unusedVariables false
set_option linter.unusedSimpArgs false
theorem box7 {w:World} {g t:Nat} {a b c d e f h:Value} (hb:w.heap[g]?=some (.cells #[a,b,c,d,e,f,h] t (0,0))):w.cell? ⟨g,0,none⟩=some a∧w.cell? ⟨g,1,none⟩=some b∧w.cell? ⟨g,2,none⟩=some c∧w.cell? ⟨g,3,none⟩=some d∧w.cell? ⟨g,4,none⟩=some e∧w.cell? ⟨g,5,none⟩=some f∧w.cell? ⟨g,6,none⟩=some h:=
  ⟨(bcl hb 0).trans rfl,(bcl hb 1).trans rfl,(bcl hb 2).trans rfl,(bcl hb 3).trans rfl,(bcl hb 4).trans rfl,(bcl hb 5).trans rfl,(bcl hb 6).trans rfl⟩
def set7 (w:World) (k:Nat) (a b c d e1 f1 h1:Value):World:=((((((w.setCell ⟨k,0,none⟩ a).setCell ⟨k,1,none⟩ b).setCell ⟨k,2,none⟩ c).setCell ⟨k,3,none⟩ d).setCell ⟨k,4,none⟩ e1).setCell ⟨k,5,none⟩ f1).setCell ⟨k,6,none⟩ h1
section
variable {w w1:World} {k:Nat} {a b c d e1 f1 h1:Value}
theorem set7_blk {q0 q1 q2 q3 q4 q5 q6:Value} (h:w.heap[k]?=some (.cells #[q0,q1,q2,q3,q4,q5,q6] 37 (0,0))):(set7 w k a b c d e1 f1 h1).heap[k]?=some (.cells #[a,b,c,d,e1,f1,h1] 37 (0,0)):=by
  have s0:(w.setCell ⟨k,0,none⟩ a).heap[k]?=some (.cells #[a,q1,q2,q3,q4,q5,q6] 37 (0,0)):=blk_put h 0 _ rfl
  have s1:((w.setCell ⟨k,0,none⟩ a).setCell ⟨k,1,none⟩ b).heap[k]?=some (.cells #[a,b,q2,q3,q4,q5,q6] 37 (0,0)):=blk_put s0 1 _ rfl
  have s2:(((w.setCell ⟨k,0,none⟩ a).setCell ⟨k,1,none⟩ b).setCell ⟨k,2,none⟩ c).heap[k]?=some (.cells #[a,b,c,q3,q4,q5,q6] 37 (0,0)):=blk_put s1 2 _ rfl
  have s3:((((w.setCell ⟨k,0,none⟩ a).setCell ⟨k,1,none⟩ b).setCell ⟨k,2,none⟩ c).setCell ⟨k,3,none⟩ d).heap[k]?=some (.cells #[a,b,c,d,q4,q5,q6] 37 (0,0)):=blk_put s2 3 _ rfl
  have s4:(((((w.setCell ⟨k,0,none⟩ a).setCell ⟨k,1,none⟩ b).setCell ⟨k,2,none⟩ c).setCell ⟨k,3,none⟩ d).setCell ⟨k,4,none⟩ e1).heap[k]?=some (.cells #[a,b,c,d,e1,q5,q6] 37 (0,0)):=blk_put s3 4 _ rfl
  have s5:((((((w.setCell ⟨k,0,none⟩ a).setCell ⟨k,1,none⟩ b).setCell ⟨k,2,none⟩ c).setCell ⟨k,3,none⟩ d).setCell ⟨k,4,none⟩ e1).setCell ⟨k,5,none⟩ f1).heap[k]?=some (.cells #[a,b,c,d,e1,f1,q6] 37 (0,0)):=blk_put s4 5 _ rfl
  have s6:(((((((w.setCell ⟨k,0,none⟩ a).setCell ⟨k,1,none⟩ b).setCell ⟨k,2,none⟩ c).setCell ⟨k,3,none⟩ d).setCell ⟨k,4,none⟩ e1).setCell ⟨k,5,none⟩ f1).setCell ⟨k,6,none⟩ h1).heap[k]?=some (.cells #[a,b,c,d,e1,f1,h1] 37 (0,0)):=blk_put s5 6 _ rfl
  exact s6
theorem set7_far {j t:Nat} {cs:Array Value} (h:w.heap[j]?=some (.cells cs t (0,0))) (hne:j≠k):(set7 w k a b c d e1 f1 h1).heap[j]?=some (.cells cs t (0,0)):=
  blk_far (blk_far (blk_far (blk_far (blk_far (blk_far (blk_far h (p:=⟨k,0,none⟩) hne a) (p:=⟨k,1,none⟩) hne b) (p:=⟨k,2,none⟩) hne c) (p:=⟨k,3,none⟩) hne d) (p:=⟨k,4,none⟩) hne e1) (p:=⟨k,5,none⟩) hne f1) (p:=⟨k,6,none⟩) hne h1
theorem set7_below {w0:World} (h:Below w0.heap.size w0 w) (hg:w0.heap.size≤k):Below w0.heap.size w0 (set7 w k a b c d e1 f1 h1):=below_set (below_set (below_set (below_set (below_set (below_set (below_set h hg) hg) hg) hg) hg) hg) hg
theorem set7_R {α:Type} {dk:Kd α} {e base:Nat} {ok:Nat→Prop} {v:Value} {xs:List α} {cs:Array Value} (h:dk.R e w base ok v xs) (hb:w.heap[k]?=some (.cells cs 37 (0,0))) (ht:∀q,q∈e :: dk.E→q≠37):dk.R e (set7 w k a b c d e1 f1 h1) base ok v xs:=
  Kd.R_set (Kd.R_set (Kd.R_set (Kd.R_set (Kd.R_set (Kd.R_set (Kd.R_set h hb ht 0 a) (blk_set hb 0 a) ht 1 b) (blk_set (blk_set hb 0 a) 1 b) ht 2 c) (blk_set (blk_set (blk_set hb 0 a) 1 b) 2 c) ht 3 d) (blk_set (blk_set (blk_set (blk_set hb 0 a) 1 b) 2 c) 3 d) ht 4 e1) (blk_set (blk_set (blk_set (blk_set (blk_set hb 0 a) 1 b) 2 c) 3 d) 4 e1) ht 5 f1) (blk_set (blk_set (blk_set (blk_set (blk_set (blk_set hb 0 a) 1 b) 2 c) 3 d) 4 e1) 5 f1) ht 6 h1
end
def tw (ws:List ByteArray):List UInt8:=(ws.getD 0 ByteArray.empty).toList
def dg (ws:List ByteArray) (i:Nat):Int:=digitB (ws.getD i ByteArray.empty)
def eventB (ws:List ByteArray):Option S40:=
  if(tw ws == [100,97,116,97]) && (ws.length == 3)then some ⟨1,dg ws 1,0,0,⟨1,ws.getD 2 ByteArray.empty,[]⟩⟩
  else if(tw ws == [99,101,108,108]) && decide (2≤ws.length)then some ⟨1,dg ws 1,0,0,⟨2,⟨#[]⟩,(ws.drop 2).map digitB⟩⟩
  else if(tw ws == [119,101,97,107]) && (ws.length == 4)then some ⟨1,dg ws 1,0,0,⟨3,⟨#[]⟩,(ws.drop 2).map digitB⟩⟩
  else if(tw ws == [103,117,97,114,100,105,97,110]) && (ws.length == 2)then some ⟨1,dg ws 1,0,0,⟨4,⟨#[]⟩,(ws.drop 2).map digitB⟩⟩
  else if(tw ws == [116,97,107,101]) && (ws.length == 4)then some ⟨2,dg ws 1,dg ws 2,dg ws 3,⟨0,⟨#[]⟩,[]⟩⟩
  else if(tw ws == [115,101,116]) && (ws.length == 4)then some ⟨3,dg ws 1,dg ws 3,dg ws 2,⟨0,⟨#[]⟩,[]⟩⟩
  else if(tw ws == [102,111,114,103,101,116]) && (ws.length == 2)then some ⟨4,dg ws 1,0,0,⟨0,⟨#[]⟩,[]⟩⟩
  else if(tw ws == [119,97,116,99,104]) && (ws.length == 3)then some ⟨5,dg ws 1,dg ws 2,0,⟨0,⟨#[]⟩,[]⟩⟩
  else if(tw ws == [97,115,107]) && (ws.length == 3)then some ⟨6,dg ws 1,dg ws 2,0,⟨0,⟨#[]⟩,[]⟩⟩
  else if(tw ws == [99,111,108,108,101,99,116]) && (ws.length == 1)then some ⟨7,0,0,0,⟨0,⟨#[]⟩,[]⟩⟩
  else none
theorem ev_data {ws:List ByteArray} (h:tw ws=[100,97,116,97]):eventB ws=if(ws.length == 3)=true then some ⟨1,dg ws 1,0,0,⟨1,ws.getD 2 ByteArray.empty,[]⟩⟩else none:=by
  unfold eventB;rw[h];simp
theorem ev_cell {ws:List ByteArray} (h:tw ws=[99,101,108,108]):eventB ws=if(decide (2≤ws.length))=true then some ⟨1,dg ws 1,0,0,⟨2,⟨#[]⟩,(ws.drop 2).map digitB⟩⟩else none:=by
  unfold eventB;rw[h];simp
theorem ev_weak {ws:List ByteArray} (h:tw ws=[119,101,97,107]):eventB ws=if(ws.length == 4)=true then some ⟨1,dg ws 1,0,0,⟨3,⟨#[]⟩,(ws.drop 2).map digitB⟩⟩else none:=by
  unfold eventB;rw[h];simp
theorem ev_guardian {ws:List ByteArray} (h:tw ws=[103,117,97,114,100,105,97,110]):eventB ws=if(ws.length == 2)=true then some ⟨1,dg ws 1,0,0,⟨4,⟨#[]⟩,(ws.drop 2).map digitB⟩⟩else none:=by
  unfold eventB;rw[h];simp
theorem ev_take {ws:List ByteArray} (h:tw ws=[116,97,107,101]):eventB ws=if(ws.length == 4)=true then some ⟨2,dg ws 1,dg ws 2,dg ws 3,⟨0,⟨#[]⟩,[]⟩⟩else none:=by
  unfold eventB;rw[h];simp
theorem ev_set {ws:List ByteArray} (h:tw ws=[115,101,116]):eventB ws=if(ws.length == 4)=true then some ⟨3,dg ws 1,dg ws 3,dg ws 2,⟨0,⟨#[]⟩,[]⟩⟩else none:=by
  unfold eventB;rw[h];simp
theorem ev_forget {ws:List ByteArray} (h:tw ws=[102,111,114,103,101,116]):eventB ws=if(ws.length == 2)=true then some ⟨4,dg ws 1,0,0,⟨0,⟨#[]⟩,[]⟩⟩else none:=by
  unfold eventB;rw[h];simp
theorem ev_watch {ws:List ByteArray} (h:tw ws=[119,97,116,99,104]):eventB ws=if(ws.length == 3)=true then some ⟨5,dg ws 1,dg ws 2,0,⟨0,⟨#[]⟩,[]⟩⟩else none:=by
  unfold eventB;rw[h];simp
theorem ev_ask {ws:List ByteArray} (h:tw ws=[97,115,107]):eventB ws=if(ws.length == 3)=true then some ⟨6,dg ws 1,dg ws 2,0,⟨0,⟨#[]⟩,[]⟩⟩else none:=by
  unfold eventB;rw[h];simp
theorem ev_collect {ws:List ByteArray} (h:tw ws=[99,111,108,108,101,99,116]):eventB ws=if(ws.length == 1)=true then some ⟨7,0,0,0,⟨0,⟨#[]⟩,[]⟩⟩else none:=by
  unfold eventB;rw[h];simp
theorem ev_none {ws:List ByteArray} (h_data:((tw ws == [100,97,116,97]) && (ws.length == 3))=false) (h_cell:((tw ws == [99,101,108,108]) && (decide (2≤ws.length)))=false) (h_weak:((tw ws == [119,101,97,107]) && (ws.length == 4))=false) (h_guardian:((tw ws == [103,117,97,114,100,105,97,110]) && (ws.length == 2))=false) (h_take:((tw ws == [116,97,107,101]) && (ws.length == 4))=false) (h_set:((tw ws == [115,101,116]) && (ws.length == 4))=false) (h_forget:((tw ws == [102,111,114,103,101,116]) && (ws.length == 2))=false) (h_watch:((tw ws == [119,97,116,99,104]) && (ws.length == 3))=false) (h_ask:((tw ws == [97,115,107]) && (ws.length == 3))=false) (h_collect:((tw ws == [99,111,108,108,101,99,116]) && (ws.length == 1))=false):eventB ws=none:=by
  unfold eventB;simp only[h_data,h_cell,h_weak,h_guardian,h_take,h_set,h_forget,h_watch,h_ask,h_collect];rfl
theorem str_at {w:World} {ad:Addr} {ws:List ByteArray} (h:Kd.C Kd.string w (some ad) ws.length ws) (i:Nat) (hi:i<ws.length):w.cell? (ad.add i)=some (.string (ws.getD i ByteArray.empty)):=by
  obtain⟨ad2,e,hx⟩:=Kd.at_string h (i:Int) (by omega) (by omega)
  injection e with e
  subst e
  exact hx
theorem str_at0 {w:World} {ad:Addr} {ws:List ByteArray} (h:Kd.C Kd.string w (some ad) ws.length ws) (hi:0<ws.length):w.cell? ad=some (.string (ws.getD 0 ByteArray.empty)):=by
  have:=str_at h 0 hi
  rwa [show ad.add 0=ad from by cases ad;rfl]at this
theorem str_atk {w:World} {ad:Addr} {ws:List ByteArray} (h:Kd.C Kd.string w (some ad) ws.length ws) (i:Nat) (hi:i<ws.length) (h0:0<i):w.cell? ⟨ad.block,ad.off+i,none⟩=some (.string (ws.getD i ByteArray.empty)):=by
  have:=str_at h i hi
  rwa [show ad.add i=⟨ad.block,ad.off+i,none⟩from by unfold Addr.add;rw[if_neg (by omega)]]at this
theorem ev19_tab:rtab .any (opsOf Tryd.f9 19)=(true,[([],[]),([0],[0]),([1],[1]),([],[]),([],[]),([3,4],[3,4]),([5],[5]),([6],[6]),([7],[7]),([2,8,7],[2,8]),([0,1,2,3,4,5,6,7,8,9],[]),([10,0,1,2,3,4,5,6,7,8,9],[10]),([11,9,9,0,1,2,3,4,5,6,7,8,9],[9,11])]):=by kernel_rfl
theorem ev19_bits:waitsOk [([],[]),([0],[0]),([1],[1]),([],[]),([],[]),([3,4],[3,4]),([5],[5]),([6],[6]),([7],[7]),([2,8,7],[2,8]),([0,1,2,3,4,5,6,7,8,9],[]),([10,0,1,2,3,4,5,6,7,8,9],[10]),([11,9,9,0,1,2,3,4,5,6,7,8,9],[9,11])] [0,1,3,0,0,24,56,120,248,511,1023,2047,4095]=true:=by kernel_rfl
structure EB (w0:World) (cs:Array Value) (w:World):Prop where
  b:Below w0.heap.size w0 w
  x2:w.heap[w0.heap.size]?=some (.cells #[.int .i64 0,.int .i64 0,.int .i64 0,.int .i64 0,.int .i64 0,.string ⟨#[]⟩,.slice none 0 0] 37 (0,0))
  x5:w.heap[w0.heap.size+1]?=some (.cells cs 37 (0,0))
theorem EB.set {w0 w:World} {cs cs':Array Value} (h:EB w0 cs w) (j:Nat) (v:Value) (e:cs.setIfInBounds j v=cs'):EB w0 cs' (w.setCell ⟨w0.heap.size+1,j,none⟩ v):=
  ⟨below_set h.b (by show w0.heap.size≤w0.heap.size+1;omega),blk_far h.x2 (p:=⟨w0.heap.size+1,j,none⟩) (by show w0.heap.size≠w0.heap.size+1;omega) v,e ▸ blk_set h.x5 j v⟩
theorem EB.below {w0 w w1:World} {cs:Array Value} (h:EB w0 cs w) (hb:Below w.heap.size w w1):EB w0 cs w1:=⟨bst h.b hb,bbl h.x2 hb,bbl h.x5 hb⟩
set_option maxHeartbeats 40000000 in
set_option maxRecDepth 100000 in
theorem l5Event_c {w:World} {A:Option Addr} {d:Nat} {ws:List ByteArray} (h:Kd.C Kd.string w A ws.length ws) (hp:1≤ws.length) (hl:ws.length≤1048577) :
    Calls Tryd.prog 9 #[.slice A ws.length d] w fun en w'=>∃(e:S40) (F:Option Addr) (f:Nat),en=.returned (.tuple #[.agg #[.int .i64 e.f0,.int .i64 e.f1,.int .i64 e.f2,.int .i64 e.f3,.int .i64 e.f4.f0,.string e.f4.f1,.slice F e.f4.f2.length f],.bool (eventB ws).isSome])∧(eventB ws=some e∨eventB ws=none)∧Kd.R (Kd.int .i64) 3 w' w.heap.size (fun _=>True) (.slice F e.f4.f2.length f) e.f4.f2∧Below w.heap.size w w':=by
  obtain⟨ad,e1,_⟩:=Kd.at_string h 0 (by omega) (by omega)
  subst e1
  have HWS:=AK h
  have HN:=AK (And.intro hp hl)
  have E0:=AK (show EB w #[.int .i64 0,.int .i64 0,.int .i64 0,.int .i64 0,.int .i64 0,.string ⟨#[]⟩,.slice none 0 0] ((w.alloc (.cells #[.int .i64 0,.int .i64 0,.int .i64 0,.int .i64 0,.int .i64 0,.string ⟨#[]⟩,.slice none 0 0] 37 (0,0))).alloc (.cells #[.int .i64 0,.int .i64 0,.int .i64 0,.int .i64 0,.int .i64 0,.string ⟨#[]⟩,.slice none 0 0] 37 (0,0)))from⟨below_alloc (below_alloc (Below.refl _ _) _) _,blk_alloc (blk_new w _) _,blk_new1 w _ _⟩)
  clear h
  obtain⟨bn,hbn⟩:∃b,decide ((1:Int)<(ws.length:Int))=b:=⟨_,rfl⟩
  have HBN:=AK hbn
  go_enter Tryd.func9,Tryd.ntmps9
  go_upto_region 3 with fail
  clear hbn
  generalize ((w.alloc (.cells #[.int .i64 0,.int .i64 0,.int .i64 0,.int .i64 0,.int .i64 0,.string ⟨#[]⟩,.slice none 0 0] 37 (0,0))).alloc (.cells #[.int .i64 0,.int .i64 0,.int .i64 0,.int .i64 0,.int .i64 0,.string ⟨#[]⟩,.slice none 0 0] 37 (0,0)))=w1 at E0 ⊢
  go_cut [11] (fun v11 wc=>v11=.bool bn∧Aside0 (EB w #[.int .i64 0,.int .i64 0,.int .i64 0,.int .i64 0,.int .i64 0,.string ⟨#[]⟩,.slice none 0 0] wc))
  case first=>
    cases bn
    · have c:¬ 1<ws.length:=by have:=of_decide_eq_false HBN.out;omega
      have c1:decide ((1:Int)<(ws.length:Int))=false:=deF (by omega)
      have c2:decide (1<ws.length)=false:=deF c
      have c3:=eq_false c
      go_wp2
      go_meet
      case rel=>exact⟨rfl,E0⟩
    · have c:1<ws.length:=by have:=of_decide_eq_true HBN.out;omega
      have c1:decide ((1:Int)<(ws.length:Int))=true:=deT (by omega)
      have c2:decide (1<ws.length)=true:=deT c
      have c3:=eq_true c
      go_wp2
      go_meet
      case rel=>exact⟨rfl,E0⟩
  case rest=>
  clear E0
  obtain⟨rfl,E0⟩:=hcut
  go_upto_if 11 with fail
  obtain⟨d1,hd1⟩:∃z,z=if 2≤ws.length then dg ws 1 else 0:=⟨_,rfl⟩
  have HD1:=AK hd1
  clear hd1
  go_cut [] (fun wc=>Aside0 (EB w #[.int .i64 0,.int .i64 d1,.int .i64 0,.int .i64 0,.int .i64 0,.string ⟨#[]⟩,.slice none 0 0] wc))
  case first=>
    cases bn
    · have c:¬ 2≤ws.length:=by have:=of_decide_eq_false HBN.out;omega
      have e2:d1=0:=by rw[HD1.out,if_neg c]
      subst e2
      clear c
      go_wp2
      go_meet
      case rel=>exact E0
    · have c:2≤ws.length:=by have:=of_decide_eq_true HBN.out;omega
      have c3:=eq_true (show (1:Int)<(ws.length:Int)by omega)
      have e2:d1=dg ws 1:=by rw[HD1.out,if_pos c]
      have y1:=str_atk (Kd.C_below HWS.out E0.out.b) 1 (by omega) (by omega)
      obtain⟨u,hu⟩:∃u,u=ws.getD 1 ByteArray.empty:=⟨_,rfl⟩
      rw[←hu]at y1
      have HE2:=AK (show digitB u=d1 by rw[e2,hu];rfl)
      clear c e2 hu
      go_wp2_with fail
      refine l5Digit_c.mono ?_
      rintro en w2 ⟨rfl,rfl⟩
      rw[HE2.out]
      obtain⟨p0,p1,p2,p3,p4,p5,p6⟩:=box7 E0.out.x5
      have q1:=bfz E0.out.x5 1
      go_wp2
      go_meet
      case rel=>exact⟨E0.out.set 1 (.int .i64 d1) rfl⟩
  case rest=>
    clear E0
    have E0:=hcut
    clear hcut
    obtain⟨u0,hu0⟩:∃u,u=ws.getD 0 ByteArray.empty:=⟨_,rfl⟩
    have HU0:=AK (show tw ws=u0.toList by rw[hu0];rfl)
    have y0:=str_at0 (Kd.C_below HWS.out E0.out.b) (by have:=HN.out;omega)
    rw[←hu0]at y0
    have HU:=AK hu0
    clear hu0
    have k0:=eq_true (show (0:Int)<(ws.length:Int)by have:=HN.out;omega)
    go_upto_block 0 with fail
    go_cut [] (fun wc=>∃(e:S40) (F:Option Addr) (f:Nat),Aside0 (eventB ws=some e)∧Aside0 (EB w #[.int .i64 e.f0,.int .i64 e.f1,.int .i64 e.f2,.int .i64 e.f3,.int .i64 e.f4.f0,.string e.f4.f1,.slice F e.f4.f2.length f] wc)∧Aside0 (Kd.R (Kd.int .i64) 3 wc w.heap.size (fun _=>True) (.slice F e.f4.f2.length f) e.f4.f2))
    case first=>
      obtain⟨b_data,h_data⟩:∃b,b=((u0.toList == [100,97,116,97]) && (ws.length == 3)):=⟨_,rfl⟩
      have B_data:=AK h_data
      clear h_data
      go_upto_region 6 with fail
      go_cut [18] (fun v9 wc=>v9=.bool b_data∧Aside0 (EB w #[.int .i64 0,.int .i64 d1,.int .i64 0,.int .i64 0,.int .i64 0,.string ⟨#[]⟩,.slice none 0 0] wc))
      case first=>
        as_aux_lemma=>
          by_cases hX:u0.toList=[100,97,116,97]
          · have t1:(u0.toList == [100,97,116,97])=true:=by rw[hX];rfl
            by_cases hn:ws.length=3
            · skip
              have n1:((ws.length:Int) == 3)=true:=beq_iff_eq.2 (by omega)
              have n1p:=eq_true (show (ws.length:Int)=3 by omega)
              have e:b_data=true:=by rw[B_data.out,hX,hn];rfl
              clear hX hn
              subst e
              go_wp2
              go_meet
              case rel=>exact⟨rfl,E0⟩
            · skip
              have n1:((ws.length:Int) == 3)=false:=beq_eq_false_iff_ne.2 (by omega)
              have n1p:=eq_false (show ¬ (ws.length:Int)=3 by omega)
              have e:b_data=false:=by rw[B_data.out,hX,beq_eq_false_iff_ne.2 hn];rfl
              clear hX hn
              subst e
              go_wp2
              go_meet
              case rel=>exact⟨rfl,E0⟩
          · have t1:(u0.toList == [100,97,116,97])=false:=beq_eq_false_iff_ne.2 hX
            have e:b_data=false:=by rw[B_data.out,t1];rfl
            clear hX
            subst e
            go_wp2
            go_meet
            case rel=>exact⟨rfl,E0⟩
      case rest=>
        clear E0 y0
        obtain⟨rfl,E0⟩:=hcut
        have y0:=str_at0 (Kd.C_below HWS.out E0.out.b) (by have:=HN.out;omega)
        rw[←HU.out]at y0
        cases b_data
        case true=>
          as_aux_lemma=>
            have hX:u0.toList=[100,97,116,97]:=by have:=B_data.out;simp at this;exact this.1
            have hn:ws.length=3:=by have:=B_data.out;simp at this;exact this.2
            have HD:=AK (show d1=dg ws 1 by rw[HD1.out,if_pos (by omega)])
            obtain⟨u2,hu2⟩:∃u,u=ws.getD 2 ByteArray.empty:=⟨_,rfl⟩
            have HU2:=AK hu2
            clear hu2
            have HEV:=AK (show eventB ws=some ⟨1,d1,0,0,⟨1,u2,[]⟩⟩by
              rw[ev_data (HU0.out.trans hX),if_pos (beq_iff_eq.2 hn),HD.out,HU2.out])
            have HN2:=AK hn
            clear hX hn
            obtain⟨p0,p1,p2,p3,p4,p5,p6⟩:=box7 E0.out.x5
            have q0:=bfz E0.out.x5 0
            go_upto_region 8 with fail
            clear p0 p1 p2 p3 p4 p5 p6 q0
            replace E0:=AK (E0.out.set 0 (.int .i64 1) rfl)
            generalize World.setCell wc ⟨w.heap.size+1,0,none⟩ (.int .i64 1)=wa at E0 ⊢
            have y2:=str_atk (Kd.C_below HWS.out E0.out.b) 2 (by have:=HN2.out;omega) (by omega)
            rw[←HU2.out]at y2
            have k2:=eq_true (show (2:Int)<(ws.length:Int)by have:=HN2.out;omega)
            obtain⟨p0,p1,p2,p3,p4,p5,p6⟩:=box7 E0.out.x5
            have q4:=bfz E0.out.x5 4
            have q5:=bfz E0.out.x5 5
            have q6:=bfz E0.out.x5 6
            go_wp2
            go_meet
            case rel=>exact⟨⟨1,d1,0,0,⟨1,u2,[]⟩⟩,none,0,⟨HEV.out⟩,⟨((E0.out.set 4 (.int .i64 1) rfl).set 5 (.string u2) rfl).set 6 (.slice none 0 0) rfl⟩,⟨Kd.R_nil _ _ _ _ _⟩⟩
        obtain⟨b_cell,h_cell⟩:∃b,b=((u0.toList == [99,101,108,108]) && decide (2≤ws.length)):=⟨_,rfl⟩
        have B_cell:=AK h_cell
        clear h_cell
        obtain⟨b_weak,h_weak⟩:∃b,b=((u0.toList == [119,101,97,107]) && (ws.length == 4)):=⟨_,rfl⟩
        have B_weak:=AK h_weak
        clear h_weak
        obtain⟨b_guardian,h_guardian⟩:∃b,b=((u0.toList == [103,117,97,114,100,105,97,110]) && (ws.length == 2)):=⟨_,rfl⟩
        have B_guardian:=AK h_guardian
        clear h_guardian
        go_upto_region 9 with fail
        go_cut [33] (fun v9 wc=>v9=.bool (b_cell || (b_weak || b_guardian))∧Aside0 (EB w #[.int .i64 0,.int .i64 d1,.int .i64 0,.int .i64 0,.int .i64 0,.string ⟨#[]⟩,.slice none 0 0] wc))
        case first=>
          as_aux_lemma=>
            by_cases hX:u0.toList=[99,101,108,108]
            · skip
              have t1:(u0.toList == [99,101,108,108])=true:=by rw[hX];rfl
              have t_weak:(u0.toList == [119,101,97,107])=false:=by rw[hX];rfl
              have t_guardian:(u0.toList == [103,117,97,114,100,105,97,110])=false:=by rw[hX];rfl
              by_cases hn:1<ws.length
              · skip
                have n1:decide ((1:Int)<(ws.length:Int))=true:=deT (by omega)
                have n1p:=eq_true (show (1:Int)<(ws.length:Int)by omega)
                have s_cell:b_cell=true:=by rw[B_cell.out,t1,deT (show 2≤ws.length by omega)];rfl
                have s_weak:b_weak=false:=by rw[B_weak.out,t_weak];rfl
                have s_guardian:b_guardian=false:=by rw[B_guardian.out,t_guardian];rfl
                clear hX hn
                subst s_cell s_weak s_guardian
                go_wp2
                go_meet
                case rel=>exact⟨rfl,E0⟩
              · skip
                have n1:decide ((1:Int)<(ws.length:Int))=false:=deF (by omega)
                have n1p:=eq_false (show ¬ (1:Int)<(ws.length:Int)by omega)
                have s_cell:b_cell=false:=by rw[B_cell.out,t1,deF (show ¬ 2≤ws.length by omega)];rfl
                have s_weak:b_weak=false:=by rw[B_weak.out,t_weak];rfl
                have s_guardian:b_guardian=false:=by rw[B_guardian.out,t_guardian];rfl
                clear hX hn
                subst s_cell s_weak s_guardian
                go_wp2
                go_meet
                case rel=>exact⟨rfl,E0⟩
            have t_cell:(u0.toList == [99,101,108,108])=false:=beq_eq_false_iff_ne.2 hX
            clear hX
            by_cases hX:u0.toList=[119,101,97,107]
            · skip
              have t1:(u0.toList == [119,101,97,107])=true:=by rw[hX];rfl
              have t_cell:(u0.toList == [99,101,108,108])=false:=by rw[hX];rfl
              have t_guardian:(u0.toList == [103,117,97,114,100,105,97,110])=false:=by rw[hX];rfl
              by_cases hn:ws.length=4
              · skip
                have n1:((ws.length:Int) == 4)=true:=beq_iff_eq.2 (by omega)
                have n1p:=eq_true (show (ws.length:Int)=4 by omega)
                have s_cell:b_cell=false:=by rw[B_cell.out,t_cell];rfl
                have s_weak:b_weak=true:=by rw[B_weak.out,t1,beq_iff_eq.2 hn];rfl
                have s_guardian:b_guardian=false:=by rw[B_guardian.out,t_guardian];rfl
                clear hX hn
                subst s_cell s_weak s_guardian
                go_wp2
                go_meet
                case rel=>exact⟨rfl,E0⟩
              · skip
                have n1:((ws.length:Int) == 4)=false:=beq_eq_false_iff_ne.2 (by omega)
                have n1p:=eq_false (show ¬ (ws.length:Int)=4 by omega)
                have s_cell:b_cell=false:=by rw[B_cell.out,t_cell];rfl
                have s_weak:b_weak=false:=by rw[B_weak.out,t1,beq_eq_false_iff_ne.2 hn];rfl
                have s_guardian:b_guardian=false:=by rw[B_guardian.out,t_guardian];rfl
                clear hX hn
                subst s_cell s_weak s_guardian
                go_wp2
                go_meet
                case rel=>exact⟨rfl,E0⟩
            have t_weak:(u0.toList == [119,101,97,107])=false:=beq_eq_false_iff_ne.2 hX
            clear hX
            by_cases hX:u0.toList=[103,117,97,114,100,105,97,110]
            · skip
              have t1:(u0.toList == [103,117,97,114,100,105,97,110])=true:=by rw[hX];rfl
              have t_cell:(u0.toList == [99,101,108,108])=false:=by rw[hX];rfl
              have t_weak:(u0.toList == [119,101,97,107])=false:=by rw[hX];rfl
              by_cases hn:ws.length=2
              · skip
                have n1:((ws.length:Int) == 2)=true:=beq_iff_eq.2 (by omega)
                have n1p:=eq_true (show (ws.length:Int)=2 by omega)
                have s_cell:b_cell=false:=by rw[B_cell.out,t_cell];rfl
                have s_weak:b_weak=false:=by rw[B_weak.out,t_weak];rfl
                have s_guardian:b_guardian=true:=by rw[B_guardian.out,t1,beq_iff_eq.2 hn];rfl
                clear hX hn
                subst s_cell s_weak s_guardian
                go_wp2
                go_meet
                case rel=>exact⟨rfl,E0⟩
              · skip
                have n1:((ws.length:Int) == 2)=false:=beq_eq_false_iff_ne.2 (by omega)
                have n1p:=eq_false (show ¬ (ws.length:Int)=2 by omega)
                have s_cell:b_cell=false:=by rw[B_cell.out,t_cell];rfl
                have s_weak:b_weak=false:=by rw[B_weak.out,t_weak];rfl
                have s_guardian:b_guardian=false:=by rw[B_guardian.out,t1,beq_eq_false_iff_ne.2 hn];rfl
                clear hX hn
                subst s_cell s_weak s_guardian
                go_wp2
                go_meet
                case rel=>exact⟨rfl,E0⟩
            have t_guardian:(u0.toList == [103,117,97,114,100,105,97,110])=false:=beq_eq_false_iff_ne.2 hX
            clear hX
            have s_cell:b_cell=false:=by rw[B_cell.out,t_cell];rfl
            have s_weak:b_weak=false:=by rw[B_weak.out,t_weak];rfl
            have s_guardian:b_guardian=false:=by rw[B_guardian.out,t_guardian];rfl
            subst s_cell s_weak s_guardian
            go_wp2
            go_meet
            case rel=>exact⟨rfl,E0⟩
        case rest=>
          clear E0 y0
          obtain⟨rfl,E0⟩:=hcut
          have y0:=str_at0 (Kd.C_below HWS.out E0.out.b) (by have:=HN.out;omega)
          rw[←HU.out]at y0
          obtain⟨b3,h3⟩:∃b,b=(b_cell || (b_weak || b_guardian)):=⟨_,rfl⟩
          have B3:=AK h3
          rw[←h3]
          clear h3
          cases b3
          case true=>
            as_aux_lemma=>
              obtain⟨bc,hbc⟩:∃b,(u0.toList == [99,101,108,108])=b:=⟨_,rfl⟩
              obtain⟨bw,hbw⟩:∃b,(u0.toList == [119,101,97,107])=b:=⟨_,rfl⟩
              have HBW:=AK hbw
              have HN2:=AK (show 2≤ws.length from by
                have h1:=B3.out
                have h2:=B_cell.out
                have h3:=B_weak.out
                have h4:=B_guardian.out
                by_cases c:2≤ws.length
                · exact c
                · rw[h2,h3,h4,deF c,beq_eq_false_iff_ne.2 (show ws.length≠4 by omega),beq_eq_false_iff_ne.2 (show ws.length≠2 by omega)]at h1
                  simp at h1)
              obtain⟨k1,hk1⟩:∃k:Int,k=if bc=true then 2 else 4:=⟨_,rfl⟩
              obtain⟨k2,hk2⟩:∃k:Int,k=if bw=true then 3 else k1:=⟨_,rfl⟩
              have HK1:=AK hk1
              have HK2:=AK hk2
              have HD:=AK (show d1=dg ws 1 by rw[HD1.out,if_pos HN2.out])
              have HEV:=AK (show eventB ws=some ⟨1,d1,0,0,⟨k2,⟨#[]⟩,(ws.drop 2).map digitB⟩⟩from by
                have h1:=B3.out
                by_cases x1:u0.toList=[99,101,108,108]
                · have e1:k2=2:=by rw[hk2,←hbw,hk1,←hbc,x1];rfl
                  rw[ev_cell (HU0.out.trans x1),if_pos (deT HN2.out),HD.out,e1]
                have y1:=beq_eq_false_iff_ne.2 x1
                have z1:b_cell=false:=by rw[B_cell.out,y1];rfl
                by_cases x2:u0.toList=[119,101,97,107]
                · have e1:k2=3:=by rw[hk2,←hbw,x2];rfl
                  have z3:b_guardian=false:=by rw[B_guardian.out,x2];rfl
                  have z2:b_weak=true:=by rw[z1,z3]at h1;simpa using h1.symm
                  rw[B_weak.out,x2]at z2
                  rw[ev_weak (HU0.out.trans x2),if_pos (by simpa using z2),HD.out,e1]
                have y2:=beq_eq_false_iff_ne.2 x2
                have z2:b_weak=false:=by rw[B_weak.out,y2];rfl
                have z3:b_guardian=true:=by rw[z1,z2]at h1;simpa using h1.symm
                have e1:k2=4:=by rw[hk2,←hbw,hk1,←hbc,y1,y2];rfl
                rw[B_guardian.out,Bool.and_eq_true]at z3
                rw[ev_guardian (HU0.out.trans (by simpa using z3.1)),if_pos z3.2,HD.out,e1])
              clear hbw hk1 hk2
              obtain⟨p0,p1,p2,p3,p4,p5,p6⟩:=box7 E0.out.x5
              have q0:=bfz E0.out.x5 0
              go_upto_region 11 with fail
              clear p0 p1 p2 p3 p4 p5 p6 q0
              replace E0:=AK (E0.out.set 0 (.int .i64 1) rfl)
              generalize World.setCell wc ⟨w.heap.size+1,0,none⟩ (.int .i64 1)=wa at E0 ⊢
              obtain⟨p0,p1,p2,p3,p4,p5,p6⟩:=box7 E0.out.x5
              have q4:=bfz E0.out.x5 4
              go_upto_region 12 with fail
              clear p0 p1 p2 p3 p4 p5 p6 q4
              replace E0:=AK (E0.out.set 4 (.int .i64 4) rfl)
              generalize World.setCell wa ⟨w.heap.size+1,4,none⟩ (.int .i64 4)=wb at E0 ⊢
              replace y0:=str_at0 (Kd.C_below HWS.out E0.out.b) (by have:=HN.out;omega)
              rw[←HU.out]at y0
              go_upto_if 68 with fail
              clear hbc
              go_cut [] (fun wc=>Aside0 (EB w #[.int .i64 1,.int .i64 d1,.int .i64 0,.int .i64 0,.int .i64 k1,.string ⟨#[]⟩,.slice none 0 0] wc))
              case first=>
                as_aux_lemma=>
                  cases bc
                  · have e:k1=4:=by rw[HK1.out];rfl
                    subst e
                    go_wp2
                    go_meet
                    case rel=>exact E0
                  · have e:k1=2:=by rw[HK1.out];rfl
                    subst e
                    obtain⟨p0,p1,p2,p3,p4,p5,p6⟩:=box7 E0.out.x5
                    have q4:=bfz E0.out.x5 4
                    go_wp2
                    go_meet
                    case rel=>exact⟨E0.out.set 4 (.int .i64 2) rfl⟩
              case rest=>
                clear E0
                have E0:=hcut
                clear hcut
                have hbw:=HBW.out
                replace y0:=str_at0 (Kd.C_below HWS.out E0.out.b) (by have:=HN.out;omega)
                rw[←HU.out]at y0
                go_upto_if 74 with fail
                clear hbw
                go_cut [] (fun wc=>Aside0 (EB w #[.int .i64 1,.int .i64 d1,.int .i64 0,.int .i64 0,.int .i64 k2,.string ⟨#[]⟩,.slice none 0 0] wc))
                case first=>
                  as_aux_lemma=>
                    cases bw
                    · have e:k2=k1:=by rw[HK2.out];rfl
                      subst e
                      go_wp2
                      go_meet
                      case rel=>exact E0
                    · have e:k2=3:=by rw[HK2.out];rfl
                      subst e
                      obtain⟨p0,p1,p2,p3,p4,p5,p6⟩:=box7 E0.out.x5
                      have q4:=bfz E0.out.x5 4
                      go_wp2
                      go_meet
                      case rel=>exact⟨E0.out.set 4 (.int .i64 3) rfl⟩
                case rest=>
                  clear E0 y0
                  have E0:=hcut
                  clear hcut
                  go_wp2_with fail
                  go_loopg [6] (ws.length - 2) (fun kq v6 w'=>∃(m:List Int) (M:Option Addr) (cm:Nat) (i:Int),v6=.int .i64 i∧Aside0 (2≤i∧i+kq=ws.length)∧Aside0 (m=((ws.drop 2).take (i - 2).toNat).map digitB)∧Aside0 (EB w #[.int .i64 1,.int .i64 d1,.int .i64 0,.int .i64 0,.int .i64 k2,.string ⟨#[]⟩,.slice M m.length cm] w')∧Aside0 (Kd.R (Kd.int .i64) 3 w' w.heap.size (fun _=>True) (.slice M m.length cm) m))
                  case atStart=>exact⟨[],none,0,2,rfl,⟨by omega,by have:=HN2.out;omega⟩,⟨by simp⟩,E0,⟨Kd.R_nil _ _ _ _ _⟩⟩
                  case round=>
                    clear E0
                    obtain⟨m,M,cm,i,rfl,HI,HM,E0,HR⟩:=hrel
                    cases gk with
                    | zero=>
                      as_aux_lemma=>
                        have c9:decide (i<(ws.length:Int))=false:=deF (by have:=HI.out;omega)
                        have e:(ws.drop 2).map digitB=m:=by
                          rw[HM.out,List.take_of_length_le]
                          rw[List.length_drop];have:=HI.out;omega
                        have HEV2:=HEV.out
                        rw[e]at HEV2
                        replace HEV:=AK HEV2
                        clear e HEV2
                        go_wp2
                        go_meet
                        case rel=>exact⟨⟨1,d1,0,0,⟨k2,⟨#[]⟩,m⟩⟩,M,cm,HEV,E0,HR⟩

                    | succ g1=>
                      as_aux_lemma=>
                        have c9:decide (i<(ws.length:Int))=true:=deT (by have:=HI.out;omega)
                        have hi0:=eq_true (show 0≤i by have:=HI.out;omega)
                        have hi1:=eq_true (show i<(ws.length:Int)by have:=HI.out;omega)
                        obtain⟨u,hu⟩:∃u,u=ws.getD i.toNat ByteArray.empty:=⟨_,rfl⟩
                        have HUI:=AK hu
                        obtain⟨dd,hdd⟩:∃z,z=digitB u:=⟨_,rfl⟩
                        have HDD:=AK hdd
                        obtain⟨m2,em2⟩:∃l,l=m++[dd]:=⟨_,rfl⟩
                        have EM:=AK em2
                        have HM2:=AK (show m2=((ws.drop 2).take (i+1 - 2).toNat).map digitB from by
                          rw[em2,HM.out,show (i+1 - 2).toNat=(i - 2).toNat+1 by have:=HI.out;omega,List.take_add_one,List.getElem?_drop,show 2+(i - 2).toNat=i.toNat by have:=HI.out;omega,List.getElem?_eq_getElem (show i.toNat<ws.length by have:=HI.out;omega),List.map_append,hdd,hu,List.getD_eq_getElem?_getD,List.getElem?_eq_getElem (show i.toNat<ws.length by have:=HI.out;omega)]
                          rfl)
                        have HML:=AK (show m.length≤1048577 from by
                          rw[HM.out,List.length_map,List.length_take,List.length_drop];have:=HN.out;omega)
                        clear hu hdd em2
                        go_upto_region 19 with fail
                        clear c9 hi0 hi1
                        replace E0:=AK (E0.out.below (below_drew1 (Below.refl _ _)))
                        replace HR:=AK (Kd.R_below HR.out (below_drew1 (Below.refl _ _)))
                        have hi0:=eq_true (show 0≤i by have:=HI.out;omega)
                        have hi1:=eq_true (show i<(ws.length:Int)by have:=HI.out;omega)
                        refine start_ (n:=13) (S:=(fun w'=>w'.cell? ⟨w.heap.size+1,6,none⟩=some (.slice M m.length cm)∧w'.cell? (ad.add i.toNat)=some (.string u))) (ds:=[12]) #[fF,fF,fF,fF,fF,fF,fF,fF,fF,fF,fF,fF,fF] (by kernel_rfl) rfl rfl ⟨(bcl E0.out.x5 6).trans rfl,(show _=some (Value.string u)from by rw[HUI.out];exact str_at (Kd.C_below HWS.out E0.out.b) i.toNat (by have:=HI.out;omega))⟩ (fun hHeld=>?_);refine with_tabW ev19_tab ev19_bits (fun HT_ HW_=>?_)
                        generalize World.drew wr=vv at E0 HR hHeld ⊢
                        refine pU HT_ 0 (some 82) (bM 13 1) ?_
                        refine pU HT_ 1 (some 83) (bM 13 3) ?_
                        refine tU HT_ HW_ 2 (some 84) (bM 13 7) hHeld rfl (by refine Or.inl ⟨by rfl,?_⟩;rintro w' ⟨s0,s1⟩;go_simp;with_reducible rfl) ?_
                        refine pU HT_ 3 (some 85) (bM 13 15) ?_
                        refine pU HT_ 4 (some 86) (bM 13 31) ?_
                        refine pU HT_ 5 (some 87) (bM 13 63) ?_
                        refine tU HT_ HW_ 6 (some 88) (bM 13 127) hHeld rfl (by refine Or.inl ⟨by rfl,?_⟩;rintro w' ⟨s0,s1⟩;go_simp;with_reducible rfl) ?_
                        refine one_ (i:=7) (N:=some 89) (bM 13 255) rfl rfl (one_of HT_.out (by kernel_rfl)) (by decide) (fun K_ hK=>?_)
                        refine goes_ Tryd.func19 (by kernel_rfl) rfl #[.string u] (by rfl) rfl rfl zI ?_
                        refine l5Digit_c.mono ?_
                        rintro en vx ⟨rfl,hw⟩
                        rw[hw,←HDD.out]
                        clear hw
                        refine⟨_,rfl,?_⟩
                        refine hK.out _ _ ⟨(bcl E0.out.x5 6).trans rfl,(show _=some (Value.string u)from by rw[HUI.out];exact str_at (Kd.C_below HWS.out E0.out.b) i.toNat (by have:=HI.out;omega))⟩ (fun hHeld=>?_)
                        clear hK K_
                        refine nO (some 89) ?_
                        refine one_ (i:=8) (N:=some 90) (bM 13 511) rfl rfl (one_of HT_.out (by kernel_rfl)) (by decide) (fun K_ hK=>?_)
                        refine value_ (v:=.slice (some ⟨vv.heap.size,0,none⟩) 1 1) (w1:=vv.alloc (.cells #[.int .i64 dd] 3 (0,0))) (by rfl) rfl ?hr ?_;(case hr=>first|(go_simp;done)|(go_simp;rfl))
                        refine hK.out _ _ ⟨(bcl (blk_alloc E0.out.x5 _) 6).trans rfl,(show _=some (Value.string u)from by rw[HUI.out];exact str_at (Kd.C_below HWS.out (below_alloc E0.out.b _)) i.toNat (by have:=HI.out;omega))⟩ (fun hHeld=>?_)
                        clear hK K_
                        refine nO (some 90) ?_
                        refine one_ (i:=9) (N:=some 91) (bM 13 1023) rfl rfl (one_of HT_.out (by kernel_rfl)) (by decide) (fun K_ hK=>?_)
                        refine Kd.R_append_step (Kd.int .i64) (w0:=w) (W:=vv) w.heap.size (by rfl) (.tmp 84) (.tmp 90) 29 3 (.int .i64 0) 8 rfl Tryd.underlying29 info3 rfl (by decide) (by omega) (.slice M m.length cm) m dd [.int .i64 dd] (fun _=>True) (fun _=>False) rfl rfl ?aP (fun _ hk=>hk.elim) (fun _ _=>trivial) ?aO ?aB ?aS ?aL ?_;(case aP=>exact rfl);(case aO=>exact HR.out);(case aB=>exact E0.out.b);(case aS=>exact E0.out.b.size);(case aL=>have:=HML.out;omega)
                        intro v91 vw ho hb hg hat
                        rw[←EM.out]at ho
                        obtain⟨M2,cm2,ee⟩:=Kd.R_slice ho
                        subst ee
                        have HR2:=AK ho
                        have E2:=AK (show EB w #[.int .i64 1,.int .i64 d1,.int .i64 0,.int .i64 0,.int .i64 k2,.string ⟨#[]⟩,.slice M m.length cm] vw from⟨hb,blk_grown E0.out.x2 hg (Kd.R_ne HR.out E0.out.x2 (by decide)),blk_grown E0.out.x5 hg (Kd.R_ne HR.out E0.out.x5 (by decide))⟩)
                        clear ho hb hg hat
                        refine hK.out _ _ ⟨(bcl E2.out.x5 6).trans rfl,(show _=some (Value.string u)from by rw[HUI.out];exact str_at (Kd.C_below HWS.out E2.out.b) i.toNat (by have:=HI.out;omega))⟩ (fun hHeld=>?_)
                        clear hK K_
                        refine nO (some 91) ?_
                        refine pU HT_ 10 (some 92) (bM 13 2047) ?_
                        refine pU HT_ 11 (some 93) (bM 13 4095) ?_
                        refine last_ (i:=12) (N:=none) #[tT,tT,tT,tT,tT,tT,tT,tT,tT,tT,tT,tT,tT] rfl rfl (one_of HT_.out (by kernel_rfl)) (by decide) (fun K_ hK=>?_)
                        have hx:=(show vw.cell? ⟨w.heap.size+1,6,none⟩=some (.slice M m.length cm)from(bcl E2.out.x5 6).trans rfl)
                        have hf:=bfz E2.out.x5 6
                        refine skip_ (w1:=?_) (by rfl) rfl ?_ ?_
                        rotate_left
                        · go_simp
                          rfl
                        clear hx hf
                        refine hK.out _ _ ?_
                        clear hK K_
                        refine done_ (done_of HT_.out (by kernel_rfl)) ?_
                        clear HT_ HW_ hHeld
                        clear hi0 hi1
                        go_wp2
                        go_roundg g1
                        case measure=>omega
                        case rel=>
                          rw[wr_in2 (x:=i+1) (by have:=HI.out;omega) (by have:=HI.out;have:=HN.out;omega)]
                          exact⟨m2,M2,cm2,i+1,rfl,⟨by have:=HI.out;omega,by have:=HI.out;omega⟩,HM2,⟨E2.out.set 6 (.slice M2 m2.length cm2) rfl⟩,⟨Kd.R_set HR2.out E2.out.x5 (int_ap 37 (by decide)) 6 _⟩⟩
          obtain⟨b_take,h_take⟩:∃b,b=((u0.toList == [116,97,107,101]) && (ws.length == 4)):=⟨_,rfl⟩
          have B_take:=AK h_take
          clear h_take
          go_upto_region 20 with fail
          go_cut [94] (fun v9 wc=>v9=.bool b_take∧Aside0 (EB w #[.int .i64 0,.int .i64 d1,.int .i64 0,.int .i64 0,.int .i64 0,.string ⟨#[]⟩,.slice none 0 0] wc))
          case first=>
            as_aux_lemma=>
              by_cases hX:u0.toList=[116,97,107,101]
              · have t1:(u0.toList == [116,97,107,101])=true:=by rw[hX];rfl
                by_cases hn:ws.length=4
                · skip
                  have n1:((ws.length:Int) == 4)=true:=beq_iff_eq.2 (by omega)
                  have n1p:=eq_true (show (ws.length:Int)=4 by omega)
                  have e:b_take=true:=by rw[B_take.out,hX,hn];rfl
                  clear hX hn
                  subst e
                  go_wp2
                  go_meet
                  case rel=>exact⟨rfl,E0⟩
                · skip
                  have n1:((ws.length:Int) == 4)=false:=beq_eq_false_iff_ne.2 (by omega)
                  have n1p:=eq_false (show ¬ (ws.length:Int)=4 by omega)
                  have e:b_take=false:=by rw[B_take.out,hX,beq_eq_false_iff_ne.2 hn];rfl
                  clear hX hn
                  subst e
                  go_wp2
                  go_meet
                  case rel=>exact⟨rfl,E0⟩
              · have t1:(u0.toList == [116,97,107,101])=false:=beq_eq_false_iff_ne.2 hX
                have e:b_take=false:=by rw[B_take.out,t1];rfl
                clear hX
                subst e
                go_wp2
                go_meet
                case rel=>exact⟨rfl,E0⟩
          case rest=>
            clear E0 y0
            obtain⟨rfl,E0⟩:=hcut
            have y0:=str_at0 (Kd.C_below HWS.out E0.out.b) (by have:=HN.out;omega)
            rw[←HU.out]at y0
            cases b_take
            case true=>
              as_aux_lemma=>
                have hX:u0.toList=[116,97,107,101]:=by have:=B_take.out;simp at this;exact this.1
                have hn:ws.length=4:=by have:=B_take.out;simp at this;exact this.2
                have HD:=AK (show d1=dg ws 1 by rw[HD1.out,if_pos (by omega)])
                obtain⟨e2,he2⟩:∃z,z=dg ws 2:=⟨_,rfl⟩
                have HX2:=AK he2
                clear he2
                obtain⟨e3,he3⟩:∃z,z=dg ws 3:=⟨_,rfl⟩
                have HX3:=AK he3
                clear he3
                have HEV:=AK (show eventB ws=some ⟨2,d1,e2,e3,⟨0,⟨#[]⟩,[]⟩⟩by
                  rw[ev_take (HU0.out.trans hX),if_pos (beq_iff_eq.2 hn),HD.out,HX2.out,HX3.out])
                have HN2:=AK hn
                clear hX hn
                obtain⟨p0,p1,p2,p3,p4,p5,p6⟩:=box7 E0.out.x5
                have q0:=bfz E0.out.x5 0
                go_upto_region 22 with fail
                clear p0 p1 p2 p3 p4 p5 p6 q0
                replace E0:=AK (E0.out.set 0 (.int .i64 2) rfl)
                generalize World.setCell wc ⟨w.heap.size+1,0,none⟩ (.int .i64 2)=wa at E0 ⊢
                obtain⟨u2,hu2⟩:∃u,u=ws.getD 2 ByteArray.empty:=⟨_,rfl⟩
                have HG2:=AK (show digitB u2=e2 by rw[hu2,HX2.out];rfl)
                have y2:=str_atk (Kd.C_below HWS.out E0.out.b) 2 (by have:=HN2.out;omega) (by omega)
                rw[←hu2]at y2
                have k2:=eq_true (show (2:Int)<(ws.length:Int)by have:=HN2.out;omega)
                clear hu2
                go_wp2_with fail
                refine l5Digit_c.mono ?_
                rintro en wx ⟨rfl,rfl⟩
                rw[HG2.out]
                clear y2 k2
                obtain⟨p0,p1,p2,p3,p4,p5,p6⟩:=box7 E0.out.x5
                have q2:=bfz E0.out.x5 2
                go_upto_region 23 with fail
                clear p0 p1 p2 p3 p4 p5 p6 q2
                replace E0:=AK (E0.out.set 2 (.int .i64 e2) rfl)
                generalize World.setCell wx ⟨w.heap.size+1,2,none⟩ (.int .i64 e2)=wb at E0 ⊢
                obtain⟨u3,hu3⟩:∃u,u=ws.getD 3 ByteArray.empty:=⟨_,rfl⟩
                have HG3:=AK (show digitB u3=e3 by rw[hu3,HX3.out];rfl)
                have y3:=str_atk (Kd.C_below HWS.out E0.out.b) 3 (by have:=HN2.out;omega) (by omega)
                rw[←hu3]at y3
                have k3:=eq_true (show (3:Int)<(ws.length:Int)by have:=HN2.out;omega)
                clear hu3
                go_wp2_with fail
                refine l5Digit_c.mono ?_
                rintro en wx ⟨rfl,rfl⟩
                rw[HG3.out]
                clear y3 k3
                obtain⟨p0,p1,p2,p3,p4,p5,p6⟩:=box7 E0.out.x5
                have q3:=bfz E0.out.x5 3
                go_wp2
                go_meet
                case rel=>exact⟨⟨2,d1,e2,e3,⟨0,⟨#[]⟩,[]⟩⟩,none,0,⟨HEV.out⟩,⟨E0.out.set 3 (.int .i64 e3) rfl⟩,⟨Kd.R_nil _ _ _ _ _⟩⟩
            obtain⟨b_set,h_set⟩:∃b,b=((u0.toList == [115,101,116]) && (ws.length == 4)):=⟨_,rfl⟩
            have B_set:=AK h_set
            clear h_set
            go_upto_region 24 with fail
            go_cut [114] (fun v9 wc=>v9=.bool b_set∧Aside0 (EB w #[.int .i64 0,.int .i64 d1,.int .i64 0,.int .i64 0,.int .i64 0,.string ⟨#[]⟩,.slice none 0 0] wc))
            case first=>
              as_aux_lemma=>
                by_cases hX:u0.toList=[115,101,116]
                · have t1:(u0.toList == [115,101,116])=true:=by rw[hX];rfl
                  by_cases hn:ws.length=4
                  · skip
                    have n1:((ws.length:Int) == 4)=true:=beq_iff_eq.2 (by omega)
                    have n1p:=eq_true (show (ws.length:Int)=4 by omega)
                    have e:b_set=true:=by rw[B_set.out,hX,hn];rfl
                    clear hX hn
                    subst e
                    go_wp2
                    go_meet
                    case rel=>exact⟨rfl,E0⟩
                  · skip
                    have n1:((ws.length:Int) == 4)=false:=beq_eq_false_iff_ne.2 (by omega)
                    have n1p:=eq_false (show ¬ (ws.length:Int)=4 by omega)
                    have e:b_set=false:=by rw[B_set.out,hX,beq_eq_false_iff_ne.2 hn];rfl
                    clear hX hn
                    subst e
                    go_wp2
                    go_meet
                    case rel=>exact⟨rfl,E0⟩
                · have t1:(u0.toList == [115,101,116])=false:=beq_eq_false_iff_ne.2 hX
                  have e:b_set=false:=by rw[B_set.out,t1];rfl
                  clear hX
                  subst e
                  go_wp2
                  go_meet
                  case rel=>exact⟨rfl,E0⟩
            case rest=>
              clear E0 y0
              obtain⟨rfl,E0⟩:=hcut
              have y0:=str_at0 (Kd.C_below HWS.out E0.out.b) (by have:=HN.out;omega)
              rw[←HU.out]at y0
              cases b_set
              case true=>
                as_aux_lemma=>
                  have hX:u0.toList=[115,101,116]:=by have:=B_set.out;simp at this;exact this.1
                  have hn:ws.length=4:=by have:=B_set.out;simp at this;exact this.2
                  have HD:=AK (show d1=dg ws 1 by rw[HD1.out,if_pos (by omega)])
                  obtain⟨e2,he2⟩:∃z,z=dg ws 2:=⟨_,rfl⟩
                  have HX2:=AK he2
                  clear he2
                  obtain⟨e3,he3⟩:∃z,z=dg ws 3:=⟨_,rfl⟩
                  have HX3:=AK he3
                  clear he3
                  have HEV:=AK (show eventB ws=some ⟨3,d1,e3,e2,⟨0,⟨#[]⟩,[]⟩⟩by
                    rw[ev_set (HU0.out.trans hX),if_pos (beq_iff_eq.2 hn),HD.out,HX2.out,HX3.out])
                  have HN2:=AK hn
                  clear hX hn
                  obtain⟨p0,p1,p2,p3,p4,p5,p6⟩:=box7 E0.out.x5
                  have q0:=bfz E0.out.x5 0
                  go_upto_region 26 with fail
                  clear p0 p1 p2 p3 p4 p5 p6 q0
                  replace E0:=AK (E0.out.set 0 (.int .i64 3) rfl)
                  generalize World.setCell wc ⟨w.heap.size+1,0,none⟩ (.int .i64 3)=wa at E0 ⊢
                  obtain⟨u2,hu2⟩:∃u,u=ws.getD 2 ByteArray.empty:=⟨_,rfl⟩
                  have HG2:=AK (show digitB u2=e2 by rw[hu2,HX2.out];rfl)
                  have y2:=str_atk (Kd.C_below HWS.out E0.out.b) 2 (by have:=HN2.out;omega) (by omega)
                  rw[←hu2]at y2
                  have k2:=eq_true (show (2:Int)<(ws.length:Int)by have:=HN2.out;omega)
                  clear hu2
                  go_wp2_with fail
                  refine l5Digit_c.mono ?_
                  rintro en wx ⟨rfl,rfl⟩
                  rw[HG2.out]
                  clear y2 k2
                  obtain⟨p0,p1,p2,p3,p4,p5,p6⟩:=box7 E0.out.x5
                  have q3:=bfz E0.out.x5 3
                  go_upto_region 27 with fail
                  clear p0 p1 p2 p3 p4 p5 p6 q3
                  replace E0:=AK (E0.out.set 3 (.int .i64 e2) rfl)
                  generalize World.setCell wx ⟨w.heap.size+1,3,none⟩ (.int .i64 e2)=wb at E0 ⊢
                  obtain⟨u3,hu3⟩:∃u,u=ws.getD 3 ByteArray.empty:=⟨_,rfl⟩
                  have HG3:=AK (show digitB u3=e3 by rw[hu3,HX3.out];rfl)
                  have y3:=str_atk (Kd.C_below HWS.out E0.out.b) 3 (by have:=HN2.out;omega) (by omega)
                  rw[←hu3]at y3
                  have k3:=eq_true (show (3:Int)<(ws.length:Int)by have:=HN2.out;omega)
                  clear hu3
                  go_wp2_with fail
                  refine l5Digit_c.mono ?_
                  rintro en wx ⟨rfl,rfl⟩
                  rw[HG3.out]
                  clear y3 k3
                  obtain⟨p0,p1,p2,p3,p4,p5,p6⟩:=box7 E0.out.x5
                  have q2:=bfz E0.out.x5 2
                  go_wp2
                  go_meet
                  case rel=>exact⟨⟨3,d1,e3,e2,⟨0,⟨#[]⟩,[]⟩⟩,none,0,⟨HEV.out⟩,⟨E0.out.set 2 (.int .i64 e3) rfl⟩,⟨Kd.R_nil _ _ _ _ _⟩⟩
              obtain⟨b_forget,h_forget⟩:∃b,b=((u0.toList == [102,111,114,103,101,116]) && (ws.length == 2)):=⟨_,rfl⟩
              have B_forget:=AK h_forget
              clear h_forget
              go_upto_region 28 with fail
              go_cut [134] (fun v9 wc=>v9=.bool b_forget∧Aside0 (EB w #[.int .i64 0,.int .i64 d1,.int .i64 0,.int .i64 0,.int .i64 0,.string ⟨#[]⟩,.slice none 0 0] wc))
              case first=>
                as_aux_lemma=>
                  by_cases hX:u0.toList=[102,111,114,103,101,116]
                  · have t1:(u0.toList == [102,111,114,103,101,116])=true:=by rw[hX];rfl
                    by_cases hn:ws.length=2
                    · skip
                      have n1:((ws.length:Int) == 2)=true:=beq_iff_eq.2 (by omega)
                      have n1p:=eq_true (show (ws.length:Int)=2 by omega)
                      have e:b_forget=true:=by rw[B_forget.out,hX,hn];rfl
                      clear hX hn
                      subst e
                      go_wp2
                      go_meet
                      case rel=>exact⟨rfl,E0⟩
                    · skip
                      have n1:((ws.length:Int) == 2)=false:=beq_eq_false_iff_ne.2 (by omega)
                      have n1p:=eq_false (show ¬ (ws.length:Int)=2 by omega)
                      have e:b_forget=false:=by rw[B_forget.out,hX,beq_eq_false_iff_ne.2 hn];rfl
                      clear hX hn
                      subst e
                      go_wp2
                      go_meet
                      case rel=>exact⟨rfl,E0⟩
                  · have t1:(u0.toList == [102,111,114,103,101,116])=false:=beq_eq_false_iff_ne.2 hX
                    have e:b_forget=false:=by rw[B_forget.out,t1];rfl
                    clear hX
                    subst e
                    go_wp2
                    go_meet
                    case rel=>exact⟨rfl,E0⟩
              case rest=>
                clear E0 y0
                obtain⟨rfl,E0⟩:=hcut
                have y0:=str_at0 (Kd.C_below HWS.out E0.out.b) (by have:=HN.out;omega)
                rw[←HU.out]at y0
                cases b_forget
                case true=>
                  as_aux_lemma=>
                    have hX:u0.toList=[102,111,114,103,101,116]:=by have:=B_forget.out;simp at this;exact this.1
                    have hn:ws.length=2:=by have:=B_forget.out;simp at this;exact this.2
                    have HD:=AK (show d1=dg ws 1 by rw[HD1.out,if_pos (by omega)])
                    have HEV:=AK (show eventB ws=some ⟨4,d1,0,0,⟨0,⟨#[]⟩,[]⟩⟩by
                      rw[ev_forget (HU0.out.trans hX),if_pos (beq_iff_eq.2 hn),HD.out])
                    have HN2:=AK hn
                    clear hX hn
                    obtain⟨p0,p1,p2,p3,p4,p5,p6⟩:=box7 E0.out.x5
                    have q0:=bfz E0.out.x5 0
                    go_wp2
                    go_meet
                    case rel=>exact⟨⟨4,d1,0,0,⟨0,⟨#[]⟩,[]⟩⟩,none,0,⟨HEV.out⟩,⟨E0.out.set 0 (.int .i64 4) rfl⟩,⟨Kd.R_nil _ _ _ _ _⟩⟩
                obtain⟨b_watch,h_watch⟩:∃b,b=((u0.toList == [119,97,116,99,104]) && (ws.length == 3)):=⟨_,rfl⟩
                have B_watch:=AK h_watch
                clear h_watch
                go_upto_region 30 with fail
                go_cut [144] (fun v9 wc=>v9=.bool b_watch∧Aside0 (EB w #[.int .i64 0,.int .i64 d1,.int .i64 0,.int .i64 0,.int .i64 0,.string ⟨#[]⟩,.slice none 0 0] wc))
                case first=>
                  as_aux_lemma=>
                    by_cases hX:u0.toList=[119,97,116,99,104]
                    · have t1:(u0.toList == [119,97,116,99,104])=true:=by rw[hX];rfl
                      by_cases hn:ws.length=3
                      · skip
                        have n1:((ws.length:Int) == 3)=true:=beq_iff_eq.2 (by omega)
                        have n1p:=eq_true (show (ws.length:Int)=3 by omega)
                        have e:b_watch=true:=by rw[B_watch.out,hX,hn];rfl
                        clear hX hn
                        subst e
                        go_wp2
                        go_meet
                        case rel=>exact⟨rfl,E0⟩
                      · skip
                        have n1:((ws.length:Int) == 3)=false:=beq_eq_false_iff_ne.2 (by omega)
                        have n1p:=eq_false (show ¬ (ws.length:Int)=3 by omega)
                        have e:b_watch=false:=by rw[B_watch.out,hX,beq_eq_false_iff_ne.2 hn];rfl
                        clear hX hn
                        subst e
                        go_wp2
                        go_meet
                        case rel=>exact⟨rfl,E0⟩
                    · have t1:(u0.toList == [119,97,116,99,104])=false:=beq_eq_false_iff_ne.2 hX
                      have e:b_watch=false:=by rw[B_watch.out,t1];rfl
                      clear hX
                      subst e
                      go_wp2
                      go_meet
                      case rel=>exact⟨rfl,E0⟩
                case rest=>
                  clear E0 y0
                  obtain⟨rfl,E0⟩:=hcut
                  have y0:=str_at0 (Kd.C_below HWS.out E0.out.b) (by have:=HN.out;omega)
                  rw[←HU.out]at y0
                  cases b_watch
                  case true=>
                    as_aux_lemma=>
                      have hX:u0.toList=[119,97,116,99,104]:=by have:=B_watch.out;simp at this;exact this.1
                      have hn:ws.length=3:=by have:=B_watch.out;simp at this;exact this.2
                      have HD:=AK (show d1=dg ws 1 by rw[HD1.out,if_pos (by omega)])
                      obtain⟨e2,he2⟩:∃z,z=dg ws 2:=⟨_,rfl⟩
                      have HX2:=AK he2
                      clear he2
                      have HEV:=AK (show eventB ws=some ⟨5,d1,e2,0,⟨0,⟨#[]⟩,[]⟩⟩by
                        rw[ev_watch (HU0.out.trans hX),if_pos (beq_iff_eq.2 hn),HD.out,HX2.out])
                      have HN2:=AK hn
                      clear hX hn
                      obtain⟨p0,p1,p2,p3,p4,p5,p6⟩:=box7 E0.out.x5
                      have q0:=bfz E0.out.x5 0
                      go_upto_region 32 with fail
                      clear p0 p1 p2 p3 p4 p5 p6 q0
                      replace E0:=AK (E0.out.set 0 (.int .i64 5) rfl)
                      generalize World.setCell wc ⟨w.heap.size+1,0,none⟩ (.int .i64 5)=wa at E0 ⊢
                      obtain⟨u2,hu2⟩:∃u,u=ws.getD 2 ByteArray.empty:=⟨_,rfl⟩
                      have HG2:=AK (show digitB u2=e2 by rw[hu2,HX2.out];rfl)
                      have y2:=str_atk (Kd.C_below HWS.out E0.out.b) 2 (by have:=HN2.out;omega) (by omega)
                      rw[←hu2]at y2
                      have k2:=eq_true (show (2:Int)<(ws.length:Int)by have:=HN2.out;omega)
                      clear hu2
                      go_wp2_with fail
                      refine l5Digit_c.mono ?_
                      rintro en wx ⟨rfl,rfl⟩
                      rw[HG2.out]
                      clear y2 k2
                      obtain⟨p0,p1,p2,p3,p4,p5,p6⟩:=box7 E0.out.x5
                      have q2:=bfz E0.out.x5 2
                      go_wp2
                      go_meet
                      case rel=>exact⟨⟨5,d1,e2,0,⟨0,⟨#[]⟩,[]⟩⟩,none,0,⟨HEV.out⟩,⟨E0.out.set 2 (.int .i64 e2) rfl⟩,⟨Kd.R_nil _ _ _ _ _⟩⟩
                  obtain⟨b_ask,h_ask⟩:∃b,b=((u0.toList == [97,115,107]) && (ws.length == 3)):=⟨_,rfl⟩
                  have B_ask:=AK h_ask
                  clear h_ask
                  go_upto_region 33 with fail
                  go_cut [159] (fun v9 wc=>v9=.bool b_ask∧Aside0 (EB w #[.int .i64 0,.int .i64 d1,.int .i64 0,.int .i64 0,.int .i64 0,.string ⟨#[]⟩,.slice none 0 0] wc))
                  case first=>
                    as_aux_lemma=>
                      by_cases hX:u0.toList=[97,115,107]
                      · have t1:(u0.toList == [97,115,107])=true:=by rw[hX];rfl
                        by_cases hn:ws.length=3
                        · skip
                          have n1:((ws.length:Int) == 3)=true:=beq_iff_eq.2 (by omega)
                          have n1p:=eq_true (show (ws.length:Int)=3 by omega)
                          have e:b_ask=true:=by rw[B_ask.out,hX,hn];rfl
                          clear hX hn
                          subst e
                          go_wp2
                          go_meet
                          case rel=>exact⟨rfl,E0⟩
                        · skip
                          have n1:((ws.length:Int) == 3)=false:=beq_eq_false_iff_ne.2 (by omega)
                          have n1p:=eq_false (show ¬ (ws.length:Int)=3 by omega)
                          have e:b_ask=false:=by rw[B_ask.out,hX,beq_eq_false_iff_ne.2 hn];rfl
                          clear hX hn
                          subst e
                          go_wp2
                          go_meet
                          case rel=>exact⟨rfl,E0⟩
                      · have t1:(u0.toList == [97,115,107])=false:=beq_eq_false_iff_ne.2 hX
                        have e:b_ask=false:=by rw[B_ask.out,t1];rfl
                        clear hX
                        subst e
                        go_wp2
                        go_meet
                        case rel=>exact⟨rfl,E0⟩
                  case rest=>
                    clear E0 y0
                    obtain⟨rfl,E0⟩:=hcut
                    have y0:=str_at0 (Kd.C_below HWS.out E0.out.b) (by have:=HN.out;omega)
                    rw[←HU.out]at y0
                    cases b_ask
                    case true=>
                      as_aux_lemma=>
                        have hX:u0.toList=[97,115,107]:=by have:=B_ask.out;simp at this;exact this.1
                        have hn:ws.length=3:=by have:=B_ask.out;simp at this;exact this.2
                        have HD:=AK (show d1=dg ws 1 by rw[HD1.out,if_pos (by omega)])
                        obtain⟨e2,he2⟩:∃z,z=dg ws 2:=⟨_,rfl⟩
                        have HX2:=AK he2
                        clear he2
                        have HEV:=AK (show eventB ws=some ⟨6,d1,e2,0,⟨0,⟨#[]⟩,[]⟩⟩by
                          rw[ev_ask (HU0.out.trans hX),if_pos (beq_iff_eq.2 hn),HD.out,HX2.out])
                        have HN2:=AK hn
                        clear hX hn
                        obtain⟨p0,p1,p2,p3,p4,p5,p6⟩:=box7 E0.out.x5
                        have q0:=bfz E0.out.x5 0
                        go_upto_region 35 with fail
                        clear p0 p1 p2 p3 p4 p5 p6 q0
                        replace E0:=AK (E0.out.set 0 (.int .i64 6) rfl)
                        generalize World.setCell wc ⟨w.heap.size+1,0,none⟩ (.int .i64 6)=wa at E0 ⊢
                        obtain⟨u2,hu2⟩:∃u,u=ws.getD 2 ByteArray.empty:=⟨_,rfl⟩
                        have HG2:=AK (show digitB u2=e2 by rw[hu2,HX2.out];rfl)
                        have y2:=str_atk (Kd.C_below HWS.out E0.out.b) 2 (by have:=HN2.out;omega) (by omega)
                        rw[←hu2]at y2
                        have k2:=eq_true (show (2:Int)<(ws.length:Int)by have:=HN2.out;omega)
                        clear hu2
                        go_wp2_with fail
                        refine l5Digit_c.mono ?_
                        rintro en wx ⟨rfl,rfl⟩
                        rw[HG2.out]
                        clear y2 k2
                        obtain⟨p0,p1,p2,p3,p4,p5,p6⟩:=box7 E0.out.x5
                        have q2:=bfz E0.out.x5 2
                        go_wp2
                        go_meet
                        case rel=>exact⟨⟨6,d1,e2,0,⟨0,⟨#[]⟩,[]⟩⟩,none,0,⟨HEV.out⟩,⟨E0.out.set 2 (.int .i64 e2) rfl⟩,⟨Kd.R_nil _ _ _ _ _⟩⟩
                    obtain⟨b_collect,h_collect⟩:∃b,b=((u0.toList == [99,111,108,108,101,99,116]) && (ws.length == 1)):=⟨_,rfl⟩
                    have B_collect:=AK h_collect
                    clear h_collect
                    go_upto_region 36 with fail
                    go_cut [174] (fun v9 wc=>v9=.bool b_collect∧Aside0 (EB w #[.int .i64 0,.int .i64 d1,.int .i64 0,.int .i64 0,.int .i64 0,.string ⟨#[]⟩,.slice none 0 0] wc))
                    case first=>
                      as_aux_lemma=>
                        by_cases hX:u0.toList=[99,111,108,108,101,99,116]
                        · have t1:(u0.toList == [99,111,108,108,101,99,116])=true:=by rw[hX];rfl
                          by_cases hn:ws.length=1
                          · skip
                            have n1:((ws.length:Int) == 1)=true:=beq_iff_eq.2 (by omega)
                            have n1p:=eq_true (show (ws.length:Int)=1 by omega)
                            have e:b_collect=true:=by rw[B_collect.out,hX,hn];rfl
                            clear hX hn
                            subst e
                            go_wp2
                            go_meet
                            case rel=>exact⟨rfl,E0⟩
                          · skip
                            have n1:((ws.length:Int) == 1)=false:=beq_eq_false_iff_ne.2 (by omega)
                            have n1p:=eq_false (show ¬ (ws.length:Int)=1 by omega)
                            have e:b_collect=false:=by rw[B_collect.out,hX,beq_eq_false_iff_ne.2 hn];rfl
                            clear hX hn
                            subst e
                            go_wp2
                            go_meet
                            case rel=>exact⟨rfl,E0⟩
                        · have t1:(u0.toList == [99,111,108,108,101,99,116])=false:=beq_eq_false_iff_ne.2 hX
                          have e:b_collect=false:=by rw[B_collect.out,t1];rfl
                          clear hX
                          subst e
                          go_wp2
                          go_meet
                          case rel=>exact⟨rfl,E0⟩
                    case rest=>
                      clear E0 y0
                      obtain⟨rfl,E0⟩:=hcut
                      have y0:=str_at0 (Kd.C_below HWS.out E0.out.b) (by have:=HN.out;omega)
                      rw[←HU.out]at y0
                      cases b_collect
                      case true=>
                        as_aux_lemma=>
                          have hX:u0.toList=[99,111,108,108,101,99,116]:=by have:=B_collect.out;simp at this;exact this.1
                          have hn:ws.length=1:=by have:=B_collect.out;simp at this;exact this.2
                          have HD:=AK (show d1=0 by rw[HD1.out,if_neg (by omega)])
                          have HEV:=AK (show eventB ws=some ⟨7,d1,0,0,⟨0,⟨#[]⟩,[]⟩⟩by
                            rw[ev_collect (HU0.out.trans hX),if_pos (beq_iff_eq.2 hn),HD.out])
                          have HN2:=AK hn
                          clear hX hn
                          obtain⟨p0,p1,p2,p3,p4,p5,p6⟩:=box7 E0.out.x5
                          have q0:=bfz E0.out.x5 0
                          go_wp2
                          go_meet
                          case rel=>exact⟨⟨7,d1,0,0,⟨0,⟨#[]⟩,[]⟩⟩,none,0,⟨HEV.out⟩,⟨E0.out.set 0 (.int .i64 7) rfl⟩,⟨Kd.R_nil _ _ _ _ _⟩⟩
                      have b3:b_cell=false∧b_weak=false∧b_guardian=false:=by have:=B3.out;revert this;cases b_cell<;>cases b_weak<;>cases b_guardian<;>simp
                      have hnone:eventB ws=none:=ev_none (by rw[HU0.out];exact B_data.out.symm) (by rw[HU0.out,←B_cell.out];exact b3.1) (by rw[HU0.out,←B_weak.out];exact b3.2.1) (by rw[HU0.out,←B_guardian.out];exact b3.2.2) (by rw[HU0.out];exact B_take.out.symm) (by rw[HU0.out];exact B_set.out.symm) (by rw[HU0.out];exact B_forget.out.symm) (by rw[HU0.out];exact B_watch.out.symm) (by rw[HU0.out];exact B_ask.out.symm) (by rw[HU0.out];exact B_collect.out.symm)
                      have HNONE:=AK hnone
                      clear hnone
                      obtain⟨p0,p1,p2,p3,p4,p5,p6⟩:=box7 E0.out.x5
                      obtain⟨z0,z1,z2,z3,z4,z5,z6⟩:=box7 E0.out.x2
                      have f0:=bfz E0.out.x2 0
                      have f1:=bfz E0.out.x2 1
                      have f2:=bfz E0.out.x2 2
                      have f3:=bfz E0.out.x2 3
                      have f4:=bfz E0.out.x2 4
                      have f5:=bfz E0.out.x2 5
                      have f6:=bfz E0.out.x2 6
                      go_wp2
                      have hnone:=HNONE.out
                      refine bodyPost_ret (results_ct rfl _ _ w.heap.size 37 #[.int .i64 0,.int .i64 d1,.int .i64 0,.int .i64 0,.int .i64 0,.string ⟨#[]⟩,.slice none 0 0] (0,0) _ rfl (set7_blk E0.out.x2) Tryd.underlying37 rfl (by kernel_rfl)) rfl ?_
                      exact⟨⟨0,d1,0,0,⟨0,⟨#[]⟩,[]⟩⟩,none,0,by rw[hnone];rfl,.inr hnone,Kd.R_nil _ _ _ _ _,set7_below E0.out.b (Nat.le_refl _)⟩
    case rest=>
      clear E0 y0
      obtain⟨e,F,f,HEV,E0,HR⟩:=hcut
      obtain⟨p0,p1,p2,p3,p4,p5,p6⟩:=box7 E0.out.x5
      obtain⟨z0,z1,z2,z3,z4,z5,z6⟩:=box7 E0.out.x2
      have f0:=bfz E0.out.x2 0
      have f1:=bfz E0.out.x2 1
      have f2:=bfz E0.out.x2 2
      have f3:=bfz E0.out.x2 3
      have f4:=bfz E0.out.x2 4
      have f5:=bfz E0.out.x2 5
      have f6:=bfz E0.out.x2 6
      go_wp2
      refine bodyPost_ret (results_ct rfl _ _ w.heap.size 37 #[.int .i64 e.f0,.int .i64 e.f1,.int .i64 e.f2,.int .i64 e.f3,.int .i64 e.f4.f0,.string e.f4.f1,.slice F e.f4.f2.length f] (0,0) _ rfl (set7_blk E0.out.x2) Tryd.underlying37 rfl (by kernel_rfl)) rfl ?_
      exact⟨e,F,f,by rw[HEV.out];rfl,.inl HEV.out,set7_R HR.out E0.out.x2 (int_ap 37 (by decide)),set7_below E0.out.b (Nat.le_refl _)⟩
end Go.Proofs.YtigjhfijkdlldaaDoor.H
