import Derived.Test.YtigjhfijkdlldaaStpYeq
import Derived.Test.YtigjhfijkdlldaaStpYob
import Derived.Test.YtigjhfijkdlldaaStpHsc
import Derived.Test.YtigjhfijkdlldaaStpPt
namespace Go.Proofs.Ytigjhfijkdlldaa.H
open Go.RowKit Go.Proofs.YtigjhfijkdlldaaW.PrintWords Go.Proofs.YtigjhfijkdlldaaW.PrintLast Go.Proofs.YtigjhfijkdlldaaW.PrintMore Go.Proofs.Ytigjhfijkdlldaa.Q
set_option linter.unusedVariables false
set_option linter.unusedSimpArgs false
section
section
variable {w0 w:World} {A:Option Addr} {c d:Nat}
end
end
section
end
section
end
section
structure OwnP (w:World) (lo:Nat) (P:Nat→Prop) (A0:Option Addr) (c0:Nat) (A1:Option Addr) (c1:Nat) (A2:Option Addr) (c2:Nat) (A3:Option Addr) (c3:Nat) (l0:List S38) (l1:List Int) (l2 l3:List S60):Prop where
  s0:Kd.S k38 38 w lo (fun k=>P k∧some k≠(Value.slice A1 l1.length c1).ownBlock) (.slice A0 l0.length c0) l0
  s1:Kd.R (Kd.int .i64) 3 w lo (fun k=>P k) (.slice A1 l1.length c1) l1
  s2:Kd.R k60 60 w lo (fun k=>P k∧some k≠(Value.slice A3 l3.length c3).ownBlock) (.slice A2 l2.length c2) l2
  s3:Kd.R k60 60 w lo (fun k=>P k∧some k≠(Value.slice A2 l2.length c2).ownBlock) (.slice A3 l3.length c3) l3
section
variable {w w1:World} {lo:Nat} {P:Nat→Prop} {A0 A1 A2 A3:Option Addr} {c0 c1 c2 c3:Nat} {l0:List S38} {l1:List Int} {l2 l3:List S60}
theorem OwnP.kept {S:Nat→Prop} (h:OwnP w lo P A0 c0 A1 c1 A2 c2 A3 c3 l0 l1 l2 l3) (hk:Kept w w1 S) (hS:∀k,P k→¬ S k):OwnP w1 lo P A0 c0 A1 c1 A2 c2 A3 c3 l0 l1 l2 l3:=
  ⟨Kd.S_kept h.s0 hk (fun k h1=>hS k h1.1),Kd.R_kept h.s1 hk hS,Kd.R_kept h.s2 hk (fun k h1=>hS k h1.1),Kd.R_kept h.s3 hk (fun k h1=>hS k h1.1)⟩
theorem OwnH.toP {w:World} {lo:Nat} {P:Nat→Prop} {A0 A1 A2 A3:Option Addr} {c0 c1 c2 c3:Nat} {l0:List S38} {l1:List Int} {l2 l3:List S60} (h:OwnH w lo A0 c0 A1 c1 A2 c2 A3 c3 l0 l1 l2 l3) (hP:∀k,lo≤k→k<w.heap.size→P k):OwnP w lo P A0 c0 A1 c1 A2 c2 A3 c3 l0 l1 l2 l3:=
  ⟨Kd.S_mono (Kd.S_bound h.s0) (fun k hk=>⟨hP k hk.2.1 hk.2.2.1,hk.1⟩),Kd.R_mono (Kd.R_bound h.s1) (fun k hk=>hP k hk.2.1 hk.2.2.1),Kd.R_mono (Kd.R_bound h.s2) (fun k hk=>⟨hP k hk.2.1 hk.2.2.1,hk.1⟩),Kd.R_mono (Kd.R_bound h.s3) (fun k hk=>⟨hP k hk.2.1 hk.2.2.1,hk.1⟩)⟩
theorem OwnP.below (h:OwnP w lo P A0 c0 A1 c1 A2 c2 A3 c3 l0 l1 l2 l3) (hb:Below w.heap.size w w1):OwnP w1 lo P A0 c0 A1 c1 A2 c2 A3 c3 l0 l1 l2 l3:=
  ⟨Kd.S_below h.s0 hb,Kd.R_below h.s1 hb,Kd.R_below h.s2 hb,Kd.R_below h.s3 hb⟩
theorem OwnP.reads (h:OwnP w lo P A0 c0 A1 c1 A2 c2 A3 c3 l0 l1 l2 l3):InH w A0 c0 A1 c1 A2 c2 A3 c3 l0 l1 l2 l3:=
  ⟨(Kd.R_reads' (Kd.S_R h.s0)).2.2,(Kd.R_reads' h.s1).2.2,(Kd.R_reads' h.s2).2.2,(Kd.R_reads' h.s3).2.2,(Kd.R_reads' (Kd.S_R h.s0)).2.1,(Kd.R_reads' h.s1).2.1,(Kd.R_reads' h.s2).2.1,(Kd.R_reads' h.s3).2.1⟩
end
structure Mkd (w:World) (lo:Nat) (P:Nat→Prop) (a:Int) (A0:Option Addr) (c0:Nat) (A1:Option Addr) (c1:Nat) (A2:Option Addr) (c2:Nat) (A3:Option Addr) (c3:Nat) (l0:List S38) (n1 n2 n3:Nat):Prop where
  s0:Kd.S k38 38 w lo P (.slice A0 l0.length c0) (markO a l0)
  s1:Kd.R (Kd.int .i64) 3 w lo P (.slice A1 n1 c1) (marksI (a+cntO l0) n1)
  s2:Kd.R k60 60 w lo P (.slice A2 n2 c2) (marksW (a+cntO l0+n1) n2)
  s3:Kd.R k60 60 w lo P (.slice A3 n3 c3) (marksW (a+cntO l0+n1+2*n2) n3)
theorem Mkd.below {w w1:World} {lo:Nat} {P:Nat→Prop} {a:Int} {A0 A1 A2 A3:Option Addr} {c0 c1 c2 c3 n1 n2 n3:Nat} {l0:List S38} (h:Mkd w lo P a A0 c0 A1 c1 A2 c2 A3 c3 l0 n1 n2 n3) (hb:Below w.heap.size w w1):Mkd w1 lo P a A0 c0 A1 c1 A2 c2 A3 c3 l0 n1 n2 n3:=
  ⟨Kd.S_below h.s0 hb,Kd.R_below h.s1 hb,Kd.R_below h.s2 hb,Kd.R_below h.s3 hb⟩
theorem Mkd.kept {w w1:World} {lo:Nat} {P S:Nat→Prop} {a:Int} {A0 A1 A2 A3:Option Addr} {c0 c1 c2 c3 n1 n2 n3:Nat} {l0:List S38} (h:Mkd w lo P a A0 c0 A1 c1 A2 c2 A3 c3 l0 n1 n2 n3) (hk:Kept w w1 S) (hS:∀k,P k→¬ S k):Mkd w1 lo P a A0 c0 A1 c1 A2 c2 A3 c3 l0 n1 n2 n3:=
  ⟨Kd.S_kept h.s0 hk hS,Kd.R_kept h.s1 hk hS,Kd.R_kept h.s2 hk hS,Kd.R_kept h.s3 hk hS⟩
end
section
end
section
structure SmallG (G:Hp):Prop where
  n:G.o.length≤60
  f:∀x∈G.o,x.f2.length≤6
  r:G.r.length≤8
  w:G.w.length+G.d.length≤20
section
variable {w:World} {base lo:Nat} {P:Nat→Prop} {A0 A1 A2 A3 E:Option Addr} {c0 c1 c2 c3 e:Nat} {h:Hp} {m:List Int}
theorem OwnM.toP (ho:OwnM w base A0 c0 A1 c1 A2 c2 A3 c3 E e h m) (hb:lo≤base) (hP:∀k,base≤k→k<w.heap.size→some k≠(Value.slice E m.length e).ownBlock→P k):OwnP w lo P A0 c0 A1 c1 A2 c2 A3 c3 h.o h.r h.w h.d:=
  ⟨S_lower (Kd.S_mono (Kd.S_bound ho.s0) (fun k hk=>⟨hP k hk.2.1 hk.2.2.1 hk.1.2,hk.1.1⟩)) hb,Kd.R_lower (Kd.R_mono (Kd.R_bound ho.s1) (fun k hk=>hP k hk.2.1 hk.2.2.1 hk.1)) hb,
   Kd.R_lower (Kd.R_mono (Kd.R_bound (Kd.R_apart' ho.s2 (Kd.R_typed ho.m) (by decide))) (fun k hk=>⟨hP k hk.2.1 hk.2.2.1 hk.1.2,hk.1.1⟩)) hb,
   Kd.R_lower (Kd.R_mono (Kd.R_bound (Kd.R_apart' ho.s3 (Kd.R_typed ho.m) (by decide))) (fun k hk=>⟨hP k hk.2.1 hk.2.2.1 hk.1.2,hk.1.1⟩)) hb⟩
theorem OwnM.mv (ho:OwnM w base A0 c0 A1 c1 A2 c2 A3 c3 E e h m) (hb:lo≤base) (hP:∀k,base≤k→k<w.heap.size→some k=(Value.slice E m.length e).ownBlock→P k):Kd.R (Kd.int .i64) 3 w lo P (.slice E m.length e) m:=
  Kd.R_lower (Kd.R_mono (Kd.R_bound (Kd.R_tight rfl ho.m)) (fun k hk=>hP k hk.2.1 hk.2.2.1 hk.1)) hb
end
end
section
def sNo:ByteArray:=⟨#[110,111]⟩
def sOk:ByteArray:=⟨#[111,107]⟩
def sFull:ByteArray:=⟨#[102,117,108,108]⟩
def sNone:ByteArray:=⟨#[110,111,110,101]⟩
def sCell:ByteArray:=⟨#[99,101,108,108,32,111,102,32]⟩
def sWeak:ByteArray:=⟨#[119,101,97,107]⟩
def sGuard:ByteArray:=⟨#[103,117,97,114,100,105,97,110]⟩
def knownL (r:List Int) (p:Int):Int:=if 0≤p∧p<r.length then rd r p else -1
def seesB (l0:List S38) (p:Int):ByteArray:=
  if p<0 then sNone else if(rd_T38 l0 p).f0=1 then(rd_T38 l0 p).f1 else if(rd_T38 l0 p).f0=2 then sCell++strOfNums [48+((rd_T38 l0 p).f2.length:Int)]else if(rd_T38 l0 p).f0=3 then sWeak else sGuard
def partL (l0:List S38) (r:List Int) (p a:Int):Int:=if knownL r p<0 then -1 else if 0≤a∧a<(rd_T38 l0 (knownL r p)).f2.length then knownL r p else -1
def madeO (h:Hp) (e:S40):S38:=⟨e.f4.f0,e.f4.f1,e.f4.f2.map (knownL h.r)⟩
def makesB (h:Hp) (e:S40):Hp × ByteArray:=
  if obB h.o.length (madeO h e)=true then(if 60≤h.o.length then(h,sFull)else(⟨h.o++[madeO h e],h.r.set e.f1.toNat h.o.length,h.w,h.d⟩,seesB (h.o++[madeO h e]) h.o.length))else(h,sNo)
def takesB (h:Hp) (e:S40):Hp × ByteArray:=
  if partL h.o h.r e.f2 e.f3<0 then(h,sNo)else(⟨h.o,h.r.set e.f1.toNat (rd (rd_T38 h.o (partL h.o h.r e.f2 e.f3)).f2 e.f3),h.w,h.d⟩,seesB h.o (rd (rd_T38 h.o (partL h.o h.r e.f2 e.f3)).f2 e.f3))
def putRef (o:S38) (a p:Int):S38:=⟨o.f0,o.f1,o.f2.set a.toNat p⟩
def setsB (h:Hp) (e:S40):Hp × ByteArray:=
  if partL h.o h.r e.f1 e.f3<0 then(h,sNo)else(⟨h.o.set (partL h.o h.r e.f1 e.f3).toNat (putRef (rd_T38 h.o (partL h.o h.r e.f1 e.f3)) e.f3 (knownL h.r e.f2)),h.r,h.w,h.d⟩,sOk)
def forgetsB (h:Hp) (e:S40):Hp × ByteArray:=(⟨h.o,h.r.set e.f1.toNat (-1),h.w,h.d⟩,sOk)
def isGuard (h:Hp) (p:Int):Bool:=decide (0≤p) && decide ((rd_T38 h.o p).f0=4)
def watchesB (h:Hp) (e:S40):Hp × ByteArray:=
  if isGuard h (knownL h.r e.f1)=true∧0≤knownL h.r e.f2 then(if 20≤h.w.length+h.d.length then(h,sFull)else(⟨h.o,h.r,h.w++[⟨knownL h.r e.f1,knownL h.r e.f2⟩],h.d⟩,sOk))else(h,sNo)
def askD (g:Int):List S60→Option (Int × List S60)
  | []=>none
  | x :: l=>if x.f0=g then some (x.f1,l)else(askD g l).map fun y=>(y.1,x :: y.2)
def askP (g:Int) (l:List S60):Int:=((askD g l).map (·.1)).getD (-1)
def askL (g:Int) (l:List S60):List S60:=((askD g l).map (·.2)).getD l
def asksB (h:Hp) (e:S40):Hp × ByteArray:=
  if isGuard h (knownL h.r e.f2)=true then(⟨h.o,h.r.set e.f1.toNat (askP (knownL h.r e.f2) h.d),h.w,askL (knownL h.r e.f2) h.d⟩,seesB h.o (askP (knownL h.r e.f2) h.d))else(h,sNo)
def doB (h:Hp) (e:S40):Hp × ByteArray:=
  if e.f0=1 then makesB h e else if e.f0=2 then takesB h e else if e.f0=3 then setsB h e else if e.f0=4 then forgetsB h e else if e.f0=5 then watchesB h e else if e.f0=6 then asksB h e else if e.f0=7 then((collectB h).1,sOk)else(h,sNo)
def toB (h:Hp) (e:S40):Bool:=decide (0≤e.f1) && decide (e.f1<h.r.length)
def stepB (h:Hp) (e:S40):Hp × ByteArray:=
  if h.ok=true then(if e.f0=7∨toB h e=true then doB h e else(h,sNo))else(hp0,sNo)
theorem known_range {l0:List S38} {l1:List Int} {l2 l3:List S60} (h:OkH l0 l1 l2 l3) (p:Int):-1≤knownL l1 p∧knownL l1 p<l0.length:=by
  unfold knownL
  by_cases c:0≤p∧p<l1.length
  · rw[if_pos c];exact h.rs _ (getD_mem l1 0 p c.1 c.2)
  · rw[if_neg c];omega
end
section
def hpC (A0:Option Addr) (c0:Nat) (A1:Option Addr) (c1:Nat) (A2:Option Addr) (c2:Nat) (A3:Option Addr) (c3:Nat) (G:Hp):Array Value:=#[.slice A0 G.o.length c0,.slice A1 G.r.length c1,.slice A2 G.w.length c2,.slice A3 G.d.length c3]
def evC (e:S40) (A6:Option Addr) (c6:Nat):Array Value:=#[.int .i64 e.f0,.int .i64 e.f1,.int .i64 e.f2,.int .i64 e.f3,.int .i64 e.f4.f0,.string e.f4.f1,.slice A6 e.f4.f2.length c6]
def nilC:Array Value:=#[.slice none 0 0,.slice none 0 0,.slice none 0 0,.slice none 0 0]
abbrev OwnG (w:World) (base:Nat) (A0:Option Addr) (c0:Nat) (A1:Option Addr) (c1:Nat) (A2:Option Addr) (c2:Nat) (A3:Option Addr) (c3:Nat) (G:Hp):Prop:=OwnH w base A0 c0 A1 c1 A2 c2 A3 c3 G.o G.r G.w G.d
def Keeps (w w':World):Prop:=∀(j:Nat) (cs:Array Value) (t:TypeId),w.heap[j]?=some (Obj.cells cs t (0,0))→t≠3→t≠38→t≠60→w'.heap[j]?=some (Obj.cells cs t (0,0))
structure WK (v w0:World) (n:Nat) (A0:Option Addr) (c0:Nat) (A1:Option Addr) (c1:Nat) (A2:Option Addr) (c2:Nat) (A3:Option Addr) (c3:Nat) (G:Hp) (e:S40) (A6:Option Addr) (c6:Nat) (w':World):Prop where
  b:Below v.heap.size v w'
  n0:v.heap.size≤n
  n1:w0.heap.size≤n
  k:Keeps w0 w'
  h:w'.heap[n]?=some (.cells (hpC A0 c0 A1 c1 A2 c2 A3 c3 G) 28 (0,0))
  e:w'.heap[n+1]?=some (.cells (evC e A6 c6) 40 (0,0))
  o:w'.heap[n+2]?=some (.cells nilC 28 (0,0))
  own:OwnG w' v.heap.size A0 c0 A1 c1 A2 c2 A3 c3 G
section
variable {v w0 w w1:World} {n base:Nat} {A0 A1 A2 A3 A6:Option Addr} {c0 c1 c2 c3 c6:Nat} {G:Hp} {e:S40} {l0:List S38} {l1:List Int} {l2 l3:List S60}
theorem WK.below (h:WK v w0 n A0 c0 A1 c1 A2 c2 A3 c3 G e A6 c6 w) (hb:Below w.heap.size w w1):WK v w0 n A0 c0 A1 c1 A2 c2 A3 c3 G e A6 c6 w1:=
  ⟨bst h.b hb,h.n0,h.n1,fun j cs t h1 a b c=>bbl (h.k j cs t h1 a b c) hb,bbl h.h hb,bbl h.e hb,bbl h.o hb,h.own.below hb⟩
theorem OwnH.set1 (h:OwnH w base A0 c0 A1 c1 A2 c2 A3 c3 l0 l1 l2 l3) {g:Nat} {cs:Array Value} (hb:w.heap[g]?=some (.cells cs 28 (0,0))) (j:Nat) (u:Value):OwnH (w.setCell ⟨g,j,none⟩ u) base A0 c0 A1 c1 A2 c2 A3 c3 l0 l1 l2 l3:=
  ⟨Kd.S_set h.s0 hb (k38_ap 28 (by decide) (by decide)) j u,Kd.R_set h.s1 hb (int_ap 28 (by decide)) j u,Kd.R_set h.s2 hb (k60_ap 28 (by decide)) j u,Kd.R_set h.s3 hb (k60_ap 28 (by decide)) j u⟩
theorem OwnH.set4 (h:OwnH w base A0 c0 A1 c1 A2 c2 A3 c3 l0 l1 l2 l3) {g:Nat} {cs:Array Value} {p q r s:Value} (hb:w.heap[g]?=some (.cells cs 28 (0,0))):OwnH (H.set4 w g p q r s) base A0 c0 A1 c1 A2 c2 A3 c3 l0 l1 l2 l3:=
  ⟨set4_S h.s0 hb,set4_R h.s1 hb (int_ap 28 (by decide)),set4_R h.s2 hb (k60_ap 28 (by decide)),set4_R h.s3 hb (k60_ap 28 (by decide))⟩
theorem WK.start (hB:Below v.heap.size v w) (hO:OwnG w v.heap.size A0 c0 A1 c1 A2 c2 A3 c3 G) (e:S40) (A6:Option Addr) (c6:Nat) :
    WK v w w.heap.size A0 c0 A1 c1 A2 c2 A3 c3 G e A6 c6 (((w.alloc (.cells (hpC A0 c0 A1 c1 A2 c2 A3 c3 G) 28 (0,0))).alloc (.cells (evC e A6 c6) 40 (0,0))).alloc (.cells nilC 28 (0,0))):=by
  have hb:=below_alloc (below_alloc (below_alloc (Below.refl w.heap.size w) (.cells (hpC A0 c0 A1 c1 A2 c2 A3 c3 G) 28 (0,0))) (.cells (evC e A6 c6) 40 (0,0))) (.cells nilC 28 (0,0))
  refine⟨bst hB hb,hB.size,Nat.le_refl _,fun j cs t h1 _ _ _=>bbl h1 hb,blk_alloc (blk_alloc (blk_new w _) _) _,blk_alloc ?_ _,?_,hO.below hb⟩
  · have:=blk_new (w.alloc (.cells (hpC A0 c0 A1 c1 A2 c2 A3 c3 G) 28 (0,0))) (.cells (evC e A6 c6) 40 (0,0))
    rwa [show (w.alloc (.cells (hpC A0 c0 A1 c1 A2 c2 A3 c3 G) 28 (0,0))).heap.size=w.heap.size+1 from Array.size_push ..]at this
  · have:=blk_new ((w.alloc (.cells (hpC A0 c0 A1 c1 A2 c2 A3 c3 G) 28 (0,0))).alloc (.cells (evC e A6 c6) 40 (0,0))) (.cells nilC 28 (0,0))
    rwa [show ((w.alloc (.cells (hpC A0 c0 A1 c1 A2 c2 A3 c3 G) 28 (0,0))).alloc (.cells (evC e A6 c6) 40 (0,0))).heap.size=w.heap.size+2 by
      rw[show ((w.alloc (.cells (hpC A0 c0 A1 c1 A2 c2 A3 c3 G) 28 (0,0))).alloc (.cells (evC e A6 c6) 40 (0,0))).heap.size=(w.alloc (.cells (hpC A0 c0 A1 c1 A2 c2 A3 c3 G) 28 (0,0))).heap.size+1 from Array.size_push ..,show (w.alloc (.cells (hpC A0 c0 A1 c1 A2 c2 A3 c3 G) 28 (0,0))).heap.size=w.heap.size+1 from Array.size_push ..]]at this
theorem WK.hc (h:WK v w0 n A0 c0 A1 c1 A2 c2 A3 c3 G e A6 c6 w):w.cell? ⟨n,0,none⟩=some (.slice A0 G.o.length c0)∧w.cell? ⟨n,1,none⟩=some (.slice A1 G.r.length c1)∧w.cell? ⟨n,2,none⟩=some (.slice A2 G.w.length c2)∧w.cell? ⟨n,3,none⟩=some (.slice A3 G.d.length c3):=box4 h.h
theorem WK.ec (h:WK v w0 n A0 c0 A1 c1 A2 c2 A3 c3 G e A6 c6 w):w.cell? ⟨n+1,0,none⟩=some (.int .i64 e.f0)∧w.cell? ⟨n+1,1,none⟩=some (.int .i64 e.f1)∧w.cell? ⟨n+1,2,none⟩=some (.int .i64 e.f2)∧w.cell? ⟨n+1,3,none⟩=some (.int .i64 e.f3)∧w.cell? ⟨n+1,4,none⟩=some (.int .i64 e.f4.f0)∧w.cell? ⟨n+1,5,none⟩=some (.string e.f4.f1)∧w.cell? ⟨n+1,6,none⟩=some (.slice A6 e.f4.f2.length c6):=
  ⟨(bcl h.e 0).trans rfl,(bcl h.e 1).trans rfl,(bcl h.e 2).trans rfl,(bcl h.e 3).trans rfl,(bcl h.e 4).trans rfl,(bcl h.e 5).trans rfl,(bcl h.e 6).trans rfl⟩
theorem WK.oc (h:WK v w0 n A0 c0 A1 c1 A2 c2 A3 c3 G e A6 c6 w):w.cell? ⟨n+2,0,none⟩=some (.slice none 0 0)∧w.cell? ⟨n+2,1,none⟩=some (.slice none 0 0)∧w.cell? ⟨n+2,2,none⟩=some (.slice none 0 0)∧w.cell? ⟨n+2,3,none⟩=some (.slice none 0 0):=box4 h.o
theorem WK.of (h:WK v w0 n A0 c0 A1 c1 A2 c2 A3 c3 G e A6 c6 w) (j:Nat):w.frozen? ⟨n+2,j,none⟩=false:=bfz h.o j
theorem WK.hf (h:WK v w0 n A0 c0 A1 c1 A2 c2 A3 c3 G e A6 c6 w) (j:Nat):w.frozen? ⟨n,j,none⟩=false:=bfz h.h j
theorem WK.fin (h:WK v w0 n A0 c0 A1 c1 A2 c2 A3 c3 G e A6 c6 w) {p q r s:Value}:OwnG (H.set4 w (n+2) p q r s) v.heap.size A0 c0 A1 c1 A2 c2 A3 c3 G∧Below v.heap.size v (H.set4 w (n+2) p q r s)∧(H.set4 w (n+2) p q r s).heap[n+2]?=some (.cells #[p,q,r,s] 28 (0,0))∧Keeps w0 (H.set4 w (n+2) p q r s):=
  ⟨h.own.set4 h.o,set4_below h.b (by have:=h.n0;omega),set4_blk h.o,fun j cs t h1 a b c=>set4_far (h.k j cs t h1 a b c) (by have h2:=blk_lt h1;have h3:=h.n1;omega)⟩
theorem isGuard_iff (h:Hp) (p:Int):isGuard h p=true↔0≤p∧(rd_T38 h.o p).f0=4:=by
  unfold isGuard;rw[Bool.and_eq_true,decide_eq_true_eq,decide_eq_true_eq]
theorem WK.pushW (K:WK v w0 n A0 c0 A1 c1 A2 c2 A3 c3 G e A6 c6 w) {W2:List S60} {B:Option Addr} {c:Nat} (hr:Kd.R k60 60 w1 v.heap.size (fun k=>some k≠(Value.slice A3 G.d.length c3).ownBlock) (.slice B W2.length c) W2)
    (hb:Below v.heap.size v w1) (hg:w.grownBy w1 (Value.slice A2 G.w.length c2).ownBlock) (hat:(Value.slice B W2.length c).ownBlock=(Value.slice A2 G.w.length c2).ownBlock∨∃b,(Value.slice B W2.length c).ownBlock=some b∧w.heap.size≤b) :
    WK v w0 n A0 c0 A1 c1 B c A3 c3 ⟨G.o,G.r,W2,G.d⟩ e A6 c6 (w1.setCell ⟨n,2,none⟩ (.slice B W2.length c)):=by
  have hh:=blk_grown K.h hg (Kd.R_ne K.own.s2 K.h (by decide))
  have he:=blk_grown K.e hg (Kd.R_ne K.own.s2 K.e (by decide))
  have ho:=blk_grown K.o hg (Kd.R_ne K.own.s2 K.o (by decide))
  have hty:=Kd.R_typed K.own.s2
  refine⟨below_set hb K.n0,K.n0,K.n1,fun j cs t h1 a b c=>blk_far (blk_grown (K.k j cs t h1 a b c) hg (Kd.R_ne K.own.s2 (K.k j cs t h1 a b c) (fun e=>c e.symm))) (p:=⟨n,2,none⟩) (by have h2:=blk_lt h1;have h3:=K.n1;show j≠n;omega) _,blk_put hh 2 _ rfl,blk_far he (p:=⟨n,2,none⟩) (by show n+1≠n;omega) _,blk_far ho (p:=⟨n,2,none⟩) (by show n+2≠n;omega) _,?_⟩
  refine⟨Kd.S_set (Kd.S_over' K.own.s0 hty (by decide) hg) hh (k38_ap 28 (by decide) (by decide)) 2 _,Kd.R_set (Kd.R_over' K.own.s1 hty (by decide) hg) hh (int_ap 28 (by decide)) 2 _,Kd.R_set hr hh (k60_ap 28 (by decide)) 2 _,Kd.R_set ?_ hh (k60_ap 28 (by decide)) 2 _⟩
  refine Kd.R_mono (Kd.R_step (Kd.R_bound K.own.s3) (fun k hk hl=>hg.block k hl hk.1)) (fun k hk e=>?_)
  rcases hat with h1|⟨b,h1,h2⟩
  · exact hk.1 (e.trans h1)
  · rw[h1]at e;injection e with e;have:=hk.2.2.1;omega
end
end
end Go.Proofs.Ytigjhfijkdlldaa.H
