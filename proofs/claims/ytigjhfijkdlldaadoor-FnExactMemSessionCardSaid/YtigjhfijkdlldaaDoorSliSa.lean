import Derived.Test.YtigjhfijkdlldaaDoorProg
import Derived.Below
import Derived.Deep.Draws
import Derived.Deep.AppendLies
import Derived.Maps.AppendAt
import Derived.OwnWalk
import Derived.Laws.BytesArg
import Derived.Laws.MakeOwn
import Derived.Laws.OwnMore
import Derived.Deep.OwnRows
import Derived.Tactics
import Derived.Lib.ConvBytes
import Derived.Laws.Slices
import Derived.WalkKit
import Derived.KernelRfl
import Derived.RowKit3
import Derived.Deep.LoopGhost
import Derived.Deep.QuietTactic
import Derived.BigQuiet
import Derived.WideLaws
import Derived.Deep.DeepCutAuto
import Derived.Deep.CutBlock
import Derived.Deep.RegionHeld3
import Derived.Laws.Rows
import Derived.Lib.AppendStr
import Derived.ArgAppend
import Derived.Laws.IdiomCopy
import Derived.OrdersHeld
import Derived.Laws.BitsLemmas
import Derived.RowKit
import Derived.Test.YtigjhfijkdlldaaDoorSliWWords
import Derived.Test.YtigjhfijkdlldaaDoorSliWLast
import Derived.Test.YtigjhfijkdlldaaDoorSliWMore
import Derived.Lib.Split
import Derived.Lib.SplitLaws
import Derived.WideShapes
section
namespace Go.Proofs.YtigjhfijkdlldaaDoor.Q
open Go.RowKit Go.Proofs.YtigjhfijkdlldaaDoorW.PrintWords Go.Proofs.YtigjhfijkdlldaaDoorW.PrintLast Go.Proofs.YtigjhfijkdlldaaDoorW.PrintMore
attribute [local go_sem] max2_int min2_int max_two min_two max_three min_three max_four min_four
set_option linter.unusedVariables false
set_option linter.unusedSimpArgs false
def errW:Option Int→Value
  | none=>.nilIface
  | some c=>.iface 0 (.int .i64 c)
theorem errW_none:errW none=.nilIface:=rfl
theorem errW_some (c:Int):errW (some c)=.iface 0 (.int .i64 c):=rfl
theorem info3:(Tryd.prog.info? 3).map (fun i=>(i.zero,i.size,i.bytes))=some (some (.int .i64 0),1,8):=by kernel_rfl
theorem info5:(Tryd.prog.info? 5).map (fun i=>(i.zero,i.size,i.bytes))=some (some (.int .u8 0),1,1):=by kernel_rfl
theorem info38:(Tryd.prog.info? 35).map (fun i=>(i.zero,i.size,i.bytes))=some (some (.agg #[(.int .i64 0),(.string ⟨#[]⟩),(.slice none 0 0)]),3,48):=by kernel_rfl
theorem info60:(Tryd.prog.info? 71).map (fun i=>(i.zero,i.size,i.bytes))=some (some (.agg #[(.int .i64 0),(.int .i64 0)]),2,16):=by kernel_rfl
structure S38 where
  f0:Int
  f1:ByteArray
  f2:(List Int)
def z38:S38:=⟨(0:Int),(⟨#[]⟩:ByteArray),([]:List Int)⟩
def k38:Kd S38:=Kd.iso (Kd.pair (Kd.int .i64) (Kd.pair Kd.string (Kd.slice 3 (Kd.int .i64)))) (fun x:S38=>(x.f0,x.f1,x.f2))
theorem k38_open {w:World} {x:S38} {cs:List Value} (h:k38.K w x cs):∃A2 c2,cs=[.int .i64 x.f0,.string x.f1,.slice A2 x.f2.length c2]∧x.f2.length≤c2∧(Kd.int .i64).C w A2 x.f2.length x.f2:=by
  obtain⟨_,_,rfl,rfl,⟨_,_,rfl,rfl,⟨A2,c2,rfl,l2,g2⟩⟩⟩:=h
  exact⟨A2,c2,rfl,l2,g2⟩
theorem k38_openM {w:World} {base:Nat} {ok:Nat→Prop} {x:S38} {cs:List Value} (h:k38.M w base ok x cs):∃v2,cs=[.int .i64 x.f0,.string x.f1,v2]∧(Kd.int .i64).R 3 w base ok v2 x.f2:=by
  obtain⟨_,_,rfl,rfl,⟨_,_,rfl,rfl,⟨v2,rfl,g2⟩⟩⟩:=h
  exact⟨v2,rfl,g2⟩
theorem k38_mkM (w:World) (base:Nat) (ok:Nat→Prop) (x:S38) {v2:Value} (g2:(Kd.int .i64).R 3 w base ok v2 x.f2):k38.M w base ok x [.int .i64 x.f0,.string x.f1,v2]:=⟨[.int .i64 x.f0],[.string x.f1,v2],rfl,rfl,⟨[.string x.f1],[v2],rfl,rfl,⟨v2,rfl,g2⟩⟩⟩
def rd_T38 (xs:List S38) (i:Int):S38:=xs.getD i.toNat z38
theorem at_T38 {w:World} {A:Option Addr} {n:Nat} {xs:List S38} (h:Kd.C k38 w A n xs) (i:Int) (h0:0≤i) (h1:i<n):∃ad A2 c2,A=some ad∧w.cell? (ad.add (i.toNat*3))=some (.int .i64 (rd_T38 xs i).f0)∧w.cell? ⟨(ad.add (i.toNat*3)).block,(ad.add (i.toNat*3)).off+1,none⟩=some (.string (rd_T38 xs i).f1)∧w.cell? ⟨(ad.add (i.toNat*3)).block,(ad.add (i.toNat*3)).off+2,none⟩=some (.slice A2 (rd_T38 xs i).f2.length c2)∧(rd_T38 xs i).f2.length≤c2∧(Kd.int .i64).C w A2 (rd_T38 xs i).f2.length (rd_T38 xs i).f2:=by
  obtain⟨ad,c,e,_,hK,hc0⟩:=Kd.C_get h z38 i h0 h1
  have hc:∀j u,c[j]?=some u→w.cell? (ad.add (i.toNat*3+j))=some u:=hc0
  obtain⟨A2,c2,rfl,l2,g2⟩:=k38_open hK
  exact⟨ad,A2,c2,e,hc 0 _ rfl,by rw[←add_field _ _ 1 (by omega)];exact hc 1 _ rfl,by rw[←add_field _ _ 2 (by omega)];exact hc 2 _ rfl,l2,g2⟩
structure S60 where
  f0:Int
  f1:Int
def z60:S60:=⟨(0:Int),(0:Int)⟩
def k60:Kd S60:=Kd.iso (Kd.pair (Kd.int .i64) (Kd.int .i64)) (fun x:S60=>(x.f0,x.f1))
theorem k60_heap:Kd.Heap k60:=Kd.heap_iso _ (Kd.heap_pair (Kd.heap_int .i64) (Kd.heap_int .i64))
theorem k60_open {w:World} {x:S60} {cs:List Value} (h:k60.K w x cs):cs=[.int .i64 x.f0,.int .i64 x.f1]:=by
  obtain⟨_,_,rfl,rfl,rfl⟩:=h
  exact rfl
theorem k60_mkM (w:World) (base:Nat) (ok:Nat→Prop) (x:S60) :k60.M w base ok x [.int .i64 x.f0,.int .i64 x.f1]:=⟨[.int .i64 x.f0],[.int .i64 x.f1],rfl,rfl,rfl⟩
def rd_T60 (xs:List S60) (i:Int):S60:=xs.getD i.toNat z60
theorem at_T60 {w:World} {A:Option Addr} {n:Nat} {xs:List S60} (h:Kd.C k60 w A n xs) (i:Int) (h0:0≤i) (h1:i<n):∃ad ,A=some ad∧w.cell? (ad.add (i.toNat*2))=some (.int .i64 (rd_T60 xs i).f0)∧w.cell? ⟨(ad.add (i.toNat*2)).block,(ad.add (i.toNat*2)).off+1,none⟩=some (.int .i64 (rd_T60 xs i).f1):=by
  obtain⟨ad,c,e,_,hK,hc0⟩:=Kd.C_get h z60 i h0 h1
  have hc:∀j u,c[j]?=some u→w.cell? (ad.add (i.toNat*2+j))=some u:=hc0
  obtain rfl:=k60_open hK
  exact⟨ad,e,hc 0 _ rfl,by rw[←add_field _ _ 1 (by omega)];exact hc 1 _ rfl⟩
structure S40 where
  f0:Int
  f1:Int
  f2:Int
  f3:Int
  f4:S38
structure S72 where
  f0:Int
  f1:ByteArray
  f2:(List Int)
def k72:Kd S72:=Kd.iso (Kd.pair (Kd.int .i64) (Kd.pair Kd.string (Kd.slice 3 (Kd.int .i64)))) (fun x:S72=>(x.f0,x.f1,x.f2))
structure S126 where
  f0:Int
  f1:Int
def k126:Kd S126:=Kd.iso (Kd.pair (Kd.int .i64) (Kd.int .i64)) (fun x:S126=>(x.f0,x.f1))
def IsS121 (w0 W:World) (g:Nat) (f0:List Int) (f1:Int):Prop:=∃A0 c0,W.heap[g]?=some (.cells #[.slice A0 f0.length c0,.int .i64 f1] 57 (0,0))∧w0.heap.size≤g∧Kd.C (Kd.int .u8) w0 A0 f0.length f0
theorem IsS121.grown {w0 W:World} {g:Nat} {f0:List Int} {f1:Int} {W1:World} {row:Option Nat} (h:IsS121 w0 W g f0 f1) (hw:W.grownBy W1 row) (hne:some g≠row):IsS121 w0 W1 g f0 f1:=by
  obtain⟨A0,c0,hb,hg,hr0⟩:=h
  exact⟨A0,c0,blk_grown hb hw hne,hg,hr0⟩
theorem IsS121.kept {w0 W:World} {g:Nat} {f0:List Int} {f1:Int} {W1:World} {S:Nat→Prop} (h:IsS121 w0 W g f0 f1) (hk:Kept W W1 S) (hne:¬ S g):IsS121 w0 W1 g f0 f1:=by
  obtain⟨A0,c0,hb,hg,hr0⟩:=h
  exact⟨A0,c0,blk_kept hb hk hne,hg,hr0⟩
theorem IsS121.below {w0 W:World} {g:Nat} {f0:List Int} {f1:Int} {W1:World} (h:IsS121 w0 W g f0 f1) (hw:Below W.heap.size W W1):IsS121 w0 W1 g f0 f1:=h.grown (grown_of_below hw none) (by simp)
theorem IsS121.alloc {w0 W:World} {g:Nat} {f0:List Int} {f1:Int} (h:IsS121 w0 W g f0 f1) (o:Obj):IsS121 w0 (W.alloc o) g f0 f1:=h.below (below_alloc (Below.refl _ _) o)
theorem IsS121.drewN {w0 W:World} {g:Nat} {f0:List Int} {f1:Int} (h:IsS121 w0 W g f0 f1) (m:Nat):IsS121 w0 (W.drewN m) g f0 f1:=h
theorem IsS121.drew {w0 W:World} {g:Nat} {f0:List Int} {f1:Int} (h:IsS121 w0 W g f0 f1):IsS121 w0 W.drew g f0 f1:=h
theorem IsS121.at_ {w0 W:World} {g:Nat} {f0:List Int} {f1:Int} {w':World} {m:Nat} (hq:W.drewN m=w') (h:IsS121 w0 W g f0 f1):IsS121 w0 w' g f0 f1:=by subst hq;exact IsS121.drewN h m
theorem IsS121.apart {w0 W:World} {g:Nat} {f0:List Int} {f1:Int} {α:Type} {d:Kd α} {e:Nat} {base:Nat} {ok:Nat→Prop} {v:Value} {xs:List α} (h:IsS121 w0 W g f0 f1) (ho:d.R e W base ok v xs) (ht:∀q,q∈e :: d.E→q≠57):d.R e W base (fun k=>ok k∧k≠g) v xs:=by
  obtain⟨A0,c0,hb,hg,hr0⟩:=h
  exact Kd.R_types ho hb ht
theorem IsS121.own_ne {w0 W:World} {g:Nat} {f0:List Int} {f1:Int} {α:Type} {d:Kd α} {e:Nat} {base:Nat} {ok:Nat→Prop} {v:Value} {xs:List α} (h:IsS121 w0 W g f0 f1) (ho:d.R e W base ok v xs) (ht:e≠57):some g≠v.ownBlock:=by
  obtain⟨A0,c0,hb,hg,hr0⟩:=h
  exact Kd.R_ne ho hb ht
theorem IsS121.apartS {w0 W:World} {g:Nat} {f0:List Int} {f1:Int} {α:Type} {d:Kd α} {e:Nat} {base:Nat} {ok:Nat→Prop} {v:Value} {xs:List α} (h:IsS121 w0 W g f0 f1) (ho:d.S e W base ok v xs) (ht:∀q,q∈e :: d.E→q≠57):d.S e W base (fun k=>ok k∧k≠g) v xs:=by
  obtain⟨A0,c0,hb,hg,hr0⟩:=h
  exact Kd.S_types ho hb ht
theorem IsS121.lt {w0 W:World} {g:Nat} {f0:List Int} {f1:Int} (h:IsS121 w0 W g f0 f1):g<W.heap.size:=by
  obtain⟨A0,c0,hb,hg,hr0⟩:=h
  exact blk_lt hb
theorem IsS121.ge {w0 W:World} {g:Nat} {f0:List Int} {f1:Int} (h:IsS121 w0 W g f0 f1):w0.heap.size≤g:=by
  obtain⟨A0,c0,hb,hg,hr0⟩:=h
  exact hg
theorem IsS121.ne_blk {w0 W:World} {g:Nat} {f0:List Int} {f1:Int} {a:Nat} {cs:Array Value} {t:TypeId} {fr:Nat × Nat} (h:IsS121 w0 W g f0 f1) (hb2:W.heap[a]?=some (.cells cs t fr)) (ht:t≠57):g≠a:=by
  obtain⟨A0,c0,hb,hg,hr0⟩:=h
  rintro rfl
  rw[hb]at hb2
  injection hb2 with hb2
  injection hb2 with _ ht2
  exact ht ht2.symm
theorem IsS121.far {w0 W:World} {g:Nat} {f0:List Int} {f1:Int} {p:Addr} (h:IsS121 w0 W g f0 f1) (hne:g≠p.block) (u:Value):IsS121 w0 (W.setCell p u) g f0 f1:=by
  obtain⟨A0,c0,hb,hg,hr0⟩:=h
  exact⟨A0,c0,blk_far hb hne u,hg,hr0⟩
theorem cellS121_0 {W:World} {g:Nat} {A0:Option Addr} {c0:Nat} {f0:List Int} {f1:Int} (h:W.heap[g]?=some (.cells #[.slice A0 f0.length c0,.int .i64 f1] 57 (0,0))):W.cell? ⟨g,0,none⟩=some (.slice A0 f0.length c0):=(bcl h 0).trans rfl
theorem cellS121_1 {W:World} {g:Nat} {A0:Option Addr} {c0:Nat} {f0:List Int} {f1:Int} (h:W.heap[g]?=some (.cells #[.slice A0 f0.length c0,.int .i64 f1] 57 (0,0))):W.cell? ⟨g,1,none⟩=some (.int .i64 f1):=(bcl h 1).trans rfl
theorem IsS121.set_1 {w0 W:World} {g:Nat} {f0:List Int} {f1:Int} (h:IsS121 w0 W g f0 f1) (x:Int):IsS121 w0 (W.setCell ⟨g,1,none⟩ (.int .i64 x)) g f0 x:=by
  obtain⟨A0,c0,hb,hg,hr0⟩:=h
  exact⟨A0,c0,by simpa using blk_set hb 1 (.int .i64 x),hg,hr0⟩
theorem IsS121.new (w0 W:World) (A0:Option Addr) (c0:Nat) (f0:List Int) (f1:Int) (hB:Below w0.heap.size w0 W) (hr0:Kd.C (Kd.int .u8) w0 A0 f0.length f0):IsS121 w0 (W.alloc (.cells #[.slice A0 f0.length c0,.int .i64 f1] 57)) W.heap.size f0 f1:=⟨A0,c0,by simpa using heap_alloc_new W _,hB.size,hr0⟩
end Go.Proofs.YtigjhfijkdlldaaDoor.Q
end
section
namespace Go.Proofs.YtigjhfijkdlldaaDoor.H
open Go.RowKit Go.Proofs.YtigjhfijkdlldaaDoorW.PrintWords Go.Proofs.YtigjhfijkdlldaaDoorW.PrintLast Go.Proofs.YtigjhfijkdlldaaDoorW.PrintMore Go.Proofs.YtigjhfijkdlldaaDoor.Q
theorem box1 {w:World} {g t:Nat} {a:Value} (h:w.heap[g]?=some (.cells #[a] t (0,0))):w.cell? ⟨g,0,none⟩=some a∧w.frozen? ⟨g,0,none⟩=false:=⟨(bcl h 0).trans rfl,bfz h 0⟩
theorem box2 {w:World} {g t:Nat} {a b:Value} (h:w.heap[g]?=some (.cells #[a,b] t (0,0))) :
    w.cell? ⟨g,0,none⟩=some a∧w.cell? ⟨g,1,none⟩=some b:=⟨(bcl h 0).trans rfl,(bcl h 1).trans rfl⟩
theorem box3 {w:World} {g t:Nat} {a b c:Value} (h:w.heap[g]?=some (.cells #[a,b,c] t (0,0))) :
    w.cell? ⟨g,0,none⟩=some a∧w.cell? ⟨g,1,none⟩=some b∧w.cell? ⟨g,2,none⟩=some c:=
  ⟨(bcl h 0).trans rfl,(bcl h 1).trans rfl,(bcl h 2).trans rfl⟩
theorem box4 {w:World} {g t:Nat} {a b c d:Value} (h:w.heap[g]?=some (.cells #[a,b,c,d] t (0,0))) :
    w.cell? ⟨g,0,none⟩=some a∧w.cell? ⟨g,1,none⟩=some b∧w.cell? ⟨g,2,none⟩=some c∧w.cell? ⟨g,3,none⟩=some d:=
  ⟨(bcl h 0).trans rfl,(bcl h 1).trans rfl,(bcl h 2).trans rfl,(bcl h 3).trans rfl⟩
theorem blk_new1 (w:World) (o o':Obj):((w.alloc o).alloc o').heap[w.heap.size+1]?=some o':=by have:=blk_new (w.alloc o) o';simpa using this
theorem all_take_succ {α:Type} (l:List α) (p:α→Bool) (d:α) (x:Int) (h0:0≤x) (h1:x<l.length):(l.take (x+1).toNat).all p=((l.take x.toNat).all p && p (l.getD x.toNat d)):=by
  have e:(x+1).toNat=x.toNat+1:=by omega
  have h2:x.toNat<l.length:=by omega
  rw[e,List.take_succ_eq_append_getElem h2,List.all_append]
  simp[List.getD_eq_getElem?_getD,List.getElem?_eq_getElem h2]
theorem all_fails {α:Type} (l:List α) (p:α→Bool) (d:α) (x:Int) (h0:0≤x) (h1:x<l.length) (h:p (l.getD x.toNat d)=false):l.all p=false:=by
  have h2:x.toNat<l.length:=by omega
  rw[List.all_eq_false]
  refine⟨l[x.toNat],List.getElem_mem h2,?_⟩
  rw[List.getD_eq_getElem?_getD,List.getElem?_eq_getElem h2]at h
  simpa using h
theorem take_all {α:Type} (l:List α) (x:Int) (h:x=l.length):l.take x.toNat=l:=List.take_of_length_le (by omega)
theorem wrap_succ (x:Int) (h0:0≤x) (h1:x<9223372036854775807):wrap64 (x+1)=x+1:=by unfold wrap64;omega
theorem k38_ap (t:Nat) (h:(35:Nat)≠t) (h3:(3:Nat)≠t):∀q,q∈35 :: k38.E→q≠t:=fun q hq=>by
  rcases List.mem_cons.1 hq with rfl|h1
  · exact h
  · rcases List.mem_cons.1 (show q∈[3]from h1)with rfl|h2
    · exact h3
    · cases h2
theorem int_ap (t:Nat) (h:(3:Nat)≠t):∀q,q∈3 :: (Kd.int .i64).E→q≠t:=fun q hq=>by
  rcases List.mem_cons.1 hq with rfl|h1
  · exact h
  · cases h1
theorem k60_ap (t:Nat) (h:(71:Nat)≠t):∀q,q∈71 :: k60.E→q≠t:=fun q hq=>by
  rcases List.mem_cons.1 hq with rfl|h1
  · exact h
  · cases (show q∈[]from h1)
theorem blk_new3 (w:World) (o o' o2:Obj):(((w.alloc o).alloc o').alloc o2).heap[w.heap.size+1+1]?=some o2:=by
  have h1:=blk_new ((w.alloc o).alloc o') o2
  rwa [show ((w.alloc o).alloc o').heap.size=w.heap.size+1+1 from(Array.size_push ..).trans (congrArg (·+1) (Array.size_push ..))]at h1
end Go.Proofs.YtigjhfijkdlldaaDoor.H
end
section
namespace Go.Proofs.YtigjhfijkdlldaaDoor.H
open Go.RowKit Go.Proofs.YtigjhfijkdlldaaDoorW.PrintWords Go.Proofs.YtigjhfijkdlldaaDoorW.PrintLast Go.Proofs.YtigjhfijkdlldaaDoorW.PrintMore Go.Proofs.YtigjhfijkdlldaaDoor.Q
set_option linter.unusedVariables false
set_option linter.unusedSectionVars false
theorem drop_cons {α:Type} (xs:List α) (d:α) (i:Int) (h0:0≤i) (h1:i<xs.length):xs.drop i.toNat=xs.getD i.toNat d :: xs.drop (i+1).toNat:=by
  have h2:i.toNat<xs.length:=by omega
  rw[show (i+1).toNat=i.toNat+1 by omega,List.drop_eq_getElem_cons h2,List.getD_eq_getElem?_getD,List.getElem?_eq_getElem h2];rfl
theorem drop_end {α:Type} (xs:List α) (i:Int) (h:(xs.length:Int)≤i):xs.drop i.toNat=[]:=List.drop_eq_nil_of_le (by omega)
theorem getD_mem {α:Type} (xs:List α) (d:α) (i:Int) (h0:0≤i) (h1:i<xs.length):xs.getD i.toNat d∈xs:=by
  have h2:i.toNat<xs.length:=by omega
  rw[List.getD_eq_getElem?_getD,List.getElem?_eq_getElem h2];exact List.getElem_mem h2
def inB (p n:Int):Bool:=decide (-1≤p) && decide (p<n)
def chOk (c:Int):Bool:=(decide (97≤c) && decide (c≤122)) || (decide (48≤c) && decide (c≤57))
def txOk (s:ByteArray):Bool:=decide (1≤(s.size:Int)) && decide ((s.size:Int)≤12) && (bytesOf s).all chOk
def shB (x:S38):Bool:=
  if x.f0=1 then txOk x.f1 && ((x.f2.length:Int) == 0)
  else if x.f0=2 then decide (x.f1.toList=[]) && decide ((x.f2.length:Int)≤6)
  else if x.f0=3 then decide (x.f1.toList=[]) && ((x.f2.length:Int) == 2)
  else if x.f0=4 then decide (x.f1.toList=[]) && ((x.f2.length:Int) == 0)
  else false
def obB (n:Int) (x:S38):Bool:=shB x && x.f2.all (inB · n)
def wtB (l0:List S38) (x:S60):Bool:=decide (0≤x.f0) && decide (x.f0<l0.length) && decide ((rd_T38 l0 x.f0).f0=4) && decide (0≤x.f1) && decide (x.f1<l0.length)
def okB (l0:List S38) (l1:List Int) (l2 l3:List S60):Bool:=
  decide (l0.length≤60) && decide (l1.length≤8) && decide (l2.length+l3.length≤20) && l0.all (obB l0.length) && l1.all (inB · l0.length) && l2.all (wtB l0) && l3.all (wtB l0)
def Fit (x:S38):Prop:=(x.f1.size:Int)≤4611686018427387903∧(x.f2.length:Int)≤4611686018427387903
end Go.Proofs.YtigjhfijkdlldaaDoor.H
end
section
namespace Go.Proofs.YtigjhfijkdlldaaDoor.H
open Go.RowKit Go.Proofs.YtigjhfijkdlldaaDoorW.PrintWords Go.Proofs.YtigjhfijkdlldaaDoorW.PrintLast Go.Proofs.YtigjhfijkdlldaaDoorW.PrintMore Go.Proofs.YtigjhfijkdlldaaDoor.Q
set_option linter.unusedVariables false
theorem strOfNums_size (l:List Int):(strOfNums l).size=l.length:=by
  unfold strOfNums;simp[ByteArray.size]
def txL:Nat→Int→ByteArray→ByteArray
  | 0,_,s=>s
  | k+1,x,s=>if x≤0 then s else txL k (x / 10) (strOfNums [48+x % 10]++s)
def mtxt (a:Int):ByteArray:=if a≤0 then⟨#[109,48]⟩else⟨#[109]⟩++txL 20 a ⟨#[]⟩
def marksI (a:Int) (n:Nat):List Int:=(List.range n).map fun(j:Nat)=>a+j
def marksW (a:Int) (n:Nat):List S60:=(List.range n).map fun(j:Nat)=>⟨a+2*j,a+2*j+1⟩
theorem set_at {α:Type} (p:List α) (b v:α) (r:List α) (n:Nat) (h:p.length=n):(p++b :: r).set n v=p++v :: r:=by
  subst h;rw[List.set_append_right _ _ (Nat.le_refl _)];simp
theorem getD_at {α:Type} (p:List α) (b d:α) (r:List α) (n:Nat) (h:p.length=n):(p++b :: r).getD n d=b:=by
  subst h;simp[List.getD_eq_getElem?_getD]
def markO:Int→List S38→List S38
  | _,[]=>[]
  | a,x :: l=>⟨a,mtxt (a+1),marksI (a+2) x.f2.length⟩ :: markO (a+2+x.f2.length) l
def cntO:List S38→Int
  | []=>0
  | x :: l=>2+x.f2.length+cntO l
end Go.Proofs.YtigjhfijkdlldaaDoor.H
end
section
namespace Go.Proofs.YtigjhfijkdlldaaDoor.H
open Go.RowKit Go.Proofs.YtigjhfijkdlldaaDoorW.PrintWords Go.Proofs.YtigjhfijkdlldaaDoorW.PrintLast Go.Proofs.YtigjhfijkdlldaaDoorW.PrintMore Go.Proofs.YtigjhfijkdlldaaDoor.Q
set_option linter.unusedVariables false
set_option linter.unusedSimpArgs false
theorem RI_set {W:World} {base g n cap:Nat} {ok:Nat→Prop} {xs:List Int} (h:(Kd.int .i64).R 3 W base ok (.slice (some ⟨g,0,none⟩) n cap) xs) (i:Int) (h0:0≤i) (h1:i<n) (v:Int) :
    (Kd.int .i64).R 3 (W.setCell ⟨g,i.toNat,none⟩ (.int .i64 v)) base ok (.slice (some ⟨g,0,none⟩) n cap) (xs.set i.toNat v):=by
  obtain⟨c,hcl,hM,hcc,_⟩:=Kd.R_elem h 0 i h0 h1
  obtain⟨u,rfl⟩:=List.length_eq_one_iff.1 (show c.length=1 from hcl)
  have h2:=(Kd.R_seg h i h0 h1 hcl hcc (seg:=[.int .i64 v]) (j:=0) (x':=v) (okp:=fun _=>False) (Nat.le_refl 1) (show [Value.int .i64 v]=[Value.int .i64 v]from rfl) (fun _ hk=>hk.elim)).1
  have e:i.toNat*(Kd.int .i64).sz+0=i.toNat:=by show i.toNat*1+0=_;omega
  rw[e]at h2
  exact h2
theorem RI_at {W:World} {base g n cap:Nat} {ok:Nat→Prop} {xs:List Int} (h:(Kd.int .i64).R 3 W base ok (.slice (some ⟨g,0,none⟩) n cap) xs) (i:Int) (h0:0≤i) (h1:i<n):W.cell? ⟨g,i.toNat,none⟩=some (.int .i64 (rd xs i))∧W.frozen? ⟨g,i.toNat,none⟩=false:=by
  obtain⟨c,hcl,hM,hcc,hfr⟩:=Kd.R_elem h 0 i h0 h1
  have e:∀j,i.toNat*(Kd.int .i64).sz+j=i.toNat+j:=fun j=>by show i.toNat*1+j=_;omega
  have h2:c=[.int .i64 (rd xs i)]:=hM
  have h3:=hcc 0 (.int .i64 (rd xs i)) (by rw[h2];rfl)
  have h4:=hfr 0
  rw[e]at h3 h4
  exact⟨h3,h4⟩
end Go.Proofs.YtigjhfijkdlldaaDoor.H
end
section
end
section
end
section
namespace Go.Proofs.YtigjhfijkdlldaaDoor.H
open Go.RowKit Go.Proofs.YtigjhfijkdlldaaDoorW.PrintWords Go.Proofs.YtigjhfijkdlldaaDoorW.PrintLast Go.Proofs.YtigjhfijkdlldaaDoorW.PrintMore Go.Proofs.YtigjhfijkdlldaaDoor.Q
set_option linter.unusedVariables false
set_option linter.unusedSimpArgs false
section
variable {w:World} {A A0 A1 A2 A3:Option Addr} {c c0 c1 c2 c3:Nat}
def lB (p a b:Int):Bool:=decide (a≤p) && decide (p≤b)
theorem l1In_c {p a b:Int}:Calls Tryd.prog 22 #[.int .i64 p,.int .i64 a,.int .i64 b] w fun e w'=>e=.returned (.bool (lB p a b))∧w'=w:=by
  unfold lB
  obtain⟨x,hx⟩:∃x,decide (a≤p)=x:=⟨_,rfl⟩
  rw[hx]
  cases x
  all_goals (go_enter Tryd.func22,Tryd.ntmps22;go_wp2;go_ret;exact⟨rfl,rfl⟩)
theorem tx_step (s:ByteArray) (i:Int) (h0:0≤i) (h1:i<s.size):((bytesOf s).drop i.toNat).all chOk=(chOk (bt s i) && ((bytesOf s).drop (i+1).toNat).all chOk):=by
  rw[drop_cons _ 0 i h0 (by rw[bytesOf_length];exact h1),List.all_cons]
  have:=rd_bytesOf s i
  unfold rd at this
  rw[this]
theorem l1Text_c {s:ByteArray} (hs:(s.size:Int)≤4611686018427387903):Calls Tryd.prog 50 #[.string s] w fun e w'=>e=.returned (.bool (txOk s))∧w'=w:=by
  have HS:=AK hs
  have HT:=AK (show txOk s=(lB s.size 1 12 && (bytesOf s).all chOk)from rfl)
  clear hs
  obtain⟨r,er⟩:∃r,r=txOk s:=⟨_,rfl⟩
  rw[←er]at HT ⊢
  clear er
  go_enter Tryd.func50,Tryd.ntmps50
  go_wp2_with fail
  refine(l1In_c (p:=s.size) (a:=1) (b:=12)).mono ?_
  rintro e w2 ⟨rfl,rfl⟩
  obtain⟨x,hx⟩:∃x,lB s.size 1 12=x:=⟨_,rfl⟩
  rw[hx]at HT ⊢
  cases x with
  | false=>
    have hr:r=false:=HT.out
    subst hr
    go_wp2
    go_ret
    exact⟨rfl,rfl⟩
  | true=>
  clear hx
  have HT2:=AK (show r=((bytesOf s).drop (0:Int).toNat).all chOk from HT.out)
  clear HT
  go_wp2
  go_loopg [3] s.size (fun kq v3 w'=>∃i:Int,v3=.int .i64 i∧Aside0 (0≤i∧i+kq=s.size)∧Aside0 (r=((bytesOf s).drop i.toNat).all chOk)∧w'=w2)
  case atStart=>exact⟨0,rfl,⟨by omega,by omega⟩,HT2,rfl⟩
  case round=>
    clear HT2
    obtain⟨i,rfl,HI,HT,rfl⟩:=hrel
    cases gk with
    | zero=>
      have c9:decide (i<(s.size:Int))=false:=deF (by have:=HI.out;omega)
      have hr:r=true:=by rw[HT.out,drop_end _ _ (by rw[bytesOf_length];have:=HI.out;omega)];rfl
      subst hr
      go_wp2
      go_ret
      exact⟨rfl,rfl⟩
    | succ k1=>
      have c9:decide (i<(s.size:Int))=true:=deT (by have:=HI.out;omega)
      have hi0:=eq_true (show 0≤i by have:=HI.out;omega)
      have hi1:=eq_true (show i<(s.size:Int)by have:=HI.out;omega)
      have hb:=bt_at s i
      have HR:=AK (HT.out.trans (tx_step s i (by have:=HI.out;omega) (by have:=HI.out;omega)))
      have hc:chOk (bt s i)=(decide (97≤bt s i) && decide (bt s i≤122) || decide (48≤bt s i) && decide (bt s i≤57)):=rfl
      rw[hc]at HR
      obtain⟨x1,h1⟩:∃x,decide (97≤bt s i)=x:=⟨_,rfl⟩
      obtain⟨x2,h2⟩:∃x,decide (bt s i≤122)=x:=⟨_,rfl⟩
      obtain⟨x3,h3⟩:∃x,decide (48≤bt s i)=x:=⟨_,rfl⟩
      obtain⟨x4,h4⟩:∃x,decide (bt s i≤57)=x:=⟨_,rfl⟩
      rw[h1,h2,h3,h4]at HR
      clear hc HT
      cases x1<;>cases x2<;>cases x3<;>cases x4
      all_goals first
        | (have hr : r = false := HR.out
           subst hr
           go_wp2
           go_ret
           exact⟨rfl,rfl⟩)
        | (have HT := AK (show r = ((bytesOf s).drop (i + 1).toNat).all chOk from HR.out)
           go_wp2
           go_roundg k1
           case measure=>omega
           case rel=>
             rw[wrap_succ i (by have:=HI.out;omega) (by have:=HI.out;have:=HS.out;omega)]
             exact⟨i+1,rfl,⟨by have:=HI.out;omega,by have:=HI.out;omega⟩,HT,rfl⟩)
theorem sh1 {x:S38} (h:x.f0=1):shB x=(txOk x.f1 && ((x.f2.length:Int) == 0)):=by unfold shB;rw[if_pos h]
theorem sh2 {x:S38} (h:x.f0=2):shB x=((x.f1.toList == ([]:List UInt8)) && decide ((x.f2.length:Int)≤6)):=by unfold shB;rw[if_neg (by omega),if_pos h];congr 1;exact Bool.eq_iff_iff.2 (by rw[decide_eq_true_eq,beq_iff_eq])
theorem sh3 {x:S38} (h:x.f0=3):shB x=((x.f1.toList == ([]:List UInt8)) && ((x.f2.length:Int) == 2)):=by unfold shB;rw[if_neg (by omega),if_neg (by omega),if_pos h];congr 1;exact Bool.eq_iff_iff.2 (by rw[decide_eq_true_eq,beq_iff_eq])
theorem sh4 {x:S38} (h:x.f0=4):shB x=((x.f1.toList == ([]:List UInt8)) && ((x.f2.length:Int) == 0)):=by unfold shB;rw[if_neg (by omega),if_neg (by omega),if_neg (by omega),if_pos h];congr 1;exact Bool.eq_iff_iff.2 (by rw[decide_eq_true_eq,beq_iff_eq])
theorem sh0 {x:S38} (h1:¬ x.f0=1) (h2:¬ x.f0=2) (h3:¬ x.f0=3) (h4:¬ x.f0=4):shB x=false:=by unfold shB;rw[if_neg h1,if_neg h2,if_neg h3,if_neg h4]
set_option maxHeartbeats 2000000 in
theorem l1ObjOk_c {x:S38} {n:Int} (hn:0≤n∧n≤4611686018427387903) (hf:Fit x) (hC:Kd.C (Kd.int .i64) w A x.f2.length x.f2):Calls Tryd.prog 30 #[.agg #[.int .i64 x.f0,.string x.f1,.slice A x.f2.length c],.int .i64 n] w fun e w'=>e=.returned (.bool (obB n x))∧Below w.heap.size w w':=by
  obtain⟨hf1,hf2⟩:=hf
  have HF:=AK (And.intro hn (And.intro hf1 hf2))
  have hw:wrap64 (n - 1)=n - 1:=by unfold wrap64;omega
  have HB:=AK (below_alloc (Below.refl w.heap.size w) (.cells #[.int .i64 x.f0,.string x.f1,.slice A x.f2.length c] 35 (0,0)))
  have HX:=AK (blk_new w (.cells #[.int .i64 x.f0,.string x.f1,.slice A x.f2.length c] 35 (0,0)))
  have HC:=AK (Kd.C_below hC HB.out)
  obtain⟨r,er⟩:∃r,r=obB n x:=⟨_,rfl⟩
  have HR:=AK (show r=(shB x && (x.f2.drop (0:Int).toNat).all (inB · n))from er)
  rw[←er]
  clear hf1 hf2 hn er hC
  go_enter Tryd.func30,Tryd.ntmps30
  go_wp2
  generalize w.alloc (.cells #[.int .i64 x.f0,.string x.f1,.slice A x.f2.length c] 35 (0,0))=w1 at HB HX HC ⊢
  generalize w.heap.size=b at HX ⊢
  go_loopg [5] x.f2.length (fun kq v5 w'=>∃i:Int,v5=.int .i64 i∧Aside0 (0≤i∧i+kq=x.f2.length)∧Aside0 (r=(shB x && (x.f2.drop i.toNat).all (inB · n)))∧w'=w1)
  case atStart=>exact⟨0,rfl,⟨by omega,by omega⟩,HR,rfl⟩
  case round=>
    clear HR
    obtain⟨i,rfl,HI,HR,rfl⟩:=hrel
    obtain⟨p0,p1,p2⟩:=box3 HX.out
    cases gk with
    | succ k1=>
      have c9:decide (i<(x.f2.length:Int))=true:=deT (by have:=HI.out;omega)
      have hi0:=eq_true (show 0≤i by have:=HI.out;omega)
      have hi1:=eq_true (show i<(x.f2.length:Int)by have:=HI.out;omega)
      obtain⟨ad,e1,hq⟩:=Kd.at_int HC.out i (by have:=HI.out;omega) (by have:=HI.out;omega)
      subst e1
      have hr:=HR.out
      rw[drop_cons _ 0 i (by have:=HI.out;omega) (by have:=HI.out;omega),List.all_cons]at hr
      obtain⟨q,eq⟩:∃q,q=rd x.f2 i:=⟨_,rfl⟩
      rw[←eq]at hq
      rw[show x.f2.getD i.toNat 0=q from eq.symm,show inB q n=lB q (-1) (n - 1)by unfold inB lB;congr 1;exact decide_eq_decide.2 (by omega)]at hr
      have HR2:=AK hr
      clear hr eq HR
      go_wp2_with fail
      refine(l1In_c (p:=q) (a:=-1) (b:=n - 1)).mono ?_
      rintro e w2 ⟨rfl,rfl⟩
      obtain⟨y,hy⟩:∃y,lB q (-1) (n - 1)=y:=⟨_,rfl⟩
      rw[hy]at HR2 ⊢
      clear hy hq
      cases y with
      | false=>
        have h2:r=false:=by rw[HR2.out];simp
        subst h2
        clear p0 p1 p2
        go_wp2
        go_ret
        exact⟨rfl,HB.out⟩
      | true=>
        have HR:=AK (show r=(shB x && (x.f2.drop (i+1).toNat).all (inB · n))from HR2.out)
        clear HR2 p0 p1 p2
        go_wp2
        go_roundg k1
        case measure=>omega
        case rel=>
          rw[wrap_succ i (by have:=HI.out;omega) (by have:=HI.out;have:=HF.out;omega)]
          exact⟨i+1,rfl,⟨by have:=HI.out;omega,by have:=HI.out;omega⟩,HR,rfl⟩
    | zero=>
      have c9:decide (i<(x.f2.length:Int))=false:=deF (by have:=HI.out;omega)
      have HS:=AK (show r=shB x by rw[HR.out,drop_end _ _ (by have:=HI.out;omega)];simp)
      clear HR
      by_cases k1:x.f0=1
      case pos=>
        have f1:(x.f0 == 1)=true:=beq_iff_eq.mpr k1
        have hr:=HS.out.trans (sh1 k1)
        clear k1
        go_wp2_with fail
        refine(l1Text_c HF.out.2.1).mono ?_
        rintro e w2 ⟨rfl,rfl⟩
        obtain⟨y,hy⟩:∃y,txOk x.f1=y:=⟨_,rfl⟩
        obtain⟨z,hz⟩:∃z,((x.f2.length:Int) == 0)=z:=⟨_,rfl⟩
        rw[hy,hz]at hr
        rw[hy]
        cases y<;>cases z<;>(subst hr;go_wp2;go_ret;exact⟨rfl,HB.out⟩)
      have f1:(x.f0 == 1)=false:=beq_eq_false_iff_ne.mpr k1
      by_cases k2:x.f0=2
      case pos=>
        have f2:(x.f0 == 2)=true:=beq_iff_eq.mpr k2
        have hr:=HS.out.trans (sh2 k2)
        clear k2
        obtain⟨y,hy⟩:∃y,(x.f1.toList == ([]:List UInt8))=y:=⟨_,rfl⟩
        obtain⟨z,hz⟩:∃z,decide ((x.f2.length:Int)≤6)=z:=⟨_,rfl⟩
        rw[hy,hz]at hr
        cases y<;>cases z<;>(subst hr;go_wp2;go_ret;exact⟨rfl,HB.out⟩)
      have f2:(x.f0 == 2)=false:=beq_eq_false_iff_ne.mpr k2
      by_cases k3:x.f0=3
      case pos=>
        have f3:(x.f0 == 3)=true:=beq_iff_eq.mpr k3
        have hr:=HS.out.trans (sh3 k3)
        clear k3
        obtain⟨y,hy⟩:∃y,(x.f1.toList == ([]:List UInt8))=y:=⟨_,rfl⟩
        obtain⟨z,hz⟩:∃z,((x.f2.length:Int) == 2)=z:=⟨_,rfl⟩
        rw[hy,hz]at hr
        cases y<;>cases z<;>(subst hr;go_wp2;go_ret;exact⟨rfl,HB.out⟩)
      have f3:(x.f0 == 3)=false:=beq_eq_false_iff_ne.mpr k3
      by_cases k4:x.f0=4
      case pos=>
        have f4:(x.f0 == 4)=true:=beq_iff_eq.mpr k4
        have hr:=HS.out.trans (sh4 k4)
        clear k4
        obtain⟨y,hy⟩:∃y,(x.f1.toList == ([]:List UInt8))=y:=⟨_,rfl⟩
        obtain⟨z,hz⟩:∃z,((x.f2.length:Int) == 0)=z:=⟨_,rfl⟩
        rw[hy,hz]at hr
        cases y<;>cases z<;>(subst hr;go_wp2;go_ret;exact⟨rfl,HB.out⟩)
      have f4:(x.f0 == 4)=false:=beq_eq_false_iff_ne.mpr k4
      have hr:=HS.out.trans (sh0 k1 k2 k3 k4)
      clear k1 k2 k3 k4
      subst hr
      go_wp2
      go_ret
      exact⟨rfl,HB.out⟩
set_option maxHeartbeats 2000000 in
theorem memObjOk_calls (x:S38) (A:Option Addr) (c:Nat) (w:World) (ha:Fit x) (hr:Kd.C (Kd.int .i64) w A x.f2.length x.f2) (hc:x.f2.length≤c) :
    Calls Tryd.prog 62 #[.agg #[.int .i64 x.f0,.string x.f1,.slice A x.f2.length c]] w fun e w'=>e=.returned (.bool (shB x))∧Below w.heap.size w w':=by
  have HF:=AK ha
  have HB:=AK (below_alloc (Below.refl w.heap.size w) (.cells #[.int .i64 x.f0,.string x.f1,.slice A x.f2.length c] 35 (0,0)))
  have HX:=AK (blk_new w (.cells #[.int .i64 x.f0,.string x.f1,.slice A x.f2.length c] 35 (0,0)))
  obtain⟨r,er⟩:∃r,r=shB x:=⟨_,rfl⟩
  have HS:=AK er
  rw[←er]
  clear er ha hr hc
  go_enter Tryd.func62,Tryd.ntmps62
  go_upto_region 1 with fail
  generalize w.alloc (.cells #[.int .i64 x.f0,.string x.f1,.slice A x.f2.length c] 35 (0,0))=w1 at HB HX ⊢
  generalize w.heap.size=b at HX ⊢
  obtain⟨p0,p1,p2⟩:=box3 HX.out
  by_cases k1:x.f0=1
  case pos=>
    have f1:(x.f0 == 1)=true:=beq_iff_eq.mpr k1
    have HT:=AK (show r=(((bytesOf x.f1).drop (0:Int).toNat).all chOk && (lB x.f1.size 1 12 && ((x.f2.length:Int) == 0)))by
      rw[HS.out,sh1 k1];show ((lB x.f1.size 1 12 && (bytesOf x.f1).all chOk) && _)=((bytesOf x.f1).all chOk && _)
      cases lB x.f1.size 1 12<;>cases (bytesOf x.f1).all chOk<;>rfl)
    clear k1 HS
    go_wp2
    clear p0 p1 p2
    go_loopg [12] x.f1.size (fun kq v12 w'=>∃i:Int,v12=.int .i64 i∧Aside0 (0≤i∧i+kq=x.f1.size)∧Aside0 (r=(((bytesOf x.f1).drop i.toNat).all chOk && (lB x.f1.size 1 12 && ((x.f2.length:Int) == 0))))∧w'=w1)
    case atStart=>exact⟨0,rfl,⟨by omega,by omega⟩,HT,rfl⟩
    case round=>
      clear HT
      obtain⟨i,rfl,HI,HT,rfl⟩:=hrel
      obtain⟨p0,p1,p2⟩:=box3 HX.out
      cases gk with
      | zero=>
        have c9:decide (i<(x.f1.size:Int))=false:=deF (by have:=HI.out;omega)
        have hr:r=((decide (1≤(x.f1.size:Int)) && decide ((x.f1.size:Int)≤12)) && ((x.f2.length:Int) == 0)):=by rw[HT.out,drop_end _ _ (by rw[bytesOf_length];have:=HI.out;omega)];rfl
        obtain⟨y,hy⟩:∃y,decide (1≤(x.f1.size:Int))=y:=⟨_,rfl⟩
        obtain⟨u,hu⟩:∃u,decide ((x.f1.size:Int)≤12)=u:=⟨_,rfl⟩
        obtain⟨z,hz⟩:∃z,((x.f2.length:Int) == 0)=z:=⟨_,rfl⟩
        rw[hy,hu,hz]at hr
        clear HT
        cases y<;>cases u<;>cases z<;>(subst hr;go_wp2;go_ret;exact⟨rfl,HB.out⟩)
      | succ k1=>
        have c9:decide (i<(x.f1.size:Int))=true:=deT (by have:=HI.out;omega)
        have hi0:=eq_true (show 0≤i by have:=HI.out;omega)
        have hi1:=eq_true (show i<(x.f1.size:Int)by have:=HI.out;omega)
        have hb:=bt_at x.f1 i
        have hr:=HT.out
        rw[tx_step x.f1 i (by have:=HI.out;omega) (by have:=HI.out;omega),show chOk (bt x.f1 i)=(!decide (bt x.f1 i<97) && !decide (122<bt x.f1 i) || !decide (bt x.f1 i<48) && !decide (57<bt x.f1 i))by
          unfold chOk;rw[←decide_not,←decide_not,←decide_not,←decide_not];simp only[Int.not_lt]]at hr
        have HR:=AK hr
        obtain⟨x1,h1⟩:∃y,decide (bt x.f1 i<97)=y:=⟨_,rfl⟩
        obtain⟨x2,h2⟩:∃y,decide (122<bt x.f1 i)=y:=⟨_,rfl⟩
        obtain⟨x3,h3⟩:∃y,decide (bt x.f1 i<48)=y:=⟨_,rfl⟩
        obtain⟨x4,h4⟩:∃y,decide (57<bt x.f1 i)=y:=⟨_,rfl⟩
        rw[h1,h2,h3,h4]at HR
        clear hr HT
        cases x1<;>cases x2<;>cases x3<;>cases x4
        all_goals first
          | (have hr : r = false := HR.out
             subst hr
             go_wp2
             go_ret
             exact⟨rfl,HB.out⟩)
          | (have HT := AK (show r = (((bytesOf x.f1).drop (i + 1).toNat).all chOk && (lB x.f1.size 1 12 && ((x.f2.length : Int) == 0))) from HR.out)
             go_wp2
             go_roundg k1
             case measure=>omega
             case rel=>
               rw[wrap_succ i (by have:=HI.out;omega) (by have:=HI.out;have:=HF.out.1;omega)]
               exact⟨i+1,rfl,⟨by have:=HI.out;omega,by have:=HI.out;omega⟩,HT,rfl⟩)
  have f1:(x.f0 == 1)=false:=beq_eq_false_iff_ne.mpr k1
  by_cases k2:x.f0=2
  case pos=>
    have f2:(x.f0 == 2)=true:=beq_iff_eq.mpr k2
    have hr:=HS.out.trans (sh2 k2)
    clear k2
    obtain⟨y,hy⟩:∃y,(x.f1.toList == ([]:List UInt8))=y:=⟨_,rfl⟩
    obtain⟨z,hz⟩:∃z,decide ((x.f2.length:Int)≤6)=z:=⟨_,rfl⟩
    rw[hy,hz]at hr
    cases y<;>cases z<;>(subst hr;go_wp2;go_ret;exact⟨rfl,HB.out⟩)
  have f2:(x.f0 == 2)=false:=beq_eq_false_iff_ne.mpr k2
  by_cases k3:x.f0=3
  case pos=>
    have f3:(x.f0 == 3)=true:=beq_iff_eq.mpr k3
    have hr:=HS.out.trans (sh3 k3)
    clear k3
    obtain⟨y,hy⟩:∃y,(x.f1.toList == ([]:List UInt8))=y:=⟨_,rfl⟩
    obtain⟨z,hz⟩:∃z,((x.f2.length:Int) == 2)=z:=⟨_,rfl⟩
    rw[hy,hz]at hr
    cases y<;>cases z<;>(subst hr;go_wp2;go_ret;exact⟨rfl,HB.out⟩)
  have f3:(x.f0 == 3)=false:=beq_eq_false_iff_ne.mpr k3
  by_cases k4:x.f0=4
  case pos=>
    have f4:(x.f0 == 4)=true:=beq_iff_eq.mpr k4
    have hr:=HS.out.trans (sh4 k4)
    clear k4
    obtain⟨y,hy⟩:∃y,(x.f1.toList == ([]:List UInt8))=y:=⟨_,rfl⟩
    obtain⟨z,hz⟩:∃z,((x.f2.length:Int) == 0)=z:=⟨_,rfl⟩
    rw[hy,hz]at hr
    cases y<;>cases z<;>(subst hr;go_wp2;go_ret;exact⟨rfl,HB.out⟩)
  have f4:(x.f0 == 4)=false:=beq_eq_false_iff_ne.mpr k4
  have hr:=HS.out.trans (sh0 k1 k2 k3 k4)
  clear k1 k2 k3 k4
  subst hr
  go_wp2
  go_ret
  exact⟨rfl,HB.out⟩
set_option maxHeartbeats 2000000 in
theorem l1WatchOk_c {l0:List S38} {l1:List Int} {l2 l3 l:List S60} (h0:Kd.C k38 w A0 l0.length l0) (h:Kd.C k60 w A l.length l):Calls Tryd.prog 31 #[.agg #[.slice A0 l0.length c0,.slice A1 l1.length c1,.slice A2 l2.length c2,.slice A3 l3.length c3],.slice A l.length c] w fun e w'=>e=.returned (.bool (l.all (wtB l0)))∧Below w.heap.size w w':=by
  have hw:wrap64 ((l0.length:Int) - 1)=l0.length - 1:=by have:=h0.2.1;unfold wrap64;omega
  have HB:=AK (below_alloc (Below.refl w.heap.size w) (.cells #[.slice A0 l0.length c0,.slice A1 l1.length c1,.slice A2 l2.length c2,.slice A3 l3.length c3] 33 (0,0)))
  have HX:=AK (blk_new w (.cells #[.slice A0 l0.length c0,.slice A1 l1.length c1,.slice A2 l2.length c2,.slice A3 l3.length c3] 33 (0,0)))
  have HC:=AK (And.intro h0 (And.intro h h.2.1))
  obtain⟨r,er⟩:∃r,r=l.all (wtB l0):=⟨_,rfl⟩
  have HR:=AK (show r=(l.drop (0:Int).toNat).all (wtB l0)from er)
  rw[←er]
  clear er h0 h
  go_enter Tryd.func31,Tryd.ntmps31
  go_wp2
  generalize w.alloc (.cells #[.slice A0 l0.length c0,.slice A1 l1.length c1,.slice A2 l2.length c2,.slice A3 l3.length c3] 33 (0,0))=w1 at HB HX ⊢
  have HN:=AK (blk_lt HX.out)
  generalize w.heap.size=b at HX HN ⊢
  go_loopg [5] l.length (fun kq v5 w'=>∃i:Int,v5=.int .i64 i∧Aside0 (0≤i∧i+kq=l.length)∧Aside0 (r=(l.drop i.toNat).all (wtB l0))∧Aside0 (Below w.heap.size w w')∧Aside0 (w'.heap[b]?=some (.cells #[.slice A0 l0.length c0,.slice A1 l1.length c1,.slice A2 l2.length c2,.slice A3 l3.length c3] 33 (0,0))))
  case atStart=>exact⟨0,rfl,⟨by omega,by omega⟩,HR,HB,HX⟩
  case round=>
    clear HR HB HX
    obtain⟨i,rfl,HI,HR,HB,HX⟩:=hrel
    cases gk with
    | zero=>
      have c9:decide (i<(l.length:Int))=false:=deF (by have:=HI.out;omega)
      have hr:r=true:=by rw[HR.out,drop_end _ _ (by have:=HI.out;omega)];rfl
      subst hr
      go_wp2
      go_ret
      exact⟨rfl,HB.out⟩
    | succ k1=>
      have c9:decide (i<(l.length:Int))=true:=deT (by have:=HI.out;omega)
      have hi0:=eq_true (show 0≤i by have:=HI.out;omega)
      have hi1:=eq_true (show i<(l.length:Int)by have:=HI.out;omega)
      obtain⟨ad,e1,x0,x1⟩:=at_T60 (Kd.C_below HC.out.2.1 HB.out) i (by have:=HI.out;omega) (by have:=HI.out;omega)
      subst e1
      have hr:=HR.out
      rw[drop_cons _ z60 i (by have:=HI.out;omega) (by have:=HI.out;omega),List.all_cons]at hr
      obtain⟨z,ez⟩:∃z,z=rd_T60 l i:=⟨_,rfl⟩
      rw[←ez]at x0 x1
      rw[show l.getD i.toNat z60=z from ez.symm]at hr
      have HR2:=AK hr
      have HY:=AK (blk_new wr (.cells #[.int .i64 z.f0,.int .i64 z.f1] 71 (0,0)))
      clear ez hr HR
      go_upto_region 5 with fail
      clear x0 x1
      replace HB:=AK (below_alloc HB.out (.cells #[.int .i64 z.f0,.int .i64 z.f1] 71 (0,0)))
      replace HX:=AK (blk_alloc HX.out (.cells #[.int .i64 z.f0,.int .i64 z.f1] 71 (0,0)))
      generalize wr.alloc (.cells #[.int .i64 z.f0,.int .i64 z.f1] 71 (0,0))=w2 at HB HX HY ⊢
      obtain⟨p0,p1,p2,p3⟩:=box4 HX.out
      obtain⟨q0,q1⟩:=box2 HY.out
      have HWT:=AK (show wtB l0 z=(lB z.f0 0 (l0.length - 1) && lB z.f1 0 (l0.length - 1) && ((rd_T38 l0 z.f0).f0 == 4))by
        unfold wtB lB
        rw[show decide (z.f0≤(l0.length:Int) - 1)=decide (z.f0<l0.length)from decide_eq_decide.2 (by omega),show decide (z.f1≤(l0.length:Int) - 1)=decide (z.f1<l0.length)from decide_eq_decide.2 (by omega),show ((rd_T38 l0 z.f0).f0 == 4)=decide ((rd_T38 l0 z.f0).f0=4)from Bool.eq_iff_iff.2 (by rw[decide_eq_true_eq,beq_iff_eq])]
        simp only[Bool.and_assoc,Bool.and_comm,Bool.and_left_comm])
      go_wp2_with fail
      refine(l1In_c (p:=z.f0) (a:=0) (b:=l0.length - 1)).mono ?_
      rintro e w3 ⟨rfl,rfl⟩
      obtain⟨y,hy⟩:∃y,lB z.f0 0 (l0.length - 1)=y:=⟨_,rfl⟩
      have HLB:=AK hy
      rw[hy]at HWT ⊢
      clear hy
      cases y with
      | false=>
        have h2:r=false:=by rw[HR2.out,HWT.out];rfl
        subst h2
        go_wp2
        go_ret
        exact⟨rfl,HB.out⟩
      | true=>
      go_wp2_with fail
      refine(l1In_c (p:=z.f1) (a:=0) (b:=l0.length - 1)).mono ?_
      rintro e w4 ⟨rfl,rfl⟩
      obtain⟨y,hy⟩:∃y,lB z.f1 0 (l0.length - 1)=y:=⟨_,rfl⟩
      rw[hy]at HWT ⊢
      clear hy
      cases y with
      | false=>
        have h2:r=false:=by rw[HR2.out,HWT.out];rfl
        subst h2
        go_wp2
        go_ret
        exact⟨rfl,HB.out⟩
      | true=>
      have hz:=HLB.out
      unfold lB at hz
      rw[Bool.and_eq_true,decide_eq_true_eq,decide_eq_true_eq]at hz
      obtain⟨ae,F,f,e1,k0,_⟩:=at_T38 (Kd.C_below HC.out.1 HB.out) z.f0 hz.1 (by omega)
      subst e1
      have hz0:=eq_true hz.1
      have hz1:=eq_true (show z.f0<(l0.length:Int)by omega)
      obtain⟨y,hy⟩:∃y,((rd_T38 l0 z.f0).f0 == 4)=y:=⟨_,rfl⟩
      have hn:((rd_T38 l0 z.f0).f0 != 4)=!y:=by rw[←hy];rfl
      rw[hy]at HWT
      clear hz hy
      cases y with
      | false=>
        have h2:r=false:=by rw[HR2.out,HWT.out];rfl
        subst h2
        go_wp2
        go_ret
        exact⟨rfl,HB.out⟩
      | true=>
        have HR:=AK (show r=(l.drop (i+1).toNat).all (wtB l0)by rw[HR2.out,HWT.out];rfl)
        clear HR2 HWT HLB
        go_wp2
        go_roundg k1
        case measure=>omega
        case rel=>
          rw[wrap_succ i (by have:=HI.out;omega) (by have:=HI.out;have:=HC.out.2.2;omega)]
          exact⟨i+1,rfl,⟨by have:=HI.out;omega,by have:=HI.out;omega⟩,HR,HB,HX⟩
end
end Go.Proofs.YtigjhfijkdlldaaDoor.H
end
section
end
section
namespace Go.Proofs.YtigjhfijkdlldaaDoor.H
open Go.RowKit Go.Proofs.YtigjhfijkdlldaaDoorW.PrintWords Go.Proofs.YtigjhfijkdlldaaDoorW.PrintLast Go.Proofs.YtigjhfijkdlldaaDoorW.PrintMore Go.Proofs.YtigjhfijkdlldaaDoor.Q
set_option linter.unusedVariables false
set_option linter.unusedSimpArgs false
structure InH (w:World) (A0:Option Addr) (c0:Nat) (A1:Option Addr) (c1:Nat) (A2:Option Addr) (c2:Nat) (A3:Option Addr) (c3:Nat) (l0:List S38) (l1:List Int) (l2 l3:List S60):Prop where
  r0:Kd.C k38 w A0 l0.length l0
  r1:Kd.C (Kd.int .i64) w A1 l1.length l1
  r2:Kd.C k60 w A2 l2.length l2
  r3:Kd.C k60 w A3 l3.length l3
  k0:l0.length≤c0
  k1:l1.length≤c1
  k2:l2.length≤c2
  k3:l3.length≤c3
structure InL (w:World) (A0:Option Addr) (c0:Nat) (A1:Option Addr) (c1:Nat) (A2:Option Addr) (c2:Nat) (A3:Option Addr) (c3:Nat) (l0:List S72) (l1:List Int) (l2 l3:List S126):Prop where
  r0:Kd.C k72 w A0 l0.length l0
  r1:Kd.C (Kd.int .i64) w A1 l1.length l1
  r2:Kd.C k126 w A2 l2.length l2
  r3:Kd.C k126 w A3 l3.length l3
  k0:l0.length≤c0
  k1:l1.length≤c1
  k2:l2.length≤c2
  k3:l3.length≤c3
structure OwnH (w:World) (base:Nat) (A0:Option Addr) (c0:Nat) (A1:Option Addr) (c1:Nat) (A2:Option Addr) (c2:Nat) (A3:Option Addr) (c3:Nat) (l0:List S38) (l1:List Int) (l2 l3:List S60):Prop where
  s0:Kd.S k38 35 w base (fun k=>some k≠(Value.slice A1 l1.length c1).ownBlock) (.slice A0 l0.length c0) l0
  s1:Kd.R (Kd.int .i64) 3 w base (fun _=>True) (.slice A1 l1.length c1) l1
  s2:Kd.R k60 71 w base (fun k=>some k≠(Value.slice A3 l3.length c3).ownBlock) (.slice A2 l2.length c2) l2
  s3:Kd.R k60 71 w base (fun k=>some k≠(Value.slice A2 l2.length c2).ownBlock) (.slice A3 l3.length c3) l3
section
variable {w w1:World} {base:Nat} {A0 A1 A2 A3:Option Addr} {c0 c1 c2 c3:Nat} {l0:List S38} {l1:List Int} {l2 l3:List S60}
theorem InH.below (h:InH w A0 c0 A1 c1 A2 c2 A3 c3 l0 l1 l2 l3) (hb:Below w.heap.size w w1):InH w1 A0 c0 A1 c1 A2 c2 A3 c3 l0 l1 l2 l3:=
  ⟨Kd.C_below h.r0 hb,Kd.C_below h.r1 hb,Kd.C_below h.r2 hb,Kd.C_below h.r3 hb,h.k0,h.k1,h.k2,h.k3⟩
theorem InL.below {l0:List S72} {l2 l3:List S126} (h:InL w A0 c0 A1 c1 A2 c2 A3 c3 l0 l1 l2 l3) (hb:Below w.heap.size w w1):InL w1 A0 c0 A1 c1 A2 c2 A3 c3 l0 l1 l2 l3:=
  ⟨Kd.C_below h.r0 hb,Kd.C_below h.r1 hb,Kd.C_below h.r2 hb,Kd.C_below h.r3 hb,h.k0,h.k1,h.k2,h.k3⟩
theorem OwnH.below (h:OwnH w base A0 c0 A1 c1 A2 c2 A3 c3 l0 l1 l2 l3) (hb:Below w.heap.size w w1):OwnH w1 base A0 c0 A1 c1 A2 c2 A3 c3 l0 l1 l2 l3:=
  ⟨Kd.S_below h.s0 hb,Kd.R_below h.s1 hb,Kd.R_below h.s2 hb,Kd.R_below h.s3 hb⟩
theorem OwnH.reads (h:OwnH w base A0 c0 A1 c1 A2 c2 A3 c3 l0 l1 l2 l3):InH w A0 c0 A1 c1 A2 c2 A3 c3 l0 l1 l2 l3:=
  ⟨(Kd.R_reads' (Kd.S_R h.s0)).2.2,(Kd.R_reads' h.s1).2.2,(Kd.R_reads' h.s2).2.2,(Kd.R_reads' h.s3).2.2,(Kd.R_reads' (Kd.S_R h.s0)).2.1,(Kd.R_reads' h.s1).2.1,(Kd.R_reads' h.s2).2.1,(Kd.R_reads' h.s3).2.1⟩
end
def set4 (w:World) (g:Nat) (a b c d:Value):World:=(((w.setCell ⟨g,0,none⟩ a).setCell ⟨g,1,none⟩ b).setCell ⟨g,2,none⟩ c).setCell ⟨g,3,none⟩ d
theorem set4_blk {w:World} {g:Nat} {a b c d p q r s:Value} (h:w.heap[g]?=some (.cells #[p,q,r,s] 33 (0,0))):(set4 w g a b c d).heap[g]?=some (.cells #[a,b,c,d] 33 (0,0)):=
  blk_put (blk_put (blk_put (blk_put h 0 _ rfl) 1 _ rfl) 2 _ rfl) 3 _ rfl
theorem set4_far {w:World} {g k:Nat} {a b c d:Value} {o:Obj} (h:w.heap[k]?=some o) (hne:k≠g):(set4 w g a b c d).heap[k]?=some o:=by
  have h1:∀(w:World) (i:Nat) (u:Value),(w.setCell ⟨g,i,none⟩ u).heap[k]?=w.heap[k]?:=fun w i u=>Below.heap_setCell w ⟨g,i,none⟩ u k hne
  unfold set4
  rw[h1,h1,h1,h1];exact h
theorem set4_R {α:Type} {dk:Kd α} {e base:Nat} {ok:Nat→Prop} {w:World} {v:Value} {xs:List α} {g:Nat} {cs:Array Value} {a b c d:Value} (h:dk.R e w base ok v xs) (hb:w.heap[g]?=some (.cells cs 33 (0,0))) (ht:∀q,q∈e :: dk.E→q≠33):dk.R e (set4 w g a b c d) base ok v xs:=
  Kd.R_set (Kd.R_set (Kd.R_set (Kd.R_set h hb ht 0 a) (blk_set hb 0 a) ht 1 b) (blk_set (blk_set hb 0 a) 1 b) ht 2 c) (blk_set (blk_set (blk_set hb 0 a) 1 b) 2 c) ht 3 d
theorem set4_S {w:World} {base:Nat} {ok:Nat→Prop} {v:Value} {xs:List S38} {g:Nat} {cs:Array Value} {a b c d:Value} (h:Kd.S k38 35 w base ok v xs) (hb:w.heap[g]?=some (.cells cs 33 (0,0))):Kd.S k38 35 (set4 w g a b c d) base ok v xs:=
  have ht:=k38_ap 33 (by decide) (by decide)
  Kd.S_set (Kd.S_set (Kd.S_set (Kd.S_set h hb ht 0 a) (blk_set hb 0 a) ht 1 b) (blk_set (blk_set hb 0 a) 1 b) ht 2 c) (blk_set (blk_set (blk_set hb 0 a) 1 b) 2 c) ht 3 d
theorem set4_below {w w1:World} {g:Nat} {a b c d:Value} (h:Below w.heap.size w w1) (hg:w.heap.size≤g):Below w.heap.size w (set4 w1 g a b c d):=below_set (below_set (below_set (below_set h hg) hg) hg) hg
theorem own_laid {w:World} {base:Nat} {A0 A1 A2 A3:Option Addr} {c0 c1 c2 c3:Nat} {l0:List S38} {l1:List Int} {l2 l3:List S60} {n0 n2:Nat} {ok1 ok2 ok3:Nat→Prop} (h0:Kd.S k38 35 w base (fun k=>k<n0) (.slice A0 l0.length c0) l0)
    (h1:Kd.R (Kd.int .i64) 3 w base ok1 (.slice A1 l1.length c1) l1) (h2:Kd.R k60 71 w base ok2 (.slice A2 l2.length c2) l2) (h3:Kd.R k60 71 w base ok3 (.slice A3 l3.length c3) l3)
    (k1:∀k,ok1 k→n0≤k) (k2:∀k,ok2 k→k<n2) (k3:∀k,ok3 k→n2≤k):OwnH w base A0 c0 A1 c1 A2 c2 A3 c3 l0 l1 l2 l3:=
  ⟨Kd.S_mono h0 (fun k hk e=>by have:=k1 k (h1.1 k e.symm);omega),Kd.R_mono h1 (fun _ _=>trivial),Kd.R_mono h2 (fun k hk e=>by have:=k3 k (h3.1 k e.symm);have:=k2 k hk;omega),Kd.R_mono h3 (fun k hk e=>by have:=k2 k (h2.1 k e.symm);have:=k3 k hk;omega)⟩
theorem C_max {w:World} {α:Type} {d:Kd α} {A:Option Addr} {xs:List α} (h:Kd.C d w A xs.length xs):(xs.length:Int)≤9223372036854775807:=by have:=h.2.1;omega
theorem size_set (w:World) (p:Addr) (u:Value):(w.setCell p u).heap.size=w.heap.size:=by simp[World.setCell]
section
variable {w:World} {A0 A1 A2 A3:Option Addr} {c0 c1 c2 c3:Nat} {l0:List S72} {l1:List Int} {l2 l3:List S126}
end
structure Fine (l0:List S38) (l1:List Int) (l2 l3:List S60):Prop where
  o:(l0.length:Int)≤1048576
  f:∀x∈l0,Fit x
  r:(l1.length:Int)≤1048576
  w:(l2.length:Int)+l3.length≤1048576
end Go.Proofs.YtigjhfijkdlldaaDoor.H
end
section
namespace Go.Proofs.YtigjhfijkdlldaaDoor.H
set_option linter.unusedVariables false
set_option linter.unusedSimpArgs false
def cutL (c:UInt8):List UInt8→List (List UInt8)
  | []=>[[]]
  | x :: l=>if x=c then[] :: cutL c l else(x :: (cutL c l).headD []) :: (cutL c l).tail
def glue (a:List UInt8) (l:List (List UInt8)):List (List UInt8):=(a++l.headD []) :: l.tail
theorem cutL_pos (c:UInt8) (l:List UInt8):1≤(cutL c l).length:=by
  cases l with
  | nil=>simp[cutL]
  | cons x l=>unfold cutL;split<;>simp
theorem cutL_eq (c:UInt8) (l:List UInt8):cutL c (c :: l)=[] :: cutL c l:=by simp[cutL]
theorem cutL_ne {c x:UInt8} (h:x≠c) (l:List UInt8):cutL c (x :: l)=(x :: (cutL c l).headD []) :: (cutL c l).tail:=by simp[cutL,h]
theorem cutL_length (c:UInt8):∀l:List UInt8,(cutL c l).length=l.count c+1
  | []=>by simp[cutL]
  | x :: l=>by
    by_cases h:x=c
    · subst h
      rw[cutL_eq,List.length_cons,cutL_length x l,List.count_cons_self]
    · rw[cutL_ne h,List.length_cons,List.length_tail,cutL_length c l,List.count_cons_of_ne h];omega
theorem glue_nil (c:UInt8) (l:List UInt8):glue [] (cutL c l)=cutL c l:=by
  unfold glue
  have h:=cutL_pos c l
  generalize cutL c l=m at h
  cases m with
  | nil=>simp at h
  | cons a m=>rfl
theorem glue_hit (a:List UInt8) (c:UInt8) (l:List UInt8):glue a (cutL c (c :: l))=a :: cutL c l:=by
  rw[cutL_eq];simp[glue]
theorem glue_miss (a:List UInt8) {c x:UInt8} (h:x≠c) (l:List UInt8):glue a (cutL c (x :: l))=glue (a++[x]) (cutL c l):=by
  rw[cutL_ne h];simp[glue]
theorem glue_end (a:List UInt8) (c:UInt8):glue a (cutL c [])=[a]:=by simp[glue,cutL]
theorem splitK_ne {c x:UInt8} (h:x≠c) (l:List UInt8) (k:Nat):Lib.splitK [c] 0 k (x :: l)=(x :: (Lib.splitK [c] 0 k l).headD []) :: (Lib.splitK [c] 0 k l).tail:=by
  cases k with
  | zero=>rfl
  | succ k=>
    have hp:[c].isPrefixOf (x :: l)=false:=by simp[List.isPrefixOf,Ne.symm h]
    have hi:Lib.index (x :: l) [c]=if Lib.index l [c] == -1 then -1 else Lib.index l [c]+1:=by
      conv=>lhs;unfold Lib.index
      rw[hp];rfl
    have hge:=Lib.index_ge l [c]
    by_cases hm:Lib.index l [c]=-1
    · have e1:Lib.index (x :: l) [c]=-1:=by rw[hi,hm];rfl
      unfold Lib.splitK
      rw[e1,hm];rfl
    · have e1:Lib.index (x :: l) [c]=Lib.index l [c]+1:=by rw[hi,if_neg (by simpa using hm)]
      have n1:¬ (Lib.index l [c]+1 == -1)=true:=by simp;omega
      have n2:¬ (Lib.index l [c] == -1)=true:=by simpa using hm
      unfold Lib.splitK
      rw[e1,if_neg n1,if_neg n2]
      obtain⟨n,hn⟩:∃n:Nat,Lib.index l [c]=n:=⟨(Lib.index l [c]).toNat,by omega⟩
      rw[hn]
      have e2:((n:Int)+1).toNat=n+1:=by omega
      rw[e2]
      simp[List.take_succ_cons]
theorem splitK_cut (c:UInt8):∀l:List UInt8,Lib.splitK [c] 0 (Lib.count l [c]) l=cutL c l
  | []=>by rfl
  | x :: l=>by
    by_cases h:x=c
    · subst h
      rw[Lib.count_cons_eq,Nat.add_comm]
      unfold Lib.splitK
      have hp:[x].isPrefixOf (x :: l)=true:=by simp[List.isPrefixOf]
      have e1:Lib.index (x :: l) [x]=0:=by unfold Lib.index;rw[hp];rfl
      rw[e1,cutL_eq,←splitK_cut x l];rfl
    · rw[Lib.count_cons_ne _ _ _ h,splitK_ne h,splitK_cut c l,cutL_ne h]
def cutB (c:UInt8) (s:ByteArray):List ByteArray:=(cutL c s.data.toList).map fun l=>⟨l.toArray⟩
theorem cutB_data (c:UInt8) (s:ByteArray):(cutB c s).map (·.data.toList)=cutL c s.data.toList:=by
  unfold cutB
  rw[List.map_map]
  exact(List.map_congr_left (fun l _=>rfl)).trans (List.map_id _)
theorem data_inj:∀{l m:List ByteArray},l.map (·.data.toList)=m.map (·.data.toList)→l=m
  | [],[],_=>rfl
  | a :: l,b :: m,h=>by
    simp only[List.map_cons,List.cons.injEq]at h
    rw[WideShapes.bytes_inj h.1,data_inj h.2]
  | [],_ :: _,h=>by cases h
  | _ :: _,[],h=>by cases h
theorem splitB_cut (c:UInt8) (s:ByteArray):Lib.splitB ⟨#[c]⟩ 0 (Lib.countB s ⟨#[c]⟩) s=cutB c s:=by
  apply data_inj
  rw[Lib.splitB_data,cutB_data]
  exact splitK_cut c s.data.toList
theorem cutB_length (c:UInt8) (s:ByteArray):(cutB c s).length=Lib.countB s ⟨#[c]⟩+1:=by
  unfold cutB
  rw[List.length_map,cutL_length]
  show _=Lib.count s.data.toList [c]+1
  rw[Lib.count_one]
theorem cutB_pos (c:UInt8) (s:ByteArray):1≤(cutB c s).length:=by unfold cutB;rw[List.length_map];exact cutL_pos c _
theorem cutB_most (c:UInt8) (s:ByteArray):(cutB c s).length≤s.size+1:=by
  unfold cutB
  rw[List.length_map,cutL_length]
  have h:=List.count_le_length (a:=c) (l:=s.data.toList)
  have:s.data.toList.length=s.size:=by rw[Array.length_toList];rfl
  omega
theorem cutL_single {c:UInt8}:∀{l:List UInt8},(cutL c l).length=1→cutL c l=[l]
  | [],_=>rfl
  | x :: l,h=>by
    by_cases hx:x=c
    · subst hx
      rw[cutL_eq,List.length_cons]at h
      have:=cutL_pos x l;omega
    · rw[cutL_ne hx,List.length_cons,List.length_tail]at h
      have h2:=cutL_pos c l
      have h3:=cutL_single (c:=c) (l:=l) (by omega)
      rw[cutL_ne hx,h3];rfl
theorem cutB_single {c:UInt8} {s:ByteArray} (h:(cutB c s).length=1):cutB c s=[s]:=by
  unfold cutB at h ⊢
  rw[List.length_map]at h
  rw[cutL_single h];rfl
theorem cutL_sum (c:UInt8):∀l:List UInt8,∀p∈cutL c l,p.length≤l.length
  | [],p,h=>by simp[cutL]at h;simp[h]
  | x :: l,p,h=>by
    have ih:=cutL_sum c l
    by_cases hx:x=c
    · subst hx
      rw[cutL_eq]at h
      rcases List.mem_cons.1 h with rfl|h
      · simp
      · have:=ih p h;simp;omega
    · rw[cutL_ne hx]at h
      have hp:=cutL_pos c l
      generalize cutL c l=m at h ih hp
      cases m with
      | nil=>simp at hp
      | cons a m=>
        rcases List.mem_cons.1 h with rfl|h
        · have:=ih a (List.mem_cons_self ..);simp;omega
        · have:=ih p (List.mem_cons_of_mem _ h);simp;omega
theorem cutB_size (c:UInt8) (s:ByteArray):∀p∈cutB c s,p.size≤s.size:=by
  intro p hp
  obtain⟨l,hl,rfl⟩:=List.mem_map.1 hp
  have h:=cutL_sum c _ l hl
  have e:s.data.toList.length=s.size:=by rw[Array.length_toList];rfl
  show l.toArray.size≤s.size
  rw[List.size_toArray];omega
end Go.Proofs.YtigjhfijkdlldaaDoor.H
end
