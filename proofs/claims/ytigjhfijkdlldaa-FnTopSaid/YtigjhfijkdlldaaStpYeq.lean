import Derived.Test.YtigjhfijkdlldaaProg
import Derived.Below
import Derived.Deep.Draws
import Derived.Deep.AppendLies
import Derived.Maps.AppendAt
import Derived.OwnWalk
import Derived.Laws.BytesArg
import Derived.Laws.MakeOwn
import Derived.Laws.OwnMore
import Derived.Deep.OwnRows
import Derived.Tactics
import Derived.Lib.ConvBytes
import Derived.Laws.Slices
import Derived.WalkKit
import Derived.KernelRfl
import Derived.RowKit3
import Derived.Deep.LoopGhost
import Derived.Deep.QuietTactic
import Derived.BigQuiet
import Derived.WideLaws
import Derived.Deep.DeepCutAuto
import Derived.Deep.CutBlock
import Derived.Deep.RegionHeld3
import Derived.Laws.Rows
import Derived.Lib.AppendStr
import Derived.ArgAppend
import Derived.Laws.IdiomCopy
import Derived.OrdersHeld
import Derived.Laws.BitsLemmas
import Derived.RowKit
import Derived.Test.YtigjhfijkdlldaaStpWWords
import Derived.Test.YtigjhfijkdlldaaStpWLast
import Derived.Test.YtigjhfijkdlldaaStpWMore
section
namespace Go.Proofs.Ytigjhfijkdlldaa.Q
open Go.RowKit Go.Proofs.YtigjhfijkdlldaaW.PrintWords Go.Proofs.YtigjhfijkdlldaaW.PrintLast Go.Proofs.YtigjhfijkdlldaaW.PrintMore
attribute [local go_sem] max2_int min2_int max_two min_two max_three min_three max_four min_four
set_option linter.unusedVariables false
set_option linter.unusedSimpArgs false
def errW:Option Int→Value
  | none=>.nilIface
  | some c=>.iface 0 (.int .i64 c)
theorem errW_none:errW none=.nilIface:=rfl
theorem errW_some (c:Int):errW (some c)=.iface 0 (.int .i64 c):=rfl
theorem info3:(Try.prog.info? 3).map (fun i=>(i.zero,i.size,i.bytes))=some (some (.int .i64 0),1,8):=by kernel_rfl
theorem info5:(Try.prog.info? 5).map (fun i=>(i.zero,i.size,i.bytes))=some (some (.int .u8 0),1,1):=by kernel_rfl
theorem info9:(Try.prog.info? 9).map (fun i=>(i.zero,i.size,i.bytes))=some (some (.string ⟨#[]⟩),1,16):=by kernel_rfl
theorem info38:(Try.prog.info? 38).map (fun i=>(i.zero,i.size,i.bytes))=some (some (.agg #[(.int .i64 0),(.string ⟨#[]⟩),(.slice none 0 0)]),3,48):=by kernel_rfl
theorem info40:(Try.prog.info? 40).map (fun i=>(i.zero,i.size,i.bytes))=some (some (.agg #[(.int .i64 0),(.int .i64 0),(.int .i64 0),(.int .i64 0),(.int .i64 0),(.string ⟨#[]⟩),(.slice none 0 0)]),7,80):=by kernel_rfl
theorem info60:(Try.prog.info? 60).map (fun i=>(i.zero,i.size,i.bytes))=some (some (.agg #[(.int .i64 0),(.int .i64 0)]),2,16):=by kernel_rfl
structure S38 where
  f0:Int
  f1:ByteArray
  f2:(List Int)
def z38:S38:=⟨(0:Int),(⟨#[]⟩:ByteArray),([]:List Int)⟩
def k38:Kd S38:=Kd.iso (Kd.pair (Kd.int .i64) (Kd.pair Kd.string (Kd.slice 3 (Kd.int .i64)))) (fun x:S38=>(x.f0,x.f1,x.f2))
theorem k38_open {w:World} {x:S38} {cs:List Value} (h:k38.K w x cs):∃A2 c2,cs=[.int .i64 x.f0,.string x.f1,.slice A2 x.f2.length c2]∧x.f2.length≤c2∧(Kd.int .i64).C w A2 x.f2.length x.f2:=by
  obtain⟨_,_,rfl,rfl,⟨_,_,rfl,rfl,⟨A2,c2,rfl,l2,g2⟩⟩⟩:=h
  exact⟨A2,c2,rfl,l2,g2⟩
theorem k38_openM {w:World} {base:Nat} {ok:Nat→Prop} {x:S38} {cs:List Value} (h:k38.M w base ok x cs):∃v2,cs=[.int .i64 x.f0,.string x.f1,v2]∧(Kd.int .i64).R 3 w base ok v2 x.f2:=by
  obtain⟨_,_,rfl,rfl,⟨_,_,rfl,rfl,⟨v2,rfl,g2⟩⟩⟩:=h
  exact⟨v2,rfl,g2⟩
theorem k38_mk (w:World) (x:S38) {A2:Option Addr} {c2:Nat} (l2:x.f2.length≤c2) (g2:(Kd.int .i64).C w A2 x.f2.length x.f2):k38.K w x [.int .i64 x.f0,.string x.f1,.slice A2 x.f2.length c2]:=⟨[.int .i64 x.f0],[.string x.f1,.slice A2 x.f2.length c2],rfl,rfl,⟨[.string x.f1],[.slice A2 x.f2.length c2],rfl,rfl,⟨A2,c2,rfl,l2,g2⟩⟩⟩
theorem k38_mkM (w:World) (base:Nat) (ok:Nat→Prop) (x:S38) {v2:Value} (g2:(Kd.int .i64).R 3 w base ok v2 x.f2):k38.M w base ok x [.int .i64 x.f0,.string x.f1,v2]:=⟨[.int .i64 x.f0],[.string x.f1,v2],rfl,rfl,⟨[.string x.f1],[v2],rfl,rfl,⟨v2,rfl,g2⟩⟩⟩
def rd_T38 (xs:List S38) (i:Int):S38:=xs.getD i.toNat z38
theorem at_T38 {w:World} {A:Option Addr} {n:Nat} {xs:List S38} (h:Kd.C k38 w A n xs) (i:Int) (h0:0≤i) (h1:i<n):∃ad A2 c2,A=some ad∧w.cell? (ad.add (i.toNat*3))=some (.int .i64 (rd_T38 xs i).f0)∧w.cell? ⟨(ad.add (i.toNat*3)).block,(ad.add (i.toNat*3)).off+1,none⟩=some (.string (rd_T38 xs i).f1)∧w.cell? ⟨(ad.add (i.toNat*3)).block,(ad.add (i.toNat*3)).off+2,none⟩=some (.slice A2 (rd_T38 xs i).f2.length c2)∧(rd_T38 xs i).f2.length≤c2∧(Kd.int .i64).C w A2 (rd_T38 xs i).f2.length (rd_T38 xs i).f2:=by
  obtain⟨ad,c,e,_,hK,hc0⟩:=Kd.C_get h z38 i h0 h1
  have hc:∀j u,c[j]?=some u→w.cell? (ad.add (i.toNat*3+j))=some u:=hc0
  obtain⟨A2,c2,rfl,l2,g2⟩:=k38_open hK
  exact⟨ad,A2,c2,e,hc 0 _ rfl,by rw[←add_field _ _ 1 (by omega)];exact hc 1 _ rfl,by rw[←add_field _ _ 2 (by omega)];exact hc 2 _ rfl,l2,g2⟩
structure S60 where
  f0:Int
  f1:Int
def z60:S60:=⟨(0:Int),(0:Int)⟩
def k60:Kd S60:=Kd.iso (Kd.pair (Kd.int .i64) (Kd.int .i64)) (fun x:S60=>(x.f0,x.f1))
theorem k60_heap:Kd.Heap k60:=Kd.heap_iso _ (Kd.heap_pair (Kd.heap_int .i64) (Kd.heap_int .i64))
theorem k60_open {w:World} {x:S60} {cs:List Value} (h:k60.K w x cs):cs=[.int .i64 x.f0,.int .i64 x.f1]:=by
  obtain⟨_,_,rfl,rfl,rfl⟩:=h
  exact rfl
theorem k60_mkM (w:World) (base:Nat) (ok:Nat→Prop) (x:S60) :k60.M w base ok x [.int .i64 x.f0,.int .i64 x.f1]:=⟨[.int .i64 x.f0],[.int .i64 x.f1],rfl,rfl,rfl⟩
def rd_T60 (xs:List S60) (i:Int):S60:=xs.getD i.toNat z60
theorem at_T60 {w:World} {A:Option Addr} {n:Nat} {xs:List S60} (h:Kd.C k60 w A n xs) (i:Int) (h0:0≤i) (h1:i<n):∃ad ,A=some ad∧w.cell? (ad.add (i.toNat*2))=some (.int .i64 (rd_T60 xs i).f0)∧w.cell? ⟨(ad.add (i.toNat*2)).block,(ad.add (i.toNat*2)).off+1,none⟩=some (.int .i64 (rd_T60 xs i).f1):=by
  obtain⟨ad,c,e,_,hK,hc0⟩:=Kd.C_get h z60 i h0 h1
  have hc:∀j u,c[j]?=some u→w.cell? (ad.add (i.toNat*2+j))=some u:=hc0
  obtain rfl:=k60_open hK
  exact⟨ad,e,hc 0 _ rfl,by rw[←add_field _ _ 1 (by omega)];exact hc 1 _ rfl⟩
structure S40 where
  f0:Int
  f1:Int
  f2:Int
  f3:Int
  f4:S38
def z40:S40:=⟨(0:Int),(0:Int),(0:Int),(0:Int),z38⟩
def k40:Kd S40:=Kd.iso (Kd.pair (Kd.int .i64) (Kd.pair (Kd.int .i64) (Kd.pair (Kd.int .i64) (Kd.pair (Kd.int .i64) k38)))) (fun x:S40=>(x.f0,x.f1,x.f2,x.f3,x.f4))
theorem k40_open {w:World} {x:S40} {cs:List Value} (h:k40.K w x cs):∃A6 c6,cs=[.int .i64 x.f0,.int .i64 x.f1,.int .i64 x.f2,.int .i64 x.f3,.int .i64 x.f4.f0,.string x.f4.f1,.slice A6 x.f4.f2.length c6]∧x.f4.f2.length≤c6∧(Kd.int .i64).C w A6 x.f4.f2.length x.f4.f2:=by
  obtain⟨_,_,rfl,rfl,⟨_,_,rfl,rfl,⟨_,_,rfl,rfl,⟨_,_,rfl,rfl,s4⟩⟩⟩⟩:=h
  obtain⟨A6,c6,rfl,l6,g6⟩:=k38_open s4
  exact⟨A6,c6,rfl,l6,g6⟩
theorem k40_mk (w:World) (x:S40) {A6:Option Addr} {c6:Nat} (l6:x.f4.f2.length≤c6) (g6:(Kd.int .i64).C w A6 x.f4.f2.length x.f4.f2):k40.K w x [.int .i64 x.f0,.int .i64 x.f1,.int .i64 x.f2,.int .i64 x.f3,.int .i64 x.f4.f0,.string x.f4.f1,.slice A6 x.f4.f2.length c6]:=⟨[.int .i64 x.f0],[.int .i64 x.f1,.int .i64 x.f2,.int .i64 x.f3,.int .i64 x.f4.f0,.string x.f4.f1,.slice A6 x.f4.f2.length c6],rfl,rfl,⟨[.int .i64 x.f1],[.int .i64 x.f2,.int .i64 x.f3,.int .i64 x.f4.f0,.string x.f4.f1,.slice A6 x.f4.f2.length c6],rfl,rfl,⟨[.int .i64 x.f2],[.int .i64 x.f3,.int .i64 x.f4.f0,.string x.f4.f1,.slice A6 x.f4.f2.length c6],rfl,rfl,⟨[.int .i64 x.f3],[.int .i64 x.f4.f0,.string x.f4.f1,.slice A6 x.f4.f2.length c6],rfl,rfl,(k38_mk w x.f4 l6 g6)⟩⟩⟩⟩
theorem k40_mkM (w:World) (base:Nat) (ok:Nat→Prop) (x:S40) {v6:Value} (g6:(Kd.int .i64).R 3 w base ok v6 x.f4.f2):k40.M w base ok x [.int .i64 x.f0,.int .i64 x.f1,.int .i64 x.f2,.int .i64 x.f3,.int .i64 x.f4.f0,.string x.f4.f1,v6]:=⟨[.int .i64 x.f0],[.int .i64 x.f1,.int .i64 x.f2,.int .i64 x.f3,.int .i64 x.f4.f0,.string x.f4.f1,v6],rfl,rfl,⟨[.int .i64 x.f1],[.int .i64 x.f2,.int .i64 x.f3,.int .i64 x.f4.f0,.string x.f4.f1,v6],rfl,rfl,⟨[.int .i64 x.f2],[.int .i64 x.f3,.int .i64 x.f4.f0,.string x.f4.f1,v6],rfl,rfl,⟨[.int .i64 x.f3],[.int .i64 x.f4.f0,.string x.f4.f1,v6],rfl,rfl,(k38_mkM w base ok x.f4 g6)⟩⟩⟩⟩
theorem k40_openF {W:World} {ok:Nat→Prop} {x:S40} {cs:List Value} (h:Kd.FK k40 W ok x cs):∃A6 c6,cs=[.int .i64 x.f0,.int .i64 x.f1,.int .i64 x.f2,.int .i64 x.f3,.int .i64 x.f4.f0,.string x.f4.f1,.slice A6 x.f4.f2.length c6]∧x.f4.f2.length≤c6∧Kd.F (Kd.int .i64) W ok A6 x.f4.f2.length x.f4.f2:=by
  obtain⟨A6,c6,rfl,l6,_⟩:=k40_open (Kd.FK_now h)
  exact⟨A6,c6,rfl,l6,(fun W' hW=>by obtain⟨A6_,c6_,he,l6_,g6_⟩:=k40_open (h W' hW);injection (Option.some.inj (show some (Value.slice A6 x.f4.f2.length c6)=some (Value.slice A6_ x.f4.f2.length c6_)from congrArg (fun l=>l[6]?) he))with ha_ _ _;rw[ha_];exact g6_)⟩
theorem k40_mkF (W:World) (ok:Nat→Prop) (x:S40) {A6:Option Addr} {c6:Nat} (l6:x.f4.f2.length≤c6) (g6:Kd.F (Kd.int .i64) W ok A6 x.f4.f2.length x.f4.f2):Kd.FK k40 W ok x [.int .i64 x.f0,.int .i64 x.f1,.int .i64 x.f2,.int .i64 x.f3,.int .i64 x.f4.f0,.string x.f4.f1,.slice A6 x.f4.f2.length c6]:=fun W2 hW=>k40_mk W2 x l6 (g6 W2 hW)
def rd_T40 (xs:List S40) (i:Int):S40:=xs.getD i.toNat z40
theorem at_T40 {w:World} {A:Option Addr} {n:Nat} {xs:List S40} (h:Kd.C k40 w A n xs) (i:Int) (h0:0≤i) (h1:i<n):∃ad A6 c6,A=some ad∧w.cell? (ad.add (i.toNat*7))=some (.int .i64 (rd_T40 xs i).f0)∧w.cell? ⟨(ad.add (i.toNat*7)).block,(ad.add (i.toNat*7)).off+1,none⟩=some (.int .i64 (rd_T40 xs i).f1)∧w.cell? ⟨(ad.add (i.toNat*7)).block,(ad.add (i.toNat*7)).off+2,none⟩=some (.int .i64 (rd_T40 xs i).f2)∧w.cell? ⟨(ad.add (i.toNat*7)).block,(ad.add (i.toNat*7)).off+3,none⟩=some (.int .i64 (rd_T40 xs i).f3)∧w.cell? ⟨(ad.add (i.toNat*7)).block,(ad.add (i.toNat*7)).off+4,none⟩=some (.int .i64 (rd_T40 xs i).f4.f0)∧w.cell? ⟨(ad.add (i.toNat*7)).block,(ad.add (i.toNat*7)).off+5,none⟩=some (.string (rd_T40 xs i).f4.f1)∧w.cell? ⟨(ad.add (i.toNat*7)).block,(ad.add (i.toNat*7)).off+6,none⟩=some (.slice A6 (rd_T40 xs i).f4.f2.length c6)∧(rd_T40 xs i).f4.f2.length≤c6∧(Kd.int .i64).C w A6 (rd_T40 xs i).f4.f2.length (rd_T40 xs i).f4.f2:=by
  obtain⟨ad,c,e,_,hK,hc0⟩:=Kd.C_get h z40 i h0 h1
  have hc:∀j u,c[j]?=some u→w.cell? (ad.add (i.toNat*7+j))=some u:=hc0
  obtain⟨A6,c6,rfl,l6,g6⟩:=k40_open hK
  exact⟨ad,A6,c6,e,hc 0 _ rfl,by rw[←add_field _ _ 1 (by omega)];exact hc 1 _ rfl,by rw[←add_field _ _ 2 (by omega)];exact hc 2 _ rfl,by rw[←add_field _ _ 3 (by omega)];exact hc 3 _ rfl,by rw[←add_field _ _ 4 (by omega)];exact hc 4 _ rfl,by rw[←add_field _ _ 5 (by omega)];exact hc 5 _ rfl,by rw[←add_field _ _ 6 (by omega)];exact hc 6 _ rfl,l6,g6⟩
structure S72 where
  f0:Int
  f1:ByteArray
  f2:(List Int)
def k72:Kd S72:=Kd.iso (Kd.pair (Kd.int .i64) (Kd.pair Kd.string (Kd.slice 3 (Kd.int .i64)))) (fun x:S72=>(x.f0,x.f1,x.f2))
structure S126 where
  f0:Int
  f1:Int
def k126:Kd S126:=Kd.iso (Kd.pair (Kd.int .i64) (Kd.int .i64)) (fun x:S126=>(x.f0,x.f1))
structure S74 where
  f0:Int
  f1:Int
  f2:Int
  f3:Int
  f4:S72
theorem eqA60 (d:Nat) (w:World) (x0 y0:Int) (x1 y1:Int) :
    (Op.equalIn (d+2) 60 (.agg #[.int .i64 x0,.int .i64 x1]) (.agg #[.int .i64 y0,.int .i64 y1])).run Try.prog w=.ok (x0 == y0 && (x1 == y1)) w:=by
  refine eqA_of Try.underlying60 (by kernel_rfl) ?_
  refine eqf_cons (by rfl) (by go_simp;rfl) (by go_simp;rfl) (by go_simp) ?_
  exact eqf_last (by rfl) (by go_simp;rfl) (by go_simp;rfl) (by go_simp)
def IsS121 (w0 W:World) (g:Nat) (f0:List Int) (f1:Int):Prop:=∃A0 c0,W.heap[g]?=some (.cells #[.slice A0 f0.length c0,.int .i64 f1] 121 (0,0))∧w0.heap.size≤g∧Kd.C (Kd.int .u8) w0 A0 f0.length f0
theorem IsS121.grown {w0 W:World} {g:Nat} {f0:List Int} {f1:Int} {W1:World} {row:Option Nat} (h:IsS121 w0 W g f0 f1) (hw:W.grownBy W1 row) (hne:some g≠row):IsS121 w0 W1 g f0 f1:=by
  obtain⟨A0,c0,hb,hg,hr0⟩:=h
  exact⟨A0,c0,blk_grown hb hw hne,hg,hr0⟩
theorem IsS121.kept {w0 W:World} {g:Nat} {f0:List Int} {f1:Int} {W1:World} {S:Nat→Prop} (h:IsS121 w0 W g f0 f1) (hk:Kept W W1 S) (hne:¬ S g):IsS121 w0 W1 g f0 f1:=by
  obtain⟨A0,c0,hb,hg,hr0⟩:=h
  exact⟨A0,c0,blk_kept hb hk hne,hg,hr0⟩
theorem IsS121.below {w0 W:World} {g:Nat} {f0:List Int} {f1:Int} {W1:World} (h:IsS121 w0 W g f0 f1) (hw:Below W.heap.size W W1):IsS121 w0 W1 g f0 f1:=h.grown (grown_of_below hw none) (by simp)
theorem IsS121.alloc {w0 W:World} {g:Nat} {f0:List Int} {f1:Int} (h:IsS121 w0 W g f0 f1) (o:Obj):IsS121 w0 (W.alloc o) g f0 f1:=h.below (below_alloc (Below.refl _ _) o)
theorem IsS121.drewN {w0 W:World} {g:Nat} {f0:List Int} {f1:Int} (h:IsS121 w0 W g f0 f1) (m:Nat):IsS121 w0 (W.drewN m) g f0 f1:=h
theorem IsS121.drew {w0 W:World} {g:Nat} {f0:List Int} {f1:Int} (h:IsS121 w0 W g f0 f1):IsS121 w0 W.drew g f0 f1:=h
theorem IsS121.at_ {w0 W:World} {g:Nat} {f0:List Int} {f1:Int} {w':World} {m:Nat} (hq:W.drewN m=w') (h:IsS121 w0 W g f0 f1):IsS121 w0 w' g f0 f1:=by subst hq;exact IsS121.drewN h m
theorem IsS121.apart {w0 W:World} {g:Nat} {f0:List Int} {f1:Int} {α:Type} {d:Kd α} {e:Nat} {base:Nat} {ok:Nat→Prop} {v:Value} {xs:List α} (h:IsS121 w0 W g f0 f1) (ho:d.R e W base ok v xs) (ht:∀q,q∈e :: d.E→q≠121):d.R e W base (fun k=>ok k∧k≠g) v xs:=by
  obtain⟨A0,c0,hb,hg,hr0⟩:=h
  exact Kd.R_types ho hb ht
theorem IsS121.own_ne {w0 W:World} {g:Nat} {f0:List Int} {f1:Int} {α:Type} {d:Kd α} {e:Nat} {base:Nat} {ok:Nat→Prop} {v:Value} {xs:List α} (h:IsS121 w0 W g f0 f1) (ho:d.R e W base ok v xs) (ht:e≠121):some g≠v.ownBlock:=by
  obtain⟨A0,c0,hb,hg,hr0⟩:=h
  exact Kd.R_ne ho hb ht
theorem IsS121.apartS {w0 W:World} {g:Nat} {f0:List Int} {f1:Int} {α:Type} {d:Kd α} {e:Nat} {base:Nat} {ok:Nat→Prop} {v:Value} {xs:List α} (h:IsS121 w0 W g f0 f1) (ho:d.S e W base ok v xs) (ht:∀q,q∈e :: d.E→q≠121):d.S e W base (fun k=>ok k∧k≠g) v xs:=by
  obtain⟨A0,c0,hb,hg,hr0⟩:=h
  exact Kd.S_types ho hb ht
theorem IsS121.lt {w0 W:World} {g:Nat} {f0:List Int} {f1:Int} (h:IsS121 w0 W g f0 f1):g<W.heap.size:=by
  obtain⟨A0,c0,hb,hg,hr0⟩:=h
  exact blk_lt hb
theorem IsS121.ge {w0 W:World} {g:Nat} {f0:List Int} {f1:Int} (h:IsS121 w0 W g f0 f1):w0.heap.size≤g:=by
  obtain⟨A0,c0,hb,hg,hr0⟩:=h
  exact hg
theorem IsS121.ne_blk {w0 W:World} {g:Nat} {f0:List Int} {f1:Int} {a:Nat} {cs:Array Value} {t:TypeId} {fr:Nat × Nat} (h:IsS121 w0 W g f0 f1) (hb2:W.heap[a]?=some (.cells cs t fr)) (ht:t≠121):g≠a:=by
  obtain⟨A0,c0,hb,hg,hr0⟩:=h
  rintro rfl
  rw[hb]at hb2
  injection hb2 with hb2
  injection hb2 with _ ht2
  exact ht ht2.symm
theorem IsS121.far {w0 W:World} {g:Nat} {f0:List Int} {f1:Int} {p:Addr} (h:IsS121 w0 W g f0 f1) (hne:g≠p.block) (u:Value):IsS121 w0 (W.setCell p u) g f0 f1:=by
  obtain⟨A0,c0,hb,hg,hr0⟩:=h
  exact⟨A0,c0,blk_far hb hne u,hg,hr0⟩
theorem cellS121_0 {W:World} {g:Nat} {A0:Option Addr} {c0:Nat} {f0:List Int} {f1:Int} (h:W.heap[g]?=some (.cells #[.slice A0 f0.length c0,.int .i64 f1] 121 (0,0))):W.cell? ⟨g,0,none⟩=some (.slice A0 f0.length c0):=(bcl h 0).trans rfl
theorem cellS121_1 {W:World} {g:Nat} {A0:Option Addr} {c0:Nat} {f0:List Int} {f1:Int} (h:W.heap[g]?=some (.cells #[.slice A0 f0.length c0,.int .i64 f1] 121 (0,0))):W.cell? ⟨g,1,none⟩=some (.int .i64 f1):=(bcl h 1).trans rfl
theorem IsS121.set_1 {w0 W:World} {g:Nat} {f0:List Int} {f1:Int} (h:IsS121 w0 W g f0 f1) (x:Int):IsS121 w0 (W.setCell ⟨g,1,none⟩ (.int .i64 x)) g f0 x:=by
  obtain⟨A0,c0,hb,hg,hr0⟩:=h
  exact⟨A0,c0,by simpa using blk_set hb 1 (.int .i64 x),hg,hr0⟩
theorem IsS121.new (w0 W:World) (A0:Option Addr) (c0:Nat) (f0:List Int) (f1:Int) (hB:Below w0.heap.size w0 W) (hr0:Kd.C (Kd.int .u8) w0 A0 f0.length f0):IsS121 w0 (W.alloc (.cells #[.slice A0 f0.length c0,.int .i64 f1] 121)) W.heap.size f0 f1:=⟨A0,c0,by simpa using heap_alloc_new W _,hB.size,hr0⟩
end Go.Proofs.Ytigjhfijkdlldaa.Q
end
section
namespace Go.Proofs.Ytigjhfijkdlldaa.H
open Go.RowKit Go.Proofs.YtigjhfijkdlldaaW.PrintWords Go.Proofs.YtigjhfijkdlldaaW.PrintLast Go.Proofs.YtigjhfijkdlldaaW.PrintMore Go.Proofs.Ytigjhfijkdlldaa.Q
theorem box1 {w:World} {g t:Nat} {a:Value} (h:w.heap[g]?=some (.cells #[a] t (0,0))):w.cell? ⟨g,0,none⟩=some a∧w.frozen? ⟨g,0,none⟩=false:=⟨(bcl h 0).trans rfl,bfz h 0⟩
theorem box2 {w:World} {g t:Nat} {a b:Value} (h:w.heap[g]?=some (.cells #[a,b] t (0,0))) :
    w.cell? ⟨g,0,none⟩=some a∧w.cell? ⟨g,1,none⟩=some b:=⟨(bcl h 0).trans rfl,(bcl h 1).trans rfl⟩
theorem box3 {w:World} {g t:Nat} {a b c:Value} (h:w.heap[g]?=some (.cells #[a,b,c] t (0,0))) :
    w.cell? ⟨g,0,none⟩=some a∧w.cell? ⟨g,1,none⟩=some b∧w.cell? ⟨g,2,none⟩=some c:=
  ⟨(bcl h 0).trans rfl,(bcl h 1).trans rfl,(bcl h 2).trans rfl⟩
theorem box4 {w:World} {g t:Nat} {a b c d:Value} (h:w.heap[g]?=some (.cells #[a,b,c,d] t (0,0))) :
    w.cell? ⟨g,0,none⟩=some a∧w.cell? ⟨g,1,none⟩=some b∧w.cell? ⟨g,2,none⟩=some c∧w.cell? ⟨g,3,none⟩=some d:=
  ⟨(bcl h 0).trans rfl,(bcl h 1).trans rfl,(bcl h 2).trans rfl,(bcl h 3).trans rfl⟩
theorem blk_new1 (w:World) (o o':Obj):((w.alloc o).alloc o').heap[w.heap.size+1]?=some o':=by have:=blk_new (w.alloc o) o';simpa using this
theorem all_take_succ {α:Type} (l:List α) (p:α→Bool) (d:α) (x:Int) (h0:0≤x) (h1:x<l.length):(l.take (x+1).toNat).all p=((l.take x.toNat).all p && p (l.getD x.toNat d)):=by
  have e:(x+1).toNat=x.toNat+1:=by omega
  have h2:x.toNat<l.length:=by omega
  rw[e,List.take_succ_eq_append_getElem h2,List.all_append]
  simp[List.getD_eq_getElem?_getD,List.getElem?_eq_getElem h2]
theorem all_fails {α:Type} (l:List α) (p:α→Bool) (d:α) (x:Int) (h0:0≤x) (h1:x<l.length) (h:p (l.getD x.toNat d)=false):l.all p=false:=by
  have h2:x.toNat<l.length:=by omega
  rw[List.all_eq_false]
  refine⟨l[x.toNat],List.getElem_mem h2,?_⟩
  rw[List.getD_eq_getElem?_getD,List.getElem?_eq_getElem h2]at h
  simpa using h
theorem take_all {α:Type} (l:List α) (x:Int) (h:x=l.length):l.take x.toNat=l:=List.take_of_length_le (by omega)
theorem wrap_succ (x:Int) (h0:0≤x) (h1:x<9223372036854775807):wrap64 (x+1)=x+1:=by unfold wrap64;omega
theorem k38_ap (t:Nat) (h:(38:Nat)≠t) (h3:(3:Nat)≠t):∀q,q∈38 :: k38.E→q≠t:=fun q hq=>by
  rcases List.mem_cons.1 hq with rfl|h1
  · exact h
  · rcases List.mem_cons.1 (show q∈[3]from h1)with rfl|h2
    · exact h3
    · cases h2
theorem int_ap (t:Nat) (h:(3:Nat)≠t):∀q,q∈3 :: (Kd.int .i64).E→q≠t:=fun q hq=>by
  rcases List.mem_cons.1 hq with rfl|h1
  · exact h
  · cases h1
theorem k60_ap (t:Nat) (h:(60:Nat)≠t):∀q,q∈60 :: k60.E→q≠t:=fun q hq=>by
  rcases List.mem_cons.1 hq with rfl|h1
  · exact h
  · cases (show q∈[]from h1)
theorem blk_new3 (w:World) (o o' o2:Obj):(((w.alloc o).alloc o').alloc o2).heap[w.heap.size+1+1]?=some o2:=by
  have h1:=blk_new ((w.alloc o).alloc o') o2
  rwa [show ((w.alloc o).alloc o').heap.size=w.heap.size+1+1 from(Array.size_push ..).trans (congrArg (·+1) (Array.size_push ..))]at h1
theorem take_one {α:Type} (l:List α) (d:α) (i:Int) (h0:0≤i) (h1:i<l.length):l.take (i+1).toNat=l.take i.toNat++[l.getD i.toNat d]:=by
  have h2:i.toNat<l.length:=by omega
  rw[show (i+1).toNat=i.toNat+1 by omega,List.take_succ_eq_append_getElem h2,List.getD_eq_getElem?_getD,List.getElem?_eq_getElem h2];rfl
end Go.Proofs.Ytigjhfijkdlldaa.H
end
section
namespace Go.Proofs.Ytigjhfijkdlldaa.H
open Go.RowKit Go.Proofs.YtigjhfijkdlldaaW.PrintWords Go.Proofs.YtigjhfijkdlldaaW.PrintLast Go.Proofs.YtigjhfijkdlldaaW.PrintMore Go.Proofs.Ytigjhfijkdlldaa.Q
set_option linter.unusedVariables false
set_option linter.unusedSectionVars false
theorem drop_cons {α:Type} (xs:List α) (d:α) (i:Int) (h0:0≤i) (h1:i<xs.length):xs.drop i.toNat=xs.getD i.toNat d :: xs.drop (i+1).toNat:=by
  have h2:i.toNat<xs.length:=by omega
  rw[show (i+1).toNat=i.toNat+1 by omega,List.drop_eq_getElem_cons h2,List.getD_eq_getElem?_getD,List.getElem?_eq_getElem h2];rfl
theorem drop_end {α:Type} (xs:List α) (i:Int) (h:(xs.length:Int)≤i):xs.drop i.toNat=[]:=List.drop_eq_nil_of_le (by omega)
theorem getD_mem {α:Type} (xs:List α) (d:α) (i:Int) (h0:0≤i) (h1:i<xs.length):xs.getD i.toNat d∈xs:=by
  have h2:i.toNat<xs.length:=by omega
  rw[List.getD_eq_getElem?_getD,List.getElem?_eq_getElem h2];exact List.getElem_mem h2
def inB (p n:Int):Bool:=decide (-1≤p) && decide (p<n)
def chOk (c:Int):Bool:=(decide (97≤c) && decide (c≤122)) || (decide (48≤c) && decide (c≤57))
def txOk (s:ByteArray):Bool:=decide (1≤(s.size:Int)) && decide ((s.size:Int)≤12) && (bytesOf s).all chOk
def shB (x:S38):Bool:=
  if x.f0=1 then txOk x.f1 && ((x.f2.length:Int) == 0)
  else if x.f0=2 then decide (x.f1.toList=[]) && decide ((x.f2.length:Int)≤6)
  else if x.f0=3 then decide (x.f1.toList=[]) && ((x.f2.length:Int) == 2)
  else if x.f0=4 then decide (x.f1.toList=[]) && ((x.f2.length:Int) == 0)
  else false
def obB (n:Int) (x:S38):Bool:=shB x && x.f2.all (inB · n)
def wtB (l0:List S38) (x:S60):Bool:=decide (0≤x.f0) && decide (x.f0<l0.length) && decide ((rd_T38 l0 x.f0).f0=4) && decide (0≤x.f1) && decide (x.f1<l0.length)
def okB (l0:List S38) (l1:List Int) (l2 l3:List S60):Bool:=
  decide (l0.length≤60) && decide (l1.length≤8) && decide (l2.length+l3.length≤20) && l0.all (obB l0.length) && l1.all (inB · l0.length) && l2.all (wtB l0) && l3.all (wtB l0)
def Fit (x:S38):Prop:=(x.f1.size:Int)≤4611686018427387903∧(x.f2.length:Int)≤4611686018427387903
end Go.Proofs.Ytigjhfijkdlldaa.H
end
section
namespace Go.Proofs.Ytigjhfijkdlldaa.H
open Go.RowKit Go.Proofs.YtigjhfijkdlldaaW.PrintWords Go.Proofs.YtigjhfijkdlldaaW.PrintLast Go.Proofs.YtigjhfijkdlldaaW.PrintMore Go.Proofs.Ytigjhfijkdlldaa.Q
set_option linter.unusedVariables false
theorem strOfNums_size (l:List Int):(strOfNums l).size=l.length:=by
  unfold strOfNums;simp[ByteArray.size]
def txL:Nat→Int→ByteArray→ByteArray
  | 0,_,s=>s
  | k+1,x,s=>if x≤0 then s else txL k (x / 10) (strOfNums [48+x % 10]++s)
def mtxt (a:Int):ByteArray:=if a≤0 then⟨#[109,48]⟩else⟨#[109]⟩++txL 20 a ⟨#[]⟩
def marksI (a:Int) (n:Nat):List Int:=(List.range n).map fun(j:Nat)=>a+j
def marksW (a:Int) (n:Nat):List S60:=(List.range n).map fun(j:Nat)=>⟨a+2*j,a+2*j+1⟩
theorem set_at {α:Type} (p:List α) (b v:α) (r:List α) (n:Nat) (h:p.length=n):(p++b :: r).set n v=p++v :: r:=by
  subst h;rw[List.set_append_right _ _ (Nat.le_refl _)];simp
theorem getD_at {α:Type} (p:List α) (b d:α) (r:List α) (n:Nat) (h:p.length=n):(p++b :: r).getD n d=b:=by
  subst h;simp[List.getD_eq_getElem?_getD]
def markO:Int→List S38→List S38
  | _,[]=>[]
  | a,x :: l=>⟨a,mtxt (a+1),marksI (a+2) x.f2.length⟩ :: markO (a+2+x.f2.length) l
def cntO:List S38→Int
  | []=>0
  | x :: l=>2+x.f2.length+cntO l
end Go.Proofs.Ytigjhfijkdlldaa.H
end
section
namespace Go.Proofs.Ytigjhfijkdlldaa.H
open Go.RowKit Go.Proofs.YtigjhfijkdlldaaW.PrintWords Go.Proofs.YtigjhfijkdlldaaW.PrintLast Go.Proofs.YtigjhfijkdlldaaW.PrintMore Go.Proofs.Ytigjhfijkdlldaa.Q
set_option linter.unusedVariables false
set_option linter.unusedSimpArgs false
theorem RI_set {W:World} {base g n cap:Nat} {ok:Nat→Prop} {xs:List Int} (h:(Kd.int .i64).R 3 W base ok (.slice (some ⟨g,0,none⟩) n cap) xs) (i:Int) (h0:0≤i) (h1:i<n) (v:Int) :
    (Kd.int .i64).R 3 (W.setCell ⟨g,i.toNat,none⟩ (.int .i64 v)) base ok (.slice (some ⟨g,0,none⟩) n cap) (xs.set i.toNat v):=by
  obtain⟨c,hcl,hM,hcc,_⟩:=Kd.R_elem h 0 i h0 h1
  obtain⟨u,rfl⟩:=List.length_eq_one_iff.1 (show c.length=1 from hcl)
  have h2:=(Kd.R_seg h i h0 h1 hcl hcc (seg:=[.int .i64 v]) (j:=0) (x':=v) (okp:=fun _=>False) (Nat.le_refl 1) (show [Value.int .i64 v]=[Value.int .i64 v]from rfl) (fun _ hk=>hk.elim)).1
  have e:i.toNat*(Kd.int .i64).sz+0=i.toNat:=by show i.toNat*1+0=_;omega
  rw[e]at h2
  exact h2
theorem RI_at {W:World} {base g n cap:Nat} {ok:Nat→Prop} {xs:List Int} (h:(Kd.int .i64).R 3 W base ok (.slice (some ⟨g,0,none⟩) n cap) xs) (i:Int) (h0:0≤i) (h1:i<n):W.cell? ⟨g,i.toNat,none⟩=some (.int .i64 (rd xs i))∧W.frozen? ⟨g,i.toNat,none⟩=false:=by
  obtain⟨c,hcl,hM,hcc,hfr⟩:=Kd.R_elem h 0 i h0 h1
  have e:∀j,i.toNat*(Kd.int .i64).sz+j=i.toNat+j:=fun j=>by show i.toNat*1+j=_;omega
  have h2:c=[.int .i64 (rd xs i)]:=hM
  have h3:=hcc 0 (.int .i64 (rd xs i)) (by rw[h2];rfl)
  have h4:=hfr 0
  rw[e]at h3 h4
  exact⟨h3,h4⟩
end Go.Proofs.Ytigjhfijkdlldaa.H
end
section
namespace Go.Proofs.Ytigjhfijkdlldaa.H
open Go.RowKit Go.Proofs.YtigjhfijkdlldaaW.PrintWords Go.Proofs.YtigjhfijkdlldaaW.PrintLast Go.Proofs.YtigjhfijkdlldaaW.PrintMore Go.Proofs.Ytigjhfijkdlldaa.Q
set_option linter.unusedVariables false
structure Small (l0:List S72) (l1:List Int) (l2 l3:List S126):Prop where
  o:l0.length≤1048576
  t:∀x∈l0,x.f1.size≤1048576∧x.f2.length≤1048576
  r:l1.length≤1048576
  w:l2.length+l3.length≤1048576
end Go.Proofs.Ytigjhfijkdlldaa.H
end
section
namespace Go.Proofs.Ytigjhfijkdlldaa.H
open Go.RowKit Go.Proofs.YtigjhfijkdlldaaW.PrintWords Go.Proofs.YtigjhfijkdlldaaW.PrintLast Go.Proofs.YtigjhfijkdlldaaW.PrintMore Go.Proofs.Ytigjhfijkdlldaa.Q
set_option linter.unusedVariables false
set_option linter.unusedSimpArgs false
section
variable {w:World} {A:Option Addr} {c:Nat}
end
end Go.Proofs.Ytigjhfijkdlldaa.H
end
section
namespace Go.Proofs.Ytigjhfijkdlldaa.H
open Go.RowKit Go.Proofs.YtigjhfijkdlldaaW.PrintWords Go.Proofs.YtigjhfijkdlldaaW.PrintLast Go.Proofs.YtigjhfijkdlldaaW.PrintMore Go.Proofs.Ytigjhfijkdlldaa.Q
set_option linter.unusedVariables false
set_option linter.unusedSimpArgs false
section
variable {w:World} {A A0 A1 A2 A3:Option Addr} {c c0 c1 c2 c3:Nat}
def lB (p a b:Int):Bool:=decide (a≤p) && decide (p≤b)
theorem l1In_c {p a b:Int}:Calls Try.prog 77 #[.int .i64 p,.int .i64 a,.int .i64 b] w fun e w'=>e=.returned (.bool (lB p a b))∧w'=w:=by
  unfold lB
  obtain⟨x,hx⟩:∃x,decide (a≤p)=x:=⟨_,rfl⟩
  rw[hx]
  cases x
  all_goals (go_enter Try.func77,Try.ntmps77;go_wp2;go_ret;exact⟨rfl,rfl⟩)
theorem tx_step (s:ByteArray) (i:Int) (h0:0≤i) (h1:i<s.size):((bytesOf s).drop i.toNat).all chOk=(chOk (bt s i) && ((bytesOf s).drop (i+1).toNat).all chOk):=by
  rw[drop_cons _ 0 i h0 (by rw[bytesOf_length];exact h1),List.all_cons]
  have:=rd_bytesOf s i
  unfold rd at this
  rw[this]
theorem l1Text_c {s:ByteArray} (hs:(s.size:Int)≤4611686018427387903):Calls Try.prog 114 #[.string s] w fun e w'=>e=.returned (.bool (txOk s))∧w'=w:=by
  have HS:=AK hs
  have HT:=AK (show txOk s=(lB s.size 1 12 && (bytesOf s).all chOk)from rfl)
  clear hs
  obtain⟨r,er⟩:∃r,r=txOk s:=⟨_,rfl⟩
  rw[←er]at HT ⊢
  clear er
  go_enter Try.func114,Try.ntmps114
  go_wp2_with fail
  refine(l1In_c (p:=s.size) (a:=1) (b:=12)).mono ?_
  rintro e w2 ⟨rfl,rfl⟩
  obtain⟨x,hx⟩:∃x,lB s.size 1 12=x:=⟨_,rfl⟩
  rw[hx]at HT ⊢
  cases x with
  | false=>
    have hr:r=false:=HT.out
    subst hr
    go_wp2
    go_ret
    exact⟨rfl,rfl⟩
  | true=>
  clear hx
  have HT2:=AK (show r=((bytesOf s).drop (0:Int).toNat).all chOk from HT.out)
  clear HT
  go_wp2
  go_loopg [3] s.size (fun kq v3 w'=>∃i:Int,v3=.int .i64 i∧Aside0 (0≤i∧i+kq=s.size)∧Aside0 (r=((bytesOf s).drop i.toNat).all chOk)∧w'=w2)
  case atStart=>exact⟨0,rfl,⟨by omega,by omega⟩,HT2,rfl⟩
  case round=>
    clear HT2
    obtain⟨i,rfl,HI,HT,rfl⟩:=hrel
    cases gk with
    | zero=>
      have c9:decide (i<(s.size:Int))=false:=deF (by have:=HI.out;omega)
      have hr:r=true:=by rw[HT.out,drop_end _ _ (by rw[bytesOf_length];have:=HI.out;omega)];rfl
      subst hr
      go_wp2
      go_ret
      exact⟨rfl,rfl⟩
    | succ k1=>
      have c9:decide (i<(s.size:Int))=true:=deT (by have:=HI.out;omega)
      have hi0:=eq_true (show 0≤i by have:=HI.out;omega)
      have hi1:=eq_true (show i<(s.size:Int)by have:=HI.out;omega)
      have hb:=bt_at s i
      have HR:=AK (HT.out.trans (tx_step s i (by have:=HI.out;omega) (by have:=HI.out;omega)))
      have hc:chOk (bt s i)=(decide (97≤bt s i) && decide (bt s i≤122) || decide (48≤bt s i) && decide (bt s i≤57)):=rfl
      rw[hc]at HR
      obtain⟨x1,h1⟩:∃x,decide (97≤bt s i)=x:=⟨_,rfl⟩
      obtain⟨x2,h2⟩:∃x,decide (bt s i≤122)=x:=⟨_,rfl⟩
      obtain⟨x3,h3⟩:∃x,decide (48≤bt s i)=x:=⟨_,rfl⟩
      obtain⟨x4,h4⟩:∃x,decide (bt s i≤57)=x:=⟨_,rfl⟩
      rw[h1,h2,h3,h4]at HR
      clear hc HT
      cases x1<;>cases x2<;>cases x3<;>cases x4
      all_goals first
        | (have hr : r = false := HR.out
           subst hr
           go_wp2
           go_ret
           exact⟨rfl,rfl⟩)
        | (have HT := AK (show r = ((bytesOf s).drop (i + 1).toNat).all chOk from HR.out)
           go_wp2
           go_roundg k1
           case measure=>omega
           case rel=>
             rw[wrap_succ i (by have:=HI.out;omega) (by have:=HI.out;have:=HS.out;omega)]
             exact⟨i+1,rfl,⟨by have:=HI.out;omega,by have:=HI.out;omega⟩,HT,rfl⟩)
theorem sh1 {x:S38} (h:x.f0=1):shB x=(txOk x.f1 && ((x.f2.length:Int) == 0)):=by unfold shB;rw[if_pos h]
theorem sh2 {x:S38} (h:x.f0=2):shB x=((x.f1.toList == ([]:List UInt8)) && decide ((x.f2.length:Int)≤6)):=by unfold shB;rw[if_neg (by omega),if_pos h];congr 1;exact Bool.eq_iff_iff.2 (by rw[decide_eq_true_eq,beq_iff_eq])
theorem sh3 {x:S38} (h:x.f0=3):shB x=((x.f1.toList == ([]:List UInt8)) && ((x.f2.length:Int) == 2)):=by unfold shB;rw[if_neg (by omega),if_neg (by omega),if_pos h];congr 1;exact Bool.eq_iff_iff.2 (by rw[decide_eq_true_eq,beq_iff_eq])
theorem sh4 {x:S38} (h:x.f0=4):shB x=((x.f1.toList == ([]:List UInt8)) && ((x.f2.length:Int) == 0)):=by unfold shB;rw[if_neg (by omega),if_neg (by omega),if_neg (by omega),if_pos h];congr 1;exact Bool.eq_iff_iff.2 (by rw[decide_eq_true_eq,beq_iff_eq])
theorem sh0 {x:S38} (h1:¬ x.f0=1) (h2:¬ x.f0=2) (h3:¬ x.f0=3) (h4:¬ x.f0=4):shB x=false:=by unfold shB;rw[if_neg h1,if_neg h2,if_neg h3,if_neg h4]
set_option maxHeartbeats 2000000 in
theorem l1ObjOk_c {x:S38} {n:Int} (hn:0≤n∧n≤4611686018427387903) (hf:Fit x) (hC:Kd.C (Kd.int .i64) w A x.f2.length x.f2):Calls Try.prog 76 #[.agg #[.int .i64 x.f0,.string x.f1,.slice A x.f2.length c],.int .i64 n] w fun e w'=>e=.returned (.bool (obB n x))∧Below w.heap.size w w':=by
  obtain⟨hf1,hf2⟩:=hf
  have HF:=AK (And.intro hn (And.intro hf1 hf2))
  have hw:wrap64 (n - 1)=n - 1:=by unfold wrap64;omega
  have HB:=AK (below_alloc (Below.refl w.heap.size w) (.cells #[.int .i64 x.f0,.string x.f1,.slice A x.f2.length c] 38 (0,0)))
  have HX:=AK (blk_new w (.cells #[.int .i64 x.f0,.string x.f1,.slice A x.f2.length c] 38 (0,0)))
  have HC:=AK (Kd.C_below hC HB.out)
  obtain⟨r,er⟩:∃r,r=obB n x:=⟨_,rfl⟩
  have HR:=AK (show r=(shB x && (x.f2.drop (0:Int).toNat).all (inB · n))from er)
  rw[←er]
  clear hf1 hf2 hn er hC
  go_enter Try.func76,Try.ntmps76
  go_wp2
  generalize w.alloc (.cells #[.int .i64 x.f0,.string x.f1,.slice A x.f2.length c] 38 (0,0))=w1 at HB HX HC ⊢
  generalize w.heap.size=b at HX ⊢
  go_loopg [5] x.f2.length (fun kq v5 w'=>∃i:Int,v5=.int .i64 i∧Aside0 (0≤i∧i+kq=x.f2.length)∧Aside0 (r=(shB x && (x.f2.drop i.toNat).all (inB · n)))∧w'=w1)
  case atStart=>exact⟨0,rfl,⟨by omega,by omega⟩,HR,rfl⟩
  case round=>
    clear HR
    obtain⟨i,rfl,HI,HR,rfl⟩:=hrel
    obtain⟨p0,p1,p2⟩:=box3 HX.out
    cases gk with
    | succ k1=>
      have c9:decide (i<(x.f2.length:Int))=true:=deT (by have:=HI.out;omega)
      have hi0:=eq_true (show 0≤i by have:=HI.out;omega)
      have hi1:=eq_true (show i<(x.f2.length:Int)by have:=HI.out;omega)
      obtain⟨ad,e1,hq⟩:=Kd.at_int HC.out i (by have:=HI.out;omega) (by have:=HI.out;omega)
      subst e1
      have hr:=HR.out
      rw[drop_cons _ 0 i (by have:=HI.out;omega) (by have:=HI.out;omega),List.all_cons]at hr
      obtain⟨q,eq⟩:∃q,q=rd x.f2 i:=⟨_,rfl⟩
      rw[←eq]at hq
      rw[show x.f2.getD i.toNat 0=q from eq.symm,show inB q n=lB q (-1) (n - 1)by unfold inB lB;congr 1;exact decide_eq_decide.2 (by omega)]at hr
      have HR2:=AK hr
      clear hr eq HR
      go_wp2_with fail
      refine(l1In_c (p:=q) (a:=-1) (b:=n - 1)).mono ?_
      rintro e w2 ⟨rfl,rfl⟩
      obtain⟨y,hy⟩:∃y,lB q (-1) (n - 1)=y:=⟨_,rfl⟩
      rw[hy]at HR2 ⊢
      clear hy hq
      cases y with
      | false=>
        have h2:r=false:=by rw[HR2.out];simp
        subst h2
        clear p0 p1 p2
        go_wp2
        go_ret
        exact⟨rfl,HB.out⟩
      | true=>
        have HR:=AK (show r=(shB x && (x.f2.drop (i+1).toNat).all (inB · n))from HR2.out)
        clear HR2 p0 p1 p2
        go_wp2
        go_roundg k1
        case measure=>omega
        case rel=>
          rw[wrap_succ i (by have:=HI.out;omega) (by have:=HI.out;have:=HF.out;omega)]
          exact⟨i+1,rfl,⟨by have:=HI.out;omega,by have:=HI.out;omega⟩,HR,rfl⟩
    | zero=>
      have c9:decide (i<(x.f2.length:Int))=false:=deF (by have:=HI.out;omega)
      have HS:=AK (show r=shB x by rw[HR.out,drop_end _ _ (by have:=HI.out;omega)];simp)
      clear HR
      by_cases k1:x.f0=1
      case pos=>
        have f1:(x.f0 == 1)=true:=beq_iff_eq.mpr k1
        have hr:=HS.out.trans (sh1 k1)
        clear k1
        go_wp2_with fail
        refine(l1Text_c HF.out.2.1).mono ?_
        rintro e w2 ⟨rfl,rfl⟩
        obtain⟨y,hy⟩:∃y,txOk x.f1=y:=⟨_,rfl⟩
        obtain⟨z,hz⟩:∃z,((x.f2.length:Int) == 0)=z:=⟨_,rfl⟩
        rw[hy,hz]at hr
        rw[hy]
        cases y<;>cases z<;>(subst hr;go_wp2;go_ret;exact⟨rfl,HB.out⟩)
      have f1:(x.f0 == 1)=false:=beq_eq_false_iff_ne.mpr k1
      by_cases k2:x.f0=2
      case pos=>
        have f2:(x.f0 == 2)=true:=beq_iff_eq.mpr k2
        have hr:=HS.out.trans (sh2 k2)
        clear k2
        obtain⟨y,hy⟩:∃y,(x.f1.toList == ([]:List UInt8))=y:=⟨_,rfl⟩
        obtain⟨z,hz⟩:∃z,decide ((x.f2.length:Int)≤6)=z:=⟨_,rfl⟩
        rw[hy,hz]at hr
        cases y<;>cases z<;>(subst hr;go_wp2;go_ret;exact⟨rfl,HB.out⟩)
      have f2:(x.f0 == 2)=false:=beq_eq_false_iff_ne.mpr k2
      by_cases k3:x.f0=3
      case pos=>
        have f3:(x.f0 == 3)=true:=beq_iff_eq.mpr k3
        have hr:=HS.out.trans (sh3 k3)
        clear k3
        obtain⟨y,hy⟩:∃y,(x.f1.toList == ([]:List UInt8))=y:=⟨_,rfl⟩
        obtain⟨z,hz⟩:∃z,((x.f2.length:Int) == 2)=z:=⟨_,rfl⟩
        rw[hy,hz]at hr
        cases y<;>cases z<;>(subst hr;go_wp2;go_ret;exact⟨rfl,HB.out⟩)
      have f3:(x.f0 == 3)=false:=beq_eq_false_iff_ne.mpr k3
      by_cases k4:x.f0=4
      case pos=>
        have f4:(x.f0 == 4)=true:=beq_iff_eq.mpr k4
        have hr:=HS.out.trans (sh4 k4)
        clear k4
        obtain⟨y,hy⟩:∃y,(x.f1.toList == ([]:List UInt8))=y:=⟨_,rfl⟩
        obtain⟨z,hz⟩:∃z,((x.f2.length:Int) == 0)=z:=⟨_,rfl⟩
        rw[hy,hz]at hr
        cases y<;>cases z<;>(subst hr;go_wp2;go_ret;exact⟨rfl,HB.out⟩)
      have f4:(x.f0 == 4)=false:=beq_eq_false_iff_ne.mpr k4
      have hr:=HS.out.trans (sh0 k1 k2 k3 k4)
      clear k1 k2 k3 k4
      subst hr
      go_wp2
      go_ret
      exact⟨rfl,HB.out⟩
set_option maxHeartbeats 2000000 in
theorem memObjOk_calls (x:S38) (A:Option Addr) (c:Nat) (w:World) (ha:Fit x) (hr:Kd.C (Kd.int .i64) w A x.f2.length x.f2) (hc:x.f2.length≤c) :
    Calls Try.prog 83 #[.agg #[.int .i64 x.f0,.string x.f1,.slice A x.f2.length c]] w fun e w'=>e=.returned (.bool (shB x))∧Below w.heap.size w w':=by
  have HF:=AK ha
  have HB:=AK (below_alloc (Below.refl w.heap.size w) (.cells #[.int .i64 x.f0,.string x.f1,.slice A x.f2.length c] 38 (0,0)))
  have HX:=AK (blk_new w (.cells #[.int .i64 x.f0,.string x.f1,.slice A x.f2.length c] 38 (0,0)))
  obtain⟨r,er⟩:∃r,r=shB x:=⟨_,rfl⟩
  have HS:=AK er
  rw[←er]
  clear er ha hr hc
  go_enter Try.func83,Try.ntmps83
  go_upto_region 1 with fail
  generalize w.alloc (.cells #[.int .i64 x.f0,.string x.f1,.slice A x.f2.length c] 38 (0,0))=w1 at HB HX ⊢
  generalize w.heap.size=b at HX ⊢
  obtain⟨p0,p1,p2⟩:=box3 HX.out
  by_cases k1:x.f0=1
  case pos=>
    have f1:(x.f0 == 1)=true:=beq_iff_eq.mpr k1
    have HT:=AK (show r=(((bytesOf x.f1).drop (0:Int).toNat).all chOk && (lB x.f1.size 1 12 && ((x.f2.length:Int) == 0)))by
      rw[HS.out,sh1 k1];show ((lB x.f1.size 1 12 && (bytesOf x.f1).all chOk) && _)=((bytesOf x.f1).all chOk && _)
      cases lB x.f1.size 1 12<;>cases (bytesOf x.f1).all chOk<;>rfl)
    clear k1 HS
    go_wp2
    clear p0 p1 p2
    go_loopg [12] x.f1.size (fun kq v12 w'=>∃i:Int,v12=.int .i64 i∧Aside0 (0≤i∧i+kq=x.f1.size)∧Aside0 (r=(((bytesOf x.f1).drop i.toNat).all chOk && (lB x.f1.size 1 12 && ((x.f2.length:Int) == 0))))∧w'=w1)
    case atStart=>exact⟨0,rfl,⟨by omega,by omega⟩,HT,rfl⟩
    case round=>
      clear HT
      obtain⟨i,rfl,HI,HT,rfl⟩:=hrel
      obtain⟨p0,p1,p2⟩:=box3 HX.out
      cases gk with
      | zero=>
        have c9:decide (i<(x.f1.size:Int))=false:=deF (by have:=HI.out;omega)
        have hr:r=((decide (1≤(x.f1.size:Int)) && decide ((x.f1.size:Int)≤12)) && ((x.f2.length:Int) == 0)):=by rw[HT.out,drop_end _ _ (by rw[bytesOf_length];have:=HI.out;omega)];rfl
        obtain⟨y,hy⟩:∃y,decide (1≤(x.f1.size:Int))=y:=⟨_,rfl⟩
        obtain⟨u,hu⟩:∃u,decide ((x.f1.size:Int)≤12)=u:=⟨_,rfl⟩
        obtain⟨z,hz⟩:∃z,((x.f2.length:Int) == 0)=z:=⟨_,rfl⟩
        rw[hy,hu,hz]at hr
        clear HT
        cases y<;>cases u<;>cases z<;>(subst hr;go_wp2;go_ret;exact⟨rfl,HB.out⟩)
      | succ k1=>
        have c9:decide (i<(x.f1.size:Int))=true:=deT (by have:=HI.out;omega)
        have hi0:=eq_true (show 0≤i by have:=HI.out;omega)
        have hi1:=eq_true (show i<(x.f1.size:Int)by have:=HI.out;omega)
        have hb:=bt_at x.f1 i
        have hr:=HT.out
        rw[tx_step x.f1 i (by have:=HI.out;omega) (by have:=HI.out;omega),show chOk (bt x.f1 i)=(!decide (bt x.f1 i<97) && !decide (122<bt x.f1 i) || !decide (bt x.f1 i<48) && !decide (57<bt x.f1 i))by
          unfold chOk;rw[←decide_not,←decide_not,←decide_not,←decide_not];simp only[Int.not_lt]]at hr
        have HR:=AK hr
        obtain⟨x1,h1⟩:∃y,decide (bt x.f1 i<97)=y:=⟨_,rfl⟩
        obtain⟨x2,h2⟩:∃y,decide (122<bt x.f1 i)=y:=⟨_,rfl⟩
        obtain⟨x3,h3⟩:∃y,decide (bt x.f1 i<48)=y:=⟨_,rfl⟩
        obtain⟨x4,h4⟩:∃y,decide (57<bt x.f1 i)=y:=⟨_,rfl⟩
        rw[h1,h2,h3,h4]at HR
        clear hr HT
        cases x1<;>cases x2<;>cases x3<;>cases x4
        all_goals first
          | (have hr : r = false := HR.out
             subst hr
             go_wp2
             go_ret
             exact⟨rfl,HB.out⟩)
          | (have HT := AK (show r = (((bytesOf x.f1).drop (i + 1).toNat).all chOk && (lB x.f1.size 1 12 && ((x.f2.length : Int) == 0))) from HR.out)
             go_wp2
             go_roundg k1
             case measure=>omega
             case rel=>
               rw[wrap_succ i (by have:=HI.out;omega) (by have:=HI.out;have:=HF.out.1;omega)]
               exact⟨i+1,rfl,⟨by have:=HI.out;omega,by have:=HI.out;omega⟩,HT,rfl⟩)
  have f1:(x.f0 == 1)=false:=beq_eq_false_iff_ne.mpr k1
  by_cases k2:x.f0=2
  case pos=>
    have f2:(x.f0 == 2)=true:=beq_iff_eq.mpr k2
    have hr:=HS.out.trans (sh2 k2)
    clear k2
    obtain⟨y,hy⟩:∃y,(x.f1.toList == ([]:List UInt8))=y:=⟨_,rfl⟩
    obtain⟨z,hz⟩:∃z,decide ((x.f2.length:Int)≤6)=z:=⟨_,rfl⟩
    rw[hy,hz]at hr
    cases y<;>cases z<;>(subst hr;go_wp2;go_ret;exact⟨rfl,HB.out⟩)
  have f2:(x.f0 == 2)=false:=beq_eq_false_iff_ne.mpr k2
  by_cases k3:x.f0=3
  case pos=>
    have f3:(x.f0 == 3)=true:=beq_iff_eq.mpr k3
    have hr:=HS.out.trans (sh3 k3)
    clear k3
    obtain⟨y,hy⟩:∃y,(x.f1.toList == ([]:List UInt8))=y:=⟨_,rfl⟩
    obtain⟨z,hz⟩:∃z,((x.f2.length:Int) == 2)=z:=⟨_,rfl⟩
    rw[hy,hz]at hr
    cases y<;>cases z<;>(subst hr;go_wp2;go_ret;exact⟨rfl,HB.out⟩)
  have f3:(x.f0 == 3)=false:=beq_eq_false_iff_ne.mpr k3
  by_cases k4:x.f0=4
  case pos=>
    have f4:(x.f0 == 4)=true:=beq_iff_eq.mpr k4
    have hr:=HS.out.trans (sh4 k4)
    clear k4
    obtain⟨y,hy⟩:∃y,(x.f1.toList == ([]:List UInt8))=y:=⟨_,rfl⟩
    obtain⟨z,hz⟩:∃z,((x.f2.length:Int) == 0)=z:=⟨_,rfl⟩
    rw[hy,hz]at hr
    cases y<;>cases z<;>(subst hr;go_wp2;go_ret;exact⟨rfl,HB.out⟩)
  have f4:(x.f0 == 4)=false:=beq_eq_false_iff_ne.mpr k4
  have hr:=HS.out.trans (sh0 k1 k2 k3 k4)
  clear k1 k2 k3 k4
  subst hr
  go_wp2
  go_ret
  exact⟨rfl,HB.out⟩
set_option maxHeartbeats 2000000 in
theorem l1WatchOk_c {l0:List S38} {l1:List Int} {l2 l3 l:List S60} (h0:Kd.C k38 w A0 l0.length l0) (h:Kd.C k60 w A l.length l):Calls Try.prog 78 #[.agg #[.slice A0 l0.length c0,.slice A1 l1.length c1,.slice A2 l2.length c2,.slice A3 l3.length c3],.slice A l.length c] w fun e w'=>e=.returned (.bool (l.all (wtB l0)))∧Below w.heap.size w w':=by
  have hw:wrap64 ((l0.length:Int) - 1)=l0.length - 1:=by have:=h0.2.1;unfold wrap64;omega
  have HB:=AK (below_alloc (Below.refl w.heap.size w) (.cells #[.slice A0 l0.length c0,.slice A1 l1.length c1,.slice A2 l2.length c2,.slice A3 l3.length c3] 28 (0,0)))
  have HX:=AK (blk_new w (.cells #[.slice A0 l0.length c0,.slice A1 l1.length c1,.slice A2 l2.length c2,.slice A3 l3.length c3] 28 (0,0)))
  have HC:=AK (And.intro h0 (And.intro h h.2.1))
  obtain⟨r,er⟩:∃r,r=l.all (wtB l0):=⟨_,rfl⟩
  have HR:=AK (show r=(l.drop (0:Int).toNat).all (wtB l0)from er)
  rw[←er]
  clear er h0 h
  go_enter Try.func78,Try.ntmps78
  go_wp2
  generalize w.alloc (.cells #[.slice A0 l0.length c0,.slice A1 l1.length c1,.slice A2 l2.length c2,.slice A3 l3.length c3] 28 (0,0))=w1 at HB HX ⊢
  have HN:=AK (blk_lt HX.out)
  generalize w.heap.size=b at HX HN ⊢
  go_loopg [5] l.length (fun kq v5 w'=>∃i:Int,v5=.int .i64 i∧Aside0 (0≤i∧i+kq=l.length)∧Aside0 (r=(l.drop i.toNat).all (wtB l0))∧Aside0 (Below w.heap.size w w')∧Aside0 (w'.heap[b]?=some (.cells #[.slice A0 l0.length c0,.slice A1 l1.length c1,.slice A2 l2.length c2,.slice A3 l3.length c3] 28 (0,0))))
  case atStart=>exact⟨0,rfl,⟨by omega,by omega⟩,HR,HB,HX⟩
  case round=>
    clear HR HB HX
    obtain⟨i,rfl,HI,HR,HB,HX⟩:=hrel
    cases gk with
    | zero=>
      have c9:decide (i<(l.length:Int))=false:=deF (by have:=HI.out;omega)
      have hr:r=true:=by rw[HR.out,drop_end _ _ (by have:=HI.out;omega)];rfl
      subst hr
      go_wp2
      go_ret
      exact⟨rfl,HB.out⟩
    | succ k1=>
      have c9:decide (i<(l.length:Int))=true:=deT (by have:=HI.out;omega)
      have hi0:=eq_true (show 0≤i by have:=HI.out;omega)
      have hi1:=eq_true (show i<(l.length:Int)by have:=HI.out;omega)
      obtain⟨ad,e1,x0,x1⟩:=at_T60 (Kd.C_below HC.out.2.1 HB.out) i (by have:=HI.out;omega) (by have:=HI.out;omega)
      subst e1
      have hr:=HR.out
      rw[drop_cons _ z60 i (by have:=HI.out;omega) (by have:=HI.out;omega),List.all_cons]at hr
      obtain⟨z,ez⟩:∃z,z=rd_T60 l i:=⟨_,rfl⟩
      rw[←ez]at x0 x1
      rw[show l.getD i.toNat z60=z from ez.symm]at hr
      have HR2:=AK hr
      have HY:=AK (blk_new wr (.cells #[.int .i64 z.f0,.int .i64 z.f1] 60 (0,0)))
      clear ez hr HR
      go_upto_region 5 with fail
      clear x0 x1
      replace HB:=AK (below_alloc HB.out (.cells #[.int .i64 z.f0,.int .i64 z.f1] 60 (0,0)))
      replace HX:=AK (blk_alloc HX.out (.cells #[.int .i64 z.f0,.int .i64 z.f1] 60 (0,0)))
      generalize wr.alloc (.cells #[.int .i64 z.f0,.int .i64 z.f1] 60 (0,0))=w2 at HB HX HY ⊢
      obtain⟨p0,p1,p2,p3⟩:=box4 HX.out
      obtain⟨q0,q1⟩:=box2 HY.out
      have HWT:=AK (show wtB l0 z=(lB z.f0 0 (l0.length - 1) && lB z.f1 0 (l0.length - 1) && ((rd_T38 l0 z.f0).f0 == 4))by
        unfold wtB lB
        rw[show decide (z.f0≤(l0.length:Int) - 1)=decide (z.f0<l0.length)from decide_eq_decide.2 (by omega),show decide (z.f1≤(l0.length:Int) - 1)=decide (z.f1<l0.length)from decide_eq_decide.2 (by omega),show ((rd_T38 l0 z.f0).f0 == 4)=decide ((rd_T38 l0 z.f0).f0=4)from Bool.eq_iff_iff.2 (by rw[decide_eq_true_eq,beq_iff_eq])]
        simp only[Bool.and_assoc,Bool.and_comm,Bool.and_left_comm])
      go_wp2_with fail
      refine(l1In_c (p:=z.f0) (a:=0) (b:=l0.length - 1)).mono ?_
      rintro e w3 ⟨rfl,rfl⟩
      obtain⟨y,hy⟩:∃y,lB z.f0 0 (l0.length - 1)=y:=⟨_,rfl⟩
      have HLB:=AK hy
      rw[hy]at HWT ⊢
      clear hy
      cases y with
      | false=>
        have h2:r=false:=by rw[HR2.out,HWT.out];rfl
        subst h2
        go_wp2
        go_ret
        exact⟨rfl,HB.out⟩
      | true=>
      go_wp2_with fail
      refine(l1In_c (p:=z.f1) (a:=0) (b:=l0.length - 1)).mono ?_
      rintro e w4 ⟨rfl,rfl⟩
      obtain⟨y,hy⟩:∃y,lB z.f1 0 (l0.length - 1)=y:=⟨_,rfl⟩
      rw[hy]at HWT ⊢
      clear hy
      cases y with
      | false=>
        have h2:r=false:=by rw[HR2.out,HWT.out];rfl
        subst h2
        go_wp2
        go_ret
        exact⟨rfl,HB.out⟩
      | true=>
      have hz:=HLB.out
      unfold lB at hz
      rw[Bool.and_eq_true,decide_eq_true_eq,decide_eq_true_eq]at hz
      obtain⟨ae,F,f,e1,k0,_⟩:=at_T38 (Kd.C_below HC.out.1 HB.out) z.f0 hz.1 (by omega)
      subst e1
      have hz0:=eq_true hz.1
      have hz1:=eq_true (show z.f0<(l0.length:Int)by omega)
      obtain⟨y,hy⟩:∃y,((rd_T38 l0 z.f0).f0 == 4)=y:=⟨_,rfl⟩
      have hn:((rd_T38 l0 z.f0).f0 != 4)=!y:=by rw[←hy];rfl
      rw[hy]at HWT
      clear hz hy
      cases y with
      | false=>
        have h2:r=false:=by rw[HR2.out,HWT.out];rfl
        subst h2
        go_wp2
        go_ret
        exact⟨rfl,HB.out⟩
      | true=>
        have HR:=AK (show r=(l.drop (i+1).toNat).all (wtB l0)by rw[HR2.out,HWT.out];rfl)
        clear HR2 HWT HLB
        go_wp2
        go_roundg k1
        case measure=>omega
        case rel=>
          rw[wrap_succ i (by have:=HI.out;omega) (by have:=HI.out;have:=HC.out.2.2;omega)]
          exact⟨i+1,rfl,⟨by have:=HI.out;omega,by have:=HI.out;omega⟩,HR,HB,HX⟩
end
end Go.Proofs.Ytigjhfijkdlldaa.H
end
section
namespace Go.Proofs.Ytigjhfijkdlldaa.H
open Go.RowKit Go.Proofs.YtigjhfijkdlldaaW.PrintWords Go.Proofs.YtigjhfijkdlldaaW.PrintLast Go.Proofs.YtigjhfijkdlldaaW.PrintMore Go.Proofs.Ytigjhfijkdlldaa.Q
set_option linter.unusedVariables false
set_option linter.unusedSimpArgs false
section
variable {w:World} {A B A0 A1 A2 A3 B0 B1 B2 B3:Option Addr} {c d c0 c1 c2 c3 d0 d1 d2 d3:Nat}
end
end Go.Proofs.Ytigjhfijkdlldaa.H
end
