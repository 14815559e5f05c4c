import Derived.Test.YtigjhfijkdlldaaDoorSliSa
import Derived.Test.YtigjhfijkdlldaaDoorSliYob
import Derived.Test.YtigjhfijkdlldaaDoorSliHsc
import Derived.Test.YtigjhfijkdlldaaDoorSliPt
section
end
section
end
section
namespace Go.Proofs.YtigjhfijkdlldaaDoor.H
open Go.RowKit Go.Proofs.YtigjhfijkdlldaaDoorW.PrintWords Go.Proofs.YtigjhfijkdlldaaDoorW.PrintLast Go.Proofs.YtigjhfijkdlldaaDoorW.PrintMore Go.Proofs.YtigjhfijkdlldaaDoor.Q
set_option linter.unusedVariables false
end Go.Proofs.YtigjhfijkdlldaaDoor.H
end
section
namespace Go.Proofs.YtigjhfijkdlldaaDoor.H
open Go.RowKit Go.Proofs.YtigjhfijkdlldaaDoorW.PrintWords Go.Proofs.YtigjhfijkdlldaaDoorW.PrintLast Go.Proofs.YtigjhfijkdlldaaDoorW.PrintMore Go.Proofs.YtigjhfijkdlldaaDoor.Q
set_option linter.unusedVariables false
structure OwnP (w:World) (lo:Nat) (P:Nat→Prop) (A0:Option Addr) (c0:Nat) (A1:Option Addr) (c1:Nat) (A2:Option Addr) (c2:Nat) (A3:Option Addr) (c3:Nat) (l0:List S38) (l1:List Int) (l2 l3:List S60):Prop where
  s0:Kd.S k38 35 w lo (fun k=>P k∧some k≠(Value.slice A1 l1.length c1).ownBlock) (.slice A0 l0.length c0) l0
  s1:Kd.R (Kd.int .i64) 3 w lo (fun k=>P k) (.slice A1 l1.length c1) l1
  s2:Kd.R k60 71 w lo (fun k=>P k∧some k≠(Value.slice A3 l3.length c3).ownBlock) (.slice A2 l2.length c2) l2
  s3:Kd.R k60 71 w lo (fun k=>P k∧some k≠(Value.slice A2 l2.length c2).ownBlock) (.slice A3 l3.length c3) l3
section
variable {w w1:World} {lo:Nat} {P:Nat→Prop} {A0 A1 A2 A3:Option Addr} {c0 c1 c2 c3:Nat} {l0:List S38} {l1:List Int} {l2 l3:List S60}
theorem OwnP.kept {S:Nat→Prop} (h:OwnP w lo P A0 c0 A1 c1 A2 c2 A3 c3 l0 l1 l2 l3) (hk:Kept w w1 S) (hS:∀k,P k→¬ S k):OwnP w1 lo P A0 c0 A1 c1 A2 c2 A3 c3 l0 l1 l2 l3:=
  ⟨Kd.S_kept h.s0 hk (fun k h1=>hS k h1.1),Kd.R_kept h.s1 hk hS,Kd.R_kept h.s2 hk (fun k h1=>hS k h1.1),Kd.R_kept h.s3 hk (fun k h1=>hS k h1.1)⟩
theorem OwnH.toP {w:World} {lo:Nat} {P:Nat→Prop} {A0 A1 A2 A3:Option Addr} {c0 c1 c2 c3:Nat} {l0:List S38} {l1:List Int} {l2 l3:List S60} (h:OwnH w lo A0 c0 A1 c1 A2 c2 A3 c3 l0 l1 l2 l3) (hP:∀k,lo≤k→k<w.heap.size→P k):OwnP w lo P A0 c0 A1 c1 A2 c2 A3 c3 l0 l1 l2 l3:=
  ⟨Kd.S_mono (Kd.S_bound h.s0) (fun k hk=>⟨hP k hk.2.1 hk.2.2.1,hk.1⟩),Kd.R_mono (Kd.R_bound h.s1) (fun k hk=>hP k hk.2.1 hk.2.2.1),Kd.R_mono (Kd.R_bound h.s2) (fun k hk=>⟨hP k hk.2.1 hk.2.2.1,hk.1⟩),Kd.R_mono (Kd.R_bound h.s3) (fun k hk=>⟨hP k hk.2.1 hk.2.2.1,hk.1⟩)⟩
theorem OwnP.below (h:OwnP w lo P A0 c0 A1 c1 A2 c2 A3 c3 l0 l1 l2 l3) (hb:Below w.heap.size w w1):OwnP w1 lo P A0 c0 A1 c1 A2 c2 A3 c3 l0 l1 l2 l3:=
  ⟨Kd.S_below h.s0 hb,Kd.R_below h.s1 hb,Kd.R_below h.s2 hb,Kd.R_below h.s3 hb⟩
theorem OwnP.reads (h:OwnP w lo P A0 c0 A1 c1 A2 c2 A3 c3 l0 l1 l2 l3):InH w A0 c0 A1 c1 A2 c2 A3 c3 l0 l1 l2 l3:=
  ⟨(Kd.R_reads' (Kd.S_R h.s0)).2.2,(Kd.R_reads' h.s1).2.2,(Kd.R_reads' h.s2).2.2,(Kd.R_reads' h.s3).2.2,(Kd.R_reads' (Kd.S_R h.s0)).2.1,(Kd.R_reads' h.s1).2.1,(Kd.R_reads' h.s2).2.1,(Kd.R_reads' h.s3).2.1⟩
end
structure Mkd (w:World) (lo:Nat) (P:Nat→Prop) (a:Int) (A0:Option Addr) (c0:Nat) (A1:Option Addr) (c1:Nat) (A2:Option Addr) (c2:Nat) (A3:Option Addr) (c3:Nat) (l0:List S38) (n1 n2 n3:Nat):Prop where
  s0:Kd.S k38 35 w lo P (.slice A0 l0.length c0) (markO a l0)
  s1:Kd.R (Kd.int .i64) 3 w lo P (.slice A1 n1 c1) (marksI (a+cntO l0) n1)
  s2:Kd.R k60 71 w lo P (.slice A2 n2 c2) (marksW (a+cntO l0+n1) n2)
  s3:Kd.R k60 71 w lo P (.slice A3 n3 c3) (marksW (a+cntO l0+n1+2*n2) n3)
theorem Mkd.below {w w1:World} {lo:Nat} {P:Nat→Prop} {a:Int} {A0 A1 A2 A3:Option Addr} {c0 c1 c2 c3 n1 n2 n3:Nat} {l0:List S38} (h:Mkd w lo P a A0 c0 A1 c1 A2 c2 A3 c3 l0 n1 n2 n3) (hb:Below w.heap.size w w1):Mkd w1 lo P a A0 c0 A1 c1 A2 c2 A3 c3 l0 n1 n2 n3:=
  ⟨Kd.S_below h.s0 hb,Kd.R_below h.s1 hb,Kd.R_below h.s2 hb,Kd.R_below h.s3 hb⟩
theorem Mkd.kept {w w1:World} {lo:Nat} {P S:Nat→Prop} {a:Int} {A0 A1 A2 A3:Option Addr} {c0 c1 c2 c3 n1 n2 n3:Nat} {l0:List S38} (h:Mkd w lo P a A0 c0 A1 c1 A2 c2 A3 c3 l0 n1 n2 n3) (hk:Kept w w1 S) (hS:∀k,P k→¬ S k):Mkd w1 lo P a A0 c0 A1 c1 A2 c2 A3 c3 l0 n1 n2 n3:=
  ⟨Kd.S_kept h.s0 hk hS,Kd.R_kept h.s1 hk hS,Kd.R_kept h.s2 hk hS,Kd.R_kept h.s3 hk hS⟩
end Go.Proofs.YtigjhfijkdlldaaDoor.H
end
section
end
section
namespace Go.Proofs.YtigjhfijkdlldaaDoor.H
open Go.RowKit Go.Proofs.YtigjhfijkdlldaaDoorW.PrintWords Go.Proofs.YtigjhfijkdlldaaDoorW.PrintLast Go.Proofs.YtigjhfijkdlldaaDoorW.PrintMore Go.Proofs.YtigjhfijkdlldaaDoor.Q
set_option linter.unusedVariables false
section
variable {w:World} {base lo:Nat} {P:Nat→Prop} {A0 A1 A2 A3 E:Option Addr} {c0 c1 c2 c3 e:Nat} {h:Hp} {m:List Int}
theorem OwnM.toP (ho:OwnM w base A0 c0 A1 c1 A2 c2 A3 c3 E e h m) (hb:lo≤base) (hP:∀k,base≤k→k<w.heap.size→some k≠(Value.slice E m.length e).ownBlock→P k):OwnP w lo P A0 c0 A1 c1 A2 c2 A3 c3 h.o h.r h.w h.d:=
  ⟨S_lower (Kd.S_mono (Kd.S_bound ho.s0) (fun k hk=>⟨hP k hk.2.1 hk.2.2.1 hk.1.2,hk.1.1⟩)) hb,Kd.R_lower (Kd.R_mono (Kd.R_bound ho.s1) (fun k hk=>hP k hk.2.1 hk.2.2.1 hk.1)) hb,
   Kd.R_lower (Kd.R_mono (Kd.R_bound (Kd.R_apart' ho.s2 (Kd.R_typed ho.m) (by decide))) (fun k hk=>⟨hP k hk.2.1 hk.2.2.1 hk.1.2,hk.1.1⟩)) hb,
   Kd.R_lower (Kd.R_mono (Kd.R_bound (Kd.R_apart' ho.s3 (Kd.R_typed ho.m) (by decide))) (fun k hk=>⟨hP k hk.2.1 hk.2.2.1 hk.1.2,hk.1.1⟩)) hb⟩
theorem OwnM.mv (ho:OwnM w base A0 c0 A1 c1 A2 c2 A3 c3 E e h m) (hb:lo≤base) (hP:∀k,base≤k→k<w.heap.size→some k=(Value.slice E m.length e).ownBlock→P k):Kd.R (Kd.int .i64) 3 w lo P (.slice E m.length e) m:=
  Kd.R_lower (Kd.R_mono (Kd.R_bound (Kd.R_tight rfl ho.m)) (fun k hk=>hP k hk.2.1 hk.2.2.1 hk.1)) hb
end
end Go.Proofs.YtigjhfijkdlldaaDoor.H
end
section
namespace Go.Proofs.YtigjhfijkdlldaaDoor.H
open Go.RowKit Go.Proofs.YtigjhfijkdlldaaDoorW.PrintWords Go.Proofs.YtigjhfijkdlldaaDoorW.PrintLast Go.Proofs.YtigjhfijkdlldaaDoorW.PrintMore Go.Proofs.YtigjhfijkdlldaaDoor.Q
set_option linter.unusedVariables false
def sNo:ByteArray:=⟨#[110,111]⟩
def sOk:ByteArray:=⟨#[111,107]⟩
def sFull:ByteArray:=⟨#[102,117,108,108]⟩
def sNone:ByteArray:=⟨#[110,111,110,101]⟩
def sCell:ByteArray:=⟨#[99,101,108,108,32,111,102,32]⟩
def sWeak:ByteArray:=⟨#[119,101,97,107]⟩
def sGuard:ByteArray:=⟨#[103,117,97,114,100,105,97,110]⟩
def knownL (r:List Int) (p:Int):Int:=if 0≤p∧p<r.length then rd r p else -1
def seesB (l0:List S38) (p:Int):ByteArray:=
  if p<0 then sNone else if(rd_T38 l0 p).f0=1 then(rd_T38 l0 p).f1 else if(rd_T38 l0 p).f0=2 then sCell++strOfNums [48+((rd_T38 l0 p).f2.length:Int)]else if(rd_T38 l0 p).f0=3 then sWeak else sGuard
def partL (l0:List S38) (r:List Int) (p a:Int):Int:=if knownL r p<0 then -1 else if 0≤a∧a<(rd_T38 l0 (knownL r p)).f2.length then knownL r p else -1
def madeO (h:Hp) (e:S40):S38:=⟨e.f4.f0,e.f4.f1,e.f4.f2.map (knownL h.r)⟩
def makesB (h:Hp) (e:S40):Hp × ByteArray:=
  if obB h.o.length (madeO h e)=true then(if 60≤h.o.length then(h,sFull)else(⟨h.o++[madeO h e],h.r.set e.f1.toNat h.o.length,h.w,h.d⟩,seesB (h.o++[madeO h e]) h.o.length))else(h,sNo)
def takesB (h:Hp) (e:S40):Hp × ByteArray:=
  if partL h.o h.r e.f2 e.f3<0 then(h,sNo)else(⟨h.o,h.r.set e.f1.toNat (rd (rd_T38 h.o (partL h.o h.r e.f2 e.f3)).f2 e.f3),h.w,h.d⟩,seesB h.o (rd (rd_T38 h.o (partL h.o h.r e.f2 e.f3)).f2 e.f3))
def putRef (o:S38) (a p:Int):S38:=⟨o.f0,o.f1,o.f2.set a.toNat p⟩
def setsB (h:Hp) (e:S40):Hp × ByteArray:=
  if partL h.o h.r e.f1 e.f3<0 then(h,sNo)else(⟨h.o.set (partL h.o h.r e.f1 e.f3).toNat (putRef (rd_T38 h.o (partL h.o h.r e.f1 e.f3)) e.f3 (knownL h.r e.f2)),h.r,h.w,h.d⟩,sOk)
def forgetsB (h:Hp) (e:S40):Hp × ByteArray:=(⟨h.o,h.r.set e.f1.toNat (-1),h.w,h.d⟩,sOk)
def isGuard (h:Hp) (p:Int):Bool:=decide (0≤p) && decide ((rd_T38 h.o p).f0=4)
def watchesB (h:Hp) (e:S40):Hp × ByteArray:=
  if isGuard h (knownL h.r e.f1)=true∧0≤knownL h.r e.f2 then(if 20≤h.w.length+h.d.length then(h,sFull)else(⟨h.o,h.r,h.w++[⟨knownL h.r e.f1,knownL h.r e.f2⟩],h.d⟩,sOk))else(h,sNo)
def askD (g:Int):List S60→Option (Int × List S60)
  | []=>none
  | x :: l=>if x.f0=g then some (x.f1,l)else(askD g l).map fun y=>(y.1,x :: y.2)
def askP (g:Int) (l:List S60):Int:=((askD g l).map (·.1)).getD (-1)
def askL (g:Int) (l:List S60):List S60:=((askD g l).map (·.2)).getD l
def asksB (h:Hp) (e:S40):Hp × ByteArray:=
  if isGuard h (knownL h.r e.f2)=true then(⟨h.o,h.r.set e.f1.toNat (askP (knownL h.r e.f2) h.d),h.w,askL (knownL h.r e.f2) h.d⟩,seesB h.o (askP (knownL h.r e.f2) h.d))else(h,sNo)
def doB (h:Hp) (e:S40):Hp × ByteArray:=
  if e.f0=1 then makesB h e else if e.f0=2 then takesB h e else if e.f0=3 then setsB h e else if e.f0=4 then forgetsB h e else if e.f0=5 then watchesB h e else if e.f0=6 then asksB h e else if e.f0=7 then((collectB h).1,sOk)else(h,sNo)
def toB (h:Hp) (e:S40):Bool:=decide (0≤e.f1) && decide (e.f1<h.r.length)
def stepB (h:Hp) (e:S40):Hp × ByteArray:=
  if h.ok=true then(if e.f0=7∨toB h e=true then doB h e else(h,sNo))else(hp0,sNo)
theorem known_range {l0:List S38} {l1:List Int} {l2 l3:List S60} (h:OkH l0 l1 l2 l3) (p:Int):-1≤knownL l1 p∧knownL l1 p<l0.length:=by
  unfold knownL
  by_cases c:0≤p∧p<l1.length
  · rw[if_pos c];exact h.rs _ (getD_mem l1 0 p c.1 c.2)
  · rw[if_neg c];omega
end Go.Proofs.YtigjhfijkdlldaaDoor.H
end
section
namespace Go.Proofs.YtigjhfijkdlldaaDoor.H
open Go.RowKit Go.Proofs.YtigjhfijkdlldaaDoorW.PrintWords Go.Proofs.YtigjhfijkdlldaaDoorW.PrintLast Go.Proofs.YtigjhfijkdlldaaDoorW.PrintMore Go.Proofs.YtigjhfijkdlldaaDoor.Q
set_option linter.unusedVariables false
section
variable {l0:List S38} {l1:List Int} {l2 l3:List S60}
theorem OkH.b (h:OkH l0 l1 l2 l3):okB l0 l1 l2 l3=true:=by
  unfold okB
  simp only[Bool.and_eq_true,decide_eq_true_eq,List.all_eq_true]
  exact⟨⟨⟨⟨⟨⟨h.n,h.r⟩,h.w⟩,h.o⟩,fun p hp=>by have:=h.rs p hp;unfold inB;simp;omega⟩,h.ws⟩,h.ds⟩
theorem obB_mk {n m:Int} {x y:S38} (h:obB n x=true) (e0:y.f0=x.f0) (e1:y.f1=x.f1) (e2:y.f2.length=x.f2.length) (hr:∀p∈y.f2,-1≤p∧p<m):obB m y=true:=by
  unfold obB at h ⊢
  rw[Bool.and_eq_true]at h ⊢
  refine⟨?_,List.all_eq_true.2 fun p hp=>?_⟩
  · have:=h.1
    unfold shB at this ⊢
    rw[e0,e1,e2];exact this
  · have:=hr p hp
    unfold inB;simp;omega
theorem obB_mono {n m:Int} {x:S38} (h:obB n x=true) (hn:n≤m):obB m x=true:=
  obB_mk h rfl rfl rfl (fun p hp=>by have:=(ob_parts h).1 p hp;omega)
theorem wtB_mk {m0:List S38} {x y:S60} (h0:0≤x.f0∧x.f0<m0.length) (hk:(rd_T38 m0 x.f0).f0=4) (h1:0≤x.f1∧x.f1<m0.length):wtB m0 x=true:=by
  unfold wtB
  simp only[Bool.and_eq_true,decide_eq_true_eq]
  exact⟨⟨⟨⟨h0.1,h0.2⟩,hk⟩,h1.1⟩,h1.2⟩
theorem OkH.setR (h:OkH l0 l1 l2 l3) (i:Nat) {p:Int} (hp:-1≤p∧p<l0.length):OkH l0 (l1.set i p) l2 l3:=
  ⟨h.n,by rw[List.length_set];exact h.r,h.w,h.o,fun q hq=>(List.mem_or_eq_of_mem_set hq).elim (fun hq=>h.rs q hq) (fun e=>e ▸ hp),h.ws,h.ds⟩
theorem rd_T38_app (l:List S38) (m:List S38) (p:Int) (h0:0≤p) (h1:p<l.length):rd_T38 (l++m) p=rd_T38 l p:=by
  unfold rd_T38
  rw[List.getD_eq_getElem?_getD,List.getD_eq_getElem?_getD,List.getElem?_append_left (by omega)]
theorem rd_T38_set (l:List S38) (k p:Int) (o:S38) (hk:0≤k) (h0:0≤p) (h1:p<l.length):rd_T38 (l.set k.toNat o) p=if p=k then o else rd_T38 l p:=by
  unfold rd_T38
  rw[List.getD_eq_getElem?_getD,List.getD_eq_getElem?_getD,List.getElem?_set]
  by_cases c:p=k
  · subst c;rw[if_pos rfl,if_pos (by omega),if_pos rfl];rfl
  · rw[if_neg (by omega),if_neg c]
theorem OkH.pushO (h:OkH l0 l1 l2 l3) {o:S38} (ho:obB l0.length o=true) (hn:¬ 60≤l0.length) (i:Nat):OkH (l0++[o]) (l1.set i l0.length) l2 l3:=by
  have hl:((l0++[o]).length:Int)=l0.length+1:=by simp
  have hw:∀x:S60,wtB l0 x=true→wtB (l0++[o]) x=true:=fun x hx=>by
    obtain⟨a,b,c,d,e⟩:=wt_parts hx
    exact wtB_mk (y:=x) ⟨a,by omega⟩ (by rw[rd_T38_app _ _ _ a b];exact c) ⟨d,by omega⟩
  refine⟨by simp;omega,by rw[List.length_set];exact h.r,h.w,fun x hx=>?_,fun q hq=>?_,fun x hx=>hw x (h.ws x hx),fun x hx=>hw x (h.ds x hx)⟩
  · rw[hl]
    rcases List.mem_append.1 hx with hx|hx
    · exact obB_mono (h.o x hx) (by omega)
    · rw[List.mem_singleton.1 hx];exact obB_mono ho (by omega)
  · rw[hl]
    rcases List.mem_or_eq_of_mem_set hq with hq|rfl
    · have:=h.rs q hq;omega
    · omega
theorem OkH.setRef (h:OkH l0 l1 l2 l3) {k:Int} (hk0:0≤k) (hk1:k<l0.length) (a:Int) {p:Int} (hp:-1≤p∧p<l0.length):OkH (l0.set k.toNat (putRef (rd_T38 l0 k) a p)) l1 l2 l3:=by
  have hw:∀x:S60,wtB l0 x=true→wtB (l0.set k.toNat (putRef (rd_T38 l0 k) a p)) x=true:=fun x hx=>by
    obtain⟨b,c,d,e,f⟩:=wt_parts hx
    refine wtB_mk (y:=x) ⟨b,by rw[List.length_set];exact c⟩ ?_ ⟨e,by rw[List.length_set];exact f⟩
    rw[rd_T38_set _ _ _ _ hk0 b c]
    split
    · rename_i e;rw[←e];exact d
    · exact d
  refine⟨by rw[List.length_set];exact h.n,h.r,h.w,fun x hx=>?_,fun q hq=>by rw[List.length_set];exact h.rs q hq,fun x hx=>hw x (h.ws x hx),fun x hx=>hw x (h.ds x hx)⟩
  rw[List.length_set]
  rcases List.mem_or_eq_of_mem_set hx with hx|rfl
  · exact h.o x hx
  · refine obB_mk (ob_at h hk0 hk1) rfl rfl (List.length_set ..) (fun q hq=>?_)
    rcases List.mem_or_eq_of_mem_set hq with hq|rfl
    · exact(ob_parts (ob_at h hk0 hk1)).1 q hq
    · exact hp
theorem askD_sub (g:Int):∀(l:List S60) (y:Int × List S60),askD g l=some y→(∃z∈l,y.1=z.f1∧z.f0=g)∧(∀z∈y.2,z∈l)∧y.2.length+1=l.length:=by
  intro l
  induction l with
  | nil=>intro y h;cases h
  | cons x l ih=>
    intro y h
    simp only[askD]at h
    split at h
    · rename_i c
      injection h with h
      subst h
      exact⟨⟨x,List.mem_cons_self ..,rfl,c⟩,fun z hz=>List.mem_cons_of_mem _ hz,by simp⟩
    · cases e:askD g l with
      | none=>rw[e]at h;cases h
      | some u=>
        rw[e]at h
        injection h with h
        subst h
        obtain⟨⟨z,hz,e1,e2⟩,h2,h3⟩:=ih u e
        refine⟨⟨z,List.mem_cons_of_mem _ hz,e1,e2⟩,fun z hz=>?_,by simp only[List.length_cons];omega⟩
        rcases List.mem_cons.1 hz with rfl|hz
        · exact List.mem_cons_self ..
        · exact List.mem_cons_of_mem _ (h2 z hz)
theorem askD_none (g:Int) (l:List S60) (z:S60) (h:askD g l=none) (hz:z.f0≠g):askD g (l++[z])=none:=by
  induction l with
  | nil=>simp[askD,hz]
  | cons x l ih=>
    simp only[askD,List.cons_append]at h ⊢
    by_cases c:x.f0=g
    · rw[if_pos c]at h;cases h
    · rw[if_neg c]at h ⊢
      rw[ih (by simpa using h)];rfl
theorem askD_at (g:Int) (l m:List S60) (z:S60) (h:askD g l=none) (hz:z.f0=g):askD g (l++z :: m)=some (z.f1,l++m):=by
  induction l with
  | nil=>simp[askD,hz]
  | cons x l ih=>
    simp only[askD,List.cons_append]at h ⊢
    by_cases c:x.f0=g
    · rw[if_pos c]at h;cases h
    · rw[if_neg c]at h ⊢
      rw[ih (by simpa using h)];rfl
theorem rd_T38_map (f:Int→S38) (x:List Int) (i:Int) (h0:0≤i) (h1:i<x.length):rd_T38 (x.map f) i=f (rd x i):=by
  unfold rd_T38 rd
  rw[List.getD_eq_getElem?_getD,List.getD_eq_getElem?_getD,List.getElem?_map,List.getElem?_eq_getElem (show i.toNat<x.length by omega)]
  rfl
theorem wh_range (x:List Int) (p:Int):-1≤wh x p∧wh x p<x.length:=by
  unfold wh
  have:=idxL_range x p
  split<;>omega
theorem OkH.move (h:OkH l0 l1 l2 l3) {x:List Int} (hg:GoodL l0.length x):OkH (moveL l0 l1 l2 l3 x).o (moveL l0 l1 l2 l3 x).r (moveL l0 l1 l2 l3 x).w (moveL l0 l1 l2 l3 x).d:=by
  have hl:=nodup_len _ _ hg
  have hm:((x.map fun p=>objOf x (rd_T38 l0 p)).length:Int)=x.length:=by rw[List.length_map]
  have hw:∀(l:List S60),(∀z∈l,wtB l0 z=true)→∀z∈movedW x l,wtB (x.map fun p=>objOf x (rd_T38 l0 p)) z=true:=fun l hl z hz=>by
    obtain⟨u,hu,rfl⟩:=List.mem_map.1 hz
    obtain⟨h1,h2⟩:=List.mem_filter.1 hu
    rw[Bool.and_eq_true,decide_eq_true_eq,decide_eq_true_eq]at h2
    have r0:=idxL_range x u.f0
    have r1:=idxL_range x u.f1
    refine wtB_mk (y:=u) ⟨h2.1,by rw[hm];exact r0.2⟩ ?_ ⟨h2.2,by rw[hm];exact r1.2⟩
    have e:=(idxL_get ((idxL_nonneg x u.f0).1 h2.1)).2.2
    show (rd_T38 (x.map _) (idxL x u.f0)).f0=4
    rw[rd_T38_map _ _ _ h2.1 r0.2,e]
    exact(wt_parts (hl u h1)).2.2.1
  refine⟨?_,?_,?_,fun z hz=>?_,fun q hq=>?_,hw _ h.ws,hw _ h.ds⟩
  · show (x.map _).length≤60
    rw[List.length_map];have:=h.n;omega
  · show (l1.map _).length≤8
    rw[List.length_map];exact h.r
  · show (movedW x l2).length+(movedW x l3).length≤20
    have h1:(movedW x l2).length≤l2.length:=by unfold movedW;rw[List.length_map];exact List.length_filter_le ..
    have h2:(movedW x l3).length≤l3.length:=by unfold movedW;rw[List.length_map];exact List.length_filter_le ..
    have:=h.w
    omega
  · show obB ((x.map _).length:Int) z=true
    rw[hm]
    obtain⟨p,hp,rfl⟩:=List.mem_map.1 hz
    have hp2:=hg.2 p hp
    refine obB_mk (ob_at h hp2.1 hp2.2) rfl rfl (List.length_map ..) (fun q hq=>?_)
    obtain⟨r,_,rfl⟩:=List.mem_map.1 hq
    exact wh_range x r
  · show -1≤q∧q<((x.map _).length:Int)
    rw[hm]
    obtain⟨r,_,rfl⟩:=List.mem_map.1 hq
    exact wh_range x r
end
theorem collect_ok (h:Hp):(collectB h).1.ok=true:=by
  unfold collectB
  by_cases c:h.ok=true
  · rw[if_pos c]
    have hk2:=tell_ok (h.w.length+1) (ok_parts c)
    exact(OkH.move hk2 (reach_good hk2)).b
  · rw[if_neg c];rfl
theorem part_range {h:Hp} (hk:OkH h.o h.r h.w h.d) (p a:Int) (hp:¬ partL h.o h.r p a<0):(0≤partL h.o h.r p a∧partL h.o h.r p a<h.o.length)∧0≤a∧a<(rd_T38 h.o (partL h.o h.r p a)).f2.length:=by
  have hr:=known_range hk p
  have e:partL h.o h.r p a=knownL h.r p∧0≤a∧a<(rd_T38 h.o (knownL h.r p)).f2.length:=by
    unfold partL at hp ⊢
    split
    · rename_i c;rw[if_pos c]at hp;exact absurd (by decide) hp
    · rename_i c;rw[if_neg c]at hp
      split
      · rename_i d;exact⟨rfl,d⟩
      · rename_i d;rw[if_neg d]at hp;exact absurd (by decide) hp
  rw[e.1]at hp ⊢
  exact⟨⟨by omega,hr.2⟩,e.2⟩
theorem ask_ok {h:Hp} (hk:OkH h.o h.r h.w h.d) (g:Int):(-1≤askP g h.d∧askP g h.d<h.o.length)∧(askL g h.d).length≤h.d.length∧∀z∈askL g h.d,z∈h.d:=by
  unfold askP askL
  cases e:askD g h.d with
  | none=>exact⟨⟨by simp,by simp;omega⟩,Nat.le_refl _,fun z hz=>hz⟩
  | some y=>
    obtain⟨⟨z,hz,e1,_⟩,h2,h3⟩:=askD_sub g h.d y e
    have:=wt_parts (hk.ds z hz)
    show (-1≤y.1∧y.1<_)∧y.2.length≤_∧∀z∈y.2,_
    rw[e1]
    exact⟨⟨by omega,this.2.2.2.2⟩,by omega,h2⟩
theorem isGuard_iffP (h:Hp) (p:Int):isGuard h p=true↔0≤p∧(rd_T38 h.o p).f0=4:=by
  unfold isGuard;rw[Bool.and_eq_true,decide_eq_true_eq,decide_eq_true_eq]
theorem do_ok {h:Hp} (hk:h.ok=true) (e:S40):(doB h e).1.ok=true:=by
  have hh:OkH h.o h.r h.w h.d:=ok_parts hk
  unfold doB
  split
  · unfold makesB
    split
    · split
      · exact hk
      · exact OkH.b (hh.pushO (by assumption) (by assumption) _)
    · exact hk
  split
  · unfold takesB
    split
    · exact hk
    · rename_i c
      obtain⟨h1,h2⟩:=part_range hh _ _ c
      exact OkH.b (hh.setR _ ((ob_parts (ob_at hh h1.1 h1.2)).1 _ (getD_mem _ 0 _ h2.1 h2.2)))
  split
  · unfold setsB
    split
    · exact hk
    · rename_i c
      obtain⟨h1,h2⟩:=part_range hh _ _ c
      exact OkH.b (hh.setRef h1.1 h1.2 _ (known_range hh _))
  split
  · exact OkH.b (hh.setR _ ⟨by omega,by omega⟩)
  split
  · unfold watchesB
    split
    · rename_i c
      split
      · exact hk
      · rename_i d
        have r1:=known_range hh e.f1
        have r2:=known_range hh e.f2
        have g:=(isGuard_iffP h _).1 c.1
        refine OkH.b ⟨hh.n,hh.r,by show (h.w++[_]).length+h.d.length≤20;rw[List.length_append,List.length_singleton];omega,hh.o,hh.rs,fun z hz=>?_,hh.ds⟩
        rcases List.mem_append.1 hz with hz|hz
        · exact hh.ws z hz
        · rw[List.mem_singleton.1 hz]
          exact wtB_mk (y:=z) ⟨g.1,r1.2⟩ g.2 ⟨c.2,r2.2⟩
    · exact hk
  split
  · unfold asksB
    split
    · obtain⟨h1,h2,h3⟩:=ask_ok hh (knownL h.r e.f2)
      have:=hh.setR e.f1.toNat h1
      exact OkH.b ⟨this.n,this.r,by have:=hh.w;show h.w.length+(askL (knownL h.r e.f2) h.d).length≤20;omega,this.o,this.rs,this.ws,fun z hz=>hh.ds z (h3 z hz)⟩
    · exact hk
  split
  · exact collect_ok h
  · exact hk
end Go.Proofs.YtigjhfijkdlldaaDoor.H
end
section
namespace Go.Proofs.YtigjhfijkdlldaaDoor.H
open Go.RowKit Go.Proofs.YtigjhfijkdlldaaDoorW.PrintWords Go.Proofs.YtigjhfijkdlldaaDoorW.PrintLast Go.Proofs.YtigjhfijkdlldaaDoorW.PrintMore Go.Proofs.YtigjhfijkdlldaaDoor.Q
set_option linter.unusedVariables false
section
variable {l0:List S38} {l1:List Int} {l2 l3:List S60}
end
theorem step_ok (h:Hp) (e:S40):(stepB h e).1.ok=true:=by
  unfold stepB
  by_cases c:h.ok=true
  · rw[if_pos c]
    split
    · exact do_ok c e
    · exact c
  · rw[if_neg c];rfl
end Go.Proofs.YtigjhfijkdlldaaDoor.H
end
section
namespace Go.Proofs.YtigjhfijkdlldaaDoor.H
open Go.RowKit Go.Proofs.YtigjhfijkdlldaaDoorW.PrintWords Go.Proofs.YtigjhfijkdlldaaDoorW.PrintLast Go.Proofs.YtigjhfijkdlldaaDoorW.PrintMore Go.Proofs.YtigjhfijkdlldaaDoor.Q
set_option linter.unusedVariables false
set_option linter.unusedSimpArgs false
section
variable {w:World} {A0 A1 A2 A3:Option Addr} {c0 c1 c2 c3:Nat} {l0:List S38} {l1:List Int} {l2 l3:List S60}
theorem root_c {p:Int} (h:InH w A0 c0 A1 c1 A2 c2 A3 c3 l0 l1 l2 l3) (hr:l1.length≤8):Calls Tryd.prog 36 #[.agg #[.slice A0 l0.length c0,.slice A1 l1.length c1,.slice A2 l2.length c2,.slice A3 l3.length c3],.int .i64 p] w fun e w'=>e=.returned (.int .i64 (knownL l1 p))∧Below w.heap.size w w':=by
  have HB:=AK (show Below w.heap.size w (w.alloc (.cells #[.slice A0 l0.length c0,.slice A1 l1.length c1,.slice A2 l2.length c2,.slice A3 l3.length c3] 33 (0,0)))∧(w.alloc (.cells #[.slice A0 l0.length c0,.slice A1 l1.length c1,.slice A2 l2.length c2,.slice A3 l3.length c3] 33 (0,0))).heap[w.heap.size]?=some (.cells #[.slice A0 l0.length c0,.slice A1 l1.length c1,.slice A2 l2.length c2,.slice A3 l3.length c3] 33 (0,0))from⟨below_alloc (Below.refl _ _) _,blk_new w _⟩)
  have HI:=AK (h.r1)
  have HW:=AK (show wrap64 ((l1.length:Int) - 1)=l1.length - 1 by unfold wrap64;omega)
  obtain⟨r,er⟩:∃r,r=knownL l1 p:=⟨_,rfl⟩
  rw[←er]
  unfold knownL at er
  clear h hr
  go_enter Tryd.func36,Tryd.ntmps36
  go_wp2_with fail
  generalize (w.alloc (.cells #[.slice A0 l0.length c0,.slice A1 l1.length c1,.slice A2 l2.length c2,.slice A3 l3.length c3] 33 (0,0)))=w1 at HB ⊢
  obtain⟨p0,p1,p2,p3⟩:=box4 HB.out.2
  rw[HW.out]
  refine(l1In_c (p:=p) (a:=0) (b:=l1.length - 1)).mono ?_
  rintro e w2 ⟨rfl,rfl⟩
  by_cases d:0≤p∧p<l1.length
  · rw[if_pos d]at er
    rw[show lB p 0 (l1.length - 1)=true by unfold lB;rw[deT d.1,deT (show p≤(l1.length:Int) - 1 by omega)];rfl]
    obtain⟨ad,e1,hq⟩:=Kd.at_int (Kd.C_below HI.out HB.out.1) p d.1 d.2
    subst e1
    rw[←er]at hq
    have h0:=eq_true d.1
    have h1:=eq_true d.2
    clear er d
    go_wp2
    go_ret
    exact⟨rfl,HB.out.1⟩
  · rw[if_neg d]at er
    rw[show lB p 0 (l1.length - 1)=false by
      unfold lB
      by_cases a:0≤p
      · rw[deF (show ¬ p≤(l1.length:Int) - 1 by omega)];simp
      · rw[deF a];rfl]
    subst er
    clear d
    go_wp2
    go_ret
    exact⟨rfl,HB.out.1⟩
theorem part_c {p a:Int} (h:InH w A0 c0 A1 c1 A2 c2 A3 c3 l0 l1 l2 l3) (hk:OkH l0 l1 l2 l3):Calls Tryd.prog 34 #[.agg #[.slice A0 l0.length c0,.slice A1 l1.length c1,.slice A2 l2.length c2,.slice A3 l3.length c3],.int .i64 p,.int .i64 a] w fun e w'=>e=.returned (.int .i64 (partL l0 l1 p a))∧Below w.heap.size w w':=by
  have HB:=AK (show Below w.heap.size w (w.alloc (.cells #[.slice A0 l0.length c0,.slice A1 l1.length c1,.slice A2 l2.length c2,.slice A3 l3.length c3] 33 (0,0)))∧(w.alloc (.cells #[.slice A0 l0.length c0,.slice A1 l1.length c1,.slice A2 l2.length c2,.slice A3 l3.length c3] 33 (0,0))).heap[w.heap.size]?=some (.cells #[.slice A0 l0.length c0,.slice A1 l1.length c1,.slice A2 l2.length c2,.slice A3 l3.length c3] 33 (0,0))from⟨below_alloc (Below.refl _ _) _,blk_new w _⟩)
  have HI:=AK h
  have HK:=AK hk
  obtain⟨r,er⟩:∃r,r=partL l0 l1 p a:=⟨_,rfl⟩
  rw[←er]
  unfold partL at er
  have hr:=known_range hk p
  clear h hk
  go_enter Tryd.func34,Tryd.ntmps34
  go_wp2_with fail
  generalize (w.alloc (.cells #[.slice A0 l0.length c0,.slice A1 l1.length c1,.slice A2 l2.length c2,.slice A3 l3.length c3] 33 (0,0)))=w1 at HB ⊢
  refine(root_c (HI.out.below HB.out.1) HK.out.r).mono ?_
  rintro e w2 ⟨rfl,hb⟩
  replace HB:=AK (And.intro (bst HB.out.1 hb) (bbl HB.out.2 hb))
  clear hb
  obtain⟨q,eq⟩:∃q,q=knownL l1 p:=⟨_,rfl⟩
  rw[←eq]at er hr ⊢
  clear eq
  obtain⟨p0,p1,p2,p3⟩:=box4 HB.out.2
  by_cases d:q<0
  · rw[if_pos d]at er
    have d1:decide (q<0)=true:=deT d
    subst er
    clear d hr
    go_wp2
    go_ret
    exact⟨rfl,HB.out.1⟩
  · rw[if_neg d]at er
    have d1:decide (q<0)=false:=deF d
    have HL:=AK (show (rd_T38 l0 q).f2.length≤6 by rcases(ob_parts (ob_at HK.out (by omega) hr.2)).2.2 with⟨_,b⟩|⟨_,b⟩|⟨_,b⟩|⟨_,b⟩<;>first|omega|(rw[b];exact Nat.zero_le _))
    obtain⟨ad,P,cp,e1,x0,x1,x2,_,_⟩:=at_T38 (Kd.C_below HI.out.r0 HB.out.1) q (by omega) hr.2
    subst e1
    obtain⟨n,en⟩:∃n,n=(rd_T38 l0 q).f2.length:=⟨_,rfl⟩
    rw[←en]at x2 HL er
    have h0:=eq_true (show 0≤q by omega)
    have h1:=eq_true hr.2
    have HW:=AK (show wrap64 ((n:Int) - 1)=n - 1 by have:=HL.out;unfold wrap64;omega)
    clear d hr en x0 x1
    go_wp2_with fail
    rw[HW.out]
    refine(l1In_c (p:=a) (a:=0) (b:=(n:Int) - 1)).mono ?_
    rintro e w3 ⟨rfl,rfl⟩
    by_cases d:0≤a∧a<n
    · rw[if_pos d]at er
      rw[show lB a 0 ((n:Int) - 1)=true by unfold lB;rw[deT d.1,deT (show a≤(n:Int) - 1 by omega)];rfl]
      subst er
      clear d
      go_wp2
      go_ret
      exact⟨rfl,HB.out.1⟩
    · rw[if_neg d]at er
      rw[show lB a 0 ((n:Int) - 1)=false by
        unfold lB
        by_cases a':0≤a
        · rw[deF (show ¬ a≤(n:Int) - 1 by omega)];simp
        · rw[deF a'];rfl]
      subst er
      clear d
      go_wp2
      go_ret
      exact⟨rfl,HB.out.1⟩
set_option maxRecDepth 100000 in
theorem sees_c {p:Int} (h:InH w A0 c0 A1 c1 A2 c2 A3 c3 l0 l1 l2 l3) (hp:p<l0.length) (hl:0≤p→(rd_T38 l0 p).f2.length≤6) :
    Calls Tryd.prog 35 #[.agg #[.slice A0 l0.length c0,.slice A1 l1.length c1,.slice A2 l2.length c2,.slice A3 l3.length c3],.int .i64 p] w fun e w'=>e=.returned (.string (seesB l0 p))∧Below w.heap.size w w':=by
  have HI:=AK h.r0
  clear h
  obtain⟨r,er⟩:∃r,r=seesB l0 p:=⟨_,rfl⟩
  rw[←er]
  by_cases a:p<0
  case pos=>
    have a1:decide (p<0)=true:=deT a
    have e:r=sNone:=by rw[er];unfold seesB;exact if_pos a
    subst e
    clear er a hl hp
    go_enter Tryd.func35,Tryd.ntmps35
    go_wp2
    go_ret
    exact⟨rfl,below_alloc (Below.refl _ _) _⟩
  have a1:decide (p<0)=false:=deF a
  obtain⟨ad,Af,cf,ea,ha0,ha1,ha2,_,_⟩:=at_T38 HI.out p (by omega) hp
  subst ea
  have h0:=eq_true (show 0≤p by omega)
  have h1:=eq_true hp
  have h6:=hl (by omega)
  have es:r=if(rd_T38 l0 p).f0=1 then(rd_T38 l0 p).f1 else if(rd_T38 l0 p).f0=2 then sCell++strOfNums [48+((rd_T38 l0 p).f2.length:Int)]else if(rd_T38 l0 p).f0=3 then sWeak else sGuard:=by rw[er];unfold seesB;exact if_neg a
  obtain⟨z,ez⟩:∃z,z=rd_T38 l0 p:=⟨_,rfl⟩
  rw[←ez]at ha0 ha1 ha2 es h6
  obtain⟨k,hk⟩:∃k,k=z.f2.length:=⟨_,rfl⟩
  rw[←hk]at ha2 es h6
  clear hk
  have hb:=below_alloc (Below.refl w.heap.size w) (.cells #[.slice (some ad) l0.length c0,.slice A1 l1.length c1,.slice A2 l2.length c2,.slice A3 l3.length c3] 33 (0,0))
  have HB:=AK hb
  have HX:=AK (blk_new w (.cells #[.slice (some ad) l0.length c0,.slice A1 l1.length c1,.slice A2 l2.length c2,.slice A3 l3.length c3] 33 (0,0)))
  replace ha0:=pcb hb ha0
  replace ha1:=pcb hb ha1
  replace ha2:=pcb hb ha2
  clear ez er a hl hp HI hb
  go_enter Tryd.func35,Tryd.ntmps35
  go_upto_region 3 with fail
  generalize (w.alloc (.cells #[.slice (some ad) l0.length c0,.slice A1 l1.length c1,.slice A2 l2.length c2,.slice A3 l3.length c3] 33 (0,0)))=w1 at HB HX ha0 ha1 ha2 ⊢
  have hx:=(box4 HX.out).1
  clear HX
  by_cases k1:z.f0=1
  case pos=>
    have f1:(z.f0 == 1)=true:=beq_iff_eq.mpr k1
    rw[if_pos k1]at es
    subst es
    clear k1 h6
    go_wp2
    go_ret
    exact⟨rfl,below_alloc HB.out _⟩
  have f1:(z.f0 == 1)=false:=beq_eq_false_iff_ne.mpr k1
  rw[if_neg k1]at es
  clear k1
  by_cases k2:z.f0=2
  case pos=>
    have f2:(z.f0 == 2)=true:=beq_iff_eq.mpr k2
    rw[if_pos k2]at es
    clear k2
    have hy:[wrap64 (48+(k:Int)) % 256]=[48+(k:Int)]:=by rw[show wrap64 (48+(k:Int)) % 256=48+k by unfold wrap64;omega]
    have hsz:(strOfNums [48+(k:Int)]).size=1:=by rw[strOfNums_size];rfl
    obtain⟨y,ey⟩:∃y,y=[wrap64 (48+(k:Int)) % 256]:=⟨_,rfl⟩
    rw[←hy,←ey]at es hsz
    have EY:=AK ey
    have c0:=eq_true (show 8+(strOfNums y).size≤9223372036854775807 by omega)
    have c1:decide (8+(strOfNums y).size≤9223372036854775807)=true:=deT (by omega)
    have c2:=eq_false (show ¬ 9223372036854775807<8+(strOfNums y).size by omega)
    subst es
    clear h6 hy hsz ey
    go_wp2_with ((with_reducible refine gate_dst (N:=26) rfl ?_);refine Kd.R_lit (Kd.int .u8) _ 5 ?hg (N:=26) ?hd (xs:=([wrap64 (48+(k:Int)) % 256]:List Int)) (inner:=[.int .u8 (wrap64 (48+(k:Int)) % 256)]) (ok:=fun _=>True) (okp:=fun _=>True) ?hr ?hp (fun _ hk=>hk) trivial (Below.refl _ _) (Nat.le_refl _) (by simp) ?_;(case hd=>rfl);(case hg=>rfl);(case hr=>first|(go_simp;done)|(go_simp;rfl));(case hp=>exact(Reps.one (show Kd.M (Kd.int .u8) _ _ _ (wrap64 (48+(k:Int)) % 256) [.int .u8 (wrap64 (48+(k:Int)) % 256)]from rfl) (Reps.none _ _)));intro v26 w6 ho hb hg hn;rw[←EY.out]at ho;have HB6:=AK (bst (below_alloc HB.out _) hb);have HO6:=AK ho;clear hb ho hg hn;have hcv:=own_string (P:=Tryd.prog) Tryd.underlying24 Tryd.underlying5 Tryd.underlying9 (Kd.own_of_R HO6.out))
    go_ret
    exact⟨rfl,HB6.out⟩
  have f2:(z.f0 == 2)=false:=beq_eq_false_iff_ne.mpr k2
  rw[if_neg k2]at es
  clear k2 h6
  by_cases k3:z.f0=3
  case pos=>
    have f3:(z.f0 == 3)=true:=beq_iff_eq.mpr k3
    rw[if_pos k3]at es
    subst es
    clear k3
    go_wp2
    go_ret
    exact⟨rfl,below_alloc HB.out _⟩
  have f3:(z.f0 == 3)=false:=beq_eq_false_iff_ne.mpr k3
  rw[if_neg k3]at es
  subst es
  clear k3
  go_wp2
  go_ret
  exact⟨rfl,below_alloc HB.out _⟩
end
end Go.Proofs.YtigjhfijkdlldaaDoor.H
end
section
namespace Go.Proofs.YtigjhfijkdlldaaDoor.H
open Go.RowKit Go.Proofs.YtigjhfijkdlldaaDoorW.PrintWords Go.Proofs.YtigjhfijkdlldaaDoorW.PrintLast Go.Proofs.YtigjhfijkdlldaaDoorW.PrintMore Go.Proofs.YtigjhfijkdlldaaDoor.Q
set_option linter.unusedVariables false
def hpC (A0:Option Addr) (c0:Nat) (A1:Option Addr) (c1:Nat) (A2:Option Addr) (c2:Nat) (A3:Option Addr) (c3:Nat) (G:Hp):Array Value:=#[.slice A0 G.o.length c0,.slice A1 G.r.length c1,.slice A2 G.w.length c2,.slice A3 G.d.length c3]
def evC (e:S40) (A6:Option Addr) (c6:Nat):Array Value:=#[.int .i64 e.f0,.int .i64 e.f1,.int .i64 e.f2,.int .i64 e.f3,.int .i64 e.f4.f0,.string e.f4.f1,.slice A6 e.f4.f2.length c6]
def nilC:Array Value:=#[.slice none 0 0,.slice none 0 0,.slice none 0 0,.slice none 0 0]
abbrev OwnG (w:World) (base:Nat) (A0:Option Addr) (c0:Nat) (A1:Option Addr) (c1:Nat) (A2:Option Addr) (c2:Nat) (A3:Option Addr) (c3:Nat) (G:Hp):Prop:=OwnH w base A0 c0 A1 c1 A2 c2 A3 c3 G.o G.r G.w G.d
def Keeps (w w':World):Prop:=∀(j:Nat) (cs:Array Value) (t:TypeId),w.heap[j]?=some (Obj.cells cs t (0,0))→t≠3→t≠35→t≠71→w'.heap[j]?=some (Obj.cells cs t (0,0))
structure WK (v w0:World) (n:Nat) (A0:Option Addr) (c0:Nat) (A1:Option Addr) (c1:Nat) (A2:Option Addr) (c2:Nat) (A3:Option Addr) (c3:Nat) (G:Hp) (e:S40) (A6:Option Addr) (c6:Nat) (w':World):Prop where
  b:Below v.heap.size v w'
  n0:v.heap.size≤n
  n1:w0.heap.size≤n
  k:Keeps w0 w'
  h:w'.heap[n]?=some (.cells (hpC A0 c0 A1 c1 A2 c2 A3 c3 G) 33 (0,0))
  e:w'.heap[n+1]?=some (.cells (evC e A6 c6) 37 (0,0))
  o:w'.heap[n+2]?=some (.cells nilC 33 (0,0))
  own:OwnG w' v.heap.size A0 c0 A1 c1 A2 c2 A3 c3 G
section
variable {v w0 w w1:World} {n base:Nat} {A0 A1 A2 A3 A6:Option Addr} {c0 c1 c2 c3 c6:Nat} {G:Hp} {e:S40} {l0:List S38} {l1:List Int} {l2 l3:List S60}
theorem WK.below (h:WK v w0 n A0 c0 A1 c1 A2 c2 A3 c3 G e A6 c6 w) (hb:Below w.heap.size w w1):WK v w0 n A0 c0 A1 c1 A2 c2 A3 c3 G e A6 c6 w1:=
  ⟨bst h.b hb,h.n0,h.n1,fun j cs t h1 a b c=>bbl (h.k j cs t h1 a b c) hb,bbl h.h hb,bbl h.e hb,bbl h.o hb,h.own.below hb⟩
theorem OwnH.set4 (h:OwnH w base A0 c0 A1 c1 A2 c2 A3 c3 l0 l1 l2 l3) {g:Nat} {cs:Array Value} {p q r s:Value} (hb:w.heap[g]?=some (.cells cs 33 (0,0))):OwnH (H.set4 w g p q r s) base A0 c0 A1 c1 A2 c2 A3 c3 l0 l1 l2 l3:=
  ⟨set4_S h.s0 hb,set4_R h.s1 hb (int_ap 33 (by decide)),set4_R h.s2 hb (k60_ap 33 (by decide)),set4_R h.s3 hb (k60_ap 33 (by decide))⟩
theorem WK.start (hB:Below v.heap.size v w) (hO:OwnG w v.heap.size A0 c0 A1 c1 A2 c2 A3 c3 G) (e:S40) (A6:Option Addr) (c6:Nat) :
    WK v w w.heap.size A0 c0 A1 c1 A2 c2 A3 c3 G e A6 c6 (((w.alloc (.cells (hpC A0 c0 A1 c1 A2 c2 A3 c3 G) 33 (0,0))).alloc (.cells (evC e A6 c6) 37 (0,0))).alloc (.cells nilC 33 (0,0))):=by
  have hb:=below_alloc (below_alloc (below_alloc (Below.refl w.heap.size w) (.cells (hpC A0 c0 A1 c1 A2 c2 A3 c3 G) 33 (0,0))) (.cells (evC e A6 c6) 37 (0,0))) (.cells nilC 33 (0,0))
  refine⟨bst hB hb,hB.size,Nat.le_refl _,fun j cs t h1 _ _ _=>bbl h1 hb,blk_alloc (blk_alloc (blk_new w _) _) _,blk_alloc ?_ _,?_,hO.below hb⟩
  · have:=blk_new (w.alloc (.cells (hpC A0 c0 A1 c1 A2 c2 A3 c3 G) 33 (0,0))) (.cells (evC e A6 c6) 37 (0,0))
    rwa [show (w.alloc (.cells (hpC A0 c0 A1 c1 A2 c2 A3 c3 G) 33 (0,0))).heap.size=w.heap.size+1 from Array.size_push ..]at this
  · have:=blk_new ((w.alloc (.cells (hpC A0 c0 A1 c1 A2 c2 A3 c3 G) 33 (0,0))).alloc (.cells (evC e A6 c6) 37 (0,0))) (.cells nilC 33 (0,0))
    rwa [show ((w.alloc (.cells (hpC A0 c0 A1 c1 A2 c2 A3 c3 G) 33 (0,0))).alloc (.cells (evC e A6 c6) 37 (0,0))).heap.size=w.heap.size+2 by
      rw[show ((w.alloc (.cells (hpC A0 c0 A1 c1 A2 c2 A3 c3 G) 33 (0,0))).alloc (.cells (evC e A6 c6) 37 (0,0))).heap.size=(w.alloc (.cells (hpC A0 c0 A1 c1 A2 c2 A3 c3 G) 33 (0,0))).heap.size+1 from Array.size_push ..,show (w.alloc (.cells (hpC A0 c0 A1 c1 A2 c2 A3 c3 G) 33 (0,0))).heap.size=w.heap.size+1 from Array.size_push ..]]at this
theorem WK.hc (h:WK v w0 n A0 c0 A1 c1 A2 c2 A3 c3 G e A6 c6 w):w.cell? ⟨n,0,none⟩=some (.slice A0 G.o.length c0)∧w.cell? ⟨n,1,none⟩=some (.slice A1 G.r.length c1)∧w.cell? ⟨n,2,none⟩=some (.slice A2 G.w.length c2)∧w.cell? ⟨n,3,none⟩=some (.slice A3 G.d.length c3):=box4 h.h
theorem WK.ec (h:WK v w0 n A0 c0 A1 c1 A2 c2 A3 c3 G e A6 c6 w):w.cell? ⟨n+1,0,none⟩=some (.int .i64 e.f0)∧w.cell? ⟨n+1,1,none⟩=some (.int .i64 e.f1)∧w.cell? ⟨n+1,2,none⟩=some (.int .i64 e.f2)∧w.cell? ⟨n+1,3,none⟩=some (.int .i64 e.f3)∧w.cell? ⟨n+1,4,none⟩=some (.int .i64 e.f4.f0)∧w.cell? ⟨n+1,5,none⟩=some (.string e.f4.f1)∧w.cell? ⟨n+1,6,none⟩=some (.slice A6 e.f4.f2.length c6):=
  ⟨(bcl h.e 0).trans rfl,(bcl h.e 1).trans rfl,(bcl h.e 2).trans rfl,(bcl h.e 3).trans rfl,(bcl h.e 4).trans rfl,(bcl h.e 5).trans rfl,(bcl h.e 6).trans rfl⟩
theorem WK.oc (h:WK v w0 n A0 c0 A1 c1 A2 c2 A3 c3 G e A6 c6 w):w.cell? ⟨n+2,0,none⟩=some (.slice none 0 0)∧w.cell? ⟨n+2,1,none⟩=some (.slice none 0 0)∧w.cell? ⟨n+2,2,none⟩=some (.slice none 0 0)∧w.cell? ⟨n+2,3,none⟩=some (.slice none 0 0):=box4 h.o
theorem WK.of (h:WK v w0 n A0 c0 A1 c1 A2 c2 A3 c3 G e A6 c6 w) (j:Nat):w.frozen? ⟨n+2,j,none⟩=false:=bfz h.o j
theorem WK.hf (h:WK v w0 n A0 c0 A1 c1 A2 c2 A3 c3 G e A6 c6 w) (j:Nat):w.frozen? ⟨n,j,none⟩=false:=bfz h.h j
theorem WK.fin (h:WK v w0 n A0 c0 A1 c1 A2 c2 A3 c3 G e A6 c6 w) {p q r s:Value}:OwnG (H.set4 w (n+2) p q r s) v.heap.size A0 c0 A1 c1 A2 c2 A3 c3 G∧Below v.heap.size v (H.set4 w (n+2) p q r s)∧(H.set4 w (n+2) p q r s).heap[n+2]?=some (.cells #[p,q,r,s] 33 (0,0))∧Keeps w0 (H.set4 w (n+2) p q r s):=
  ⟨h.own.set4 h.o,set4_below h.b (by have:=h.n0;omega),set4_blk h.o,fun j cs t h1 a b c=>set4_far (h.k j cs t h1 a b c) (by have h2:=blk_lt h1;have h3:=h.n1;omega)⟩
theorem isGuard_iff (h:Hp) (p:Int):isGuard h p=true↔0≤p∧(rd_T38 h.o p).f0=4:=by
  unfold isGuard;rw[Bool.and_eq_true,decide_eq_true_eq,decide_eq_true_eq]
theorem WK.pushW (K:WK v w0 n A0 c0 A1 c1 A2 c2 A3 c3 G e A6 c6 w) {W2:List S60} {B:Option Addr} {c:Nat} (hr:Kd.R k60 71 w1 v.heap.size (fun k=>some k≠(Value.slice A3 G.d.length c3).ownBlock) (.slice B W2.length c) W2)
    (hb:Below v.heap.size v w1) (hg:w.grownBy w1 (Value.slice A2 G.w.length c2).ownBlock) (hat:(Value.slice B W2.length c).ownBlock=(Value.slice A2 G.w.length c2).ownBlock∨∃b,(Value.slice B W2.length c).ownBlock=some b∧w.heap.size≤b) :
    WK v w0 n A0 c0 A1 c1 B c A3 c3 ⟨G.o,G.r,W2,G.d⟩ e A6 c6 (w1.setCell ⟨n,2,none⟩ (.slice B W2.length c)):=by
  have hh:=blk_grown K.h hg (Kd.R_ne K.own.s2 K.h (by decide))
  have he:=blk_grown K.e hg (Kd.R_ne K.own.s2 K.e (by decide))
  have ho:=blk_grown K.o hg (Kd.R_ne K.own.s2 K.o (by decide))
  have hty:=Kd.R_typed K.own.s2
  refine⟨below_set hb K.n0,K.n0,K.n1,fun j cs t h1 a b c=>blk_far (blk_grown (K.k j cs t h1 a b c) hg (Kd.R_ne K.own.s2 (K.k j cs t h1 a b c) (fun e=>c e.symm))) (p:=⟨n,2,none⟩) (by have h2:=blk_lt h1;have h3:=K.n1;show j≠n;omega) _,blk_put hh 2 _ rfl,blk_far he (p:=⟨n,2,none⟩) (by show n+1≠n;omega) _,blk_far ho (p:=⟨n,2,none⟩) (by show n+2≠n;omega) _,?_⟩
  refine⟨Kd.S_set (Kd.S_over' K.own.s0 hty (by decide) hg) hh (k38_ap 33 (by decide) (by decide)) 2 _,Kd.R_set (Kd.R_over' K.own.s1 hty (by decide) hg) hh (int_ap 33 (by decide)) 2 _,Kd.R_set hr hh (k60_ap 33 (by decide)) 2 _,Kd.R_set ?_ hh (k60_ap 33 (by decide)) 2 _⟩
  refine Kd.R_mono (Kd.R_step (Kd.R_bound K.own.s3) (fun k hk hl=>hg.block k hl hk.1)) (fun k hk e=>?_)
  rcases hat with h1|⟨b,h1,h2⟩
  · exact hk.1 (e.trans h1)
  · rw[h1]at e;injection e with e;have:=hk.2.2.1;omega
end
end Go.Proofs.YtigjhfijkdlldaaDoor.H
end
section
namespace Go.Proofs.YtigjhfijkdlldaaDoor.H
open Go.RowKit Go.Proofs.YtigjhfijkdlldaaDoorW.PrintWords Go.Proofs.YtigjhfijkdlldaaDoorW.PrintLast Go.Proofs.YtigjhfijkdlldaaDoorW.PrintMore Go.Proofs.YtigjhfijkdlldaaDoor.Q
set_option linter.unusedVariables false
section
variable {v w0 w w1:World} {n base b:Nat} {A0 A1 A2 A3 A6:Option Addr} {c0 c1 c2 c3 c6:Nat} {G:Hp} {e:S40} {l0:List S38} {l1:List Int} {l2 l3:List S60}
theorem WK.setR (K:WK v w0 n A0 c0 (some ⟨b,0,none⟩) c1 A2 c2 A3 c3 G e A6 c6 w) (i:Int) (h0:0≤i) (h1:i<G.r.length) (p:Int) {r2:List Int} (hr:r2=G.r.set i.toNat p) :
    WK v w0 n A0 c0 (some ⟨b,0,none⟩) c1 A2 c2 A3 c3 ⟨G.o,r2,G.w,G.d⟩ e A6 c6 (w.setCell ⟨b,i.toNat,none⟩ (.int .i64 p)):=by
  have hl:r2.length=G.r.length:=by rw[hr,List.length_set]
  obtain⟨cells,hc⟩:=Kd.R_typed K.own.s1 b rfl
  have hb:=Kd.R_base K.own.s1 b rfl
  refine⟨below_set K.b hb,K.n0,K.n1,fun j cs t h1 x y z=>blk_far (K.k j cs t h1 x y z) (p:=⟨b,i.toNat,none⟩) (blk_ne (K.k j cs t h1 x y z) hc x) _,?_,blk_far K.e (p:=⟨b,i.toNat,none⟩) (blk_ne K.e hc (by decide)) _,blk_far K.o (p:=⟨b,i.toNat,none⟩) (blk_ne K.o hc (by decide)) _,?_⟩
  · have:=blk_far K.h (p:=⟨b,i.toNat,none⟩) (blk_ne K.h hc (by decide)) (.int .i64 p)
    unfold hpC at this ⊢
    show _=some (Obj.cells #[_,.slice _ r2.length _,_,_] 33 (0,0))
    rw[hl];exact this
  · have e1:=RI_set K.own.s1 i h0 h1 p
    rw[←hr,←hl]at e1
    refine⟨?_,e1,Kd.R_set K.own.s2 hc (k60_ap 3 (by decide)) _ _,Kd.R_set K.own.s3 hc (k60_ap 3 (by decide)) _ _⟩
    show Kd.S k38 35 _ _ (fun k=>some k≠(Value.slice _ r2.length _).ownBlock) _ _
    rw[hl]
    exact Kd.S_far (p:=⟨b,i.toNat,none⟩) K.own.s0 (fun k hk e=>hk (by rw[show k=b from e];rfl)) _
theorem WK.newD (K:WK v w0 n A0 c0 A1 c1 A2 c2 A3 c3 G e A6 c6 w) {D:List S60} {B:Option Addr} {c:Nat} (hb:Below w.heap.size w w1) (hr:Kd.R k60 71 w1 w.heap.size (fun _=>True) (.slice B D.length c) D) :
    WK v w0 n A0 c0 A1 c1 A2 c2 B c ⟨G.o,G.r,G.w,D⟩ e A6 c6 (w1.setCell ⟨n,3,none⟩ (.slice B D.length c)):=by
  have K1:=K.below hb
  refine⟨below_set K1.b K.n0,K.n0,K.n1,fun j cs t h1 x y z=>blk_far (K1.k j cs t h1 x y z) (p:=⟨n,3,none⟩) (by have h2:=blk_lt h1;have h3:=K.n1;show j≠n;omega) _,blk_put K1.h 3 _ rfl,blk_far K1.e (p:=⟨n,3,none⟩) (by show n+1≠n;omega) _,blk_far K1.o (p:=⟨n,3,none⟩) (by show n+2≠n;omega) _,?_⟩
  refine⟨Kd.S_set K1.own.s0 K1.h (k38_ap 33 (by decide) (by decide)) 3 _,Kd.R_set K1.own.s1 K1.h (int_ap 33 (by decide)) 3 _,Kd.R_mono (Kd.R_set (Kd.R_mono (Kd.R_below (Kd.R_bound K.own.s2) hb) (ok':=fun k=>k<w.heap.size) (fun k hk=>hk.2.2.1)) K1.h (k60_ap 33 (by decide)) 3 _) (fun k hk e=>?_),Kd.R_mono (Kd.R_set (Kd.R_lower (base':=v.heap.size) (Kd.R_mono (Kd.R_bound hr) (ok':=fun k=>w.heap.size≤k) (fun k hk=>hk.2.1)) K.b.size) K1.h (k60_ap 33 (by decide)) 3 _) (fun k hk e=>?_)⟩
  · have h1:=Kd.R_base hr k e.symm
    have h2:k<w.heap.size:=hk
    omega
  · have h1:=Kd.R_lt K.own.s2 k e.symm
    have h2:w.heap.size≤k:=hk
    omega
theorem WK.setRef {g0 g6 m c':Nat} (K:WK v w0 n (some ⟨g0,0,none⟩) c0 A1 c1 A2 c2 A3 c3 G e A6 c6 w) (k a:Int) (hk0:0≤k) (hk1:k<G.o.length) (ha0:0≤a) (ha1:a<(rd_T38 G.o k).f2.length)
    (hc:w.cell? ⟨g0,k.toNat*3+2,none⟩=some (.slice (some ⟨g6,0,none⟩) m c')) (p:Int) {o2:List S38} (ho:o2=G.o.set k.toNat (putRef (rd_T38 G.o k) a p)) :
    w.frozen? ⟨g6,a.toNat,none⟩=false∧WK v w0 n (some ⟨g0,0,none⟩) c0 A1 c1 A2 c2 A3 c3 ⟨o2,G.r,G.w,G.d⟩ e A6 c6 (w.setCell ⟨g6,a.toNat,none⟩ (.int .i64 p)):=by
  have hl:o2.length=G.o.length:=by rw[ho,List.length_set]
  obtain⟨oki,ce,hcl,hM,hcc,hfr,hoki,hH⟩:=Kd.S_elem K.own.s0 z38 k hk0 hk1
  obtain⟨sv,rfl,hR⟩:=k38_openM hM
  have h2:w.cell? ⟨g0,k.toNat*3+2,none⟩=some sv:=hcc 2 _ rfl
  rw[hc]at h2
  injection h2 with h2
  subst h2
  have hm:m=(rd_T38 G.o k).f2.length:=(Kd.R_reads' hR).1
  subst hm
  have hz:=RI_at hR a ha0 ha1
  obtain⟨cells,hb6⟩:=Kd.R_typed hR g6 rfl
  have hb:=Kd.R_base hR g6 rfl
  have h6:=hoki g6 (hR.1 g6 rfl)
  refine⟨hz.2,below_set K.b hb,K.n0,K.n1,fun j cs t h1 x y z=>blk_far (K.k j cs t h1 x y z) (p:=⟨g6,a.toNat,none⟩) (blk_ne (K.k j cs t h1 x y z) hb6 x) _,?_,blk_far K.e (p:=⟨g6,a.toNat,none⟩) (blk_ne K.e hb6 (by decide)) _,blk_far K.o (p:=⟨g6,a.toNat,none⟩) (blk_ne K.o hb6 (by decide)) _,?_⟩
  · have:=blk_far K.h (p:=⟨g6,a.toNat,none⟩) (blk_ne K.h hb6 (by decide)) (.int .i64 p)
    unfold hpC at this ⊢
    show _=some (Obj.cells #[.slice _ o2.length _,_,_,_] 33 (0,0))
    rw[hl];exact this
  · have e1:=RI_set hR a ha0 ha1 p
    have hM2:k38.M (w.setCell ⟨g6,a.toNat,none⟩ (.int .i64 p)) v.heap.size oki (putRef (rd_T38 G.o k) a p) [.int .i64 (rd_T38 G.o k).f0,.string (rd_T38 G.o k).f1,.slice (some ⟨g6,0,none⟩) (rd_T38 G.o k).f2.length c']:=
      k38_mkM _ _ _ (putRef (rd_T38 G.o k) a p) e1
    have hs:=Kd.H_back (Kd.H_step (w1:=w.setCell ⟨g6,a.toNat,none⟩ (.int .i64 p)) hH (fun j _ hn _=>Below.heap_setCell w ⟨g6,a.toNat,none⟩ _ j (fun e=>hn (by rw[show j=g6 from e];exact hR.1 g6 rfl)))) hM2 (fun _ hk=>hk)
    rw[←ho]at hs
    refine⟨?_,Kd.R_mono (Kd.R_far (p:=⟨g6,a.toNat,none⟩) (Kd.R_tight rfl K.own.s1) (fun j hj e=>h6.1 (by rw[←show j=g6 from e];exact hj)) _) (fun _ _=>trivial),Kd.R_set K.own.s2 hb6 (k60_ap 3 (by decide)) _ _,Kd.R_set K.own.s3 hb6 (k60_ap 3 (by decide)) _ _⟩
    show Kd.S k38 35 _ _ _ (.slice _ o2.length _) _
    rw[hl];exact hs
end
end Go.Proofs.YtigjhfijkdlldaaDoor.H
end
section
namespace Go.Proofs.YtigjhfijkdlldaaDoor.H
open Go.RowKit Go.Proofs.YtigjhfijkdlldaaDoorW.PrintWords Go.Proofs.YtigjhfijkdlldaaDoorW.PrintLast Go.Proofs.YtigjhfijkdlldaaDoorW.PrintMore Go.Proofs.YtigjhfijkdlldaaDoor.Q
set_option linter.unusedVariables false
section
variable (f:Int→Int) (l:List Int) (j:Int)
theorem mixF_set (h0:0≤j) (h1:j<l.length):((l.take j.toNat).map f++l.drop j.toNat).set j.toNat (f (rd l j))=(l.take (j+1).toNat).map f++l.drop (j+1).toNat:=by
  have h2:j.toNat<l.length:=by omega
  rw[drop_cons l 0 j h0 h1,set_at _ _ _ _ _ (by rw[List.length_map,List.length_take];omega),show (j+1).toNat=j.toNat+1 by omega,List.take_add_one,List.getElem?_eq_getElem h2]
  have e:rd l j=l[j.toNat]:=by simp[rd,List.getD_eq_getElem?_getD,h2]
  rw[e,List.map_append,List.append_assoc]
  rfl
theorem mixF_rd (h0:0≤j) (h1:j<l.length):rd ((l.take j.toNat).map f++l.drop j.toNat) j=rd l j:=by
  have h2:j.toNat<l.length:=by omega
  rw[drop_cons l 0 j h0 h1]
  unfold rd
  rw[getD_at _ _ _ _ _ (by rw[List.length_map,List.length_take];omega)]
theorem mixF_len:((l.take j.toNat).map f++l.drop j.toNat).length=l.length:=by
  rw[List.length_append,List.length_map,List.length_take,List.length_drop];omega
end
section
variable {v w0 w w1:World} {n lo N b g:Nat} {A0 A1 A2 A3 A6:Option Addr} {c0 c1 c2 c3 c6:Nat} {G:Hp} {e:S40} {l0:List S38} {l1:List Int} {l2 l3:List S60} {P:Nat→Prop}
theorem OwnP.toH (h:OwnP w lo P A0 c0 A1 c1 A2 c2 A3 c3 l0 l1 l2 l3):OwnH w lo A0 c0 A1 c1 A2 c2 A3 c3 l0 l1 l2 l3:=
  ⟨Kd.S_mono h.s0 (fun _ hk=>hk.2),Kd.R_mono h.s1 (fun _ _=>trivial),Kd.R_mono h.s2 (fun _ hk=>hk.2),Kd.R_mono h.s3 (fun _ hk=>hk.2)⟩
theorem OwnP.far (h:OwnP w lo (fun k=>k<N) A0 c0 A1 c1 A2 c2 A3 c3 l0 l1 l2 l3) (hg:N≤g) (j:Nat) (u:Value):OwnP (w.setCell ⟨g,j,none⟩ u) lo (fun k=>k<N) A0 c0 A1 c1 A2 c2 A3 c3 l0 l1 l2 l3:=
  ⟨Kd.S_far (p:=⟨g,j,none⟩) h.s0 (fun k hk e=>by have h1:=hk.1;have h2:k=g:=e;omega) u,Kd.R_far (p:=⟨g,j,none⟩) h.s1 (fun k hk e=>by have h1:k<N:=hk;have h2:k=g:=e;omega) u,
   Kd.R_far (p:=⟨g,j,none⟩) h.s2 (fun k hk e=>by have h1:=hk.1;have h2:k=g:=e;omega) u,Kd.R_far (p:=⟨g,j,none⟩) h.s3 (fun k hk e=>by have h1:=hk.1;have h2:k=g:=e;omega) u⟩
theorem WK.far (K:WK v w0 n A0 c0 A1 c1 A2 c2 A3 c3 G e A6 c6 w) (h:OwnP w v.heap.size (fun k=>k<N) A0 c0 A1 c1 A2 c2 A3 c3 G.o G.r G.w G.d) (hg:N≤g) (hv:v.heap.size≤g) {cells:Array Value} (ht:w.heap[g]?=some (.cells cells 3 (0,0))) (j:Nat) (u:Value):WK v w0 n A0 c0 A1 c1 A2 c2 A3 c3 G e A6 c6 (w.setCell ⟨g,j,none⟩ u):=
  ⟨below_set K.b hv,K.n0,K.n1,fun i cs t h1 x y z=>blk_far (K.k i cs t h1 x y z) (p:=⟨g,j,none⟩) (blk_ne (K.k i cs t h1 x y z) ht x) u,blk_far K.h (p:=⟨g,j,none⟩) (blk_ne K.h ht (by decide)) u,blk_far K.e (p:=⟨g,j,none⟩) (blk_ne K.e ht (by decide)) u,blk_far K.o (p:=⟨g,j,none⟩) (blk_ne K.o ht (by decide)) u,(h.far hg j u).toH⟩
theorem WK.pushO (K:WK v w0 n A0 c0 A1 c1 A2 c2 A3 c3 G e A6 c6 w) {O2:List S38} {B:Option Addr} {c:Nat} (hr:Kd.S k38 35 w1 v.heap.size (fun k=>some k≠(Value.slice A1 G.r.length c1).ownBlock) (.slice B O2.length c) O2)
    (hb:Below v.heap.size v w1) (hg:w.grownBy w1 (Value.slice A0 G.o.length c0).ownBlock) :
    WK v w0 n B c A1 c1 A2 c2 A3 c3 ⟨O2,G.r,G.w,G.d⟩ e A6 c6 (w1.setCell ⟨n,0,none⟩ (.slice B O2.length c)):=by
  have hno:∀{k:Nat} {cs:Array Value} {t:TypeId},w.heap[k]?=some (.cells cs t (0,0))→(35:Nat)≠t→some k≠(Value.slice A0 G.o.length c0).ownBlock:=fun hk h3=>Kd.S_ne K.own.s0 hk h3
  have hh:=blk_grown K.h hg (hno K.h (by decide))
  have he:=blk_grown K.e hg (hno K.e (by decide))
  have ho:=blk_grown K.o hg (hno K.o (by decide))
  have hty:=Kd.S_typed K.own.s0
  refine⟨below_set hb K.n0,K.n0,K.n1,fun j cs t h1 x y z=>blk_far (blk_grown (K.k j cs t h1 x y z) hg (hno (K.k j cs t h1 x y z) (fun e=>y e.symm))) (p:=⟨n,0,none⟩) (by have h2:=blk_lt h1;have h3:=K.n1;show j≠n;omega) _,blk_put hh 0 _ rfl,blk_far he (p:=⟨n,0,none⟩) (by show n+1≠n;omega) _,blk_far ho (p:=⟨n,0,none⟩) (by show n+2≠n;omega) _,?_⟩
  exact⟨Kd.S_set hr hh (k38_ap 33 (by decide) (by decide)) 0 _,Kd.R_set (Kd.R_over' K.own.s1 hty (by decide) hg) hh (int_ap 33 (by decide)) 0 _,Kd.R_set (Kd.R_over' K.own.s2 hty (by decide) hg) hh (k60_ap 33 (by decide)) 0 _,Kd.R_set (Kd.R_over' K.own.s3 hty (by decide) hg) hh (k60_ap 33 (by decide)) 0 _⟩
end
end Go.Proofs.YtigjhfijkdlldaaDoor.H
end
section
namespace Go.Proofs.YtigjhfijkdlldaaDoor.H
open Go.RowKit Go.Proofs.YtigjhfijkdlldaaDoorW.PrintWords Go.Proofs.YtigjhfijkdlldaaDoorW.PrintLast Go.Proofs.YtigjhfijkdlldaaDoorW.PrintMore Go.Proofs.YtigjhfijkdlldaaDoor.Q
set_option linter.unusedVariables false
theorem ob_text {n:Int} {x:S38} (h:obB n x=true):x.f1.size≤12:=by
  have h0:decide (x.f1.toList=[])=true→x.f1.size≤12:=fun h=>by
    have h2:=of_decide_eq_true h
    rw[ByteArray.toList_eq]at h2
    have h3:=data_length x.f1
    rw[h2]at h3
    simp at h3;omega
  unfold obB at h
  rw[Bool.and_eq_true]at h
  have h1:=h.1
  unfold shB at h1
  split at h1
  · rw[Bool.and_eq_true]at h1
    unfold txOk at h1
    simp only[Bool.and_eq_true,decide_eq_true_eq]at h1
    omega
  split at h1
  · rw[Bool.and_eq_true]at h1;exact h0 h1.1
  split at h1
  · rw[Bool.and_eq_true]at h1;exact h0 h1.1
  split at h1
  · rw[Bool.and_eq_true]at h1;exact h0 h1.1
  · cases h1
theorem OkH.fine {l0:List S38} {l1:List Int} {l2 l3:List S60} (h:OkH l0 l1 l2 l3):Fine l0 l1 l2 l3:=
  ⟨by have:=h.n;omega,fun x hx=>⟨by have:=ob_text (h.o x hx);omega,by have:=(ob_small2 (h.o x hx)).2;omega⟩,by have:=h.r;omega,by have:=h.w;omega⟩
theorem OwnH.lower {w:World} {base base':Nat} {A0 A1 A2 A3:Option Addr} {c0 c1 c2 c3:Nat} {l0:List S38} {l1:List Int} {l2 l3:List S60} (h:OwnH w base A0 c0 A1 c1 A2 c2 A3 c3 l0 l1 l2 l3) (hb:base'≤base):OwnH w base' A0 c0 A1 c1 A2 c2 A3 c3 l0 l1 l2 l3:=
  ⟨S_lower h.s0 hb,Kd.R_lower h.s1 hb,Kd.R_lower h.s2 hb,Kd.R_lower h.s3 hb⟩
section
variable {v w0 w w1:World} {n:Nat} {A0 A1 A2 A3 A6:Option Addr} {c0 c1 c2 c3 c6:Nat} {G:Hp} {e:S40}
theorem WK.elem {g0:Nat} (K:WK v w0 n (some ⟨g0,0,none⟩) c0 A1 c1 A2 c2 A3 c3 G e A6 c6 w) (k a:Int) (hk0:0≤k) (hk1:k<G.o.length) (ha0:0≤a) (ha1:a<(rd_T38 G.o k).f2.length) :
    ∃g6 m,w.cell? ⟨g0,k.toNat*3+2,none⟩=some (.slice (some ⟨g6,0,none⟩) (rd_T38 G.o k).f2.length m):=by
  obtain⟨oki,ce,hcl,hM,hcc,hfr,hoki,hH⟩:=Kd.S_elem K.own.s0 z38 k hk0 hk1
  obtain⟨sv,rfl,hR⟩:=k38_openM hM
  have hn:0<(rd_T38 G.o k).f2.length:=by omega
  obtain⟨g6,m,rfl,_⟩:=Kd.R_form hR hn
  exact⟨g6,m,hcc 2 _ rfl⟩
theorem WK.elem2 {g0 g6 m c':Nat} (K:WK v w0 n (some ⟨g0,0,none⟩) c0 A1 c1 A2 c2 A3 c3 G e A6 c6 w) (k a:Int) (hk0:0≤k) (hk1:k<G.o.length) (ha0:0≤a) (ha1:a<(rd_T38 G.o k).f2.length)
    (hc:w.cell? ⟨g0,k.toNat*3+2,none⟩=some (.slice (some ⟨g6,0,none⟩) m c')):∃x,w.cell? ⟨g6,a.toNat,none⟩=some x:=by
  obtain⟨oki,ce,hcl,hM,hcc,hfr,hoki,hH⟩:=Kd.S_elem K.own.s0 z38 k hk0 hk1
  obtain⟨sv,rfl,hR⟩:=k38_openM hM
  have h2:w.cell? ⟨g0,k.toNat*3+2,none⟩=some sv:=hcc 2 _ rfl
  rw[hc]at h2
  injection h2 with h2
  subst h2
  have hm:m=(rd_T38 G.o k).f2.length:=(Kd.R_reads' hR).1
  subst hm
  exact⟨_,(RI_at hR a ha0 ha1).1⟩
end
end Go.Proofs.YtigjhfijkdlldaaDoor.H
end
