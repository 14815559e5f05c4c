import Derived.Test.YtigjhfijkdlldaaDoorSliPt
import Derived.Test.YtigjhfijkdlldaaDoorSliYob
namespace Go.Proofs.YtigjhfijkdlldaaDoor.H
open Go.RowKit Go.Proofs.YtigjhfijkdlldaaDoorW.PrintWords Go.Proofs.YtigjhfijkdlldaaDoorW.PrintLast Go.Proofs.YtigjhfijkdlldaaDoorW.PrintMore Go.Proofs.YtigjhfijkdlldaaDoor.Q
set_option linter.unusedVariables false
set_option linter.unusedSimpArgs false
section
theorem toldL_cons (x:List Int) (a:S60) (l:List S60):toldL x (a :: l)=if toldB x a=true then a :: toldL x l else toldL x l:=by
  unfold toldL
  by_cases c:toldB x a=true
  · rw[if_pos c,List.filter_cons_of_pos c]
  · rw[if_neg c,List.filter_cons_of_neg c]
def withoutL (t l:List S60):List S60:=l.filter fun w=>!t.any fun u=>weB u w
theorem withoutL_cons (t:List S60) (a:S60) (l:List S60):withoutL t (a :: l)=(if(t.any fun u=>weB u a)=true then[]else[a])++withoutL t l:=by
  unfold withoutL
  by_cases c:(t.any fun u=>weB u a)=true
  · rw[if_pos c,List.filter_cons_of_neg (by rw[c];simp)];rfl
  · rw[if_neg c,List.filter_cons_of_pos (by simpa using c)];rfl
theorem without_told (x:List Int) (l:List S60):withoutL (toldL x l) l=stayL x l:=by
  unfold withoutL stayL
  refine List.filter_congr (fun w hw=>?_)
  congr 1
  rw[Bool.eq_iff_iff,List.any_eq_true]
  constructor
  · rintro⟨u,hu,h⟩
    have h1:=(List.mem_filter.1 hu).2
    unfold weB at h
    rw[Bool.and_eq_true,beq_iff_eq,beq_iff_eq]at h
    unfold toldB at h1 ⊢
    rw[h.1,h.2]at h1
    exact h1
  · intro h
    exact⟨w,List.mem_filter.2 ⟨hw,h⟩,by unfold weB;simp⟩
theorem movedW_cons (x:List Int) (a:S60) (l:List S60):movedW x (a :: l)=if(decide (0≤idxL x a.f0) && decide (0≤idxL x a.f1))=true then⟨idxL x a.f0,idxL x a.f1⟩ :: movedW x l else movedW x l:=by
  unfold movedW
  by_cases c:(decide (0≤idxL x a.f0) && decide (0≤idxL x a.f1))=true
  · rw[if_pos c,List.filter_cons_of_pos (by exact c)];rfl
  · rw[if_neg c,List.filter_cons_of_neg (by exact c)]
end
section
structure RD (w w':World) (A:Option Addr) (m:List S60) (c:Nat):Prop where
  le:m.length≤c
  r:Kd.C k60 w A m.length m∨Kd.R k60 71 w' w.heap.size (fun _=>True) (.slice A m.length c) m
section
variable {w w1 w2:World} {A:Option Addr} {m:List S60} {c:Nat}
theorem RD.now (h:RD w w1 A m c) (hb:Below w.heap.size w w1):Kd.C k60 w1 A m.length m:=h.r.elim (fun h=>Kd.C_below h hb) (fun h=>(Kd.R_reads' h).2.2)
theorem RD.below (h:RD w w1 A m c) (hb:Below w1.heap.size w1 w2):RD w w2 A m c:=⟨h.le,h.r.elim .inl (fun h=>.inr (Kd.R_below h hb))⟩
theorem RD.set (h:RD w w1 A m c) {g:Nat} {cells:Array Value} (hb:w1.heap[g]?=some (.cells cells 33 (0,0))) (j:Nat) (u:Value):RD w (w1.setCell ⟨g,j,none⟩ u) A m c:=⟨h.le,h.r.elim .inl (fun h=>.inr (Kd.R_set h hb (k60_ap 33 (by decide)) j u))⟩
theorem RD.kept (h:RD w w1 A m c) {v:Value} {x:List Int} {base:Nat} {ok:Nat→Prop} (hv:(Kd.int .i64).R 3 w1 base ok v x) (hk:Kept w1 w2 (fun k=>some k=v.ownBlock)):RD w w2 A m c:=
  ⟨h.le,h.r.elim .inl (fun h=>.inr (Kd.R_mono (Kd.R_step (Kd.R_bound h) (fun k hk2 hl=>hk.2 k hl (fun e=>by
    obtain⟨_,_,_,q,hq,cells,hc⟩:=hk2
    obtain⟨cs,hcs⟩:=Kd.R_typed hv k e.symm
    rw[hc]at hcs
    injection hcs with hcs
    injection hcs with _ h3 _
    rw[h3]at hq
    exact k60_ap 3 (by decide) 3 hq rfl))) (fun _ _=>trivial)))⟩
theorem RD.after (h:RD w w1 A m c) (hb:Below w.heap.size w w1) {v:Value} {x:List Int} {ok:Nat→Prop} (hv:(Kd.int .i64).R 3 w1 w.heap.size ok v x):∀W,Kept w1 W (fun k=>some k=v.ownBlock)→Kd.C k60 W A m.length m:=fun W hk=>by
  rcases h.r with h1|h1
  · exact Kd.C_kept_came k60_heap h1 hb (fun k hs=>Kd.R_base hv k hs.symm) W hk
  · rcases(h.kept hv hk).r with h2|h2
    · exact Kd.C_kept_came k60_heap h2 hb (fun k hs=>Kd.R_base hv k hs.symm) W hk
    · exact(Kd.R_reads' h2).2.2
theorem RD.own (h:Kd.R k60 71 w1 w.heap.size (fun _=>True) (.slice A m.length c) m):RD w w1 A m c:=⟨(Kd.R_reads' h).2.1,.inr h⟩
end
structure TK (w:World) (X:Array Value) (W D:Option Addr) (cw cd:Nat) (m2 m3:List S60) (K:Option Addr) (ck:Nat) (x:List Int) (w':World):Prop where
  b:Below w.heap.size w w'
  yh:w'.heap[w.heap.size]?=some (.cells X 33 (0,0))
  yz:w'.heap[w.heap.size+1]?=some (.cells #[.slice none 0 0,.slice none 0 0,.slice none 0 0,.slice none 0 0] 33 (0,0))
  rw:RD w w' W m2 cw
  rd:RD w w' D m3 cd
  kn:Kd.R (Kd.int .i64) 3 w' w.heap.size (fun _=>True) (.slice K x.length ck) x
section
variable {w w1 w2:World} {X:Array Value} {W D K K2:Option Addr} {cw cd ck ck2:Nat} {m2 m3:List S60} {x x2:List Int}
theorem TK.below (h:TK w X W D cw cd m2 m3 K ck x w1) (hb:Below w1.heap.size w1 w2):TK w X W D cw cd m2 m3 K ck x w2:=
  ⟨bst h.b hb,bbl h.yh hb,bbl h.yz hb,h.rw.below hb,h.rd.below hb,Kd.R_below h.kn hb⟩
theorem TK.set (h:TK w X W D cw cd m2 m3 K ck x w1) (j:Nat) (u:Value) (X':Array Value) (e:X.setIfInBounds j u=X'):TK w X' W D cw cd m2 m3 K ck x (w1.setCell ⟨w.heap.size,j,none⟩ u):=
  ⟨below_set h.b (Nat.le_refl _),blk_put h.yh j u e,blk_far h.yz (p:=⟨w.heap.size,j,none⟩) (show w.heap.size+1≠w.heap.size by omega) u,h.rw.set h.yh j u,h.rd.set h.yh j u,Kd.R_set h.kn h.yh (int_ap 33 (by decide)) j u⟩
theorem kept_blk {t:Nat} {g:Nat} {cells:Array Value} {v:Value} {base:Nat} {ok:Nat→Prop} (hb:w1.heap[g]?=some (.cells cells t (0,0))) (hv:(Kd.int .i64).R 3 w1 base ok v x) (ht:t≠3) (hk:Kept w1 w2 (fun k=>some k=v.ownBlock)):w2.heap[g]?=some (.cells cells t (0,0)):=
  (hk.2 g (blk_lt hb) (fun e=>by obtain⟨cs,hcs⟩:=Kd.R_typed hv g e.symm;exact blk_ne hb hcs ht rfl)).trans hb
theorem TK.known (h:TK w X W D cw cd m2 m3 K ck x w1) (hb:Below w.heap.size w w2) (hk:Kept w1 w2 (fun k=>some k=(Value.slice K x.length ck).ownBlock)) (hn:Kd.R (Kd.int .i64) 3 w2 w.heap.size (fun _=>True) (.slice K2 x2.length ck2) x2):TK w X W D cw cd m2 m3 K2 ck2 x2 w2:=
  ⟨hb,kept_blk h.yh h.kn (by decide) hk,kept_blk h.yz h.kn (by decide) hk,h.rw.kept h.kn hk,h.rd.kept h.kn hk,hn⟩
end
end
section
section
variable {w w0 w1:World} {K A A0 A1 W D:Option Addr} {c c0 c1 ck cw cd:Nat} {l0:List S38} {l1 x:List Int} {m2 m3:List S60}
theorem l2At_s (h:Kd.C (Kd.int .i64) w K x.length x) (p:Int):Calls Tryd.prog 52 #[.slice K x.length ck,.int .i64 p] w fun e w'=>e=.returned (.int .i64 (idxL x p))∧w'=w:=by
  have HL:=AK (C_max h)
  have HC:=AK h
  obtain⟨r,er⟩:∃r,r=idxL x p:=⟨_,rfl⟩
  have HR:=AK (show r=(if idxL (x.drop (0:Int).toNat) p<0 then -1 else idxL (x.drop (0:Int).toNat) p+0)by
    have:=(idxL_range x p).1
    rw[er]
    show idxL x p=if idxL x p<0 then -1 else idxL x p+0
    split<;>omega)
  rw[←er]
  clear h er
  go_enter Tryd.func52,Tryd.ntmps52
  go_wp2
  go_loopg [5] x.length (fun kq v5 w'=>∃i:Int,v5=.int .i64 i∧Aside0 (0≤i∧i+kq=x.length)∧Aside0 (r=if idxL (x.drop i.toNat) p<0 then -1 else idxL (x.drop i.toNat) p+i)∧w'=w)
  case atStart=>exact⟨0,rfl,⟨by omega,by omega⟩,HR,rfl⟩
  case round=>
    clear HR
    obtain⟨i,rfl,HI,HR,rfl⟩:=hrel
    cases gk with
    | zero=>
      have c9:decide (i<(x.length:Int))=false:=deF (by have:=HI.out;omega)
      have hr:r=-1:=by rw[HR.out,drop_end _ _ (by have:=HI.out;omega)];rfl
      subst hr
      go_wp2
      go_ret
      exact⟨rfl,rfl⟩
    | succ k1=>
      have c9:decide (i<(x.length:Int))=true:=deT (by have:=HI.out;omega)
      have hi0:=eq_true (show 0≤i by have:=HI.out;omega)
      have hi1:=eq_true (show i<(x.length:Int)by have:=HI.out;omega)
      obtain⟨ad,e1,hq⟩:=Kd.at_int HC.out i (by have:=HI.out;omega) (by have:=HI.out;omega)
      subst e1
      have hr:=HR.out
      rw[drop_cons _ 0 i (by have:=HI.out;omega) (by have:=HI.out;omega)]at hr
      unfold idxL at hr
      rw[show x.getD i.toNat 0=rd x i from rfl]at hr
      obtain⟨q,eq⟩:∃q,q=rd x i:=⟨_,rfl⟩
      rw[←eq]at hq hr
      by_cases d:q=p
      · rw[if_pos d,if_neg (by omega)]at hr
        have hr:r=i:=by rw[hr];omega
        have d1:(q == p)=true:=by simpa using d
        have HZ:=AK hr
        clear HR eq hr d
        go_wp2
        go_ret
        exact⟨by rw[HZ.out];rfl,rfl⟩
      · rw[if_neg d]at hr
        have HR2:=AK (show r=if idxL (x.drop (i+1).toNat) p<0 then -1 else idxL (x.drop (i+1).toNat) p+(i+1)by
          rw[hr]
          by_cases y:idxL (x.drop (i+1).toNat) p<0
          · rw[if_pos y,if_pos y];rfl
          · rw[if_neg y,if_neg y,if_neg (by omega)];omega)
        have d1:(q == p)=false:=by simpa using d
        clear HR hr eq d
        go_wp2
        go_roundg k1
        case measure=>omega
        case rel=>
          rw[wrap_succ i (by have:=HI.out;omega) (by have:=HI.out;have:=HL.out;omega)]
          exact⟨i+1,rfl,⟨by have:=HI.out;omega,by have:=HI.out;omega⟩,HR2,rfl⟩
theorem l2Where_s (h:Kd.C (Kd.int .i64) w K x.length x) (p:Int):Calls Tryd.prog 53 #[.slice K x.length ck,.int .i64 p] w fun e w'=>e=.returned (.int .i64 (wh x p))∧w'=w:=by
  have HC:=AK h
  clear h
  unfold wh
  by_cases d:p<0
  · rw[if_pos d]
    have d1:decide (p<0)=true:=deT d
    clear d
    go_enter Tryd.func53,Tryd.ntmps53
    go_wp2
    go_ret
    exact⟨rfl,rfl⟩
  · rw[if_neg d]
    have d1:decide (p<0)=false:=deF d
    clear d
    go_enter Tryd.func53,Tryd.ntmps53
    go_wp2_with fail
    refine(l2At_s HC.out p).mono ?_
    rintro e w2 ⟨rfl,rfl⟩
    go_wp2
    go_ret
    exact⟨rfl,rfl⟩
theorem l2At_c (h:Kd.C (Kd.int .i64) w K x.length x) (hc:x.length≤ck) (p:Int):Calls Tryd.prog 52 #[.slice K x.length ck,.int .i64 p] w fun e w'=>e=.returned (.int .i64 (idxL x p))∧Drawn0 w w':=
  (l2At_s h p).mono (fun _ _ h=>⟨h.1,by rw[h.2];exact Drawn0.refl _⟩)
theorem l2Where_c2 (h:Kd.C (Kd.int .i64) w K x.length x) (hc:x.length≤ck) (p:Int):Calls Tryd.prog 53 #[.slice K x.length ck,.int .i64 p] w fun e w'=>e=.returned (.int .i64 (wh x p))∧Drawn0 w w':=
  (l2Where_s h p).mono (fun _ _ h=>⟨h.1,by rw[h.2];exact Drawn0.refl _⟩)
theorem l2Put_k {ok:Nat→Prop} (hf:∀k,w1.heap.size≤k→ok k) (hB:Below w.heap.size w w1) (h:Kd.R (Kd.int .i64) 3 w1 w.heap.size ok (.slice K x.length ck) x) (hl:x.length≤1048576) (p:Int) :
    Calls Tryd.prog 40 #[.slice K x.length ck,.int .i64 p] w1 fun e w'=>∃v:Value,e=.returned v∧Kd.R (Kd.int .i64) 3 w' w.heap.size ok v (putL x p)∧Below w.heap.size w w'∧Kept w1 w' (fun k=>some k=(Value.slice K x.length ck).ownBlock):=by
  have HR:=AK h
  have HF:=AK hf
  have HB:=AK hB
  have HL:=AK hl
  obtain⟨r,er⟩:∃r,r=putL x p:=⟨_,rfl⟩
  rw[←er]
  unfold putL at er
  clear h hf hB hl
  by_cases d:p<0
  · rw[if_pos d]at er
    subst er
    have d1:decide (p<0)=true:=deT d
    clear d
    go_enter Tryd.func40,Tryd.ntmps40
    go_wp2
    go_ret
    exact⟨_,rfl,HR.out,HB.out,Kept.refl _ _⟩
  rw[if_neg d]at er
  have d1:decide (p<0)=false:=deF d
  clear d
  by_cases d:p∈x
  · rw[if_pos d]at er
    subst er
    have d2:decide (0≤idxL r p)=true:=deT (idxL_get d).1
    clear d
    go_enter Tryd.func40,Tryd.ntmps40
    go_wp2_with fail
    refine(l2At_s (Kd.R_reads' HR.out).2.2 p).mono ?_
    rintro e w2 ⟨rfl,rfl⟩
    go_wp2
    go_ret
    exact⟨_,rfl,HR.out,HB.out,Kept.refl _ _⟩
  · rw[if_neg d]at er
    have d2:decide (0≤idxL x p)=false:=deF (by have:=(idxL_neg x p).2 d;omega)
    have ER:=AK er
    clear d er
    go_enter Tryd.func40,Tryd.ntmps40
    go_wp2_with fail
    refine(l2At_s (Kd.R_reads' HR.out).2.2 p).mono ?_
    rintro e w2 ⟨rfl,rfl⟩
    go_wp2_with ((with_reducible refine gate_builtin (b:=.append) (xs:=#[.tmp 14,.tmp 16]) rfl ?_);at_builtin;refine Kd.R_append (Kd.int .i64) (w0:=w) w.heap.size rfl (.tmp 14) (.tmp 16) 29 3 (.int .i64 0) 8 rfl Tryd.underlying29 info3 rfl (by decide) (by omega) (.slice K x.length ck) x p [.int .i64 p] ok (fun _=>False) rfl rfl ?aP (fun _ hk=>hk.elim) HF.out HR.out HB.out HB.out.size ?aL ?_;(case aP=>exact rfl);(case aL=>have:=HL.out;omega);intro v3 w3 ho hb hg hat;rw[←ER.out]at ho;have HO:=AK ho;have HK:=AK (Kept.of_grown hg (Kept.refl w2 (fun k=>some k=(Value.slice K x.length ck).ownBlock)) (fun k hk=>.inl hk.symm));have HB3:=AK hb;clear ho hb hg hat)
    go_ret
    exact⟨_,rfl,HO.out,HB3.out,HK.out⟩
theorem l2Put_c (hB:Below w.heap.size w w1) (h:Kd.R (Kd.int .i64) 3 w1 w.heap.size (fun _=>True) (.slice K x.length ck) x) (hl:x.length≤1048576) (p:Int) :
    Calls Tryd.prog 40 #[.slice K x.length ck,.int .i64 p] w1 fun e w'=>∃v:Value,e=.returned v∧Kd.R (Kd.int .i64) 3 w' w.heap.size (fun _=>True) v (putL x p)∧Below w.heap.size w w'∧Kept w1 w' (fun k=>some k=(Value.slice K x.length ck).ownBlock):=
  l2Put_k (fun _ _=>trivial) hB h hl p
theorem memAt_c (h:Kd.C (Kd.int .i64) w K x.length x) {p:Int} (hp:p<x.length):Calls Tryd.prog 81 #[.slice K x.length ck,.int .i64 p] w fun e w'=>e=.returned (.int .i64 (if p<0 then -1 else rd x p))∧w'=w:=by
  by_cases d:p<0
  · rw[if_pos d]
    have d1:decide (p<0)=true:=deT d
    clear d
    go_enter Tryd.func81,Tryd.ntmps81
    go_wp2
    go_ret
    exact⟨rfl,rfl⟩
  · rw[if_neg d]
    have d1:decide (p<0)=false:=deF d
    have h0:=eq_true (show 0≤p by omega)
    have h1:=eq_true hp
    obtain⟨ad,e1,hq⟩:=Kd.at_int h p (by omega) hp
    subst e1
    clear d h
    go_enter Tryd.func81,Tryd.ntmps81
    go_wp2
    go_ret
    exact⟨rfl,rfl⟩
end
end
section
section
variable {w w0 w1:World} {K A A0 A1 W D:Option Addr} {c c0 c1 ck cw cd:Nat} {l0:List S38} {l1 x:List Int} {m2 m3:List S60}
set_option maxHeartbeats 1000000 in
theorem l2Next_c {n1 n2:Nat} {p:Int} {S:Nat→Prop} (h0:Kd.C k38 w0 A0 l0.length l0) (hB:Below w0.heap.size w0 w) (hD:Kd.C k60 w D m3.length m3) (hS:∀k,S k→w0.heap.size≤k∧k<w.heap.size) (hp:0≤p∧p<l0.length) (hk:(rd_T38 l0 p).f0=3→2≤(rd_T38 l0 p).f2.length) (hm:m3.length≤1048576) :
    Calls Tryd.prog 55 #[.agg #[.slice A0 l0.length c0,.slice A1 n1 c1,.slice W n2 cw,.slice D m3.length cd],.int .i64 p] w fun e w'=>∃B b,e=.returned (.slice B (nextL l0 m3 p).length b) ∧
      (nextL l0 m3 p).length≤b∧(∀W',Kept w' W' S→Kd.C (Kd.int .i64) W' B (nextL l0 m3 p).length (nextL l0 m3 p))∧Below w.heap.size w w':=by
  obtain⟨ad,P,cp,e1,x0,x1,x2,hcp,hP⟩:=at_T38 h0 p hp.1 hp.2
  subst e1
  obtain⟨o,eo⟩:∃o,o=rd_T38 l0 p:=⟨_,rfl⟩
  rw[←eo]at x0 x1 x2 hcp hP hk
  obtain⟨r,er⟩:∃r,r=nextL l0 m3 p:=⟨_,rfl⟩
  rw[←er]
  have ER:=er
  unfold nextL at er
  rw[←eo]at er
  replace x0:=pcb hB x0
  replace x1:=pcb hB x1
  replace x2:=pcb hB x2
  have hi0:=eq_true hp.1
  have hi1:=eq_true hp.2
  have hlt:=World.block_lt_of_cell? _ _ x0
  have HB0:=AK hB
  have HP:=AK hP
  have HC:=AK hcp
  have HS:=AK hS
  have HD:=AK hD
  have HE:=AK ER
  have HM:=AK hm
  have HW:=AK (show Below w.heap.size w ((w.alloc (.cells #[.slice (some ad) l0.length c0,.slice A1 n1 c1,.slice W n2 cw,.slice D m3.length cd] 33 (0,0))).alloc (.cells #[.int .i64 o.f0,.string o.f1,.slice P o.f2.length cp] 35 (0,0)))∧((w.alloc (.cells #[.slice (some ad) l0.length c0,.slice A1 n1 c1,.slice W n2 cw,.slice D m3.length cd] 33 (0,0))).alloc (.cells #[.int .i64 o.f0,.string o.f1,.slice P o.f2.length cp] 35 (0,0))).heap[w.heap.size]?=some (.cells #[.slice (some ad) l0.length c0,.slice A1 n1 c1,.slice W n2 cw,.slice D m3.length cd] 33 (0,0))from⟨below_alloc (below_alloc (Below.refl _ _) _) _,blk_alloc (blk_new w _) _⟩)
  clear h0 hB hD hS hp hP hcp eo ER hm
  by_cases a:o.f0=3
  · rw[if_pos a]at er
    have h1:=hk a
    have c6b0:=eq_true (show (1:Int)≤(o.f2.length:Int)by omega)
    have c6:=deT (show (1:Int)≤(o.f2.length:Int)by omega)
    have a1:(o.f0 == 3)=true:=beq_iff_eq.2 a
    have hne:=eq_false (show ¬ cp=1 by have:=HC.out;omega)
    have HX:=AK (Kd.C_drop HP.out (show 1≤o.f2.length by omega) HC.out)
    clear a hk
    have HL:=AK h1
    clear h1
    have ER:=AK er
    clear er
    go_enter Tryd.func55,Tryd.ntmps55
    go_wp2
    go_ret
    refine⟨(P.map (·.add 1)),cp - 1,?_,?_,?_,HW.out.1⟩
    · rw[ER.out,List.length_drop];rfl
    · rw[ER.out,List.length_drop];have:=HC.out;omega
    · have h:=HX.out
      rw[if_neg (of_eq_false hne),←ER.out]at h
      exact Kd.C_kept_came (Kd.heap_int .i64) h (bst HB0.out HW.out.1) (fun k hk=>(HS.out k hk).1)
  · rw[if_neg a]at er
    have a1:(o.f0 == 3)=false:=beq_eq_false_iff_ne.2 a
    clear a hk
    by_cases a:o.f0=4
    · rw[if_pos a]at er
      have a2:(o.f0 == 4)=true:=beq_iff_eq.2 a
      have ER:=AK er
      clear a er
      go_enter Tryd.func55,Tryd.ntmps55
      go_wp2_with ((with_reducible refine gate_dst (N:=22) rfl ?_);refine Kd.R_lit (Kd.int .i64) (w0:=((w.alloc (.cells #[.slice (some ad) l0.length c0,.slice A1 n1 c1,.slice W n2 cw,.slice D m3.length cd] 33 (0,0))).alloc (.cells #[.int .i64 o.f0,.string o.f1,.slice P o.f2.length cp] 35 (0,0)))) (World.heap ((w.alloc (.cells #[.slice (some ad) l0.length c0,.slice A1 n1 c1,.slice W n2 cw,.slice D m3.length cd] 33 (0,0))).alloc (.cells #[.int .i64 o.f0,.string o.f1,.slice P o.f2.length cp] 35 (0,0)))).size 3 ?hg (N:=22) ?hd (xs:=([]:List Int)) (inner:=[]) (ok:=fun _=>True) (okp:=fun _=>True) ?hr ?hp (fun _ hk=>hk) trivial (Below.refl _ _) (Nat.le_refl _) (by simp) ?_;(case hd=>rfl);(case hg=>rfl);(case hr=>first|(go_simp;done)|(go_simp;rfl));(case hp=>exact Reps.none _ _);intro v1 w2 hr hb hg hn;obtain⟨K0,ck0,hv⟩:=Kd.R_slice hr;subst hv;have HR:=AK (Kd.R_lower hr HW.out.1.size);have HB:=AK (And.intro (bst HW.out.1 hb) (bbl HW.out.2 hb));clear hr hb hg hn HW x0 x1 x2 hlt)
      have HR0:=AK (show r=[]++((m3.drop (0:Int).toNat).filter (fun x=>x.f0 == p)).map (·.f1)from ER.out)
      clear ER
      go_loopg [6,7] m3.length (fun kq v6 v7 w'=>∃(acc:List Int) (K:Option Addr) (ck:Nat) (i:Int),v6=.slice K acc.length ck∧v7=.int .i64 i∧Aside0 (0≤i∧i+kq=m3.length∧(acc.length:Int)≤i)∧Aside0 (r=acc++((m3.drop i.toNat).filter (fun x=>x.f0 == p)).map (·.f1)) ∧
        Aside0 (Kd.R (Kd.int .i64) 3 w' w.heap.size (fun _=>True) (.slice K acc.length ck) acc)∧Aside0 (Below w.heap.size w w'∧w'.heap[w.heap.size]?=some (.cells #[.slice (some ad) l0.length c0,.slice A1 n1 c1,.slice W n2 cw,.slice D m3.length cd] 33 (0,0))))
      case atStart=>exact⟨[],K0,ck0,0,rfl,rfl,⟨by omega,by omega,by simp⟩,HR0,HR,HB⟩
      case round=>
        clear HR HB HR0
        obtain⟨acc,K,ck,i,rfl,rfl,HI,HE2,HR,HB⟩:=hrel
        obtain⟨p0,p1,p2,p3⟩:=box4 HB.out.2
        cases gk with
        | zero=>
          have c9:decide (i<(m3.length:Int))=false:=deF (by have:=HI.out;omega)
          have hr:acc=r:=by rw[HE2.out,drop_end _ _ (by have:=HI.out;omega)];simp
          clear HE2
          subst hr
          go_wp2
          go_ret
          refine⟨K,ck,rfl,(Kd.R_reads' HR.out).2.1,Kd.C_kept_own (Kd.R_bound HR.out) (fun k hk hs=>?_),HB.out.1⟩
          have:=(HS.out k hs).2
          have:=hk.2.1
          omega
        | succ k1=>
          have c9:decide (i<(m3.length:Int))=true:=deT (by have:=HI.out;omega)
          have hi0:=eq_true (show 0≤i by have:=HI.out;omega)
          have hi1:=eq_true (show i<(m3.length:Int)by have:=HI.out;omega)
          obtain⟨ad3,e3,y0,y1⟩:=at_T60 (Kd.C_below HD.out HB.out.1) i (by have:=HI.out;omega) (by have:=HI.out;omega)
          subst e3
          have hr:=HE2.out
          rw[filter_drop m3 p i (by have:=HI.out;omega) (by have:=HI.out;omega)]at hr
          obtain⟨z,ez⟩:∃z,z=rd_T60 m3 i:=⟨_,rfl⟩
          rw[←ez]at y0 y1 hr
          obtain⟨q,eq⟩:∃q,q=z.f1:=⟨_,rfl⟩
          rw[←eq]at y1 hr
          by_cases d:z.f0=p
          · rw[if_pos d]at hr
            obtain⟨acc2,e2⟩:∃a,a=acc++[q]:=⟨_,rfl⟩
            have hl2:acc2.length=acc.length+1:=by rw[e2];simp
            rw[←List.append_assoc,←e2]at hr
            have E2:=AK e2
            have HE3:=AK hr
            have HL2:=AK hl2
            have d1:(z.f0 == p)=true:=beq_iff_eq.2 d
            clear hr e2 hl2 d ez eq HE2
            go_wp2_with ((with_reducible refine gate_builtin (b:=.append) (xs:=#[.tmp 38,.tmp 45]) rfl ?_);at_builtin;refine Kd.R_append (Kd.int .i64) (w0:=w) w.heap.size rfl (.tmp 38) (.tmp 45) 29 3 (.int .i64 0) 8 rfl Tryd.underlying29 info3 rfl (by decide) (by omega) (.slice K acc.length ck) acc q [.int .i64 q] (fun _=>True) (fun _=>False) rfl rfl ?aP (fun _ hk=>hk.elim) (fun _ _=>trivial) HR.out HB.out.1 HB.out.1.size ?aL ?_;(case aP=>exact rfl);(case aL=>have:=HI.out;have:=HM.out;omega);intro v3 w3 ho hb hg hat;rw[←E2.out]at ho;obtain⟨A3,c3,hv3⟩:=Kd.R_slice ho;subst hv3;have HR3:=AK ho;have HB3:=AK (And.intro hb (blk_grown HB.out.2 hg (ne_own HR.out HB.out.2 (by decide))));clear ho hb hg hat)
            go_roundg k1
            case measure=>omega
            case rel=>
              rw[wrap_succ i (by have:=HI.out;omega) (by have:=HI.out;have:=HM.out;omega)]
              exact⟨acc2,A3,c3,i+1,rfl,rfl,⟨by have:=HI.out;omega,by have:=HI.out;omega,by have:=HI.out;have:=HL2.out;omega⟩,HE3,HR3,HB3⟩
          · rw[if_neg d,List.nil_append]at hr
            have HE3:=AK hr
            have d1:(z.f0 == p)=false:=beq_eq_false_iff_ne.2 d
            clear hr d ez eq HE2
            go_wp2
            go_roundg k1
            case measure=>omega
            case rel=>
              rw[wrap_succ i (by have:=HI.out;omega) (by have:=HI.out;have:=HM.out;omega)]
              exact⟨acc,K,ck,i+1,rfl,rfl,⟨by have:=HI.out;omega,by have:=HI.out;omega,by have:=HI.out;omega⟩,HE3,HR,HB⟩
    · rw[if_neg a]at er
      have a2:(o.f0 == 4)=false:=beq_eq_false_iff_ne.2 a
      subst er
      clear a
      go_enter Tryd.func55,Tryd.ntmps55
      go_wp2
      go_ret
      exact⟨P,cp,rfl,HC.out,Kd.C_kept_came (Kd.heap_int .i64) HP.out (bst HB0.out HW.out.1) (fun k hk=>(HS.out k hk).1),HW.out.1⟩
structure TR (w w1:World) (S:Nat→Prop) (X:Array Value) (D:Option Addr) (cd:Nat) (m3:List S60) (K:Option Addr) (ck:Nat) (y:List Int) (w':World):Prop where
  b:Below w.heap.size w w'
  kp:Kept w1 w' S
  bx:w'.heap[w1.heap.size]?=some (.cells X 33 (0,0))
  rd:RD w w' D m3 cd
  kn:Kd.R (Kd.int .i64) 3 w' w.heap.size (fun _=>True) (.slice K y.length ck) y
  ow:∀k,some k=(Value.slice K y.length ck).ownBlock→S k∨w1.heap.size≤k
theorem TR.below {w2:World} {S:Nat→Prop} {X:Array Value} {y:List Int} (h:TR w w0 S X D cd m3 K ck y w1) (hb:Below w1.heap.size w1 w2):TR w w0 S X D cd m3 K ck y w2:=
  ⟨bst h.b hb,h.kp.below hb,bbl h.bx hb,h.rd.below hb,Kd.R_below h.kn hb,h.ow⟩
theorem TR.put {w2:World} {S:Nat→Prop} {X:Array Value} {y y2:List Int} {K2:Option Addr} {k2:Nat} (h:TR w w0 S X D cd m3 K ck y w1) (hb:Below w.heap.size w w2) (hk:Kept w1 w2 (fun k=>some k=(Value.slice K y.length ck).ownBlock))
    (hn:Kd.R (Kd.int .i64) 3 w2 w.heap.size (fun _=>True) (.slice K2 y2.length k2) y2) (ho:∀k,(Value.slice K2 y2.length k2).ownBlock=some k→some k=(Value.slice K y.length ck).ownBlock∨w1.heap.size≤k):TR w w0 S X D cd m3 K2 k2 y2 w2:=
  ⟨hb,h.kp.then_ hk (fun k e=>h.ow k e),kept_blk h.bx h.kn (by decide) hk,h.rd.kept h.kn hk,hn,fun k e=>(ho k e.symm).elim (h.ow k) (fun hl=>.inr (Nat.le_trans h.kp.1 hl))⟩
theorem l2Put_o (hB:Below w.heap.size w w1) (h:Kd.R (Kd.int .i64) 3 w1 w.heap.size (fun _=>True) (.slice K x.length ck) x) (hl:x.length≤1048576) (p:Int) :
    Calls Tryd.prog 40 #[.slice K x.length ck,.int .i64 p] w1 fun e w'=>∃K2 k2,e=.returned (.slice K2 (putL x p).length k2)∧Kd.R (Kd.int .i64) 3 w' w.heap.size (fun _=>True) (.slice K2 (putL x p).length k2) (putL x p) ∧
      (∀k,(Value.slice K2 (putL x p).length k2).ownBlock=some k→some k=(Value.slice K x.length ck).ownBlock∨w1.heap.size≤k)∧Below w.heap.size w w'∧Kept w1 w' (fun k=>some k=(Value.slice K x.length ck).ownBlock):=by
  refine(l2Put_k (ok:=fun k=>some k=(Value.slice K x.length ck).ownBlock∨w1.heap.size≤k) (fun k hk=>.inr hk) hB (Kd.R_mono (Kd.R_tight rfl h) (fun k hk=>.inl hk)) hl p).mono ?_
  rintro e w' ⟨v,rfl,hr,hb,hk⟩
  obtain⟨K2,k2,hv⟩:=Kd.R_slice hr
  subst hv
  exact⟨K2,k2,rfl,Kd.R_mono hr (fun _ _=>trivial),hr.1,hb,hk⟩
set_option maxHeartbeats 1000000 in
theorem l2Trace_c (h0:Kd.C k38 w A0 l0.length l0) (k0:l0.length≤c0) (h1:Kd.C (Kd.int .i64) w A1 l1.length l1) (k1:l1.length≤c1)
    (hw:RD w w1 W m2 cw) (hd:RD w w1 D m3 cd) (hB:Below w.heap.size w w1) (h:Kd.R (Kd.int .i64) 3 w1 w.heap.size (fun _=>True) (.slice K x.length ck) x) (hk:OkH l0 l1 m2 m3) (hg:GoodL l0.length x) :
    Calls Tryd.prog 41 #[.agg #[.slice A0 l0.length c0,.slice A1 l1.length c1,.slice W m2.length cw,.slice D m3.length cd],.slice K x.length ck] w1 fun e w'=>∃v:Value,e=.returned v ∧
      Kd.R (Kd.int .i64) 3 w' w.heap.size (fun _=>True) v (traceL l0 m3 (l0.length+1) 0 x)∧Below w.heap.size w w'∧Kept w1 w' (fun k=>some k=(Value.slice K x.length ck).ownBlock):=by
  have H0:=AK h0
  have HK:=AK hk
  have HG:=AK hg
  have hb1:=below_alloc (Below.refl w1.heap.size w1) (.cells #[.slice A0 l0.length c0,.slice A1 l1.length c1,.slice W m2.length cw,.slice D m3.length cd] 33 (0,0))
  have HT:=AK (show TR w w1 (fun k=>some k=(Value.slice K x.length ck).ownBlock) #[.slice A0 l0.length c0,.slice A1 l1.length c1,.slice W m2.length cw,.slice D m3.length cd] D cd m3 K ck x (w1.alloc (.cells #[.slice A0 l0.length c0,.slice A1 l1.length c1,.slice W m2.length cw,.slice D m3.length cd] 33 (0,0)))from
    ⟨bst hB hb1,Kept.of_below hb1 _,blk_new w1 _,hd.below hb1,Kd.R_below h hb1,fun k e=>.inl e⟩)
  obtain⟨r,er⟩:∃r,r=traceL l0 m3 (l0.length+1) 0 x:=⟨_,rfl⟩
  rw[←er]
  have HR:=AK er
  obtain⟨S,eS⟩:∃S:Nat→Prop,S=(fun k=>some k=(Value.slice K x.length ck).ownBlock):=⟨_,rfl⟩
  rw[←eS]at HT ⊢
  clear h0 k0 h1 k1 hw hd hB h hk hg er eS hb1
  go_enter Tryd.func41,Tryd.ntmps41
  go_wp2
  generalize w1.alloc (.cells #[.slice A0 l0.length c0,.slice A1 l1.length c1,.slice W m2.length cw,.slice D m3.length cd] 33 (0,0))=wa at HT ⊢
  go_loopg [1,5] (l0.length+1) (fun kq v1 v5 w'=>∃(y:List Int) (K:Option Addr) (ck:Nat) (i:Int),v1=.slice K y.length ck∧v5=.int .i64 i∧Aside0 (0≤i∧i≤y.length∧i+kq=l0.length+1)∧Aside0 (GoodL l0.length y)∧Aside0 (r=traceL l0 m3 kq i y)∧Aside0 (TR w w1 S #[.slice A0 l0.length c0,.slice A1 l1.length c1,.slice W m2.length cw,.slice D m3.length cd] D cd m3 K ck y w'))
  case atStart=>exact⟨x,K,ck,0,rfl,rfl,⟨by omega,by omega,by omega⟩,HG,HR,HT⟩
  case round=>
    clear HT HG HR
    obtain⟨y,K,ck,i,rfl,rfl,HI,HG,HR,HT⟩:=hrel
    have HN:=AK (nodup_len _ _ HG.out)
    obtain⟨k1,rfl⟩:∃k1,gk=k1+1:=⟨gk - 1,by have:=HI.out;have:=HN.out;omega⟩
    have hr:=HR.out
    rw[show traceL l0 m3 (k1+1) i y=if i<(y.length:Int)then traceL l0 m3 k1 (i+1) (putAll y (nextL l0 m3 (rd y i)))else y from rfl]at hr
    obtain⟨p0,p1,p2,p3⟩:=box4 HT.out.bx
    by_cases d:i<(y.length:Int)
    case neg=>
      rw[if_neg d]at hr
      have c9:decide (i<(y.length:Int))=false:=deF d
      clear HR d
      subst hr
      go_wp2
      go_ret
      exact⟨_,rfl,HT.out.kn,HT.out.b,HT.out.kp⟩
    rw[if_pos d]at hr
    have c9:decide (i<(y.length:Int))=true:=deT d
    have hi0:=eq_true (show 0≤i by have:=HI.out;omega)
    have hi1:=eq_true d
    obtain⟨ad,e1,hq⟩:=Kd.at_int (Kd.R_reads' HT.out.kn).2.2 i (by have:=HI.out;omega) d
    subst e1
    have hgp:=HG.out.2 _ (getD_mem y 0 i (by have:=HI.out;omega) d)
    rw[show y.getD i.toNat 0=rd y i from rfl]at hgp
    obtain⟨q,eq⟩:∃q,q=rd y i:=⟨_,rfl⟩
    rw[←eq]at hq hr hgp
    have HQ:=AK hgp
    have hok:=ob_parts (ob_at HK.out hgp.1 hgp.2)
    have H3:=AK (show (rd_T38 l0 q).f0=3→2≤(rd_T38 l0 q).f2.length from fun e=>by rcases hok.2.2 with⟨a,_⟩|⟨a,_⟩|⟨_,b⟩|⟨a,_⟩<;>omega)
    have HNX:=AK (next_lt HK.out hgp.1 hgp.2)
    have HM3:=AK (show m3.length≤1048576 by have:=HK.out.w;omega)
    have hxl:(nextL l0 m3 q).length≤1048576:=by
      have hw:=HK.out.w
      unfold nextL
      split
      · rw[List.length_drop];rcases hok.2.2 with⟨a,b⟩|⟨a,b⟩|⟨_,b⟩|⟨a,b⟩<;>(try rw[b])<;>simp<;>omega
      split
      · rw[List.length_map]
        have:=List.length_filter_le (fun x:S60=>x.f0 == q) m3
        omega
      · rcases hok.2.2 with⟨a,b⟩|⟨a,b⟩|⟨_,b⟩|⟨a,b⟩<;>(try rw[b])<;>simp<;>omega
    have HXL:=AK hxl
    have HR2:=AK hr
    have HX:=AK (show (_∧_∧_∧_)∧_ from⟨⟨p0,p1,p2,p3⟩,hq⟩)
    obtain⟨S2,eS2⟩:∃S2:Nat→Prop,S2=(fun k=>some k=(Value.slice (some ad) y.length ck).ownBlock):=⟨_,rfl⟩
    have HS2:=AK (show ∀k,S2 k→w.heap.size≤k∧k<wr.heap.size from fun k hk=>by
      rw[eS2]at hk
      obtain⟨cs,hcs⟩:=Kd.R_typed HT.out.kn k hk.symm
      exact⟨Kd.R_base HT.out.kn k hk.symm,blk_lt hcs⟩)
    have ES2:=AK eS2
    clear hgp hok hxl hr eq d HR p0 p1 p2 p3 eS2
    go_wp2_with fail
    go_region_held3 (fun w'=>(w'.cell? ⟨w1.heap.size,0,none⟩=some (.slice A0 l0.length c0)∧w'.cell? ⟨w1.heap.size,1,none⟩=some (.slice A1 l1.length c1)∧w'.cell? ⟨w1.heap.size,2,none⟩=some (.slice W m2.length cw)∧w'.cell? ⟨w1.heap.size,3,none⟩=some (.slice D m3.length cd))∧w'.cell? (ad.add i.toNat)=some (.int .i64 q))
      (first|exact HX.out|exact HY.out)
      (first|(go_at_call 55;refine(l2Next_c (S:=S2) H0.out (below_drew1 HT.out.b) (Kd.C_below (HT.out.rd.now HT.out.b) (below_drew1 (Below.refl _ _))) HS2.out HQ.out H3.out HM3.out).mono ?_;rintro e w5 ⟨B,b,rfl,hl,hC,hb⟩;have HY:=AK (show (_∧_∧_∧_)∧_ from⟨⟨pcb hb HX.out.1.1,pcb hb HX.out.1.2.1,pcb hb HX.out.1.2.2.1,pcb hb HX.out.1.2.2.2⟩,pcb hb HX.out.2⟩);replace HT:=AK (HT.out.below (bst (below_drew1 (Below.refl wr.heap.size wr)) hb));have HC:=AK hC;clear hb hC hl))
    clear HX HY
    have HLE:=AK (show ∀k,some k=(Value.slice (some ad) y.length ck).ownBlock→S2 k from fun k e=>by rw[ES2.out];exact e)
    obtain⟨xs,exs⟩:∃xs,xs=nextL l0 m3 q:=⟨_,rfl⟩
    rw[←exs]at HR2 HNX HXL HC ⊢
    clear exs H3 HM3 HS2 ES2
    have HP:=AK (show putAll y (xs.drop (0:Int).toNat)=putAll y xs from rfl)
    obtain⟨y0,ey⟩:∃y0,y0=putAll y xs:=⟨_,rfl⟩
    rw[←ey]at HR2 HP
    have HY0:=AK (show GoodL l0.length y0∧y.length≤y0.length from by rw[ey];exact⟨good_putAll xs HG.out HNX.out,(putAll_prefix xs y).length_le⟩)
    clear ey
    have HC1:=AK (show ∀W',Kept w5 W' S2→Kd.C (Kd.int .i64) W' B xs.length xs from HC.out)
    have HK5:=AK (Kept.refl w5 S2)
    have HLN:=AK (show i<(y.length:Int)from of_eq_true hi1)
    clear HC hq hi0 hi1 c9
    go_wp2
    go_loopg [1,7] xs.length (fun kq v1 v7 w'=>∃(z:List Int) (K:Option Addr) (ck:Nat) (j:Int),v1=.slice K z.length ck∧v7=.int .i64 j∧Aside0 (0≤j∧j+kq=xs.length)∧Aside0 (GoodL l0.length z)∧Aside0 (putAll z (xs.drop j.toNat)=y0)∧Aside0 (TR w w1 S #[.slice A0 l0.length c0,.slice A1 l1.length c1,.slice W m2.length cw,.slice D m3.length cd] D cd m3 K ck z w') ∧
      Aside0 (Kept w5 w' S2)∧Aside0 (∀k,some k=(Value.slice K z.length ck).ownBlock→S2 k∨w5.heap.size≤k))
    case atStart=>exact⟨y,some ad,ck,0,rfl,rfl,⟨by omega,by omega⟩,HG,HP,HT,HK5,⟨fun k e=>.inl (HLE.out k e)⟩⟩
    case round=>
      clear HT HG HP HK5 HLE
      obtain⟨z,K,ck,j,rfl,rfl,HJ,HG,HP,HT,HK5,HLE⟩:=hrel
      have HN2:=AK (nodup_len _ _ HG.out)
      cases gk with
      | zero=>
        have c9:decide (j<(xs.length:Int))=false:=deF (by have:=HJ.out;omega)
        have hp:=HP.out
        rw[drop_end _ _ (by have:=HJ.out;omega)]at hp
        have hp:z=y0:=hp
        clear HP
        subst hp
        go_wp2
        go_roundg k1
        case measure=>omega
        case rel=>
          rw[wrap_succ i (by have:=HI.out;omega) (by have:=HI.out;have:=HN.out;have:=HK.out.n;omega)]
          exact⟨z,K,ck,i+1,rfl,rfl,⟨by have:=HI.out;omega,by have:=HLN.out;have:=HY0.out.2;omega,by have:=HI.out;omega⟩,HG,HR2,HT⟩
      | succ k2=>
        have c9:decide (j<(xs.length:Int))=true:=deT (by have:=HJ.out;omega)
        have hj0:=eq_true (show 0≤j by have:=HJ.out;omega)
        have hj1:=eq_true (show j<(xs.length:Int)by have:=HJ.out;omega)
        obtain⟨ae,e2,ht⟩:=Kd.at_int (HC1.out _ HK5.out) j (by have:=HJ.out;omega) (by have:=HJ.out;omega)
        subst e2
        have hp:=HP.out
        rw[drop_cons xs 0 j (by have:=HJ.out;omega) (by have:=HJ.out;omega)]at hp
        have hnx:=HNX.out _ (getD_mem xs 0 j (by have:=HJ.out;omega) (by have:=HJ.out;omega))
        rw[show xs.getD j.toNat 0=rd xs j from rfl]at hp hnx
        obtain⟨t,et⟩:∃t,t=rd xs j:=⟨_,rfl⟩
        rw[←et]at ht hp hnx
        have HG2:=AK (good_putL HG.out hnx)
        have HP2:=AK (show putAll (putL z t) (xs.drop (j+1).toNat)=y0 from hp)
        clear hp hnx et HP
        go_wp2_with fail
        refine(l2Put_o HT.out.b HT.out.kn (by have:=HN2.out;have:=HK.out.n;omega) t).mono ?_
        rintro e w6 ⟨K2,k2',rfl,hr,ho,hb,hk⟩
        have HT2:=AK (HT.out.put hb hk hr ho)
        have HK6:=AK (HK5.out.then_ hk (fun k e=>HLE.out k e))
        have HLE2:=AK (show ∀k,some k=(Value.slice K2 (putL z t).length k2').ownBlock→S2 k∨w5.heap.size≤k from fun k e=>(ho k e.symm).elim (HLE.out k) (fun hl=>.inr (Nat.le_trans HK5.out.1 hl)))
        obtain⟨z2,ez⟩:∃z2,z2=putL z t:=⟨_,rfl⟩
        rw[←ez]at HG2 HP2 HT2 HLE2 ⊢
        clear hr ho hb hk HT ht ez
        go_wp2
        go_roundg k2
        case measure=>omega
        case rel=>
          rw[wrap_succ j (by have:=HJ.out;omega) (by have:=HJ.out;have:=HXL.out;omega)]
          exact⟨z2,K2,k2',j+1,rfl,rfl,⟨by have:=HJ.out;omega,by have:=HJ.out;omega⟩,HG2,HP2,HT2,HK6,HLE2⟩
theorem l2Reach_c2 {A2 A3:Option Addr} {c2 c3:Nat} {l2 l3:List S60} (h:InH w A0 c0 A1 c1 A2 c2 A3 c3 l0 l1 l2 l3) (hk:OkH l0 l1 l2 l3) :
    Calls Tryd.prog 24 #[.agg #[.slice A0 l0.length c0,.slice A1 l1.length c1,.slice A2 l2.length c2,.slice A3 l3.length c3]] w fun e w'=>
      ∃v:Value,e=.returned v∧Kd.R (Kd.int .i64) 3 w' w.heap.size (fun _=>True) v (reachL l0 l1 l3)∧Below w.heap.size w w':=by
  have HI:=AK h
  have HK:=AK hk
  have HW:=AK (show Below w.heap.size w (w.alloc (.cells #[.slice A0 l0.length c0,.slice A1 l1.length c1,.slice A2 l2.length c2,.slice A3 l3.length c3] 33 (0,0)))∧(w.alloc (.cells #[.slice A0 l0.length c0,.slice A1 l1.length c1,.slice A2 l2.length c2,.slice A3 l3.length c3] 33 (0,0))).heap[w.heap.size]?=some (.cells #[.slice A0 l0.length c0,.slice A1 l1.length c1,.slice A2 l2.length c2,.slice A3 l3.length c3] 33 (0,0))from⟨below_alloc (Below.refl _ _) _,blk_new w _⟩)
  have HP:=AK (show putAll [] (l1.drop (0:Int).toNat)=putAll [] l1 from rfl)
  have HRR:=AK (show reachL l0 l1 l3=traceL l0 l3 (l0.length+1) 0 (putAll [] l1)from rfl)
  obtain⟨y0,ey⟩:∃y0,y0=putAll [] l1:=⟨_,rfl⟩
  rw[←ey]at HP HRR
  obtain⟨r,er⟩:∃r,r=reachL l0 l1 l3:=⟨_,rfl⟩
  rw[←er]at HRR ⊢
  clear h hk ey er
  go_enter Tryd.func24,Tryd.ntmps24
  go_wp2_with ((with_reducible refine gate_dst (N:=5) rfl ?_);refine Kd.R_lit (Kd.int .i64) (w0:=(w.alloc (.cells #[.slice A0 l0.length c0,.slice A1 l1.length c1,.slice A2 l2.length c2,.slice A3 l3.length c3] 33 (0,0)))) (World.heap (w.alloc (.cells #[.slice A0 l0.length c0,.slice A1 l1.length c1,.slice A2 l2.length c2,.slice A3 l3.length c3] 33 (0,0)))).size 3 ?hg (N:=5) ?hd (xs:=([]:List Int)) (inner:=[]) (ok:=fun _=>True) (okp:=fun _=>True) ?hr ?hp (fun _ hk=>hk) trivial (Below.refl _ _) (Nat.le_refl _) (by simp) ?_;(case hd=>rfl);(case hg=>rfl);(case hr=>first|(go_simp;done)|(go_simp;rfl));(case hp=>exact Reps.none _ _);intro v1 w2 hr hb hg hn;obtain⟨K0,ck0,hv⟩:=Kd.R_slice hr;subst hv;have HR:=AK (Kd.R_lower hr HW.out.1.size);have HB:=AK (And.intro (bst HW.out.1 hb) (bbl HW.out.2 hb));clear hr hb hg hn HW)
  go_loopg [3,4] l1.length (fun kq v3 v4 w'=>∃(z:List Int) (K:Option Addr) (ck:Nat) (j:Int),v3=.slice K z.length ck∧v4=.int .i64 j∧Aside0 (0≤j∧j+kq=l1.length)∧Aside0 (GoodL l0.length z)∧Aside0 (putAll z (l1.drop j.toNat)=y0)∧Aside0 (Below w.heap.size w w'∧w'.heap[w.heap.size]?=some (.cells #[.slice A0 l0.length c0,.slice A1 l1.length c1,.slice A2 l2.length c2,.slice A3 l3.length c3] 33 (0,0))) ∧
    Aside0 (Kd.R (Kd.int .i64) 3 w' w.heap.size (fun _=>True) (.slice K z.length ck) z))
  case atStart=>exact⟨[],K0,ck0,0,rfl,rfl,⟨by omega,by omega⟩,⟨good_nil _⟩,HP,HB,HR⟩
  case round=>
    clear HB HR HP
    obtain⟨z,K,ck,j,rfl,rfl,HJ,HG,HP,HB,HR⟩:=hrel
    obtain⟨p0,p1,p2,p3⟩:=box4 HB.out.2
    have HN2:=AK (nodup_len _ _ HG.out)
    cases gk with
    | zero=>
      have c9:decide (j<(l1.length:Int))=false:=deF (by have:=HJ.out;omega)
      have hp:=HP.out
      rw[drop_end _ _ (by have:=HJ.out;omega)]at hp
      have hp:z=y0:=hp
      clear HP
      subst hp
      go_wp2_with fail
      refine(l2Trace_c HI.out.r0 HI.out.k0 HI.out.r1 HI.out.k1 ⟨HI.out.k2,.inl HI.out.r2⟩ ⟨HI.out.k3,.inl HI.out.r3⟩ HB.out.1 HR.out HK.out HG.out).mono ?_
      rintro e w6 ⟨v,rfl,hr,hb,_⟩
      rw[←HRR.out]at hr
      have HR:=AK hr
      have HB:=AK hb
      clear hr hb p0 p1 p2 p3
      go_wp2
      go_ret
      exact⟨_,rfl,HR.out,HB.out⟩
    | succ k2=>
      have c9:decide (j<(l1.length:Int))=true:=deT (by have:=HJ.out;omega)
      have hj0:=eq_true (show 0≤j by have:=HJ.out;omega)
      have hj1:=eq_true (show j<(l1.length:Int)by have:=HJ.out;omega)
      obtain⟨ae,e2,ht⟩:=Kd.at_int (Kd.C_below HI.out.r1 HB.out.1) j (by have:=HJ.out;omega) (by have:=HJ.out;omega)
      subst e2
      have hp:=HP.out
      rw[drop_cons l1 0 j (by have:=HJ.out;omega) (by have:=HJ.out;omega)]at hp
      have hnx:=(HK.out.rs _ (getD_mem l1 0 j (by have:=HJ.out;omega) (by have:=HJ.out;omega))).2
      rw[show l1.getD j.toNat 0=rd l1 j from rfl]at hp hnx
      obtain⟨t,et⟩:∃t,t=rd l1 j:=⟨_,rfl⟩
      rw[←et]at ht hp hnx
      have HG2:=AK (good_putL HG.out hnx)
      have HP2:=AK (show putAll (putL z t) (l1.drop (j+1).toNat)=y0 from hp)
      clear hp hnx et HP
      go_wp2_with fail
      refine(l2Put_o HB.out.1 HR.out (by have:=HN2.out;have:=HK.out.n;omega) t).mono ?_
      rintro e w6 ⟨K2,k2',rfl,hr,ho,hb,hk⟩
      have HB2:=AK (And.intro hb (kept_blk HB.out.2 HR.out (by decide) hk))
      have HR2:=AK hr
      obtain⟨z2,ez⟩:∃z2,z2=putL z t:=⟨_,rfl⟩
      rw[←ez]at HG2 HP2 HR2 ⊢
      clear hr ho hb hk ht ez p0 p1 p2 p3 HB HR
      go_wp2
      go_roundg k2
      case measure=>omega
      case rel=>
        rw[wrap_succ j (by have:=HJ.out;omega) (by have:=HJ.out;have:=HK.out.r;omega)]
        exact⟨z2,K2,k2',j+1,rfl,rfl,⟨by have:=HJ.out;omega,by have:=HJ.out;omega⟩,HG2,HP2,HB2,HR2⟩
end
end
end Go.Proofs.YtigjhfijkdlldaaDoor.H
