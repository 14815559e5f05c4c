import Derived.Test.YtigjhfijkdlldaaDoorSliPu
namespace Go.Proofs.YtigjhfijkdlldaaDoor.H
open Go.RowKit Go.Proofs.YtigjhfijkdlldaaDoorW.PrintWords Go.Proofs.YtigjhfijkdlldaaDoorW.PrintLast Go.Proofs.YtigjhfijkdlldaaDoorW.PrintMore Go.Proofs.YtigjhfijkdlldaaDoor.Q
set_option linter.unusedVariables false
theorem U.bound {w:World} {base g:Nat} {okM:Nat→Prop} {f:Nat→Nat} {p:Int} {o:S38} (h:U w base g okM f p o):U w base g (fun k=>okM k∧base≤k∧k<w.heap.size) f p o:=by
  obtain⟨A2,c2,h0,h1,h2,h3⟩:=h
  exact⟨A2,c2,h0,h1,h2,Kd.R_mono (Kd.R_bound h3) (fun k hk=>⟨⟨hk.1.1,hk.2.1,hk.2.2.1⟩,hk.1.2⟩)⟩
structure MF (w:World) (n g:Nat) (okM:Nat→Prop) (f:Nat→Nat) (l0:List S38) (x:List Int) (R:Option Addr) (cr:Nat) (l1:List Int):Prop where
  nb:w.heap.size+1<n
  gb:w.heap.size≤g∧g<n
  ok:∀k,okM k→w.heap.size≤k∧k<n∧k≠g∧some k≠(Value.slice R l1.length cr).ownBlock
  xs:GoodL l0.length x
def okO (n:Nat) (qb:Option Nat) (okM:Nat→Prop) (f:Nat→Nat) (x:List Int) (i:Nat) (k:Nat):Prop:=(n≤k∧some k≠qb)∨(okM k∧∃q∈x.take i,f k=q.toNat)
structure MI (w:World) (n g bp bo:Nat) (okM:Nat→Prop) (f:Nat→Nat) (l0:List S38) (x:List Int) (hx:Array Value) (R:Option Addr) (cr:Nat) (l1:List Int) (W:Option Addr) (cw:Nat) (m2:List S60) (D:Option Addr) (cd:Nat) (m3:List S60) (X:Option Addr) (cx:Nat) (Q:Option Addr) (cq:Nat) (ql:List Int)
    (nu no:Nat) (V:Value) (w':World):Prop where
  b:Below w.heap.size w w'
  yh:w'.heap[w.heap.size]?=some (.cells hx 33 (0,0))
  yz:w'.heap[w.heap.size+1]?=some (.cells #[.slice none 0 0,.slice none 0 0,.slice none 0 0,.slice none 0 0] 33 (0,0))
  yp:w'.heap[bp]?=some (.cells #[.slice Q ql.length cq] 29 (0,0))
  yo:w'.heap[bo]?=some (.cells #[V,.slice none 0 0,.slice none 0 0,.slice none 0 0] 33 (0,0))
  rx:Kd.R (Kd.int .i64) 3 w' n (fun _=>True) (.slice X x.length cx) x
  rq:Kd.R (Kd.int .i64) 3 w' n (fun _=>True) (.slice Q ql.length cq) ql
  r1:Kd.R (Kd.int .i64) 3 w' w.heap.size (fun _=>True) (.slice R l1.length cr) l1
  r2:Kd.R k60 71 w' w.heap.size (fun _=>True) (.slice W m2.length cw) m2
  r3:Kd.R k60 71 w' w.heap.size (fun _=>True) (.slice D m3.length cd) m3
  u:∀p∈x.drop nu,U w' w.heap.size g okM f p (rd_T38 l0 p)
  s:Kd.S k38 35 w' w.heap.size (okO n (Value.slice Q ql.length cq).ownBlock okM f x no) V ((x.take no).map fun p=>objOf x (rd_T38 l0 p))
  v:∀k,V.ownBlock=some k→n≤k
section
variable {w w1 w2:World} {n g bp bo:Nat} {okM:Nat→Prop} {f:Nat→Nat} {l0:List S38} {x:List Int} {hx:Array Value} {R:Option Addr} {cr:Nat} {l1:List Int} {W:Option Addr} {cw:Nat} {m2:List S60} {D:Option Addr} {cd:Nat} {m3:List S60} {X:Option Addr} {cx:Nat} {Q:Option Addr} {cq:Nat} {ql:List Int} {nu no:Nat} {V:Value}
theorem MI.below (h:MI w n g bp bo okM f l0 x hx R cr l1 W cw m2 D cd m3 X cx Q cq ql nu no V w1) (hb:Below w1.heap.size w1 w2):MI w n g bp bo okM f l0 x hx R cr l1 W cw m2 D cd m3 X cx Q cq ql nu no V w2:=
  ⟨bst h.b hb,bbl h.yh hb,bbl h.yz hb,bbl h.yp hb,bbl h.yo hb,Kd.R_below h.rx hb,Kd.R_below h.rq hb,Kd.R_below h.r1 hb,Kd.R_below h.r2 hb,Kd.R_below h.r3 hb,fun p hp=>(h.u p hp).below hb,Kd.S_below h.s hb,h.v⟩
theorem MI.set (hF:MF w n g okM f l0 x R cr l1) (h:MI w n g bp bo okM f l0 x hx R cr l1 W cw m2 D cd m3 X cx Q cq ql nu no V w1) {b:Nat} {cells:Array Value} (hb:okM b) (ht:w1.heap[b]?=some (.cells cells 3 (0,0)))
    (h1:∀p∈x.drop nu,f b≠p.toNat) (h2:∀q∈x.take no,f b≠q.toNat) (j:Nat) (u:Value):MI w n g bp bo okM f l0 x hx R cr l1 W cw m2 D cd m3 X cx Q cq ql nu no V (w1.setCell ⟨b,j,none⟩ u):=by
  obtain⟨hb0,hb1,hb2,hb3⟩:=hF.ok b hb
  have hne:∀{k:Nat} {cs:Array Value} {t:TypeId},w1.heap[k]?=some (.cells cs t (0,0))→t≠3→k≠b:=fun hk h3=>blk_ne hk ht h3
  refine⟨below_set h.b hb0,blk_far h.yh (p:=⟨b,j,none⟩) (hne h.yh (by decide)) u,blk_far h.yz (p:=⟨b,j,none⟩) (hne h.yz (by decide)) u,blk_far h.yp (p:=⟨b,j,none⟩) (hne h.yp (by decide)) u,blk_far h.yo (p:=⟨b,j,none⟩) (hne h.yo (by decide)) u,?_,?_,?_,?_,?_,fun p hp=>?_,?_,h.v⟩
  · exact Kd.R_mono (Kd.R_far (p:=⟨b,j,none⟩) (Kd.R_bound h.rx) (fun k hk e=>by have:=hk.2.1;have e2:k=b:=e;omega) u) (fun _ _=>trivial)
  · exact Kd.R_mono (Kd.R_far (p:=⟨b,j,none⟩) (Kd.R_bound h.rq) (fun k hk e=>by have:=hk.2.1;have e2:k=b:=e;omega) u) (fun _ _=>trivial)
  · exact Kd.R_mono (Kd.R_far (p:=⟨b,j,none⟩) (Kd.R_tight rfl h.r1) (fun k hk e=>hb3 (by rw[←hk];exact congrArg some (show b=k from Eq.symm e))) u) (fun _ _=>trivial)
  · exact Kd.R_set h.r2 ht (k60_ap 3 (by decide)) j u
  · exact Kd.R_set h.r3 ht (k60_ap 3 (by decide)) j u
  · exact(h.u p hp).set (fun e=>hb2 e.symm) (fun k hk he e=>h1 p hp (by rw[←e];exact he)) j u
  · exact Kd.S_far (p := ⟨b, j, none⟩) h.s (fun k hk e => by
      have e2:k=b:=e
      subst e2
      rcases hk with⟨hk,_⟩|⟨_,q,hq,hk⟩
      · omega
      · exact h2 q hq hk) u
theorem MI.push (hF:MF w n g okM f l0 x R cr l1) (h:MI w n g bp bo okM f l0 x hx R cr l1 W cw m2 D cd m3 X cx Q cq ql nu no V w1) (hbo:n≤bo) (hbp:n≤bp) (hpo:bp≠bo) {V2:Value} (hs:Kd.S k38 35 w2 w.heap.size (okO n (Value.slice Q ql.length cq).ownBlock okM f x (no+1)) V2 ((x.take (no+1)).map fun p=>objOf x (rd_T38 l0 p)))
    (hb:Below w.heap.size w w2) (hg:w1.grownBy w2 V.ownBlock) (hat:V2.ownBlock=V.ownBlock∨∃b,V2.ownBlock=some b∧w1.heap.size≤b) :
    MI w n g bp bo okM f l0 x hx R cr l1 W cw m2 D cd m3 X cx Q cq ql nu (no+1) V2 (w2.setCell ⟨bo,0,none⟩ V2):=by
  have hno:∀{k:Nat} {cs:Array Value} {t:TypeId},w1.heap[k]?=some (.cells cs t (0,0))→(35:Nat)≠t→some k≠V.ownBlock:=fun hk h3=>Kd.S_ne h.s hk h3
  have hx2:=blk_grown h.yh hg (hno h.yh (by decide))
  have hz2:=blk_grown h.yz hg (hno h.yz (by decide))
  have hp2:=blk_grown h.yp hg (hno h.yp (by decide))
  have ho2:=blk_grown h.yo hg (hno h.yo (by decide))
  have ty:=Kd.S_typed h.s
  have nb:=hF.nb
  have gb:=hF.gb
  have n1:n≤w1.heap.size:=by have:=blk_lt h.yo;omega
  refine⟨below_set hb (by omega),blk_far hx2 (p:=⟨bo,0,none⟩) (show w.heap.size≠bo by omega) _,blk_far hz2 (p:=⟨bo,0,none⟩) (show w.heap.size+1≠bo by omega) _,blk_far hp2 (p:=⟨bo,0,none⟩) hpo _,blk_put ho2 0 _ rfl,?_,?_,?_,?_,?_,fun p hp=>?_,?_,fun k hk=>?_⟩
  · exact Kd.R_set (Kd.R_over' h.rx ty (int_ap 35 (by decide)) hg) ho2 (int_ap 33 (by decide)) 0 _
  · exact Kd.R_set (Kd.R_over' h.rq ty (int_ap 35 (by decide)) hg) ho2 (int_ap 33 (by decide)) 0 _
  · exact Kd.R_set (Kd.R_over' h.r1 ty (int_ap 35 (by decide)) hg) ho2 (int_ap 33 (by decide)) 0 _
  · exact Kd.R_set (Kd.R_over' h.r2 ty (k60_ap 35 (by decide)) hg) ho2 (k60_ap 33 (by decide)) 0 _
  · exact Kd.R_set (Kd.R_over' h.r3 ty (k60_ap 35 (by decide)) hg) ho2 (k60_ap 33 (by decide)) 0 _
  · refine((h.u p hp).grown hg (fun e=>by have:=h.v g e.symm;omega) (fun k hk e=>by have:=h.v k e.symm;have:=(hF.ok k hk).2.1;omega)).set (by omega) (fun k hk _=>by have:=(hF.ok k hk).2.1;omega) 0 _
  · exact Kd.S_set hs ho2 (k38_ap 33 (by decide) (by decide)) 0 _
  · rcases hat with e|⟨b,e,hb2⟩
    · rw[e]at hk;exact h.v k hk
    · rw[e]at hk;injection hk with hk;omega
theorem MI.next (h:MI w n g bp bo okM f l0 x hx R cr l1 W cw m2 D cd m3 X cx Q cq ql nu no V w1):MI w n g bp bo okM f l0 x hx R cr l1 W cw m2 D cd m3 X cx Q cq ql (nu+1) no V w1:=
  { h with u:=fun p hp=>h.u p ((List.drop_subset_drop_left _ (Nat.le_succ nu)) hp) }
end
structure MG (w:World) (n2 bp bo:Nat) (hx:Array Value) (R:Option Addr) (cr:Nat) (l1:List Int) (W:Option Addr) (cw:Nat) (m2:List S60) (D:Option Addr) (cd:Nat) (m3:List S60) (Q:Option Addr) (cq:Nat) (ql:List Int) (V:Value) (objs:List S38) (cs:Array Value) (w':World):Prop where
  b:Below w.heap.size w w'
  yh:w'.heap[w.heap.size]?=some (.cells hx 33 (0,0))
  yz:w'.heap[w.heap.size+1]?=some (.cells #[.slice none 0 0,.slice none 0 0,.slice none 0 0,.slice none 0 0] 33 (0,0))
  yp:w'.heap[bp]?=some (.cells #[.slice Q ql.length cq] 29 (0,0))
  yo:w'.heap[bo]?=some (.cells cs 33 (0,0))
  rq:Kd.R (Kd.int .i64) 3 w' w.heap.size (fun k=>k<n2) (.slice Q ql.length cq) ql
  r1:Kd.R (Kd.int .i64) 3 w' w.heap.size (fun k=>k<n2) (.slice R l1.length cr) l1
  r2:Kd.R k60 71 w' w.heap.size (fun k=>k<n2) (.slice W m2.length cw) m2
  r3:Kd.R k60 71 w' w.heap.size (fun k=>k<n2) (.slice D m3.length cd) m3
  s:Kd.S k38 35 w' w.heap.size (fun k=>k<n2∧some k≠(Value.slice Q ql.length cq).ownBlock) V objs
section
variable {w w1 w2:World} {n n2 g bp bo:Nat} {okM:Nat→Prop} {f:Nat→Nat} {l0:List S38} {x:List Int} {hx:Array Value} {R:Option Addr} {cr:Nat} {l1:List Int} {W:Option Addr} {cw:Nat} {m2:List S60} {D:Option Addr} {cd:Nat} {m3:List S60} {X:Option Addr} {cx:Nat} {Q:Option Addr} {cq:Nat} {ql:List Int} {nu no:Nat} {V:Value} {objs:List S38} {cs:Array Value}
theorem MI.done (hF:MF w n g okM f l0 x R cr l1) (h:MI w n g bp bo okM f l0 x hx R cr l1 W cw m2 D cd m3 X cx Q cq ql nu no V w1):MG w w1.heap.size bp bo hx R cr l1 W cw m2 D cd m3 Q cq ql V ((x.take no).map fun p=>objOf x (rd_T38 l0 p)) #[V,.slice none 0 0,.slice none 0 0,.slice none 0 0] w1:=
  ⟨h.b,h.yh,h.yz,h.yp,h.yo,Kd.R_lower (Kd.R_mono (Kd.R_bound h.rq) (fun k hk=>hk.2.2.1)) (by have:=hF.nb;omega),Kd.R_mono (Kd.R_bound h.r1) (fun k hk=>hk.2.2.1),Kd.R_mono (Kd.R_bound h.r2) (fun k hk=>hk.2.2.1),Kd.R_mono (Kd.R_bound h.r3) (fun k hk=>hk.2.2.1),
    Kd.S_mono (Kd.S_bound h.s) (fun k hk=>⟨hk.2.2.1,hk.1.elim (fun h1=>h1.2) (fun h1 e=>by have h2:=Kd.R_base h.rq k e.symm;have h3:=(hF.ok k h1.1).2.1;omega)⟩)⟩
theorem MG.below (h:MG w n2 bp bo hx R cr l1 W cw m2 D cd m3 Q cq ql V objs cs w1) (hb:Below w1.heap.size w1 w2):MG w n2 bp bo hx R cr l1 W cw m2 D cd m3 Q cq ql V objs cs w2:=
  ⟨bst h.b hb,bbl h.yh hb,bbl h.yz hb,bbl h.yp hb,bbl h.yo hb,Kd.R_below h.rq hb,Kd.R_below h.r1 hb,Kd.R_below h.r2 hb,Kd.R_below h.r3 hb,Kd.S_below h.s hb⟩
theorem MG.grown (h:MG w n2 bp bo hx R cr l1 W cw m2 D cd m3 Q cq ql V objs cs w1) {v:Value} (hg:w1.grownBy w2 v.ownBlock) (hb:Below w.heap.size w w2) (hv:∀k,v.ownBlock=some k→n2≤k∧∃cells,w1.heap[k]?=some (.cells cells 3 (0,0))):MG w n2 bp bo hx R cr l1 W cw m2 D cd m3 Q cq ql V objs cs w2:=by
  have hno:∀{k:Nat} {cs:Array Value} {t:TypeId},w1.heap[k]?=some (.cells cs t (0,0))→t≠3→some k≠v.ownBlock:=fun hk h3 e=>by
    obtain⟨_,cells,hc⟩:=hv _ e.symm
    exact blk_ne hk hc h3 rfl
  have hlt:∀k,k<n2→some k≠v.ownBlock:=fun k hk e=>by have:=(hv k e.symm).1;omega
  exact⟨hb,blk_grown h.yh hg (hno h.yh (by decide)),blk_grown h.yz hg (hno h.yz (by decide)),blk_grown h.yp hg (hno h.yp (by decide)),blk_grown h.yo hg (hno h.yo (by decide)),Kd.R_step h.rq (fun k hk hl=>hg.block k hl (hlt k hk)),Kd.R_step h.r1 (fun k hk hl=>hg.block k hl (hlt k hk)),Kd.R_step h.r2 (fun k hk hl=>hg.block k hl (hlt k hk)),Kd.R_step h.r3 (fun k hk hl=>hg.block k hl (hlt k hk)),Kd.S_step h.s (fun k hk hl=>hg.block k hl (hlt k hk.1))⟩
theorem MG.set (h:MG w n2 bp bo hx R cr l1 W cw m2 D cd m3 Q cq ql V objs cs w1) (h1:w.heap.size+1<bo) (h2:bp≠bo) (j:Nat) (u:Value) (cs':Array Value) (e:cs.setIfInBounds j u=cs'):MG w n2 bp bo hx R cr l1 W cw m2 D cd m3 Q cq ql V objs cs' (w1.setCell ⟨bo,j,none⟩ u):=
  ⟨below_set h.b (by omega),blk_far h.yh (p:=⟨bo,j,none⟩) (show w.heap.size≠bo by omega) _,blk_far h.yz (p:=⟨bo,j,none⟩) (show w.heap.size+1≠bo by omega) _,blk_far h.yp (p:=⟨bo,j,none⟩) h2 _,blk_put h.yo j u e,Kd.R_set h.rq h.yo (int_ap 33 (by decide)) j u,Kd.R_set h.r1 h.yo (int_ap 33 (by decide)) j u,Kd.R_set h.r2 h.yo (k60_ap 33 (by decide)) j u,Kd.R_set h.r3 h.yo (k60_ap 33 (by decide)) j u,Kd.S_set h.s h.yo (k38_ap 33 (by decide) (by decide)) j u⟩
end
theorem S_openA {w:World} {base c:Nat} {ok:Nat→Prop} {A:Option Addr} {l:List S38} (h:Kd.S k38 35 w base ok (.slice A l.length c) l) (hb:base<w.heap.size) :
    ∃(g:Nat) (f:Nat→Nat),(base≤g∧g<w.heap.size)∧∀p:Int,0≤p→p<l.length→A=some ⟨g,0,none⟩∧U w base g (fun k=>(ok k∧k≠g)∧base≤k∧k<w.heap.size) f p (rd_T38 l p):=by
  by_cases hl:0<l.length
  · obtain⟨g,cap,e,hg0,hg1,_⟩:=Kd.S_form h hl
    injection e with e1 e2 e3
    subst e1
    subst e3
    obtain⟨f,hf⟩:=S_open h
    exact⟨g,f,⟨hg0,hg1⟩,fun p h0 h1=>⟨rfl,(hf p h0 h1).bound⟩⟩
  · exact⟨base,fun _=>0,⟨Nat.le_refl _,hb⟩,fun p h0 h1=>by omega⟩
end Go.Proofs.YtigjhfijkdlldaaDoor.H
