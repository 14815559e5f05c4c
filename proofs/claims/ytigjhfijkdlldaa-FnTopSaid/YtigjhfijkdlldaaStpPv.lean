import Derived.Test.YtigjhfijkdlldaaStpHke
import Derived.Test.YtigjhfijkdlldaaStpYrf
import Derived.Test.YtigjhfijkdlldaaStpYob
import Derived.Test.YtigjhfijkdlldaaStpPt
namespace Go.Proofs.Ytigjhfijkdlldaa.H
open Go.RowKit Go.Proofs.YtigjhfijkdlldaaW.PrintWords Go.Proofs.YtigjhfijkdlldaaW.PrintLast Go.Proofs.YtigjhfijkdlldaaW.PrintMore Go.Proofs.Ytigjhfijkdlldaa.Q
set_option linter.unusedVariables false
set_option linter.unusedSimpArgs false
section
theorem memAt_w {w:World} {P:Option Addr} {d:Nat} {pl x:List Int} (hp:Kd.C (Kd.int .i64) w P pl.length pl) (hd:pl.length≤d) (hx:∀p:Int,0≤p→p<pl.length→rd pl p=idxL x p) (p:Int) (h1:p<pl.length) :
    Calls Try.prog 70 #[.slice P pl.length d,.int .i64 p] w fun e w'=>e=.returned (.int .i64 (wh x p))∧Drawn0 w w':=by
  refine(memAt_c hp h1).mono (fun e w' h=>⟨?_,by rw[h.2];exact Drawn0.refl _⟩)
  rw[h.1]
  unfold wh
  by_cases c:p<0
  · rw[if_pos c,if_pos c]
  · rw[if_neg c,if_neg c,hx p (by omega) h1]
set_option maxHeartbeats 4000000 in
set_option maxRecDepth 100000 in
theorem sameRows_calls (A B P Q:Option Addr) (c d e f bp bq:Nat) (l m pl ql x y:List Int) (w:World) (hl:Kd.C (Kd.int .i64) w A l.length l) (hm:Kd.C (Kd.int .i64) w B m.length m)
    (hp:Kd.C (Kd.int .i64) w P pl.length pl) (he:pl.length≤e) (hq:Kd.C (Kd.int .i64) w Q ql.length ql) (hf:ql.length≤f) (hbp:w.heap[bp]?=some (.cells #[.slice P pl.length e] 25 (0,0))) (hbq:w.heap[bq]?=some (.cells #[.slice Q ql.length f] 25 (0,0)))
    (hx:∀p:Int,0≤p→p<pl.length→rd pl p=idxL x p) (hy:∀p:Int,0≤p→p<ql.length→rd ql p=idxL y p) (hlp:∀p∈l,p<pl.length) (hmq:∀p∈m,p<ql.length) (hll:(l.length:Int)≤4611686018427387903) :
    Calls Try.prog 69 #[.slice A l.length c,.slice B m.length d,.pointer (some ⟨bp,0,none⟩),.pointer (some ⟨bq,0,none⟩)] w fun e w'=>e=.returned (.bool (rowsB x y l m))∧Below w.heap.size w w':=by
  have HL:=AK hl
  have HM:=AK hm
  have HP:=AK (And.intro hp he)
  have HQ:=AK (And.intro hq hf)
  have HBP:=AK hbp
  have HBQ:=AK hbq
  have HX:=AK hx
  have HY:=AK hy
  have HLP:=AK hlp
  have HMQ:=AK hmq
  have HLL:=AK hll
  clear hl hm hp he hq hf hbp hbq hx hy hlp hmq hll
  by_cases hlen:l.length=m.length
  · have c1:((l.length:Int) != m.length)=false:=by simp[hlen]
    have HN:=AK hlen
    have e0:rowsB x y l m=cmp2 (whB x y) (l.drop (0:Int).toNat) (m.drop (0:Int).toNat):=by unfold rowsB;rw[deT hlen];rfl
    obtain⟨r,er⟩:∃r,r=rowsB x y l m:=⟨_,rfl⟩
    rw[←er]at e0 ⊢
    have E0:=AK e0
    clear hlen e0 er
    go_enter Try.func69,Try.ntmps69
    go_wp2
    go_loopg [15] l.length (fun kq v15 w'=>∃i:Int,v15=.int .i64 i∧Aside0 (0≤i∧i+kq=l.length)∧Aside0 (r=cmp2 (whB x y) (l.drop i.toNat) (m.drop i.toNat))∧Aside0 (Below w.heap.size w w'))
    case atStart=>exact⟨0,rfl,⟨by omega,by omega⟩,E0,⟨Below.refl _ _⟩⟩
    case round=>
      clear E0
      obtain⟨i,rfl,HI,HE,HB⟩:=hrel
      cases gk with
      | zero=>
        have c4b:decide (i<(l.length:Int))=false:=deF (by have:=HI.out;omega)
        have e:r=true:=by rw[HE.out];exact cmp2_end _ _ _ _ (by have:=HI.out;omega)
        subst e
        go_wp2
        go_ret
        exact⟨rfl,HB.out⟩
      | succ k1=>
        have hi:=HI.out
        have hn:=HN.out
        have c4b:decide (i<(l.length:Int))=true:=deT (by omega)
        have e4a:=eq_true (show 0≤i by omega)
        have e4b:=eq_true (show i<(l.length:Int)by omega)
        have e4c:=eq_true (show i<(m.length:Int)by omega)
        have hlq:=HLP.out _ (getD_mem l 0 i (by omega) (by omega))
        have hmq:=HMQ.out _ (getD_mem m 0 i (by omega) (by omega))
        have he:=HE.out
        rw[cmp2_at _ l m 0 0 i (by omega) (by omega) (by omega)]at he
        obtain⟨ad2,e2,hz0⟩:=Kd.at_int HL.out i (by omega) (by omega)
        subst e2
        obtain⟨ad3,e3,hz1⟩:=Kd.at_int HM.out i (by omega) (by omega)
        subst e3
        obtain⟨p,ep⟩:∃p,p=rd l i:=⟨_,rfl⟩
        obtain⟨q,eq⟩:∃q,q=rd m i:=⟨_,rfl⟩
        rw[←ep]at hz0
        rw[←eq]at hz1
        have HPL:=AK (show p<pl.length by rw[ep];exact hlq)
        have HQL:=AK (show q<ql.length by rw[eq];exact hmq)
        have HE1:=AK (show r=(whB x y p q && cmp2 (whB x y) (l.drop (i+1).toNat) (m.drop (i+1).toNat))by rw[ep,eq];exact he)
        have HZ:=AK (And.intro hz0 hz1)
        replace hz0:=pcb HB.out hz0
        replace hz1:=pcb HB.out hz1
        have q0:=pcb HB.out (bcl HBP.out 0)
        have q1:=pcb HB.out (bcl HBQ.out 0)
        clear ep eq he hi hn hlq hmq HE
        by_cases cc:wh x p=wh y q
        · have c6:(wh x p != wh y q)=false:=by simp[cc]
          have HE2:=AK (show r=cmp2 (whB x y) (l.drop (i+1).toNat) (m.drop (i+1).toNat)by rw[HE1.out];unfold whB;rw[beq_iff_eq.2 cc];rfl)
          clear cc HE1
          go_wp2_with fail
          go_region_held3 (fun w'=>(w'.cell? ⟨bp,0,none⟩=some (.slice P pl.length e)∧w'.cell? ⟨bq,0,none⟩=some (.slice Q ql.length f))∧w'.cell? (ad2.add i.toNat)=some (.int .i64 p)∧w'.cell? (ad3.add i.toNat)=some (.int .i64 q))
            (first|exact⟨⟨pcb HB.out (bcl HBP.out 0),pcb HB.out (bcl HBQ.out 0)⟩,pcb HB.out HZ.out.1,pcb HB.out HZ.out.2⟩|exact⟨⟨pcb HB5.out (bcl HBP.out 0),pcb HB5.out (bcl HBQ.out 0)⟩,pcb HB5.out HZ.out.1,pcb HB5.out HZ.out.2⟩|exact⟨⟨pcb HB6.out (bcl HBP.out 0),pcb HB6.out (bcl HBQ.out 0)⟩,pcb HB6.out HZ.out.1,pcb HB6.out HZ.out.2⟩)
            (first|(go_at_call_of 70 p;refine(memAt_w (Kd.C_below HP.out.1 (below_drew1 HB.out)) HP.out.2 HX.out p HPL.out).mono ?_;rintro e w5 ⟨rfl,hd⟩;have HB5:=AK (bst (below_drew1 HB.out) hd.below);clear hd)|(go_at_call_of 70 q;refine(memAt_w (Kd.C_below HQ.out.1 HB5.out) HQ.out.2 HY.out q HQL.out).mono ?_;rintro e w6 ⟨rfl,hd⟩;have HB6:=AK (bst HB5.out hd.below);clear hd))
          go_wp2
          go_roundg k1
          case measure=>omega
          case rel=>
            have h1:=HI.out
            have h2:=HLL.out
            rw[wrap_succ i (by omega) (by omega)]
            exact⟨i+1,rfl,⟨by omega,by omega⟩,HE2,HB6⟩
        · have c6:(wh x p != wh y q)=true:=by simp[cc]
          have e:r=false:=by rw[HE1.out];unfold whB;rw[beq_eq_false_iff_ne.2 cc];rfl
          subst e
          clear cc HE1
          go_wp2_with fail
          go_region_held3 (fun w'=>(w'.cell? ⟨bp,0,none⟩=some (.slice P pl.length e)∧w'.cell? ⟨bq,0,none⟩=some (.slice Q ql.length f))∧w'.cell? (ad2.add i.toNat)=some (.int .i64 p)∧w'.cell? (ad3.add i.toNat)=some (.int .i64 q))
            (first|exact⟨⟨pcb HB.out (bcl HBP.out 0),pcb HB.out (bcl HBQ.out 0)⟩,pcb HB.out HZ.out.1,pcb HB.out HZ.out.2⟩|exact⟨⟨pcb HB5.out (bcl HBP.out 0),pcb HB5.out (bcl HBQ.out 0)⟩,pcb HB5.out HZ.out.1,pcb HB5.out HZ.out.2⟩|exact⟨⟨pcb HB6.out (bcl HBP.out 0),pcb HB6.out (bcl HBQ.out 0)⟩,pcb HB6.out HZ.out.1,pcb HB6.out HZ.out.2⟩)
            (first|(go_at_call_of 70 p;refine(memAt_w (Kd.C_below HP.out.1 (below_drew1 HB.out)) HP.out.2 HX.out p HPL.out).mono ?_;rintro e w5 ⟨rfl,hd⟩;have HB5:=AK (bst (below_drew1 HB.out) hd.below);clear hd)|(go_at_call_of 70 q;refine(memAt_w (Kd.C_below HQ.out.1 HB5.out) HQ.out.2 HY.out q HQL.out).mono ?_;rintro e w6 ⟨rfl,hd⟩;have HB6:=AK (bst HB5.out hd.below);clear hd))
          go_wp2
          go_ret
          exact⟨rfl,HB6.out⟩
  · have c1:((l.length:Int) != m.length)=true:=by simp;omega
    have e0:rowsB x y l m=false:=by unfold rowsB;rw[deF hlen];rfl
    rw[e0]
    clear hlen e0
    go_enter Try.func69,Try.ntmps69
    go_wp2
    go_ret
    exact⟨rfl,Below.refl _ _⟩
end
section
theorem cell_of_heap {w w1:World} {g o:Nat} (h:w1.heap[g]?=w.heap[g]?):w1.cell? ⟨g,o,none⟩=w.cell? ⟨g,o,none⟩:=by
  simp only[World.cell?,h]
def U (w:World) (base g:Nat) (okM:Nat→Prop) (f:Nat→Nat) (p:Int) (o:S38):Prop:=
  ∃A2 c2,w.cell? ⟨g,p.toNat*3,none⟩=some (.int .i64 o.f0)∧w.cell? ⟨g,p.toNat*3+1,none⟩=some (.string o.f1)∧w.cell? ⟨g,p.toNat*3+2,none⟩=some (.slice A2 o.f2.length c2) ∧
    Kd.R (Kd.int .i64) 3 w base (fun k=>okM k∧f k=p.toNat) (.slice A2 o.f2.length c2) o.f2
theorem U.keep {w w1:World} {base g:Nat} {okM:Nat→Prop} {f:Nat→Nat} {p:Int} {o:S38} (h:U w base g okM f p o) (hg:w1.heap[g]?=w.heap[g]?) (hm:∀k,okM k∧f k=p.toNat→k<w.heap.size→w1.heap[k]?=w.heap[k]?) :
    U w1 base g okM f p o:=by
  obtain⟨A2,c2,h0,h1,h2,h3⟩:=h
  exact⟨A2,c2,by rw[cell_of_heap hg];exact h0,by rw[cell_of_heap hg];exact h1,by rw[cell_of_heap hg];exact h2,Kd.R_step h3 hm⟩
theorem lt_of_cell {w:World} {g o:Nat} {v:Value} (h:w.cell? ⟨g,o,none⟩=some v):g<w.heap.size:=World.block_lt_of_cell? w ⟨g,o,none⟩ h
theorem U.lt {w:World} {base g:Nat} {okM:Nat→Prop} {f:Nat→Nat} {p:Int} {o:S38} (h:U w base g okM f p o):g<w.heap.size:=by
  obtain⟨A2,c2,h0,_⟩:=h;exact lt_of_cell h0
theorem U.below {w w1:World} {base g:Nat} {okM:Nat→Prop} {f:Nat→Nat} {p:Int} {o:S38} (h:U w base g okM f p o) (hb:Below w.heap.size w w1):U w1 base g okM f p o:=
  h.keep (hb.block g h.lt) (fun k _ hk=>hb.block k hk)
theorem U.set {w:World} {base g:Nat} {okM:Nat→Prop} {f:Nat→Nat} {p:Int} {o:S38} (h:U w base g okM f p o) {b:Nat} (h1:g≠b) (h2:∀k,okM k→f k=p.toNat→k≠b) (j:Nat) (u:Value):U (w.setCell ⟨b,j,none⟩ u) base g okM f p o:=
  h.keep (Below.heap_setCell w ⟨b,j,none⟩ u g h1) (fun k hk _=>Below.heap_setCell w ⟨b,j,none⟩ u k (h2 k hk.1 hk.2))
theorem U.grown {w w1:World} {base g:Nat} {okM:Nat→Prop} {f:Nat→Nat} {p:Int} {o:S38} (h:U w base g okM f p o) {row:Option Nat} (hg:w.grownBy w1 row) (h1:some g≠row) (h2:∀k,okM k→some k≠row):U w1 base g okM f p o:=
  h.keep (hg.block g h.lt h1) (fun k hk hl=>hg.block k hl (h2 k hk.1))
theorem S_open {w:World} {base g c n:Nat} {ok:Nat→Prop} {l:List S38} (h:Kd.S k38 38 w base ok (.slice (some ⟨g,0,none⟩) n c) l) :
    ∃f:Nat→Nat,∀p:Int,0≤p→p<l.length→U w base g (fun k=>ok k∧k≠g) f p (rd_T38 l p):=by
  obtain⟨f,hR⟩:=h
  refine⟨f,fun p h0 h1=>?_⟩
  have hn:=(Kd.R_reads' hR).1
  rw[List.length_zipIdx]at hn
  obtain⟨ce,hcl,hM,hcc,_⟩:=Kd.R_elem hR (z38,p.toNat) p h0 (by omega)
  have e:l.zipIdx.getD p.toNat (z38,p.toNat)=(rd_T38 l p,p.toNat):=by
    have h2:p.toNat<l.length:=by omega
    rw[List.getD_eq_getElem?_getD,List.getElem?_zipIdx,Nat.zero_add,List.getElem?_eq_getElem h2]
    simp[rd_T38,List.getD_eq_getElem?_getD,List.getElem?_eq_getElem h2]
  rw[e]at hM
  obtain⟨v2,rfl,hv⟩:=k38_openM (show k38.M w base (fun k=>(ok k∧k≠g)∧f k=p.toNat) (rd_T38 l p) ce from hM)
  obtain⟨A2,c2,rfl⟩:=Kd.R_slice hv
  exact⟨A2,c2,hcc 0 _ rfl,hcc 1 _ rfl,hcc 2 _ rfl,hv⟩
structure OwnM (w:World) (base:Nat) (A0:Option Addr) (c0:Nat) (A1:Option Addr) (c1:Nat) (A2:Option Addr) (c2:Nat) (A3:Option Addr) (c3:Nat) (E:Option Addr) (e:Nat) (h:Hp) (m:List Int):Prop where
  s0:Kd.S k38 38 w base (fun k=>some k≠(Value.slice A1 h.r.length c1).ownBlock∧some k≠(Value.slice E m.length e).ownBlock) (.slice A0 h.o.length c0) h.o
  s1:Kd.R (Kd.int .i64) 3 w base (fun k=>some k≠(Value.slice E m.length e).ownBlock) (.slice A1 h.r.length c1) h.r
  s2:Kd.R k60 60 w base (fun k=>some k≠(Value.slice A3 h.d.length c3).ownBlock) (.slice A2 h.w.length c2) h.w
  s3:Kd.R k60 60 w base (fun k=>some k≠(Value.slice A2 h.w.length c2).ownBlock) (.slice A3 h.d.length c3) h.d
  m:Kd.R (Kd.int .i64) 3 w base (fun _=>True) (.slice E m.length e) m
theorem OwnM.below {w w1:World} {base:Nat} {A0 A1 A2 A3 E:Option Addr} {c0 c1 c2 c3 e:Nat} {h:Hp} {m:List Int} (ho:OwnM w base A0 c0 A1 c1 A2 c2 A3 c3 E e h m) (hb:Below w.heap.size w w1):OwnM w1 base A0 c0 A1 c1 A2 c2 A3 c3 E e h m:=
  ⟨Kd.S_below ho.s0 hb,Kd.R_below ho.s1 hb,Kd.R_below ho.s2 hb,Kd.R_below ho.s3 hb,Kd.R_below ho.m hb⟩
theorem OwnM.own {w:World} {base:Nat} {A0 A1 A2 A3 E:Option Addr} {c0 c1 c2 c3 e:Nat} {h:Hp} {m:List Int} (ho:OwnM w base A0 c0 A1 c1 A2 c2 A3 c3 E e h m):OwnH w base A0 c0 A1 c1 A2 c2 A3 c3 h.o h.r h.w h.d:=
  ⟨Kd.S_mono ho.s0 (fun _ hk=>hk.1),Kd.R_mono ho.s1 (fun _ _=>trivial),ho.s2,ho.s3⟩
end
section
theorem U.bound {w:World} {base g:Nat} {okM:Nat→Prop} {f:Nat→Nat} {p:Int} {o:S38} (h:U w base g okM f p o):U w base g (fun k=>okM k∧base≤k∧k<w.heap.size) f p o:=by
  obtain⟨A2,c2,h0,h1,h2,h3⟩:=h
  exact⟨A2,c2,h0,h1,h2,Kd.R_mono (Kd.R_bound h3) (fun k hk=>⟨⟨hk.1.1,hk.2.1,hk.2.2.1⟩,hk.1.2⟩)⟩
structure MF (w:World) (n g:Nat) (okM:Nat→Prop) (f:Nat→Nat) (l0:List S38) (x:List Int) (R:Option Addr) (cr:Nat) (l1:List Int):Prop where
  nb:w.heap.size+1<n
  gb:w.heap.size≤g∧g<n
  ok:∀k,okM k→w.heap.size≤k∧k<n∧k≠g∧some k≠(Value.slice R l1.length cr).ownBlock
  xs:GoodL l0.length x
def okO (n:Nat) (qb:Option Nat) (okM:Nat→Prop) (f:Nat→Nat) (x:List Int) (i:Nat) (k:Nat):Prop:=(n≤k∧some k≠qb)∨(okM k∧∃q∈x.take i,f k=q.toNat)
structure MI (w:World) (n g bp bo:Nat) (okM:Nat→Prop) (f:Nat→Nat) (l0:List S38) (x:List Int) (hx:Array Value) (R:Option Addr) (cr:Nat) (l1:List Int) (W:Option Addr) (cw:Nat) (m2:List S60) (D:Option Addr) (cd:Nat) (m3:List S60) (X:Option Addr) (cx:Nat) (Q:Option Addr) (cq:Nat) (ql:List Int)
    (nu no:Nat) (V:Value) (w':World):Prop where
  b:Below w.heap.size w w'
  yh:w'.heap[w.heap.size]?=some (.cells hx 28 (0,0))
  yz:w'.heap[w.heap.size+1]?=some (.cells #[.slice none 0 0,.slice none 0 0,.slice none 0 0,.slice none 0 0] 28 (0,0))
  yp:w'.heap[bp]?=some (.cells #[.slice Q ql.length cq] 25 (0,0))
  yo:w'.heap[bo]?=some (.cells #[V,.slice none 0 0,.slice none 0 0,.slice none 0 0] 28 (0,0))
  rx:Kd.R (Kd.int .i64) 3 w' n (fun _=>True) (.slice X x.length cx) x
  rq:Kd.R (Kd.int .i64) 3 w' n (fun _=>True) (.slice Q ql.length cq) ql
  r1:Kd.R (Kd.int .i64) 3 w' w.heap.size (fun _=>True) (.slice R l1.length cr) l1
  r2:Kd.R k60 60 w' w.heap.size (fun _=>True) (.slice W m2.length cw) m2
  r3:Kd.R k60 60 w' w.heap.size (fun _=>True) (.slice D m3.length cd) m3
  u:∀p∈x.drop nu,U w' w.heap.size g okM f p (rd_T38 l0 p)
  s:Kd.S k38 38 w' w.heap.size (okO n (Value.slice Q ql.length cq).ownBlock okM f x no) V ((x.take no).map fun p=>objOf x (rd_T38 l0 p))
  v:∀k,V.ownBlock=some k→n≤k
section
variable {w w1 w2:World} {n g bp bo:Nat} {okM:Nat→Prop} {f:Nat→Nat} {l0:List S38} {x:List Int} {hx:Array Value} {R:Option Addr} {cr:Nat} {l1:List Int} {W:Option Addr} {cw:Nat} {m2:List S60} {D:Option Addr} {cd:Nat} {m3:List S60} {X:Option Addr} {cx:Nat} {Q:Option Addr} {cq:Nat} {ql:List Int} {nu no:Nat} {V:Value}
theorem MI.below (h:MI w n g bp bo okM f l0 x hx R cr l1 W cw m2 D cd m3 X cx Q cq ql nu no V w1) (hb:Below w1.heap.size w1 w2):MI w n g bp bo okM f l0 x hx R cr l1 W cw m2 D cd m3 X cx Q cq ql nu no V w2:=
  ⟨bst h.b hb,bbl h.yh hb,bbl h.yz hb,bbl h.yp hb,bbl h.yo hb,Kd.R_below h.rx hb,Kd.R_below h.rq hb,Kd.R_below h.r1 hb,Kd.R_below h.r2 hb,Kd.R_below h.r3 hb,fun p hp=>(h.u p hp).below hb,Kd.S_below h.s hb,h.v⟩
theorem MI.set (hF:MF w n g okM f l0 x R cr l1) (h:MI w n g bp bo okM f l0 x hx R cr l1 W cw m2 D cd m3 X cx Q cq ql nu no V w1) {b:Nat} {cells:Array Value} (hb:okM b) (ht:w1.heap[b]?=some (.cells cells 3 (0,0)))
    (h1:∀p∈x.drop nu,f b≠p.toNat) (h2:∀q∈x.take no,f b≠q.toNat) (j:Nat) (u:Value):MI w n g bp bo okM f l0 x hx R cr l1 W cw m2 D cd m3 X cx Q cq ql nu no V (w1.setCell ⟨b,j,none⟩ u):=by
  obtain⟨hb0,hb1,hb2,hb3⟩:=hF.ok b hb
  have hne:∀{k:Nat} {cs:Array Value} {t:TypeId},w1.heap[k]?=some (.cells cs t (0,0))→t≠3→k≠b:=fun hk h3=>blk_ne hk ht h3
  refine⟨below_set h.b hb0,blk_far h.yh (p:=⟨b,j,none⟩) (hne h.yh (by decide)) u,blk_far h.yz (p:=⟨b,j,none⟩) (hne h.yz (by decide)) u,blk_far h.yp (p:=⟨b,j,none⟩) (hne h.yp (by decide)) u,blk_far h.yo (p:=⟨b,j,none⟩) (hne h.yo (by decide)) u,?_,?_,?_,?_,?_,fun p hp=>?_,?_,h.v⟩
  · exact Kd.R_mono (Kd.R_far (p:=⟨b,j,none⟩) (Kd.R_bound h.rx) (fun k hk e=>by have:=hk.2.1;have e2:k=b:=e;omega) u) (fun _ _=>trivial)
  · exact Kd.R_mono (Kd.R_far (p:=⟨b,j,none⟩) (Kd.R_bound h.rq) (fun k hk e=>by have:=hk.2.1;have e2:k=b:=e;omega) u) (fun _ _=>trivial)
  · exact Kd.R_mono (Kd.R_far (p:=⟨b,j,none⟩) (Kd.R_tight rfl h.r1) (fun k hk e=>hb3 (by rw[←hk];exact congrArg some (show b=k from Eq.symm e))) u) (fun _ _=>trivial)
  · exact Kd.R_set h.r2 ht (k60_ap 3 (by decide)) j u
  · exact Kd.R_set h.r3 ht (k60_ap 3 (by decide)) j u
  · exact(h.u p hp).set (fun e=>hb2 e.symm) (fun k hk he e=>h1 p hp (by rw[←e];exact he)) j u
  · exact Kd.S_far (p := ⟨b, j, none⟩) h.s (fun k hk e => by
      have e2:k=b:=e
      subst e2
      rcases hk with⟨hk,_⟩|⟨_,q,hq,hk⟩
      · omega
      · exact h2 q hq hk) u
theorem MI.push (hF:MF w n g okM f l0 x R cr l1) (h:MI w n g bp bo okM f l0 x hx R cr l1 W cw m2 D cd m3 X cx Q cq ql nu no V w1) (hbo:n≤bo) (hbp:n≤bp) (hpo:bp≠bo) {V2:Value} (hs:Kd.S k38 38 w2 w.heap.size (okO n (Value.slice Q ql.length cq).ownBlock okM f x (no+1)) V2 ((x.take (no+1)).map fun p=>objOf x (rd_T38 l0 p)))
    (hb:Below w.heap.size w w2) (hg:w1.grownBy w2 V.ownBlock) (hat:V2.ownBlock=V.ownBlock∨∃b,V2.ownBlock=some b∧w1.heap.size≤b) :
    MI w n g bp bo okM f l0 x hx R cr l1 W cw m2 D cd m3 X cx Q cq ql nu (no+1) V2 (w2.setCell ⟨bo,0,none⟩ V2):=by
  have hno:∀{k:Nat} {cs:Array Value} {t:TypeId},w1.heap[k]?=some (.cells cs t (0,0))→(38:Nat)≠t→some k≠V.ownBlock:=fun hk h3=>Kd.S_ne h.s hk h3
  have hx2:=blk_grown h.yh hg (hno h.yh (by decide))
  have hz2:=blk_grown h.yz hg (hno h.yz (by decide))
  have hp2:=blk_grown h.yp hg (hno h.yp (by decide))
  have ho2:=blk_grown h.yo hg (hno h.yo (by decide))
  have ty:=Kd.S_typed h.s
  have nb:=hF.nb
  have gb:=hF.gb
  have n1:n≤w1.heap.size:=by have:=blk_lt h.yo;omega
  refine⟨below_set hb (by omega),blk_far hx2 (p:=⟨bo,0,none⟩) (show w.heap.size≠bo by omega) _,blk_far hz2 (p:=⟨bo,0,none⟩) (show w.heap.size+1≠bo by omega) _,blk_far hp2 (p:=⟨bo,0,none⟩) hpo _,blk_put ho2 0 _ rfl,?_,?_,?_,?_,?_,fun p hp=>?_,?_,fun k hk=>?_⟩
  · exact Kd.R_set (Kd.R_over' h.rx ty (int_ap 38 (by decide)) hg) ho2 (int_ap 28 (by decide)) 0 _
  · exact Kd.R_set (Kd.R_over' h.rq ty (int_ap 38 (by decide)) hg) ho2 (int_ap 28 (by decide)) 0 _
  · exact Kd.R_set (Kd.R_over' h.r1 ty (int_ap 38 (by decide)) hg) ho2 (int_ap 28 (by decide)) 0 _
  · exact Kd.R_set (Kd.R_over' h.r2 ty (k60_ap 38 (by decide)) hg) ho2 (k60_ap 28 (by decide)) 0 _
  · exact Kd.R_set (Kd.R_over' h.r3 ty (k60_ap 38 (by decide)) hg) ho2 (k60_ap 28 (by decide)) 0 _
  · refine((h.u p hp).grown hg (fun e=>by have:=h.v g e.symm;omega) (fun k hk e=>by have:=h.v k e.symm;have:=(hF.ok k hk).2.1;omega)).set (by omega) (fun k hk _=>by have:=(hF.ok k hk).2.1;omega) 0 _
  · exact Kd.S_set hs ho2 (k38_ap 28 (by decide) (by decide)) 0 _
  · rcases hat with e|⟨b,e,hb2⟩
    · rw[e]at hk;exact h.v k hk
    · rw[e]at hk;injection hk with hk;omega
theorem MI.next (h:MI w n g bp bo okM f l0 x hx R cr l1 W cw m2 D cd m3 X cx Q cq ql nu no V w1):MI w n g bp bo okM f l0 x hx R cr l1 W cw m2 D cd m3 X cx Q cq ql (nu+1) no V w1:=
  { h with u:=fun p hp=>h.u p ((List.drop_subset_drop_left _ (Nat.le_succ nu)) hp) }
end
structure MG (w:World) (n2 bp bo:Nat) (hx:Array Value) (R:Option Addr) (cr:Nat) (l1:List Int) (W:Option Addr) (cw:Nat) (m2:List S60) (D:Option Addr) (cd:Nat) (m3:List S60) (Q:Option Addr) (cq:Nat) (ql:List Int) (V:Value) (objs:List S38) (cs:Array Value) (w':World):Prop where
  b:Below w.heap.size w w'
  yh:w'.heap[w.heap.size]?=some (.cells hx 28 (0,0))
  yz:w'.heap[w.heap.size+1]?=some (.cells #[.slice none 0 0,.slice none 0 0,.slice none 0 0,.slice none 0 0] 28 (0,0))
  yp:w'.heap[bp]?=some (.cells #[.slice Q ql.length cq] 25 (0,0))
  yo:w'.heap[bo]?=some (.cells cs 28 (0,0))
  rq:Kd.R (Kd.int .i64) 3 w' w.heap.size (fun k=>k<n2) (.slice Q ql.length cq) ql
  r1:Kd.R (Kd.int .i64) 3 w' w.heap.size (fun k=>k<n2) (.slice R l1.length cr) l1
  r2:Kd.R k60 60 w' w.heap.size (fun k=>k<n2) (.slice W m2.length cw) m2
  r3:Kd.R k60 60 w' w.heap.size (fun k=>k<n2) (.slice D m3.length cd) m3
  s:Kd.S k38 38 w' w.heap.size (fun k=>k<n2∧some k≠(Value.slice Q ql.length cq).ownBlock) V objs
section
variable {w w1 w2:World} {n n2 g bp bo:Nat} {okM:Nat→Prop} {f:Nat→Nat} {l0:List S38} {x:List Int} {hx:Array Value} {R:Option Addr} {cr:Nat} {l1:List Int} {W:Option Addr} {cw:Nat} {m2:List S60} {D:Option Addr} {cd:Nat} {m3:List S60} {X:Option Addr} {cx:Nat} {Q:Option Addr} {cq:Nat} {ql:List Int} {nu no:Nat} {V:Value} {objs:List S38} {cs:Array Value}
theorem MI.done (hF:MF w n g okM f l0 x R cr l1) (h:MI w n g bp bo okM f l0 x hx R cr l1 W cw m2 D cd m3 X cx Q cq ql nu no V w1):MG w w1.heap.size bp bo hx R cr l1 W cw m2 D cd m3 Q cq ql V ((x.take no).map fun p=>objOf x (rd_T38 l0 p)) #[V,.slice none 0 0,.slice none 0 0,.slice none 0 0] w1:=
  ⟨h.b,h.yh,h.yz,h.yp,h.yo,Kd.R_lower (Kd.R_mono (Kd.R_bound h.rq) (fun k hk=>hk.2.2.1)) (by have:=hF.nb;omega),Kd.R_mono (Kd.R_bound h.r1) (fun k hk=>hk.2.2.1),Kd.R_mono (Kd.R_bound h.r2) (fun k hk=>hk.2.2.1),Kd.R_mono (Kd.R_bound h.r3) (fun k hk=>hk.2.2.1),
    Kd.S_mono (Kd.S_bound h.s) (fun k hk=>⟨hk.2.2.1,hk.1.elim (fun h1=>h1.2) (fun h1 e=>by have h2:=Kd.R_base h.rq k e.symm;have h3:=(hF.ok k h1.1).2.1;omega)⟩)⟩
theorem MG.below (h:MG w n2 bp bo hx R cr l1 W cw m2 D cd m3 Q cq ql V objs cs w1) (hb:Below w1.heap.size w1 w2):MG w n2 bp bo hx R cr l1 W cw m2 D cd m3 Q cq ql V objs cs w2:=
  ⟨bst h.b hb,bbl h.yh hb,bbl h.yz hb,bbl h.yp hb,bbl h.yo hb,Kd.R_below h.rq hb,Kd.R_below h.r1 hb,Kd.R_below h.r2 hb,Kd.R_below h.r3 hb,Kd.S_below h.s hb⟩
theorem MG.grown (h:MG w n2 bp bo hx R cr l1 W cw m2 D cd m3 Q cq ql V objs cs w1) {v:Value} (hg:w1.grownBy w2 v.ownBlock) (hb:Below w.heap.size w w2) (hv:∀k,v.ownBlock=some k→n2≤k∧∃cells,w1.heap[k]?=some (.cells cells 3 (0,0))):MG w n2 bp bo hx R cr l1 W cw m2 D cd m3 Q cq ql V objs cs w2:=by
  have hno:∀{k:Nat} {cs:Array Value} {t:TypeId},w1.heap[k]?=some (.cells cs t (0,0))→t≠3→some k≠v.ownBlock:=fun hk h3 e=>by
    obtain⟨_,cells,hc⟩:=hv _ e.symm
    exact blk_ne hk hc h3 rfl
  have hlt:∀k,k<n2→some k≠v.ownBlock:=fun k hk e=>by have:=(hv k e.symm).1;omega
  exact⟨hb,blk_grown h.yh hg (hno h.yh (by decide)),blk_grown h.yz hg (hno h.yz (by decide)),blk_grown h.yp hg (hno h.yp (by decide)),blk_grown h.yo hg (hno h.yo (by decide)),Kd.R_step h.rq (fun k hk hl=>hg.block k hl (hlt k hk)),Kd.R_step h.r1 (fun k hk hl=>hg.block k hl (hlt k hk)),Kd.R_step h.r2 (fun k hk hl=>hg.block k hl (hlt k hk)),Kd.R_step h.r3 (fun k hk hl=>hg.block k hl (hlt k hk)),Kd.S_step h.s (fun k hk hl=>hg.block k hl (hlt k hk.1))⟩
theorem MG.set (h:MG w n2 bp bo hx R cr l1 W cw m2 D cd m3 Q cq ql V objs cs w1) (h1:w.heap.size+1<bo) (h2:bp≠bo) (j:Nat) (u:Value) (cs':Array Value) (e:cs.setIfInBounds j u=cs'):MG w n2 bp bo hx R cr l1 W cw m2 D cd m3 Q cq ql V objs cs' (w1.setCell ⟨bo,j,none⟩ u):=
  ⟨below_set h.b (by omega),blk_far h.yh (p:=⟨bo,j,none⟩) (show w.heap.size≠bo by omega) _,blk_far h.yz (p:=⟨bo,j,none⟩) (show w.heap.size+1≠bo by omega) _,blk_far h.yp (p:=⟨bo,j,none⟩) h2 _,blk_put h.yo j u e,Kd.R_set h.rq h.yo (int_ap 28 (by decide)) j u,Kd.R_set h.r1 h.yo (int_ap 28 (by decide)) j u,Kd.R_set h.r2 h.yo (k60_ap 28 (by decide)) j u,Kd.R_set h.r3 h.yo (k60_ap 28 (by decide)) j u,Kd.S_set h.s h.yo (k38_ap 28 (by decide) (by decide)) j u⟩
end
theorem S_openA {w:World} {base c:Nat} {ok:Nat→Prop} {A:Option Addr} {l:List S38} (h:Kd.S k38 38 w base ok (.slice A l.length c) l) (hb:base<w.heap.size) :
    ∃(g:Nat) (f:Nat→Nat),(base≤g∧g<w.heap.size)∧∀p:Int,0≤p→p<l.length→A=some ⟨g,0,none⟩∧U w base g (fun k=>(ok k∧k≠g)∧base≤k∧k<w.heap.size) f p (rd_T38 l p):=by
  by_cases hl:0<l.length
  · obtain⟨g,cap,e,hg0,hg1,_⟩:=Kd.S_form h hl
    injection e with e1 e2 e3
    subst e1
    subst e3
    obtain⟨f,hf⟩:=S_open h
    exact⟨g,f,⟨hg0,hg1⟩,fun p h0 h1=>⟨rfl,(hf p h0 h1).bound⟩⟩
  · exact⟨base,fun _=>0,⟨Nat.le_refl _,hb⟩,fun p h0 h1=>by omega⟩
end
end Go.Proofs.Ytigjhfijkdlldaa.H
