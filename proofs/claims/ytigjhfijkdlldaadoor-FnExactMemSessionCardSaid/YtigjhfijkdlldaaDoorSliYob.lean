import Derived.Test.YtigjhfijkdlldaaDoorSliSa
namespace Go.Proofs.YtigjhfijkdlldaaDoor.H
open Go.RowKit Go.Proofs.YtigjhfijkdlldaaDoorW.PrintWords Go.Proofs.YtigjhfijkdlldaaDoorW.PrintLast Go.Proofs.YtigjhfijkdlldaaDoorW.PrintMore Go.Proofs.YtigjhfijkdlldaaDoor.Q
set_option linter.unusedVariables false
set_option linter.unusedSimpArgs false
section
def putL (l:List Int) (p:Int):List Int:=if p<0 then l else if p∈l then l else l++[p]
structure RInv (w0 w:World) (gh go gt:Nat) (hc:Array Value) (n:Nat) (out:List Int):Prop where
  bel:Below w0.heap.size w0 w
  hh:w.heap[gh]?=some (.cells hc 33 (0,0))
  ho:∃v,w.heap[go]?=some (.cells #[v] 29 (0,0))∧Kd.R (Kd.int .i64) 3 w w0.heap.size (fun _=>True) v out
  ht:∃v bs,w.heap[gt]?=some (.cells #[v] 82 (0,0))∧Kd.R Kd.bool 4 w w0.heap.size (fun _=>True) v bs∧bs.length=n∧∀i:Int,0≤i→i<n→rdOf false bs i=decide (i∈out)
  go:w0.heap.size≤go
theorem RInv.below {w0 w w1:World} {gh go gt:Nat} {hc:Array Value} {n:Nat} {out:List Int} (h:RInv w0 w gh go gt hc n out) (hb:Below w.heap.size w w1):RInv w0 w1 gh go gt hc n out:=by
  obtain⟨h1,h2,⟨v,h3,h4⟩,⟨u,bs,h5,h6,h7,h8⟩,h9⟩:=h
  exact⟨bst h1 hb,bbl h2 hb,⟨v,bbl h3 hb,Kd.R_below h4 hb⟩,⟨u,bs,bbl h5 hb,Kd.R_below h6 hb,h7,h8⟩,h9⟩
theorem rdOf_set (bs:List Bool) (i j:Int) (h0:0≤i) (h1:i<bs.length) (h2:0≤j) (b:Bool):rdOf false (bs.set i.toNat b) j=if i=j then b else rdOf false bs j:=by
  unfold rdOf
  rw[List.getD_eq_getElem?_getD,List.getD_eq_getElem?_getD,List.getElem?_set]
  by_cases h:i=j
  · subst h;rw[if_pos rfl,if_pos rfl,if_pos (by omega)];rfl
  · rw[if_neg (by omega),if_neg h]
theorem ne_typed {w:World} {g g' t t':Nat} {cs cs':Array Value} (h:w.heap[g]?=some (.cells cs t (0,0))) (h':w.heap[g']?=some (.cells cs' t' (0,0))) (ht:t≠t'):some g≠some g':=
  fun he=>blk_ne h h' ht (Option.some.inj he)
theorem below_grown' {w0 w w1:World} {g:Nat} (h:Below w0.heap.size w0 w) (hg:w.grownBy w1 (some g)) (hg':w0.heap.size≤g):Below w0.heap.size w0 w1:=
  h.grown hg h.size (fun k hk=>by cases hk;exact hg')
theorem ne_own {α:Type} {d:Kd α} {e base:Nat} {ok:Nat→Prop} {w:World} {g t:Nat} {cs:Array Value} {v:Value} {xs:List α} (hv:d.R e w base ok v xs) (h:w.heap[g]?=some (.cells cs t (0,0))) (ht:t≠e):some g≠v.ownBlock:=by
  intro he
  obtain⟨cells,hc⟩:=Kd.R_typed hv g he.symm
  exact blk_ne h hc ht rfl
set_option maxHeartbeats 1000000 in
set_option maxRecDepth 100000 in
theorem add_calls (p:Int) (w0 w:World) (gh go gt:Nat) (hc:Array Value) (n:Nat) (out:List Int) (h:RInv w0 w gh go gt hc n out) (hp:p<n) (hlen:out.length≤1048576) :
    Calls Tryd.prog 63 #[.int .i64 p,.pointer (some ⟨gt,0,none⟩),.pointer (some ⟨go,0,none⟩)] w fun e w'=>e=.returned (.tuple #[])∧RInv w0 w' gh go gt hc n (putL out p):=by
  have HI:=AK h
  by_cases c:p<0
  · have cb:decide (0≤p)=false:=deF (by omega)
    have e:putL out p=out:=by unfold putL;rw[if_pos c]
    rw[e]
    clear c e h
    go_enter Tryd.func63,Tryd.ntmps63
    go_wp2
    go_end0
    exact⟨rfl,HI.out⟩
  have c0:=eq_true (show 0≤p by omega)
  have c1:=eq_true (show p<(n:Int)from hp)
  have cb:decide (0≤p)=true:=deT (by omega)
  obtain⟨h1,h2,⟨v,h3,h4⟩,⟨u,bs,h5,h6,h7,h8⟩,h9⟩:=h
  obtain⟨Ao,co,rfl⟩:=Kd.R_slice h4
  have hz:0<bs.length:=by omega
  obtain⟨gm,cm,rfl,m1,m2,cells,m3⟩:=Kd.R_form h6 hz
  subst h7
  have hmem:=h8 p (by omega) (by omega)
  obtain⟨x0,f0⟩:=Kd.R_celln (enc:=Value.bool) (h1:=fun _=>rfl) false h6 p (by omega) (by omega)
  have q0:=(box1 h3).1
  have q1:=(box1 h5).1
  have HC:=AK c
  clear c hp
  by_cases d:p∈out
  · rw[hmem,deT d]at x0
    have e:putL out p=out:=by unfold putL;rw[if_neg HC.out,if_pos d]
    rw[e]
    clear e d h1 h2 h3 h4 h5 h6 h8 h9 hmem
    go_enter Tryd.func63,Tryd.ntmps63
    go_wp2
    go_end0
    exact⟨rfl,HI.out⟩
  · rw[hmem,deF d]at x0
    have e:putL out p=out++[p]:=by unfold putL;rw[if_neg HC.out,if_neg d]
    rw[e]
    have HD:=AK d
    have HB:=AK h1
    have HH:=AK h2
    have HV:=AK h4
    have HO:=AK h3
    have HT:=AK h5
    have HM:=AK h6
    have H8:=AK h8
    have H9:=AK h9
    have HL:=AK hlen
    have M2:=AK m1
    have M3:=AK m3
    have HP:=AK (Kd.R_putg h6 p true)
    clear e d h1 h2 h3 h4 h5 h6 h8 h9 hmem m1 m2 m3 HI hlen
    go_enter Tryd.func63,Tryd.ntmps63
    go_wp2_with (first|((with_reducible refine gate_store (t:=4) (p:=15) rfl ?_);refine store_event (t:=4) (p:=15) (v:=?vo1) (w1:=w.setCell ⟨gm,p.toNat,none⟩ (.bool true)) ?hg ?ho ?hn ?hr ?_;(case ho=>rfl);(case hg=>rfl);(case hn=>rfl);(case hr=>first|(go_simp;done)|(go_simp;rfl));intro w2 hw;have hg2:w.grownBy w2 (some gm):=(by rw[hw];exact HP.out.2);have HM2:=AK (show Kd.R Kd.bool 4 w2 w0.heap.size (fun _=>True) (.slice (some ⟨gm,0,none⟩) bs.length cm) (bs.set p.toNat true)by rw[hw];exact HP.out.1);have HB2:=AK (below_grown' HB.out hg2 M2.out);have HH2:=AK (blk_grown HH.out hg2 (ne_typed HH.out M3.out (by decide)));have HO2:=AK (blk_grown HO.out hg2 (ne_typed HO.out M3.out (by decide)));have HT2:=AK (blk_grown HT.out hg2 (ne_typed HT.out M3.out (by decide)));have HV2:=AK (Kd.R_over' (v:=.slice (some ⟨gm,0,none⟩) bs.length cm) HV.out (Kd.R_typed HM.out) (by decide) hg2);clear hw hg2;clear HB HH HO HT HV HM;have q2:=(box1 HO2.out).1)|((with_reducible refine gate_builtin (b:=.append) (xs:=#[.tmp 16,.tmp 18]) rfl ?_);at_builtin;refine Kd.R_append (Kd.int .i64) (w0:=w0) w0.heap.size rfl (.tmp 16) (.tmp 18) 29 3 (.int .i64 0) 8 rfl Tryd.underlying29 info3 rfl (by decide) (by omega) (.slice Ao out.length co) out p [.int .i64 p] (fun _=>True) (fun _=>False) rfl rfl ?aP (fun _ hk=>hk.elim) (fun _ _=>trivial) HV2.out HB2.out HB2.out.size ?aL ?_;(case aP=>exact rfl);(case aL=>have:=HL.out;omega);intro v3 w3 ho hb hg hat;obtain⟨A3,c3,hv3⟩:=Kd.R_slice ho;subst hv3;have HV3:=AK ho;have HB3:=AK hb;have HH3:=AK (blk_grown HH2.out hg (ne_own HV2.out HH2.out (by decide)));have HO3:=AK (blk_grown HO2.out hg (ne_own HV2.out HO2.out (by decide)));have HT3:=AK (blk_grown HT2.out hg (ne_own HV2.out HT2.out (by decide)));have HM3:=AK (Kd.R_over' HM2.out (Kd.R_typed HV2.out) (by decide) hg);clear ho hb hg hat;clear HV2 HB2 HH2 HO2 HT2 HM2;have q3:=(box1 HO3.out).1;have f3:=(box1 HO3.out).2))
    go_end0
    have H9':=H9.out
    refine⟨rfl,⟨HB3.out.setCell H9' _,blk_far HH3.out (blk_ne HH3.out HO3.out (by decide)) _,⟨_,one_setCell HO3.out,by have z:=Kd.R_set HV3.out HO3.out (by decide) 0 (.slice A3 (out.length+1) c3);rw[List.length_append]at z;exact z⟩,⟨_,_,blk_far HT3.out (blk_ne HT3.out HO3.out (by decide)) _,Kd.R_set HM3.out HO3.out (by decide) 0 _,by rw[List.length_set],fun i i0 i1=>?_⟩,H9'⟩⟩
    have hc0:=HC.out
    rw[rdOf_set bs p i (by omega) (of_eq_true c1) i0,H8.out i i0 i1]
    by_cases hi:p=i
    · subst hi;simp
    · rw[if_neg hi];simp[Ne.symm hi]
end
section
def putAll (l:List Int) (xs:List Int):List Int:=xs.foldl putL l
def nextL (l0:List S38) (l3:List S60) (p:Int):List Int:=
  if(rd_T38 l0 p).f0=3 then(rd_T38 l0 p).f2.drop 1 else if(rd_T38 l0 p).f0=4 then(l3.filter (fun x=>x.f0 == p)).map (·.f1)else(rd_T38 l0 p).f2
def traceL (l0:List S38) (l3:List S60):Nat→Int→List Int→List Int
  | 0,_,l=>l
  | n+1,i,l=>if i<l.length then traceL l0 l3 n (i+1) (putAll l (nextL l0 l3 (rd l i)))else l
def reachL (l0:List S38) (l1:List Int) (l3:List S60):List Int:=traceL l0 l3 (l0.length+1) 0 (putAll [] l1)
def GoodL (n:Nat) (l:List Int):Prop:=l.Nodup∧∀p∈l,0≤p∧p<n
theorem mem_putL (l:List Int) (p x:Int):x∈putL l p↔x∈l∨(x=p∧0≤p):=by
  unfold putL
  by_cases c:p<0
  · rw[if_pos c];constructor
    · exact .inl
    · rintro(h|⟨_,h⟩)
      · exact h
      · omega
  rw[if_neg c]
  by_cases d:p∈l
  · rw[if_pos d];constructor
    · exact .inl
    · rintro(h|⟨rfl,_⟩)
      · exact h
      · exact d
  · rw[if_neg d,List.mem_append,List.mem_singleton]
    constructor
    · rintro(h|h)
      · exact .inl h
      · exact .inr ⟨h,by omega⟩
    · rintro(h|⟨h,_⟩)
      · exact .inl h
      · exact .inr h
theorem mem_putAll (xs:List Int):∀(l:List Int) (x:Int),x∈putAll l xs↔x∈l∨(x∈xs∧0≤x):=by
  induction xs with
  | nil=>intro l x;simp[putAll]
  | cons a xs ih=>
    intro l x
    show x∈putAll (putL l a) xs↔_
    rw[ih,mem_putL,List.mem_cons]
    constructor
    · rintro((h|⟨rfl,h⟩)|⟨h,h'⟩)
      · exact .inl h
      · exact .inr ⟨.inl rfl,h⟩
      · exact .inr ⟨.inr h,h'⟩
    · rintro(h|⟨rfl|h,h'⟩)
      · exact .inl (.inl h)
      · exact .inl (.inr ⟨rfl,h'⟩)
      · exact .inr ⟨h,h'⟩
theorem good_nil (n:Nat):GoodL n []:=⟨List.nodup_nil,fun p hp=>by cases hp⟩
theorem good_putL {n:Nat} {l:List Int} (h:GoodL n l) {p:Int} (hp:p<n):GoodL n (putL l p):=by
  refine⟨?_,fun x hx=>?_⟩
  · unfold putL
    by_cases c:p<0
    · rw[if_pos c];exact h.1
    rw[if_neg c]
    by_cases d:p∈l
    · rw[if_pos d];exact h.1
    · rw[if_neg d,List.nodup_append]
      exact⟨h.1,by simp,fun a ha b hb=>by simp at hb;subst hb;intro e;subst e;exact d ha⟩
  · rcases(mem_putL l p x).1 hx with hx|⟨rfl,h0⟩
    · exact h.2 x hx
    · exact⟨h0,hp⟩
theorem good_putAll {n:Nat} (xs:List Int):∀{l:List Int},GoodL n l→(∀p∈xs,p<n)→GoodL n (putAll l xs):=by
  induction xs with
  | nil=>intro l h _;exact h
  | cons a xs ih=>intro l h hx;exact ih (good_putL h (hx a (List.mem_cons_self ..))) (fun p hp=>hx p (List.mem_cons_of_mem _ hp))
theorem nodup_len:∀(n:Nat) (l:List Int),GoodL n l→l.length≤n:=by
  intro n
  induction n with
  | zero=>
    intro l h
    cases l with
    | nil=>simp
    | cons a l=>have:=h.2 a (List.mem_cons_self ..);omega
  | succ n ih=>
    intro l h
    have h2:GoodL n (l.filter (fun x=>decide (x≠(n:Int)))):=by
      refine⟨h.1.filter _,fun p hp=>?_⟩
      have h1:=List.mem_filter.1 hp
      have h3:=h.2 p h1.1
      have h4:p≠n:=by simpa using h1.2
      omega
    have h3:=ih _ h2
    have h4:l.length≤(l.filter (fun x=>decide (x≠(n:Int)))).length+1:=by
      clear ih h2 h3
      have hn:=h.1
      clear h
      induction l with
      | nil=>simp
      | cons a l ih=>
        rw[List.nodup_cons]at hn
        by_cases c:a=n
        · subst c
          have:l.filter (fun x=>decide (x≠(n:Int)))=l:=List.filter_eq_self.2 (fun x hx=>by
            have:x≠(n:Int):=fun e=>hn.1 (e ▸ hx)
            simpa using this)
          rw[List.filter_cons,this,List.length_cons];split<;>simp
        · have:=ih hn.2
          rw[List.filter_cons,if_pos (by simpa using c),List.length_cons,List.length_cons];omega
    omega
theorem putL_prefix (l:List Int) (p:Int):l <+: putL l p:=by
  unfold putL
  split
  · exact List.prefix_rfl
  · split
    · exact List.prefix_rfl
    · exact List.prefix_append _ _
theorem putAll_prefix (xs:List Int):∀l:List Int,l <+: putAll l xs:=by
  induction xs with
  | nil=>intro l;exact List.prefix_rfl
  | cons a xs ih=>intro l;exact(putL_prefix l a).trans (ih _)
theorem putAll_append (l xs ys:List Int):putAll l (xs++ys)=putAll (putAll l xs) ys:=List.foldl_append
structure OkH (l0:List S38) (l1:List Int) (l2 l3:List S60):Prop where
  n:l0.length≤60
  r:l1.length≤8
  w:l2.length+l3.length≤20
  o:∀x∈l0,obB l0.length x=true
  rs:∀p∈l1,-1≤p∧p<l0.length
  ws:∀x∈l2,wtB l0 x=true
  ds:∀x∈l3,wtB l0 x=true
theorem ok_parts {l0:List S38} {l1:List Int} {l2 l3:List S60} (h:okB l0 l1 l2 l3=true):OkH l0 l1 l2 l3:=by
  unfold okB at h
  simp only[Bool.and_eq_true,decide_eq_true_eq,List.all_eq_true]at h
  obtain⟨⟨⟨⟨⟨⟨a,b⟩,c⟩,d⟩,e⟩,f⟩,g⟩:=h
  exact⟨a,b,c,d,fun p hp=>by have:=e p hp;unfold inB at this;simpa using this,f,g⟩
theorem wt_parts {l0:List S38} {x:S60} (h:wtB l0 x=true):0≤x.f0∧x.f0<l0.length∧(rd_T38 l0 x.f0).f0=4∧0≤x.f1∧x.f1<l0.length:=by
  unfold wtB at h
  simp only[Bool.and_eq_true,decide_eq_true_eq]at h
  obtain⟨⟨⟨⟨a,b⟩,c⟩,d⟩,e⟩:=h
  exact⟨a,b,c,d,e⟩
theorem ob_parts {n:Int} {x:S38} (h:obB n x=true):(∀p∈x.f2,-1≤p∧p<n)∧shB x=true ∧
    ((x.f0=1∧x.f2=[])∨(x.f0=2∧x.f2.length≤6)∨(x.f0=3∧x.f2.length=2)∨(x.f0=4∧x.f2=[])):=by
  unfold obB at h
  rw[Bool.and_eq_true]at h
  obtain⟨h1,h2⟩:=h
  refine⟨fun p hp=>by have:=List.all_eq_true.1 h2 p hp;unfold inB at this;simpa using this,h1,?_⟩
  unfold shB at h1
  split at h1
  · rename_i c
    simp only[Bool.and_eq_true,beq_iff_eq]at h1
    exact .inl ⟨c,List.length_eq_zero_iff.1 (by omega)⟩
  split at h1
  · rename_i c
    simp only[Bool.and_eq_true,decide_eq_true_eq]at h1
    exact .inr (.inl ⟨c,by omega⟩)
  split at h1
  · rename_i c
    simp only[Bool.and_eq_true,beq_iff_eq]at h1
    exact .inr (.inr (.inl ⟨c,by omega⟩))
  split at h1
  · rename_i c
    simp only[Bool.and_eq_true,beq_iff_eq]at h1
    exact .inr (.inr (.inr ⟨c,List.length_eq_zero_iff.1 (by omega)⟩))
  · cases h1
theorem ob_at {l0:List S38} {l1:List Int} {l2 l3:List S60} (h:OkH l0 l1 l2 l3) {p:Int} (h0:0≤p) (h1:p<l0.length):obB l0.length (rd_T38 l0 p)=true:=h.o _ (getD_mem l0 z38 p h0 h1)
theorem next_lt {l0:List S38} {l1:List Int} {l2 l3:List S60} (h:OkH l0 l1 l2 l3) {p:Int} (h0:0≤p) (h1:p<l0.length):∀q∈nextL l0 l3 p,q<l0.length:=by
  intro q hq
  obtain⟨hr,_,_⟩:=ob_parts (ob_at h h0 h1)
  unfold nextL at hq
  split at hq
  · exact(hr q (List.mem_of_mem_drop hq)).2
  split at hq
  · obtain⟨x,hx,rfl⟩:=List.mem_map.1 hq
    exact(wt_parts (h.ds x (List.mem_filter.1 hx).1)).2.2.2.2
  · exact(hr q hq).2
end
section
structure Lim (l0:List S38) (l1:List Int) (l2 l3:List S60):Prop where
  o:l0.length≤1048576
  f:∀x∈l0,x.f2.length≤1048576
  r:l1.length≤1048576
  w:l2.length≤1048576
  d:l3.length≤1048576
section
variable {P:Program} {ops:Array Oper} {rest:List Oper} {o:Oper} {a:Act} {Q:Exit→Act→World→Prop} {α:Type}
theorem skip_event {W W1:World} (hgd:o.guard=none) (hd:o.dst=none) (hrun:(execOp a.eval o).run P W=.ok .skip W1) (h:wpList P ops Q rest a W1):wpList P ops Q (o :: rest) a W:=by
  refine wpList_plain hgd fun K hK=>?_
  unfold Oper.wp
  rw[hrun]
  have h2:=hK a W1 h
  show K (a.put o.dst undef) W1
  rw[hd]
  exact h2
theorem copy_rows (d:Kd α) {W:World} (hgd:o.guard=none) (s x:Operand) (t e:TypeId) (z:Value) (bytes:Nat)
    (ho:o.op=.call { callee:=.builtin .append,args:=#[s,x],argTypes:=#[t,t] })
    (ht:P.underlying t=some (.slice e)) (hinfo:(P.info? e).map (fun i=>(i.zero,i.size,i.bytes))=some (some z,d.sz,bytes)) (hz:z.cells.size=d.sz) (hs0:0<d.sz) (hb0:0<bytes)
    (ys:List α) (A:Option Addr) (c:Nat) (hs:a.eval s=.slice none 0 0) (hx:a.eval x=.slice A ys.length c)
    (HR:d.C W A ys.length ys) (hKM:∀x cs,d.K W x cs→d.M W W.heap.size (fun _=>False) x cs) (hl:ys.length*bytes≤140737488355328)
    (h:∀v1 w1,d.R e w1 W.heap.size (fun _=>True) v1 ys→Below W.heap.size W w1→wpList P ops Q rest (a.put o.dst v1) w1):wpList P ops Q (o :: rest) a W:=by
  refine Kd.R_append_rows d (w0:=W) W.heap.size hgd s x t e z bytes ho ht hinfo hz hs0 hb0 (.slice none 0 0) [] ys A ys.length c (fun _=>True) (fun _=>False) hs hx (Kd.R_nil _ _ _ _ _) HR hKM (fun _ hk=>hk.elim) (fun _ _=>trivial) (Below.refl _ _) (Nat.le_refl _) (by simpa using hl) ?_
  intro v1 w1 hr hb _ _
  exact h v1 w1 hr hb
end
theorem R_fresh {α:Type} {d:Kd α} {e:Nat} {W w1:World} {base:Nat} {v:Value} {xs:List α} (h:d.R e w1 W.heap.size (fun _=>True) v xs) (hb:base≤W.heap.size):d.R e w1 base (fun k=>W.heap.size≤k∧k<w1.heap.size) v xs:=
  Kd.R_lower (Kd.R_mono (Kd.R_bound h) (fun k hk=>⟨hk.2.1,hk.2.2.1⟩)) hb
end
section
theorem R_beside {α:Type} {d:Kd α} {e base:Nat} {W w1:World} {u v:Value} {xs:List α} (hE:d.E=[]) (h:d.R e W base (fun _=>True) v xs) (hg:W.grownBy w1 u.ownBlock) (hne:NeRow v u):d.R e w1 base (fun _=>True) v xs:=
  Kd.R_mono (Kd.R_step (Kd.R_tight hE h) (fun k hk hl=>hg.block k hl (fun e=>hne k hk.symm e.symm))) (fun _ _=>trivial)
theorem NeRow_new {v u:Value} {n:Nat} (hv:∀k,v.ownBlock=some k→k<n) (hu:∃b,u.ownBlock=some b∧n≤b):NeRow v u:=fun k hk hk'=>by
  obtain⟨b,hb,hn⟩:=hu
  rw[hb]at hk'
  injection hk' with e
  have:=hv k hk
  omega
theorem NeRow_after {v u u':Value} {n:Nat} (h:NeRow v u) (hv:∀k,v.ownBlock=some k→k<n) (hat:u'.ownBlock=u.ownBlock∨∃b,u'.ownBlock=some b∧n≤b):NeRow v u':=by
  rcases hat with e|hu
  · intro k hk hk';rw[e]at hk';exact h k hk hk'
  · exact NeRow_new hv hu
section
variable {P:Program} {ops:Array Oper} {o:Oper} {a:Act} {Q:Exit→Act→World→Prop} {Kc:Act→World→Prop} {α:Type}
theorem lit0_step (d:Kd α) {W:World} (base e:Nat) (hw:Region.wanted o (yielded ops a.tmps)=true) {N:Tmp} (hd:o.dst=some N)
    (hrun:(execOp a.eval o).run P W=.ok (.value (.slice (some ⟨W.heap.size,0,none⟩) 0 0)) (W.alloc (.cells #[] e (0,0)))) (hb:base≤W.heap.size)
    (h:∀u w1,d.R e w1 base (fun _=>True) u []→Below W.heap.size W w1→(∃b,u.ownBlock=some b∧W.heap.size≤b)→Kc (a.put o.dst u) w1):if Region.wanted o (yielded ops a.tmps)=true then Oper.wp P o a W Kc Q else Kc (a.put o.dst undef) W:=by
  refine Kd.R_lit_step d (w0:=W) W.heap.size e hw hd (xs:=[]) (inner:=[]) (ok:=fun _=>True) (okp:=fun _=>True) hrun (Reps.none _ _) (fun _ hk=>hk) trivial (Below.refl _ _) (Nat.le_refl _) (by simp) ?_
  intro v1 w1 hr hb1 _ hnew
  exact h v1 w1 (Kd.R_lower hr hb) hb1 hnew
theorem app0_step (d:Kd α) {w0 W:World} (base:Nat) (hw:Region.wanted o (yielded ops a.tmps)=true) (s x:Operand) (t e:TypeId) (z:Value) (bytes:Nat)
    (ho:o.op=.call { callee:=.builtin .append,args:=#[s,x],argTypes:=#[t,t] })
    (ht:P.underlying t=some (.slice e)) (hinfo:(P.info? e).map (fun i=>(i.zero,i.size,i.bytes))=some (some z,d.sz,bytes)) (hz:z.cells.size=d.sz) (hs0:0<d.sz) (hb0:0<bytes)
    (v:Value) (ys:List α) (A:Option Addr) (c:Nat) (hs:a.eval s=v) (hx:a.eval x=.slice A ys.length c)
    (HO:d.R e W base (fun _=>True) v []) (HR:d.C W A ys.length ys) (hKM:∀x cs,d.K W x cs→d.M W base (fun _=>False) x cs)
    (HB:Below base w0 W) (hbase:base≤W.heap.size) (hl:ys.length*bytes≤140737488355328)
    (h:∀v1 w1,d.R e w1 base (fun _=>True) v1 ys→Below base w0 w1→W.grownBy w1 v.ownBlock→(v1.ownBlock=v.ownBlock∨∃b,v1.ownBlock=some b∧W.heap.size≤b)→Kc (a.put o.dst v1) w1) :
    if Region.wanted o (yielded ops a.tmps)=true then Oper.wp P o a W Kc Q else Kc (a.put o.dst undef) W:=by
  refine Kd.R_append_rows_step d base hw s x t e z bytes ho ht hinfo hz hs0 hb0 v [] ys A ys.length c (fun _=>True) (fun _=>False) hs hx HO HR hKM (fun _ hk=>hk.elim) (fun _ _=>trivial) HB hbase (by simpa using hl) ?_
  intro v1 w1 hr
  exact h v1 w1 hr
end
end
section
set_option maxHeartbeats 1000000 in
theorem l1Obj_c {w:World} {A:Option Addr} {c:Nat} {o:S38} (h:Kd.C (Kd.int .i64) w A o.f2.length o.f2) (hc:o.f2.length≤c) (hl:o.f2.length≤1048576) :
    Calls Tryd.prog 32 #[.agg #[.int .i64 o.f0,.string o.f1,.slice A o.f2.length c]] w fun e w'=>∃v:Value,e=.returned (.agg #[.int .i64 o.f0,.string o.f1,v])∧Kd.R (Kd.int .i64) 3 w' w.heap.size (fun _=>True) v o.f2∧Below w.heap.size w w':=by
  have HC:=AK h
  have HL:=AK hl
  have HW:=AK (show Below w.heap.size w ((w.alloc (.cells #[.int .i64 o.f0,.string o.f1,.slice A o.f2.length c] 35 (0,0))).alloc (.cells #[.int .i64 0,.string ⟨#[]⟩,.slice none 0 0] 35 (0,0)))∧((w.alloc (.cells #[.int .i64 o.f0,.string o.f1,.slice A o.f2.length c] 35 (0,0))).alloc (.cells #[.int .i64 0,.string ⟨#[]⟩,.slice none 0 0] 35 (0,0))).heap[w.heap.size]?=some (.cells #[.int .i64 o.f0,.string o.f1,.slice A o.f2.length c] 35 (0,0))∧((w.alloc (.cells #[.int .i64 o.f0,.string o.f1,.slice A o.f2.length c] 35 (0,0))).alloc (.cells #[.int .i64 0,.string ⟨#[]⟩,.slice none 0 0] 35 (0,0))).heap[w.heap.size+1]?=some (.cells #[.int .i64 0,.string ⟨#[]⟩,.slice none 0 0] 35 (0,0))from⟨below_alloc (below_alloc (Below.refl _ _) _) _,blk_alloc (blk_new w _) _,blk_new1 w _ _⟩)
  clear h hc hl
  go_enter Tryd.func32,Tryd.ntmps32
  go_wp2_with (first|((with_reducible refine gate_dst (N:=3) rfl ?_);refine Kd.R_lit (Kd.int .i64) (w0:=((w.alloc (.cells #[.int .i64 o.f0,.string o.f1,.slice A o.f2.length c] 35 (0,0))).alloc (.cells #[.int .i64 0,.string ⟨#[]⟩,.slice none 0 0] 35 (0,0)))) (World.heap ((w.alloc (.cells #[.int .i64 o.f0,.string o.f1,.slice A o.f2.length c] 35 (0,0))).alloc (.cells #[.int .i64 0,.string ⟨#[]⟩,.slice none 0 0] 35 (0,0)))).size 3 ?hg (N:=3) ?hd (xs:=([]:List Int)) (inner:=[]) (ok:=fun _=>True) (okp:=fun _=>True) ?hr ?hp (fun _ hk=>hk) trivial (Below.refl _ _) (Nat.le_refl _) (by simp) ?_;(case hd=>rfl);(case hg=>rfl);(case hr=>first|(go_simp;done)|(go_simp;rfl));(case hp=>exact Reps.none _ _);intro v3 w3 hr hb hg hn;have HR:=AK (Kd.R_lower hr HW.out.1.size);have HB:=AK (And.intro (bst HW.out.1 hb) (And.intro (bbl HW.out.2.1 hb) (bbl HW.out.2.2 hb)));clear hr hb hg hn HW;obtain⟨p0,p1,p2⟩:=box3 HB.out.2.1)|((with_reducible refine gate_builtin (b:=.append) (xs:=#[.tmp 3,.tmp 5]) rfl ?_);at_builtin;refine Kd.R_append_rows (Kd.int .i64) (w0:=w) w.heap.size rfl (.tmp 3) (.tmp 5) 29 3 (.int .i64 0) 8 rfl Tryd.underlying29 info3 rfl (by decide) (by omega) v3 [] o.f2 A o.f2.length c (fun _=>True) (fun _=>False) rfl rfl ?aO ?aR (fun _ _ h=>h) (fun _ h=>h.elim) (fun _ _=>trivial) ?aB ?aS ?aL ?_;(case aO=>exact HR.out);(case aR=>exact Kd.C_below HC.out HB.out.1);(case aB=>exact HB.out.1);(case aS=>exact HB.out.1.size);(case aL=>have:=HL.out;have h1:([]:List Int).length=0:=rfl;omega);intro v6 w6 hr hb hg hat;replace hr:Kd.R (Kd.int .i64) 3 w6 w.heap.size (fun _=>True) v6 o.f2:=hr;obtain⟨K6,k6,hv6⟩:=Kd.R_slice hr;subst hv6;have HB6:=AK (And.intro hb (And.intro (blk_grown HB.out.2.1 hg (Kd.R_ne HR.out HB.out.2.1 (by decide))) (blk_grown HB.out.2.2 hg (Kd.R_ne HR.out HB.out.2.2 (by decide)))));have HR6:=AK hr;clear hr hb hg hat HR HB p0 p1 p2)|((with_reducible refine gate_store (t:=29) (p:=7) (v:=.tmp 6) rfl ?_);obtain⟨p0,p1,p2⟩:=box3 HB6.out.2.1;have y2:=bfz HB6.out.2.1 2;refine skip_event (W1:=(w6.setCell ⟨w.heap.size,2,none⟩ (.slice K6 o.f2.length k6))) rfl rfl ?hr ?_;(case hr=>first|(go_simp;done)|(go_simp;rfl));have HB7:=AK (show Below w.heap.size w (w6.setCell ⟨w.heap.size,2,none⟩ (.slice K6 o.f2.length k6))∧(w6.setCell ⟨w.heap.size,2,none⟩ (.slice K6 o.f2.length k6)).heap[w.heap.size]?=some (.cells #[.int .i64 o.f0,.string o.f1,.slice K6 o.f2.length k6] 35 (0,0))∧(w6.setCell ⟨w.heap.size,2,none⟩ (.slice K6 o.f2.length k6)).heap[w.heap.size+1]?=some (.cells #[.int .i64 0,.string ⟨#[]⟩,.slice none 0 0] 35 (0,0))from And.intro (below_set HB6.out.1 (Nat.le_refl _)) (And.intro (blk_put HB6.out.2.1 2 (.slice K6 o.f2.length k6) rfl) (blk_far HB6.out.2.2 (p:=⟨w.heap.size,2,none⟩) (show w.heap.size+1≠w.heap.size by omega) (.slice K6 o.f2.length k6))));have HR7:=AK (Kd.R_set HR6.out HB6.out.2.1 (int_ap 35 (by decide)) 2 (.slice K6 o.f2.length k6));clear p0 p1 p2 y2 HB6 HR6;generalize w6.setCell ⟨w.heap.size,2,none⟩ (.slice K6 o.f2.length k6)=w7 at HB7 HR7 ⊢;obtain⟨p0,p1,p2⟩:=box3 HB7.out.2.1;obtain⟨q0,q1,q2⟩:=box3 HB7.out.2.2;have f0:=bfz HB7.out.2.2 0;have f1:=bfz HB7.out.2.2 1;have f2:=bfz HB7.out.2.2 2))
  have h1:=HB7.out.2.2
  have b0:=blk_put h1 0 (.int .i64 o.f0) (cs':=#[.int .i64 o.f0,.string ⟨#[]⟩,.slice none 0 0]) rfl
  have b1:=blk_put b0 1 (.string o.f1) (cs':=#[.int .i64 o.f0,.string o.f1,.slice none 0 0]) rfl
  have b2:=blk_put b1 2 (.slice K6 o.f2.length k6) (cs':=#[.int .i64 o.f0,.string o.f1,.slice K6 o.f2.length k6]) rfl
  have e:=int_ap 35 (by decide)
  refine bodyPost_ret (results_cell_row rfl _ _ (w.heap.size+1) 35 #[.int .i64 o.f0,.string o.f1,.slice K6 o.f2.length k6] (0,0) _ rfl b2 Tryd.underlying35 rfl (by kernel_rfl)) rfl ?_
  exact⟨_,rfl,Kd.R_set (Kd.R_set (Kd.R_set HR7.out h1 e 0 _) b0 e 1 _) b1 e 2 _,below_set (below_set (below_set HB7.out.1 (by omega)) (by omega)) (by omega)⟩
end
end Go.Proofs.YtigjhfijkdlldaaDoor.H
