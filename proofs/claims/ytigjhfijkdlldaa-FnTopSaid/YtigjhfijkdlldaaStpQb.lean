import Derived.Test.YtigjhfijkdlldaaStpPr
import Derived.Test.YtigjhfijkdlldaaStpYrf
import Derived.Test.YtigjhfijkdlldaaStpDe
import Derived.Test.YtigjhfijkdlldaaStpPz
namespace Go.Proofs.Ytigjhfijkdlldaa.H
open Go.RowKit Go.Proofs.YtigjhfijkdlldaaW.PrintWords Go.Proofs.YtigjhfijkdlldaaW.PrintLast Go.Proofs.YtigjhfijkdlldaaW.PrintMore Go.Proofs.Ytigjhfijkdlldaa.Q
set_option linter.unusedVariables false
set_option linter.unusedSimpArgs false
section
def rangeL (n:Nat):List Int:=(List.range n).map fun(j:Nat)=>(j:Int)
theorem rangeL_length (n:Nat):(rangeL n).length=n:=by unfold rangeL;simp
theorem rangeL_rd (n:Nat) (i:Int) (h0:0≤i) (h1:i<n):rd (rangeL n) i=i:=by
  unfold rd rangeL
  rw[List.getD_eq_getElem?_getD,List.getElem?_map,List.getElem?_range (by omega)]
  simp;omega
theorem mem_rangeL (n:Nat) (p:Int):p∈rangeL n↔0≤p∧p<n:=by
  unfold rangeL
  rw[List.mem_map]
  constructor
  · rintro⟨j,hj,rfl⟩
    have:=List.mem_range.1 hj
    omega
  · rintro⟨h0,h1⟩
    exact⟨p.toNat,List.mem_range.2 (by omega),by omega⟩
theorem rangeL_succ (n:Nat):rangeL (n+1)=0 :: (rangeL n).map (·+1):=by
  unfold rangeL
  rw[List.range_succ_eq_map,List.map_cons,List.map_map,List.map_map]
  congr 1
theorem idx_rangeL (n:Nat) (p:Int) (h0:0≤p) (h1:p<n):idxL (rangeL n) p=p:=by
  obtain⟨a,b,c⟩:=idxL_get ((mem_rangeL n p).2 ⟨h0,h1⟩)
  rw[rangeL_length]at b
  rw[rangeL_rd n _ a b]at c
  exact c
theorem wh_rangeL (n:Nat) (p:Int) (h0:-1≤p) (h1:p<n):wh (rangeL n) p=p:=by
  unfold wh
  split
  · omega
  · exact idx_rangeL n p (by omega) h1
theorem wh_neg {x:List Int} {p:Int} (h:p<0):wh x p=-1:=by unfold wh;rw[if_pos h]
theorem wh_pos {x:List Int} {p:Int} (h:0≤p):wh x p=idxL x p:=by unfold wh;rw[if_neg (by omega)]
theorem idx_inj {x:List Int} {p q:Int} (hp:p∈x) (hq:q∈x) (e:idxL x p=idxL x q):p=q:=by
  rw[←(idxL_get hp).2.2,e,(idxL_get hq).2.2]
theorem idxL_cons (a:Int) (x:List Int) (q:Int) (hne:a≠q) (hq:q∈x):idxL (a :: x) q=idxL x q+1:=by
  have:=(idxL_get hq).1
  show (if a=q then 0 else if idxL x q<0 then -1 else idxL x q+1)=_
  rw[if_neg hne,if_neg (by omega)]
theorem map_idx_self (x:List Int) (hn:x.Nodup):x.map (idxL x)=rangeL x.length:=by
  induction x with
  | nil=>rfl
  | cons a x ih=>
    rw[List.nodup_cons]at hn
    rw[List.length_cons,rangeL_succ,←ih hn.2,List.map_cons,List.map_map]
    congr 1
    · show (if a=a then 0 else _)=(0:Int);rw[if_pos rfl]
    · refine List.map_congr_left (fun q hq=>?_)
      exact idxL_cons a x q (fun e=>hn.1 (e ▸ hq)) hq
section
variable {l0:List S38} {l1:List Int} {l2 l3:List S60} {x:List Int}
theorem trace_stop:∀(k:Nat) (i:Int) (l:List Int),¬ i<l.length→traceL l0 l3 k i l=l:=by
  intro k i l h
  cases k with
  | zero=>rfl
  | succ k=>simp only[traceL];rw[if_neg h]
theorem trace_fuel:∀(n:Nat) (i:Int) (l:List Int) (k:Nat),((traceL l0 l3 n i l).length:Int)≤i+n→traceL l0 l3 (n+k) i l=traceL l0 l3 n i l:=by
  intro n
  induction n with
  | zero=>intro i l k h;rw[Nat.zero_add];exact trace_stop k i l (by have:((traceL l0 l3 0 i l).length:Int)=l.length:=rfl;omega)
  | succ n ih=>
    intro i l k h
    rw[show n+1+k=(n+k)+1 by omega]
    simp only[traceL]at h ⊢
    by_cases c:i<l.length
    · rw[if_pos c]at h ⊢
      rw[if_pos c]
      exact ih _ _ k (by omega)
    · rw[if_neg c,if_neg c]
theorem putL_map {l:List Int} {p:Int} (hx:∀q∈x,0≤q) (hl:∀q∈l,q∈x) (hp:p<0∨p∈x):putL (l.map (idxL x)) (wh x p)=(putL l p).map (idxL x):=by
  rcases hp with c|c
  · unfold putL
    rw[wh_neg c,if_pos c,if_pos (by omega)]
  · have h0:=hx p c
    have h1:=(idxL_get c).1
    rw[wh_pos h0]
    unfold putL
    rw[if_neg (show ¬ p<0 by omega),if_neg (show ¬ idxL x p<0 by omega)]
    by_cases d:p∈l
    · rw[if_pos d,if_pos (List.mem_map.2 ⟨p,d,rfl⟩)]
    · rw[if_neg d,if_neg (fun h=>by obtain⟨q,hq,e⟩:=List.mem_map.1 h;exact d (idx_inj (hl q hq) c e ▸ hq)),List.map_append];rfl
theorem putAll_map (hx:∀q∈x,0≤q) (xs:List Int):∀{l:List Int},(∀q∈l,q∈x)→(∀q∈xs,q<0∨q∈x)→putAll (l.map (idxL x)) (xs.map (wh x))=(putAll l xs).map (idxL x):=by
  induction xs with
  | nil=>intro l _ _;rfl
  | cons a xs ih=>
    intro l hl hxs
    have ha:=hxs a (List.mem_cons_self ..)
    show putAll (putL (l.map (idxL x)) (wh x a)) (xs.map (wh x))=(putAll (putL l a) xs).map (idxL x)
    rw[putL_map hx hl ha]
    refine ih (fun q hq=>?_) (fun q hq=>hxs q (List.mem_cons_of_mem _ hq))
    rcases(mem_putL _ _ _).1 hq with h|⟨rfl,h⟩
    · exact hl q h
    · rcases ha with ha|ha
      · omega
      · exact ha
theorem next_moved_w (p:Int) (hp:p∈x):∀l:List S60,(∀w∈l,w.f0=p→w.f1∈x∧0≤w.f1)→((movedW x l).filter (fun w=>w.f0 == idxL x p)).map (·.f1)=((l.filter (fun w=>w.f0 == p)).map (·.f1)).map (wh x):=by
  intro l
  induction l with
  | nil=>intro _;rfl
  | cons a l ih=>
    intro h
    have ih2:=ih (fun w hw=>h w (List.mem_cons_of_mem _ hw))
    have ha:=h a (List.mem_cons_self ..)
    rw[movedW_cons]
    by_cases c:a.f0=p
    · have h1:=ha c
      rw[if_pos (by rw[Bool.and_eq_true,decide_eq_true_eq,decide_eq_true_eq,idxL_nonneg,idxL_nonneg];exact⟨c ▸ hp,h1.1⟩)]
      rw[List.filter_cons_of_pos (by simp[c]),List.filter_cons_of_pos (by simp[c]),List.map_cons,List.map_cons,List.map_cons,ih2,wh_pos h1.2]
    · rw[List.filter_cons_of_neg (p:=fun w:S60=>w.f0 == p) (by simpa using c)]
      split
      · rename_i d
        rw[Bool.and_eq_true,decide_eq_true_eq,decide_eq_true_eq,idxL_nonneg,idxL_nonneg]at d
        rw[List.filter_cons_of_neg (by simp only[beq_iff_eq];exact fun e=>c (idx_inj d.1 hp e))]
        exact ih2
      · exact ih2
theorem rd_moved (p:Int) (hp:p∈x):rd_T38 (moveL l0 l1 l2 l3 x).o (idxL x p)=objOf x (rd_T38 l0 p):=by
  obtain⟨a,b,c⟩:=idxL_get hp
  show rd_T38 (x.map fun p=>objOf x (rd_T38 l0 p)) (idxL x p)=_
  rw[rd_T38_map _ _ _ a b,c]
theorem next_moved (h:OkH l0 l1 l2 l3) (hg:GoodL l0.length x) (hc:Closed l0 l3 (·∈x)) (p:Int) (hp:p∈x):nextL (moveL l0 l1 l2 l3 x).o (moveL l0 l1 l2 l3 x).d (idxL x p)=(nextL l0 l3 p).map (wh x):=by
  unfold nextL
  rw[rd_moved p hp]
  show (if(rd_T38 l0 p).f0=3 then((rd_T38 l0 p).f2.map (wh x)).drop 1 else if(rd_T38 l0 p).f0=4 then((movedW x l3).filter (fun w=>w.f0 == idxL x p)).map (·.f1)else(rd_T38 l0 p).f2.map (wh x))=_
  split
  · rw[List.map_drop]
  split
  · rename_i c4
    exact next_moved_w p hp l3 (fun w hw e=>by
      have h5:=wt_parts (h.ds w hw)
      exact⟨hc p hp w.f1 (e ▸ next_told hw h5.2.2.1) h5.2.2.2.1,h5.2.2.2.1⟩)
  · rfl
theorem rd_map (f:Int→Int) (l:List Int) (i:Int) (h0:0≤i) (h1:i<l.length):rd (l.map f) i=f (rd l i):=by
  unfold rd
  rw[List.getD_eq_getElem?_getD,List.getD_eq_getElem?_getD,List.getElem?_map,List.getElem?_eq_getElem (show i.toNat<l.length by omega)]
  rfl
theorem next_inn (h:OkH l0 l1 l2 l3) (hg:GoodL l0.length x) (hc:Closed l0 l3 (·∈x)) (p:Int) (hp:p∈x):∀q∈nextL l0 l3 p,q<0∨q∈x:=fun q hq=>by
  by_cases c:q<0
  · exact .inl c
  · exact .inr (hc p hp q hq (by omega))
theorem trace_moved (h:OkH l0 l1 l2 l3) (hg:GoodL l0.length x) (hc:Closed l0 l3 (·∈x)):∀(n:Nat) (i:Int) (l:List Int),0≤i→(∀q∈l,q∈x) →
    traceL (moveL l0 l1 l2 l3 x).o (moveL l0 l1 l2 l3 x).d n i (l.map (idxL x))=(traceL l0 l3 n i l).map (idxL x):=by
  intro n
  induction n with
  | zero=>intro i l _ _;rfl
  | succ n ih=>
    intro i l h0 hl
    simp only[traceL]
    rw[List.length_map]
    by_cases c:i<l.length
    · have hp:rd l i∈x:=hl _ (getD_mem l 0 i h0 c)
      rw[if_pos c,if_pos c,rd_map _ _ _ h0 c,next_moved h hg hc _ hp,putAll_map (fun q hq=>(hg.2 q hq).1) _ hl (next_inn h hg hc _ hp)]
      refine ih _ _ (by omega) (fun q hq=>?_)
      rcases(mem_putAll _ _ _).1 hq with h1|⟨h1,h2⟩
      · exact hl q h1
      · exact hc _ hp q h1 h2
    · rw[if_neg c,if_neg c]
theorem reach_moved (h:OkH l0 l1 l2 l3):let M:=moveL l0 l1 l2 l3 (reachL l0 l1 l3);reachL M.o M.r M.d=rangeL M.o.length:=by
  intro M
  obtain⟨x,ex⟩:∃x,x=reachL l0 l1 l3:=⟨_,rfl⟩
  have hg:GoodL l0.length x:=ex ▸ reach_good h
  have hc:Closed l0 l3 (·∈x):=ex ▸ reach_closed h
  have hM:OkH M.o M.r M.w M.d:=h.move (reach_good h)
  have hl:M.o.length=x.length:=by show (List.map _ _).length=_;rw[List.length_map,ex]
  have hgm:=reach_good hM
  have h1:=nodup_len _ _ hgm
  have h2:=nodup_len _ _ hg
  have hr:M.r=l1.map (wh x):=by rw[ex];rfl
  have hp:putAll [] M.r=(putAll [] l1).map (idxL x):=by
    rw[hr]
    exact putAll_map (l:=[]) (fun q hq=>(hg.2 q hq).1) l1 (fun q hq=>by cases hq) (fun q hq=>by
      by_cases c:q<0
      · exact .inl c
      · exact .inr (ex ▸ reach_root hq (by omega)))
  have e1:traceL M.o M.d (M.o.length+1+(l0.length - M.o.length)) 0 (putAll [] M.r)=reachL M.o M.r M.d:=trace_fuel _ _ _ _ (by show ((reachL M.o M.r M.d).length:Int)≤_;omega)
  rw[←e1,show M.o.length+1+(l0.length - M.o.length)=l0.length+1 by omega,hp]
  have e2:M=moveL l0 l1 l2 l3 x:=by rw[ex]
  rw[hl,←map_idx_self x hg.1,e2,trace_moved h hg hc (l0.length+1) 0 (putAll [] l1) (by omega) (fun q hq=>by
    rw[ex];exact(trace_prefix _ _ _).subset hq)]
  rw[ex];rfl
end
theorem collect_eq {h:Hp} (hk:h.ok=true):∃t2 t3,(t2,t3)=tellL h.o h.r (h.w.length+1) h.w h.d∧OkH h.o h.r t2 t3∧(collectB h).1=moveL h.o h.r t2 t3 (reachL h.o h.r t3)∧(collectB h).2=(List.range h.o.length).map fun(j:Nat)=>idxL (reachL h.o h.r t3) (j:Int):=by
  obtain⟨t2,t3,ht⟩:∃t2 t3,(t2,t3)=tellL h.o h.r (h.w.length+1) h.w h.d:=⟨_,_,rfl⟩
  have hk2:=tell_ok (h.w.length+1) (ok_parts hk)
  rw[←ht]at hk2
  refine⟨t2,t3,ht,hk2,?_,?_⟩<;>(unfold collectB;rw[if_pos hk];unfold collectK;simp only[←ht])
theorem reach_collected {h:Hp} (hk:h.ok=true):reachL (collectB h).1.o (collectB h).1.r (collectB h).1.d=rangeL (collectB h).1.o.length:=by
  obtain⟨t2,t3,ht,hk2,e1,_⟩:=collect_eq hk
  rw[e1]
  exact reach_moved hk2
end
section
section
variable {l0:List S38} {l1:List Int} {l2 l3:List S60}
end
structure CF (h M:Hp) (mv:List Int):Prop where
  ok:M.ok=true
  len:mv.length=h.o.length
  all:(reachL M.o M.r M.d).length=M.o.length
  known:∀i:Int,0≤i→i<h.o.length→i∈reachL h.o h.r h.d→0≤rd mv i
  top:∀i:Int,0≤i→i<h.o.length→rd mv i<M.o.length
  obj:∀i:Int,0≤i→i<h.o.length→0≤rd mv i→(rd_T38 M.o (rd mv i)).f0=(rd_T38 h.o i).f0∧(rd_T38 M.o (rd mv i)).f1=(rd_T38 h.o i).f1∧(rd_T38 M.o (rd mv i)).f2.length=(rd_T38 h.o i).f2.length
  refs:∀i k:Int,0≤i→i<h.o.length→0≤rd mv i→0≤k→k<(rd_T38 h.o i).f2.length →
    (0≤rd (rd_T38 h.o i).f2 k→rd (rd_T38 M.o (rd mv i)).f2 k=rd mv (rd (rd_T38 h.o i).f2 k))∧(rd (rd_T38 h.o i).f2 k<0→rd (rd_T38 M.o (rd mv i)).f2 k<0) ∧
    (0≤rd (rd_T38 h.o i).f2 k→rd mv (rd (rd_T38 h.o i).f2 k)<0→(rd_T38 h.o i).f0=3∧k=0)∧(-1≤rd (rd_T38 h.o i).f2 k∧rd (rd_T38 h.o i).f2 k<h.o.length)
  again:collectB M=(M,rangeL M.o.length)
structure GF (h M:Hp) (mv k:List Int):Prop where
  stay:∀w∈h.w,w.f0∈k→w.f1∈k→(⟨rd mv w.f0,rd mv w.f1⟩:S60)∈M.w
  told:∀w∈h.w,w.f0∈k→w.f1 ∉ k→(⟨rd mv w.f0,rd mv w.f1⟩:S60)∈M.d
  nw:(h.w.filter fun w=>decide (w.f0∈k) && decide (w.f1∈k)).length≤M.w.length
  nd:(h.d.filter fun w=>decide (w.f0∈k)).length+(h.w.filter fun w=>decide (w.f0∈k) && !decide (w.f1∈k)).length≤M.d.length
  n:M.w.length+M.d.length≤h.w.length+h.d.length
end
section
set_option maxHeartbeats 4000000 in
set_option maxRecDepth 100000 in
theorem l4Watches_calls (v w:World) (A0 A1 A2 A3:Option Addr) (c0 c1 c2 c3:Nat) (G:Hp) (e:S40) (A6:Option Addr) (c6:Nat) (hB:Below v.heap.size v w) (hO:OwnG w v.heap.size A0 c0 A1 c1 A2 c2 A3 c3 G) (hk:OkH G.o G.r G.w G.d) (he:Kd.C (Kd.int .i64) w A6 e.f4.f2.length e.f4.f2) (hc:e.f4.f2.length≤c6) (R:Hp) (s:ByteArray) (hR:(R,s)=watchesB G e) :
  Calls Try.prog 130 #[.agg #[.slice A0 G.o.length c0,.slice A1 G.r.length c1,.slice A2 G.w.length c2,.slice A3 G.d.length c3],.agg #[.int .i64 e.f0,.int .i64 e.f1,.int .i64 e.f2,.int .i64 e.f3,.int .i64 e.f4.f0,.string e.f4.f1,.slice A6 e.f4.f2.length c6]] w fun en w'=>∃B0 d0 B1 d1 B2 d2 B3 d3,en=.returned (.tuple #[.agg #[.slice B0 R.o.length d0,.slice B1 R.r.length d1,.slice B2 R.w.length d2,.slice B3 R.d.length d3],.string s]) ∧
   OwnG w' v.heap.size B0 d0 B1 d1 B2 d2 B3 d3 R∧Below v.heap.size v w'∧Keeps w w':=by
 have HK0:=AK hO
 have HOK:=AK hk
 have HR:=AK hR
 have HE0:=AK (And.intro he hc)
 have K0:=AK (WK.start hB hO e A6 c6)
 clear hB hO hk he hc hR
 go_enter Try.func130,Try.ntmps130
 go_wp2_with fail
 have K:=AK (show WK v w w.heap.size A0 c0 A1 c1 A2 c2 A3 c3 G e A6 c6 (((w.alloc (.cells #[.slice A0 G.o.length c0,.slice A1 G.r.length c1,.slice A2 G.w.length c2,.slice A3 G.d.length c3] 28 (0,0))).alloc (.cells #[.int .i64 e.f0,.int .i64 e.f1,.int .i64 e.f2,.int .i64 e.f3,.int .i64 e.f4.f0,.string e.f4.f1,.slice A6 e.f4.f2.length c6] 40 (0,0))).alloc (.cells #[.slice none 0 0,.slice none 0 0,.slice none 0 0,.slice none 0 0] 28 (0,0)))from K0.out)
 have HWB:=AK (show Below w.heap.size w (((w.alloc (.cells #[.slice A0 G.o.length c0,.slice A1 G.r.length c1,.slice A2 G.w.length c2,.slice A3 G.d.length c3] 28 (0,0))).alloc (.cells #[.int .i64 e.f0,.int .i64 e.f1,.int .i64 e.f2,.int .i64 e.f3,.int .i64 e.f4.f0,.string e.f4.f1,.slice A6 e.f4.f2.length c6] 40 (0,0))).alloc (.cells #[.slice none 0 0,.slice none 0 0,.slice none 0 0,.slice none 0 0] 28 (0,0)))from below_alloc (below_alloc (below_alloc (Below.refl _ _) _) _) _)
 generalize (((w.alloc (.cells #[.slice A0 G.o.length c0,.slice A1 G.r.length c1,.slice A2 G.w.length c2,.slice A3 G.d.length c3] 28 (0,0))).alloc (.cells #[.int .i64 e.f0,.int .i64 e.f1,.int .i64 e.f2,.int .i64 e.f3,.int .i64 e.f4.f0,.string e.f4.f1,.slice A6 e.f4.f2.length c6] 40 (0,0))).alloc (.cells #[.slice none 0 0,.slice none 0 0,.slice none 0 0,.slice none 0 0] 28 (0,0)))=w1 at K HWB ⊢
 generalize w.heap.size=n at K ⊢
 clear K0 HK0
 refine(root_c (p:=e.f1) K.out.own.reads HOK.out.r).mono ?_
 rintro en w2 ⟨rfl,hb⟩
 replace K:=AK (K.out.below hb)
 clear hb
 have hgg:=known_range HOK.out e.f1
 obtain⟨g,eg⟩:∃g,g=knownL G.r e.f1:=⟨_,rfl⟩
 rw[←eg]at hgg ⊢
 have Eg:=AK eg
 clear eg
 obtain⟨p0,p1,p2,p3⟩:=K.out.hc
 obtain⟨q0,q1,q2,q3,q4,q5,q6⟩:=K.out.ec
 go_wp2_with fail
 clear p0 p1 p2 p3 q0 q1 q2 q3 q4 q5 q6
 refine(root_c (p:=e.f2) K.out.own.reads HOK.out.r).mono ?_
 rintro en w3 ⟨rfl,hb⟩
 replace K:=AK (K.out.below hb)
 clear hb
 have hgo:=known_range HOK.out e.f2
 obtain⟨o,eo⟩:∃o,o=knownL G.r e.f2:=⟨_,rfl⟩
 rw[←eo]at hgo ⊢
 have Eo:=AK eo
 clear eo
 by_cases cg:g<0
 case pos=>
  have cg1:decide (g<0)=true:=deT cg
  have he:(R,s)=(G,sNo):=by rw[HR.out];unfold watchesB;rw[←Eg.out,←Eo.out];exact if_neg (by rw[isGuard_iff];intro h;omega)
  injection he with he1 he2
  subst he1 he2
  obtain⟨p0,p1,p2,p3⟩:=K.out.hc
  obtain⟨z0,z1,z2,z3⟩:=K.out.oc
  have y0:=K.out.of 0
  have y1:=K.out.of 1
  have y2:=K.out.of 2
  have y3:=K.out.of 3
  go_wp2
  refine bodyPost_ret (results_ct rfl _ _ (n+2) 28 #[.slice A0 R.o.length c0,.slice A1 R.r.length c1,.slice A2 R.w.length c2,.slice A3 R.d.length c3] (0,0) _ rfl K.out.fin.2.2.1 Try.underlying28 rfl (by kernel_rfl)) rfl ?_
  exact⟨A0,c0,A1,c1,A2,c2,A3,c3,rfl,K.out.fin.1,K.out.fin.2.1,K.out.fin.2.2.2⟩
 have cg1:decide (g<0)=false:=deF cg
 by_cases co:o<0
 case pos=>
  have co1:decide (o<0)=true:=deT co
  have he:(R,s)=(G,sNo):=by rw[HR.out];unfold watchesB;rw[←Eg.out,←Eo.out];exact if_neg (by rw[isGuard_iff];intro h;omega)
  injection he with he1 he2
  subst he1 he2
  obtain⟨p0,p1,p2,p3⟩:=K.out.hc
  obtain⟨z0,z1,z2,z3⟩:=K.out.oc
  have y0:=K.out.of 0
  have y1:=K.out.of 1
  have y2:=K.out.of 2
  have y3:=K.out.of 3
  go_wp2
  refine bodyPost_ret (results_ct rfl _ _ (n+2) 28 #[.slice A0 R.o.length c0,.slice A1 R.r.length c1,.slice A2 R.w.length c2,.slice A3 R.d.length c3] (0,0) _ rfl K.out.fin.2.2.1 Try.underlying28 rfl (by kernel_rfl)) rfl ?_
  exact⟨A0,c0,A1,c1,A2,c2,A3,c3,rfl,K.out.fin.1,K.out.fin.2.1,K.out.fin.2.2.2⟩
 have co1:decide (o<0)=false:=deF co
 obtain⟨ad,Af,cf,ea,ha0,_,_,_,_⟩:=at_T38 K.out.own.reads.r0 g (by omega) (by omega)
 subst ea
 have hg0:=eq_true (show 0≤g by omega)
 have hg1:=eq_true (show g<(G.o.length:Int)by omega)
 by_cases ck:(rd_T38 G.o g).f0=4
 case neg=>
  have ck1:((rd_T38 G.o g).f0 != 4)=true:=bne_iff_ne.mpr ck
  have he:(R,s)=(G,sNo):=by rw[HR.out];unfold watchesB;rw[←Eg.out,←Eo.out];exact if_neg (by rw[isGuard_iff];intro h;exact ck h.1.2)
  injection he with he1 he2
  subst he1 he2
  obtain⟨p0,p1,p2,p3⟩:=K.out.hc
  obtain⟨z0,z1,z2,z3⟩:=K.out.oc
  have y0:=K.out.of 0
  have y1:=K.out.of 1
  have y2:=K.out.of 2
  have y3:=K.out.of 3
  go_wp2
  refine bodyPost_ret (results_ct rfl _ _ (n+2) 28 #[.slice (some ad) R.o.length c0,.slice A1 R.r.length c1,.slice A2 R.w.length c2,.slice A3 R.d.length c3] (0,0) _ rfl K.out.fin.2.2.1 Try.underlying28 rfl (by kernel_rfl)) rfl ?_
  exact⟨(some ad),c0,A1,c1,A2,c2,A3,c3,rfl,K.out.fin.1,K.out.fin.2.1,K.out.fin.2.2.2⟩
 have ck1:((rd_T38 G.o g).f0 != 4)=false:=bne_eq_false_iff_eq.mpr ck
 have hyes:(R,s)=if 20≤G.w.length+G.d.length then(G,sFull)else(⟨G.o,G.r,G.w++[⟨g,o⟩],G.d⟩,sOk):=by
  rw[HR.out];unfold watchesB;rw[←Eg.out,←Eo.out];exact if_pos ⟨(isGuard_iff _ _).2 ⟨by omega,ck⟩,by omega⟩
 clear HR
 have hwb:=HOK.out.w
 have hwr:wrap64 ((G.w.length:Int)+(G.d.length:Int))=(G.w.length:Int)+(G.d.length:Int):=by unfold wrap64;omega
 have hwb1:(G.w.length:Int)≤1152921504606846976:=by omega
 have hwb2:(G.d.length:Int)≤1152921504606846976:=by omega
 by_cases cf:20≤G.w.length+G.d.length
 case pos=>
  rw[if_pos cf]at hyes
  injection hyes with he1 he2
  subst he1 he2
  have cf1:decide (20≤(R.w.length:Int)+(R.d.length:Int))=true:=deT (by omega)
  obtain⟨p0,p1,p2,p3⟩:=K.out.hc
  obtain⟨z0,z1,z2,z3⟩:=K.out.oc
  have y0:=K.out.of 0
  have y1:=K.out.of 1
  have y2:=K.out.of 2
  have y3:=K.out.of 3
  go_wp2
  refine bodyPost_ret (results_ct rfl _ _ (n+2) 28 #[.slice (some ad) R.o.length c0,.slice A1 R.r.length c1,.slice A2 R.w.length c2,.slice A3 R.d.length c3] (0,0) _ rfl K.out.fin.2.2.1 Try.underlying28 rfl (by kernel_rfl)) rfl ?_
  exact⟨(some ad),c0,A1,c1,A2,c2,A3,c3,rfl,K.out.fin.1,K.out.fin.2.1,K.out.fin.2.2.2⟩
 rw[if_neg cf]at hyes
 obtain⟨W2,eW2⟩:∃W2,W2=G.w++[(⟨g,o⟩:S60)]:=⟨_,rfl⟩
 rw[←eW2]at hyes
 have EW2:=AK eW2
 clear eW2
 injection hyes with he1 he2
 subst he1 he2
 have cf1:decide (20≤(G.w.length:Int)+(G.d.length:Int))=false:=deF (by omega)
 have HL:=AK (show G.w.length≤20 by omega)
 obtain⟨p0,p1,p2,p3⟩:=K.out.hc
 obtain⟨q0,q1,q2,q3,q4,q5,q6⟩:=K.out.ec
 obtain⟨u4,hu4⟩:∃u,u=w3:=⟨_,rfl⟩
 have hhz:=K.out.hf 2
 have hn:=AK (show v.heap.size≤w3.heap.size from K.out.b.size)
 go_wp2_with ((with_reducible refine gate_dst (N:=47) rfl ?_);at_builtin;refine Kd.R_append k60 (w0:=v) v.heap.size rfl (.tmp 42) (.tmp 46) 26 60 (.agg #[.int .i64 0,.int .i64 0]) 16 rfl Try.underlying26 info60 rfl (by decide) (by omega) (.slice A2 G.w.length c2) G.w (⟨g,o⟩:S60) [.int .i64 g,.int .i64 o] (fun k=>some k≠(Value.slice A3 G.d.length c3).ownBlock) (fun _=>False) rfl rfl ?aP (fun _ hk=>hk.elim) ?aF ?aO ?aB ?aS ?aL ?_;(case aP=>exact k60_mkM _ _ _ (⟨g,o⟩:S60));(case aF=>exact fun k hk e=>by have:=Kd.R_lt K.out.own.s3 k e.symm;omega);(case aO=>exact K.out.own.s2);(case aB=>exact K.out.b);(case aS=>exact hn.out);(case aL=>have:=HL.out;omega);intro v47 w4 hr hb hgr hat;rw[←EW2.out]at hr;obtain⟨B2,b2,ee⟩:=Kd.R_slice hr;subst ee;have K4:=AK (K.out.pushW hr hb hgr hat);have hf4:=bfz (blk_grown K.out.h hgr (Kd.R_ne K.out.own.s2 K.out.h (by decide))) 2;have hc4:=box4 (blk_grown K.out.h hgr (Kd.R_ne K.out.own.s2 K.out.h (by decide)));obtain⟨r0,r1,r2,r3⟩:=hc4;obtain⟨s0,s1,s2,s3⟩:=K4.out.hc;obtain⟨z0,z1,z2,z3⟩:=K4.out.oc;have y0:=K4.out.of 0;have y1:=K4.out.of 1;have y2:=K4.out.of 2;have y3:=K4.out.of 3;clear hr hb hgr hat)
 refine bodyPost_ret (results_ct rfl _ _ (n+2) 28 #[.slice (some ad) G.o.length c0,.slice A1 G.r.length c1,.slice B2 W2.length b2,.slice A3 G.d.length c3] (0,0) _ rfl K4.out.fin.2.2.1 Try.underlying28 rfl (by kernel_rfl)) rfl ?_
 exact⟨(some ad),c0,A1,c1,B2,b2,A3,c3,rfl,K4.out.fin.1,K4.out.fin.2.1,K4.out.fin.2.2.2⟩
end
section
section
variable {v w0 w w1:World} {n base b:Nat} {A0 A1 A2 A3 A6:Option Addr} {c0 c1 c2 c3 c6:Nat} {G:Hp} {e:S40} {l0:List S38} {l1:List Int} {l2 l3:List S60}
theorem WK.setR (K:WK v w0 n A0 c0 (some ⟨b,0,none⟩) c1 A2 c2 A3 c3 G e A6 c6 w) (i:Int) (h0:0≤i) (h1:i<G.r.length) (p:Int) {r2:List Int} (hr:r2=G.r.set i.toNat p) :
    WK v w0 n A0 c0 (some ⟨b,0,none⟩) c1 A2 c2 A3 c3 ⟨G.o,r2,G.w,G.d⟩ e A6 c6 (w.setCell ⟨b,i.toNat,none⟩ (.int .i64 p)):=by
  have hl:r2.length=G.r.length:=by rw[hr,List.length_set]
  obtain⟨cells,hc⟩:=Kd.R_typed K.own.s1 b rfl
  have hb:=Kd.R_base K.own.s1 b rfl
  refine⟨below_set K.b hb,K.n0,K.n1,fun j cs t h1 x y z=>blk_far (K.k j cs t h1 x y z) (p:=⟨b,i.toNat,none⟩) (blk_ne (K.k j cs t h1 x y z) hc x) _,?_,blk_far K.e (p:=⟨b,i.toNat,none⟩) (blk_ne K.e hc (by decide)) _,blk_far K.o (p:=⟨b,i.toNat,none⟩) (blk_ne K.o hc (by decide)) _,?_⟩
  · have:=blk_far K.h (p:=⟨b,i.toNat,none⟩) (blk_ne K.h hc (by decide)) (.int .i64 p)
    unfold hpC at this ⊢
    show _=some (Obj.cells #[_,.slice _ r2.length _,_,_] 28 (0,0))
    rw[hl];exact this
  · have e1:=RI_set K.own.s1 i h0 h1 p
    rw[←hr,←hl]at e1
    refine⟨?_,e1,Kd.R_set K.own.s2 hc (k60_ap 3 (by decide)) _ _,Kd.R_set K.own.s3 hc (k60_ap 3 (by decide)) _ _⟩
    show Kd.S k38 38 _ _ (fun k=>some k≠(Value.slice _ r2.length _).ownBlock) _ _
    rw[hl]
    exact Kd.S_far (p:=⟨b,i.toNat,none⟩) K.own.s0 (fun k hk e=>hk (by rw[show k=b from e];rfl)) _
theorem WK.newD (K:WK v w0 n A0 c0 A1 c1 A2 c2 A3 c3 G e A6 c6 w) {D:List S60} {B:Option Addr} {c:Nat} (hb:Below w.heap.size w w1) (hr:Kd.R k60 60 w1 w.heap.size (fun _=>True) (.slice B D.length c) D) :
    WK v w0 n A0 c0 A1 c1 A2 c2 B c ⟨G.o,G.r,G.w,D⟩ e A6 c6 (w1.setCell ⟨n,3,none⟩ (.slice B D.length c)):=by
  have K1:=K.below hb
  refine⟨below_set K1.b K.n0,K.n0,K.n1,fun j cs t h1 x y z=>blk_far (K1.k j cs t h1 x y z) (p:=⟨n,3,none⟩) (by have h2:=blk_lt h1;have h3:=K.n1;show j≠n;omega) _,blk_put K1.h 3 _ rfl,blk_far K1.e (p:=⟨n,3,none⟩) (by show n+1≠n;omega) _,blk_far K1.o (p:=⟨n,3,none⟩) (by show n+2≠n;omega) _,?_⟩
  refine⟨Kd.S_set K1.own.s0 K1.h (k38_ap 28 (by decide) (by decide)) 3 _,Kd.R_set K1.own.s1 K1.h (int_ap 28 (by decide)) 3 _,Kd.R_mono (Kd.R_set (Kd.R_mono (Kd.R_below (Kd.R_bound K.own.s2) hb) (ok':=fun k=>k<w.heap.size) (fun k hk=>hk.2.2.1)) K1.h (k60_ap 28 (by decide)) 3 _) (fun k hk e=>?_),Kd.R_mono (Kd.R_set (Kd.R_lower (base':=v.heap.size) (Kd.R_mono (Kd.R_bound hr) (ok':=fun k=>w.heap.size≤k) (fun k hk=>hk.2.1)) K.b.size) K1.h (k60_ap 28 (by decide)) 3 _) (fun k hk e=>?_)⟩
  · have h1:=Kd.R_base hr k e.symm
    have h2:k<w.heap.size:=hk
    omega
  · have h1:=Kd.R_lt K.own.s2 k e.symm
    have h2:w.heap.size≤k:=hk
    omega
theorem WK.setRef {g0 g6 m c':Nat} (K:WK v w0 n (some ⟨g0,0,none⟩) c0 A1 c1 A2 c2 A3 c3 G e A6 c6 w) (k a:Int) (hk0:0≤k) (hk1:k<G.o.length) (ha0:0≤a) (ha1:a<(rd_T38 G.o k).f2.length)
    (hc:w.cell? ⟨g0,k.toNat*3+2,none⟩=some (.slice (some ⟨g6,0,none⟩) m c')) (p:Int) {o2:List S38} (ho:o2=G.o.set k.toNat (putRef (rd_T38 G.o k) a p)) :
    w.frozen? ⟨g6,a.toNat,none⟩=false∧WK v w0 n (some ⟨g0,0,none⟩) c0 A1 c1 A2 c2 A3 c3 ⟨o2,G.r,G.w,G.d⟩ e A6 c6 (w.setCell ⟨g6,a.toNat,none⟩ (.int .i64 p)):=by
  have hl:o2.length=G.o.length:=by rw[ho,List.length_set]
  obtain⟨oki,ce,hcl,hM,hcc,hfr,hoki,hH⟩:=Kd.S_elem K.own.s0 z38 k hk0 hk1
  obtain⟨sv,rfl,hR⟩:=k38_openM hM
  have h2:w.cell? ⟨g0,k.toNat*3+2,none⟩=some sv:=hcc 2 _ rfl
  rw[hc]at h2
  injection h2 with h2
  subst h2
  have hm:m=(rd_T38 G.o k).f2.length:=(Kd.R_reads' hR).1
  subst hm
  have hz:=RI_at hR a ha0 ha1
  obtain⟨cells,hb6⟩:=Kd.R_typed hR g6 rfl
  have hb:=Kd.R_base hR g6 rfl
  have h6:=hoki g6 (hR.1 g6 rfl)
  refine⟨hz.2,below_set K.b hb,K.n0,K.n1,fun j cs t h1 x y z=>blk_far (K.k j cs t h1 x y z) (p:=⟨g6,a.toNat,none⟩) (blk_ne (K.k j cs t h1 x y z) hb6 x) _,?_,blk_far K.e (p:=⟨g6,a.toNat,none⟩) (blk_ne K.e hb6 (by decide)) _,blk_far K.o (p:=⟨g6,a.toNat,none⟩) (blk_ne K.o hb6 (by decide)) _,?_⟩
  · have:=blk_far K.h (p:=⟨g6,a.toNat,none⟩) (blk_ne K.h hb6 (by decide)) (.int .i64 p)
    unfold hpC at this ⊢
    show _=some (Obj.cells #[.slice _ o2.length _,_,_,_] 28 (0,0))
    rw[hl];exact this
  · have e1:=RI_set hR a ha0 ha1 p
    have hM2:k38.M (w.setCell ⟨g6,a.toNat,none⟩ (.int .i64 p)) v.heap.size oki (putRef (rd_T38 G.o k) a p) [.int .i64 (rd_T38 G.o k).f0,.string (rd_T38 G.o k).f1,.slice (some ⟨g6,0,none⟩) (rd_T38 G.o k).f2.length c']:=
      k38_mkM _ _ _ (putRef (rd_T38 G.o k) a p) e1
    have hs:=Kd.H_back (Kd.H_step (w1:=w.setCell ⟨g6,a.toNat,none⟩ (.int .i64 p)) hH (fun j _ hn _=>Below.heap_setCell w ⟨g6,a.toNat,none⟩ _ j (fun e=>hn (by rw[show j=g6 from e];exact hR.1 g6 rfl)))) hM2 (fun _ hk=>hk)
    rw[←ho]at hs
    refine⟨?_,Kd.R_mono (Kd.R_far (p:=⟨g6,a.toNat,none⟩) (Kd.R_tight rfl K.own.s1) (fun j hj e=>h6.1 (by rw[←show j=g6 from e];exact hj)) _) (fun _ _=>trivial),Kd.R_set K.own.s2 hb6 (k60_ap 3 (by decide)) _ _,Kd.R_set K.own.s3 hb6 (k60_ap 3 (by decide)) _ _⟩
    show Kd.S k38 38 _ _ _ (.slice _ o2.length _) _
    rw[hl];exact hs
end
end
section
section
variable (f:Int→Int) (l:List Int) (j:Int)
theorem mixF_set (h0:0≤j) (h1:j<l.length):((l.take j.toNat).map f++l.drop j.toNat).set j.toNat (f (rd l j))=(l.take (j+1).toNat).map f++l.drop (j+1).toNat:=by
  have h2:j.toNat<l.length:=by omega
  rw[drop_cons l 0 j h0 h1,set_at _ _ _ _ _ (by rw[List.length_map,List.length_take];omega),show (j+1).toNat=j.toNat+1 by omega,List.take_add_one,List.getElem?_eq_getElem h2]
  have e:rd l j=l[j.toNat]:=by simp[rd,List.getD_eq_getElem?_getD,h2]
  rw[e,List.map_append,List.append_assoc]
  rfl
theorem mixF_rd (h0:0≤j) (h1:j<l.length):rd ((l.take j.toNat).map f++l.drop j.toNat) j=rd l j:=by
  have h2:j.toNat<l.length:=by omega
  rw[drop_cons l 0 j h0 h1]
  unfold rd
  rw[getD_at _ _ _ _ _ (by rw[List.length_map,List.length_take];omega)]
theorem mixF_len:((l.take j.toNat).map f++l.drop j.toNat).length=l.length:=by
  rw[List.length_append,List.length_map,List.length_take,List.length_drop];omega
end
section
variable {v w0 w w1:World} {n lo N b g:Nat} {A0 A1 A2 A3 A6:Option Addr} {c0 c1 c2 c3 c6:Nat} {G:Hp} {e:S40} {l0:List S38} {l1:List Int} {l2 l3:List S60} {P:Nat→Prop}
theorem OwnP.toH (h:OwnP w lo P A0 c0 A1 c1 A2 c2 A3 c3 l0 l1 l2 l3):OwnH w lo A0 c0 A1 c1 A2 c2 A3 c3 l0 l1 l2 l3:=
  ⟨Kd.S_mono h.s0 (fun _ hk=>hk.2),Kd.R_mono h.s1 (fun _ _=>trivial),Kd.R_mono h.s2 (fun _ hk=>hk.2),Kd.R_mono h.s3 (fun _ hk=>hk.2)⟩
theorem OwnP.far (h:OwnP w lo (fun k=>k<N) A0 c0 A1 c1 A2 c2 A3 c3 l0 l1 l2 l3) (hg:N≤g) (j:Nat) (u:Value):OwnP (w.setCell ⟨g,j,none⟩ u) lo (fun k=>k<N) A0 c0 A1 c1 A2 c2 A3 c3 l0 l1 l2 l3:=
  ⟨Kd.S_far (p:=⟨g,j,none⟩) h.s0 (fun k hk e=>by have h1:=hk.1;have h2:k=g:=e;omega) u,Kd.R_far (p:=⟨g,j,none⟩) h.s1 (fun k hk e=>by have h1:k<N:=hk;have h2:k=g:=e;omega) u,
   Kd.R_far (p:=⟨g,j,none⟩) h.s2 (fun k hk e=>by have h1:=hk.1;have h2:k=g:=e;omega) u,Kd.R_far (p:=⟨g,j,none⟩) h.s3 (fun k hk e=>by have h1:=hk.1;have h2:k=g:=e;omega) u⟩
theorem WK.far (K:WK v w0 n A0 c0 A1 c1 A2 c2 A3 c3 G e A6 c6 w) (h:OwnP w v.heap.size (fun k=>k<N) A0 c0 A1 c1 A2 c2 A3 c3 G.o G.r G.w G.d) (hg:N≤g) (hv:v.heap.size≤g) {cells:Array Value} (ht:w.heap[g]?=some (.cells cells 3 (0,0))) (j:Nat) (u:Value):WK v w0 n A0 c0 A1 c1 A2 c2 A3 c3 G e A6 c6 (w.setCell ⟨g,j,none⟩ u):=
  ⟨below_set K.b hv,K.n0,K.n1,fun i cs t h1 x y z=>blk_far (K.k i cs t h1 x y z) (p:=⟨g,j,none⟩) (blk_ne (K.k i cs t h1 x y z) ht x) u,blk_far K.h (p:=⟨g,j,none⟩) (blk_ne K.h ht (by decide)) u,blk_far K.e (p:=⟨g,j,none⟩) (blk_ne K.e ht (by decide)) u,blk_far K.o (p:=⟨g,j,none⟩) (blk_ne K.o ht (by decide)) u,(h.far hg j u).toH⟩
theorem WK.pushO (K:WK v w0 n A0 c0 A1 c1 A2 c2 A3 c3 G e A6 c6 w) {O2:List S38} {B:Option Addr} {c:Nat} (hr:Kd.S k38 38 w1 v.heap.size (fun k=>some k≠(Value.slice A1 G.r.length c1).ownBlock) (.slice B O2.length c) O2)
    (hb:Below v.heap.size v w1) (hg:w.grownBy w1 (Value.slice A0 G.o.length c0).ownBlock) :
    WK v w0 n B c A1 c1 A2 c2 A3 c3 ⟨O2,G.r,G.w,G.d⟩ e A6 c6 (w1.setCell ⟨n,0,none⟩ (.slice B O2.length c)):=by
  have hno:∀{k:Nat} {cs:Array Value} {t:TypeId},w.heap[k]?=some (.cells cs t (0,0))→(38:Nat)≠t→some k≠(Value.slice A0 G.o.length c0).ownBlock:=fun hk h3=>Kd.S_ne K.own.s0 hk h3
  have hh:=blk_grown K.h hg (hno K.h (by decide))
  have he:=blk_grown K.e hg (hno K.e (by decide))
  have ho:=blk_grown K.o hg (hno K.o (by decide))
  have hty:=Kd.S_typed K.own.s0
  refine⟨below_set hb K.n0,K.n0,K.n1,fun j cs t h1 x y z=>blk_far (blk_grown (K.k j cs t h1 x y z) hg (hno (K.k j cs t h1 x y z) (fun e=>y e.symm))) (p:=⟨n,0,none⟩) (by have h2:=blk_lt h1;have h3:=K.n1;show j≠n;omega) _,blk_put hh 0 _ rfl,blk_far he (p:=⟨n,0,none⟩) (by show n+1≠n;omega) _,blk_far ho (p:=⟨n,0,none⟩) (by show n+2≠n;omega) _,?_⟩
  exact⟨Kd.S_set hr hh (k38_ap 28 (by decide) (by decide)) 0 _,Kd.R_set (Kd.R_over' K.own.s1 hty (by decide) hg) hh (int_ap 28 (by decide)) 0 _,Kd.R_set (Kd.R_over' K.own.s2 hty (by decide) hg) hh (k60_ap 28 (by decide)) 0 _,Kd.R_set (Kd.R_over' K.own.s3 hty (by decide) hg) hh (k60_ap 28 (by decide)) 0 _⟩
end
end
end Go.Proofs.Ytigjhfijkdlldaa.H
