import Derived.Test.YtigjhfijkdlldaaStpPr
import Derived.Test.YtigjhfijkdlldaaStpJd
import Derived.Test.YtigjhfijkdlldaaStpWMore
namespace Go.Proofs.Ytigjhfijkdlldaa.H
open Go.RowKit Go.Proofs.YtigjhfijkdlldaaW.PrintWords Go.Proofs.YtigjhfijkdlldaaW.PrintLast Go.Proofs.YtigjhfijkdlldaaW.PrintMore Go.Proofs.Ytigjhfijkdlldaa.Q
set_option linter.unusedVariables false
set_option linter.unusedSimpArgs false
section
def runL:Hp→List S40→Hp × List ByteArray
  | h,[]=>(h,[])
  | h,e :: es=>((runL (stepB h e).1 es).1,(stepB h e).2 :: (runL (stepB h e).1 es).2)
def playB (h:Hp) (es:List S40):Hp × List ByteArray:=if h.ok=true then runL h es else(hp0,[])
theorem run_snoc (es:List S40) (e:S40):∀h:Hp,runL h (es++[e])=((stepB (runL h es).1 e).1,(runL h es).2++[(stepB (runL h es).1 e).2]):=by
  induction es with
  | nil=>intro h;rfl
  | cons x es ih=>intro h;simp only[List.cons_append,runL,ih]
theorem run_ok (es:List S40):∀h:Hp,h.ok=true→(runL h es).1.ok=true:=by
  induction es with
  | nil=>intro h hk;exact hk
  | cons x es ih=>intro h hk;exact ih _ (step_ok h x)
theorem run_len (es:List S40):∀h:Hp,(runL h es).2.length=es.length:=by
  induction es with
  | nil=>intro h;rfl
  | cons x es ih=>intro h;simp[runL,ih]
theorem play_ok (h:Hp) (es:List S40):(playB h es).1.ok=true:=by
  unfold playB
  split
  · rename_i c;exact run_ok es h c
  · rfl
end
section
def all2 {α β:Type} (R:α→β→Prop):List α→List β→Prop
  | [],[]=>True
  | x :: l,y :: m=>R x y∧all2 R l m
  | _,_=>False
section
variable {α β γ δ:Type} {R S:α→β→Prop}
theorem all2_len:∀{l:List α} {m:List β},all2 R l m→l.length=m.length
  | [],[],_=>rfl
  | _ :: _,_ :: _,h=>by rw[List.length_cons,List.length_cons,all2_len h.2]
  | [],_ :: _,h=>h.elim
  | _ :: _,[],h=>h.elim
theorem all2_mono (hR:∀x y,R x y→S x y):∀{l:List α} {m:List β},all2 R l m→all2 S l m
  | [],[],_=>trivial
  | _ :: _,_ :: _,h=>⟨hR _ _ h.1,all2_mono hR h.2⟩
  | [],_ :: _,h=>h.elim
  | _ :: _,[],h=>h.elim
theorem all2_set {u:α} {v:β} (hu:R u v):∀{l:List α} {m:List β} (i:Nat),all2 R l m→all2 R (l.set i u) (m.set i v)
  | [],[],_,_=>trivial
  | _ :: _,_ :: _,0,h=>⟨hu,h.2⟩
  | _ :: _,_ :: _,i+1,h=>⟨h.1,all2_set hu i h.2⟩
  | [],_ :: _,_,h=>h.elim
  | _ :: _,[],_,h=>h.elim
theorem all2_app {l2:List α} {m2:List β} (h2:all2 R l2 m2):∀{l:List α} {m:List β},all2 R l m→all2 R (l++l2) (m++m2)
  | [],[],_=>h2
  | _ :: _,_ :: _,h=>⟨h.1,all2_app h2 h.2⟩
  | [],_ :: _,h=>h.elim
  | _ :: _,[],h=>h.elim
theorem all2_get (d:α) (e:β):∀{l:List α} {m:List β},all2 R l m→∀i:Nat,i<l.length→R (l.getD i d) (m.getD i e)
  | [],[],_,i,hi=>absurd hi (by simp)
  | x :: _,y :: _,h,0,_=>h.1
  | x :: l,y :: m,h,i+1,hi=>by
    have:=all2_get d e h.2 i (by simpa using hi)
    simpa using this
  | [],_ :: _,h,_,_=>h.elim
  | _ :: _,[],h,_,_=>h.elim
theorem cmp2_all {f:α→β→Bool} (hf:∀x y,R x y→f x y=true):∀{l:List α} {m:List β},all2 R l m→cmp2 f l m=true
  | [],[],_=>rfl
  | x :: _,y :: _,h=>by show (f x y && cmp2 f _ _)=true;rw[hf _ _ h.1,cmp2_all hf h.2];rfl
  | [],_ :: _,h=>h.elim
  | _ :: _,[],h=>h.elim
theorem all2_cmp (f:α→β→Bool):∀(l:List α) (m:List β),l.length=m.length→cmp2 f l m=true→(∀x∈l,∀y∈m,f x y=true→R x y)→all2 R l m
  | [],[],_,_,_=>trivial
  | x :: l,y :: m,hl,h,hR=>by
    have h':(f x y && cmp2 f l m)=true:=h
    rw[Bool.and_eq_true]at h'
    exact⟨hR x (List.mem_cons_self ..) y (List.mem_cons_self ..) h'.1,all2_cmp f l m (by simpa using hl) h'.2 (fun a ha b hb=>hR a (List.mem_cons_of_mem _ ha) b (List.mem_cons_of_mem _ hb))⟩
  | [],_ :: _,h,_,_=>by simp at h
  | _ :: _,[],h,_,_=>by simp at h
theorem all2_map (f:γ→α) (g:γ→β):∀l:List γ,(∀x∈l,R (f x) (g x))→all2 R (l.map f) (l.map g)
  | [],_=>trivial
  | x :: l,h=>⟨h x (List.mem_cons_self ..),all2_map f g l (fun a ha=>h a (List.mem_cons_of_mem _ ha))⟩
theorem all2_comp {T:β→γ→Prop}:∀{l:List α} {m:List β} {n:List γ},all2 R l m→all2 T m n→all2 (fun x z=>∃y,R x y∧T y z) l n
  | [],[],[],_,_=>trivial
  | _ :: _,_ :: _,_ :: _,h,h'=>⟨⟨_,h.1,h'.1⟩,all2_comp h.2 h'.2⟩
  | [],[],_ :: _,_,h=>h.elim
  | _ :: _,_ :: _,[],_,h=>h.elim
  | [],_ :: _,_,h,_=>h.elim
  | _ :: _,[],_,h,_=>h.elim
end
structure Pl (h:Hp):Prop where
  k:h.ok=true
  o:∀x∈h.o,x.f0<3
  w:h.w=[]
  d:h.d=[]
def At (ρ:Int→Int→Prop) (p q:Int):Prop:=(p<0∧q<0)∨(0≤p∧0≤q∧ρ p q)
structure Sim (ρ:Int→Int→Prop) (a b:Hp):Prop where
  fn:∀p q q',ρ p q→ρ p q'→q=q'
  inj:∀p p' q,ρ p q→ρ p' q→p=p'
  rg:∀p q,ρ p q→(0≤p∧p<a.o.length)∧(0≤q∧q<b.o.length)
  r:all2 (At ρ) a.r b.r
  k:∀p q,ρ p q→(rd_T38 a.o p).f0=(rd_T38 b.o q).f0
  t:∀p q,ρ p q→(rd_T38 a.o p).f1.toList=(rd_T38 b.o q).f1.toList
  f:∀p q,ρ p q→all2 (At ρ) (rd_T38 a.o p).f2 (rd_T38 b.o q).f2
theorem At.neg {ρ:Int→Int→Prop}:At ρ (-1) (-1):=.inl ⟨by omega,by omega⟩
theorem At.mono {ρ σ:Int→Int→Prop} (h:∀p q,ρ p q→σ p q) (p q:Int) (hp:At ρ p q):At σ p q:=
  hp.elim .inl (fun x=>.inr ⟨x.1,x.2.1,h _ _ x.2.2⟩)
theorem known_at {ρ:Int→Int→Prop} {l m:List Int} (h:all2 (At ρ) l m) (i:Int):At ρ (knownL l i) (knownL m i):=by
  unfold knownL
  rw[←all2_len h]
  by_cases c:0≤i∧i<l.length
  · rw[if_pos c,if_pos c];exact all2_get 0 0 h i.toNat (by omega)
  · rw[if_neg c,if_neg c];exact At.neg
theorem known_in {l:List Int} {i:Int} (h0:0≤i) (h1:i<l.length):knownL l i=rd l i:=by unfold knownL;rw[if_pos ⟨h0,h1⟩]
section
variable {ρ:Int→Int→Prop} {a b:Hp}
theorem Sim.sees (s:Sim ρ a b) {p q:Int} (h:At ρ p q):(seesB a.o p).toList=(seesB b.o q).toList:=by
  unfold seesB
  rcases h with⟨h1,h2⟩|⟨h1,h2,h3⟩
  · rw[if_pos h1,if_pos h2]
  · rw[if_neg (show ¬ p<0 by omega),if_neg (show ¬ q<0 by omega),s.k _ _ h3,all2_len (s.f _ _ h3)]
    by_cases c:(rd_T38 b.o q).f0=1
    · rw[if_pos c,if_pos c];exact s.t _ _ h3
    · rw[if_neg c,if_neg c]
theorem made_ob {h:Hp} (hk:h.ok=true) (e:S40):obB h.o.length (madeO h e)=shB (madeO h e):=by
  unfold obB
  have:(madeO h e).f2.all (inB · h.o.length)=true:=by
    rw[List.all_eq_true]
    intro p hp
    obtain⟨i,_,rfl⟩:=List.mem_map.1 (show p∈e.f4.f2.map (knownL h.r)from hp)
    have:=known_range (ok_parts hk) i
    unfold inB
    rw[Bool.and_eq_true,decide_eq_true_eq,decide_eq_true_eq]
    exact this
  rw[this,Bool.and_true]
theorem made_sh (a b:Hp) (e:S40):shB (madeO a e)=shB (madeO b e):=by
  unfold shB madeO
  simp only[List.length_map]
theorem made_at (s:Sim ρ a b) (e:S40):all2 (At ρ) (madeO a e).f2 (madeO b e).f2:=all2_map _ _ _ (fun i _=>known_at s.r i)
theorem sim_forget (s:Sim ρ a b) {p q:Int} (h:At ρ p q) (i:Nat):Sim ρ ⟨a.o,a.r.set i p,a.w,a.d⟩ ⟨b.o,b.r.set i q,b.w,b.d⟩:=
  ⟨s.fn,s.inj,s.rg,all2_set h i s.r,s.k,s.t,s.f⟩
theorem sim_make (s:Sim ρ a b) (e:S40) (i:Nat):Sim (fun p q=>ρ p q∨(p=a.o.length∧q=b.o.length)) ⟨a.o++[madeO a e],a.r.set i a.o.length,a.w,a.d⟩ ⟨b.o++[madeO b e],b.r.set i b.o.length,b.w,b.d⟩:=by
  have hm:∀p q,ρ p q→(ρ p q∨(p=a.o.length∧q=b.o.length)):=fun p q h=>.inl h
  have ha:∀p q,ρ p q→rd_T38 (a.o++[madeO a e]) p=rd_T38 a.o p:=fun p q h=>rd_T38_app _ _ _ (s.rg p q h).1.1 (s.rg p q h).1.2
  have hb:∀p q,ρ p q→rd_T38 (b.o++[madeO b e]) q=rd_T38 b.o q:=fun p q h=>rd_T38_app _ _ _ (s.rg p q h).2.1 (s.rg p q h).2.2
  have ea:rd_T38 (a.o++[madeO a e]) a.o.length=madeO a e:=rd_T38_end _ _ _ rfl
  have eb:rd_T38 (b.o++[madeO b e]) b.o.length=madeO b e:=rd_T38_end _ _ _ rfl
  refine⟨?_,?_,?_,?_,?_,?_,?_⟩
  · rintro p q q' (h|⟨h1,h2⟩) (h'|⟨h1',h2'⟩)
    · exact s.fn _ _ _ h h'
    · have:=(s.rg _ _ h).1.2;omega
    · have:=(s.rg _ _ h').1.2;omega
    · omega
  · rintro p p' q (h|⟨h1,h2⟩) (h'|⟨h1',h2'⟩)
    · exact s.inj _ _ _ h h'
    · have:=(s.rg _ _ h).2.2;omega
    · have:=(s.rg _ _ h').2.2;omega
    · omega
  · intro p q h
    show (0≤p∧p<((a.o++[madeO a e]).length:Nat))∧(0≤q∧q<((b.o++[madeO b e]).length:Nat))
    rw[List.length_append,List.length_append,List.length_singleton,List.length_singleton]
    rcases h with h|⟨h1,h2⟩
    · have:=s.rg _ _ h;omega
    · omega
  · exact all2_set (.inr ⟨by omega,by omega,.inr ⟨rfl,rfl⟩⟩) i (all2_mono (At.mono hm) s.r)
  · rintro p q (h|⟨rfl,rfl⟩)
    · show (rd_T38 (a.o++[madeO a e]) p).f0=(rd_T38 (b.o++[madeO b e]) q).f0
      rw[ha p q h,hb p q h];exact s.k _ _ h
    · show (rd_T38 (a.o++[madeO a e]) a.o.length).f0=(rd_T38 (b.o++[madeO b e]) b.o.length).f0
      rw[ea,eb];rfl
  · rintro p q (h|⟨rfl,rfl⟩)
    · show (rd_T38 (a.o++[madeO a e]) p).f1.toList=(rd_T38 (b.o++[madeO b e]) q).f1.toList
      rw[ha p q h,hb p q h];exact s.t _ _ h
    · show (rd_T38 (a.o++[madeO a e]) a.o.length).f1.toList=(rd_T38 (b.o++[madeO b e]) b.o.length).f1.toList
      rw[ea,eb];rfl
  · rintro p q (h|⟨rfl,rfl⟩)
    · show all2 _ (rd_T38 (a.o++[madeO a e]) p).f2 (rd_T38 (b.o++[madeO b e]) q).f2
      rw[ha p q h,hb p q h];exact all2_mono (At.mono hm) (s.f _ _ h)
    · show all2 _ (rd_T38 (a.o++[madeO a e]) a.o.length).f2 (rd_T38 (b.o++[madeO b e]) b.o.length).f2
      rw[ea,eb];exact all2_mono (At.mono hm) (made_at s e)
theorem sim_set (s:Sim ρ a b) {k j p q:Int} (hk:ρ k j) (h:At ρ p q) (i:Int):Sim ρ ⟨a.o.set k.toNat (putRef (rd_T38 a.o k) i p),a.r,a.w,a.d⟩ ⟨b.o.set j.toNat (putRef (rd_T38 b.o j) i q),b.r,b.w,b.d⟩:=by
  have hkr:=s.rg _ _ hk
  have ha:∀u v,ρ u v→rd_T38 (a.o.set k.toNat (putRef (rd_T38 a.o k) i p)) u=if u=k then putRef (rd_T38 a.o k) i p else rd_T38 a.o u:=fun u v h=>rd_T38_set _ _ _ _ hkr.1.1 (s.rg u v h).1.1 (s.rg u v h).1.2
  have hb:∀u v,ρ u v→rd_T38 (b.o.set j.toNat (putRef (rd_T38 b.o j) i q)) v=if v=j then putRef (rd_T38 b.o j) i q else rd_T38 b.o v:=fun u v h=>rd_T38_set _ _ _ _ hkr.2.1 (s.rg u v h).2.1 (s.rg u v h).2.2
  have hi:∀u v,ρ u v→(u=k↔v=j):=fun u v h=>⟨fun e=>by subst e;exact s.fn _ _ _ h hk,fun e=>by subst e;exact s.inj _ _ _ h hk⟩
  refine⟨s.fn,s.inj,?_,s.r,?_,?_,?_⟩
  · intro u v h
    show (0≤u∧u<((a.o.set k.toNat (putRef (rd_T38 a.o k) i p)).length:Nat))∧(0≤v∧v<((b.o.set j.toNat (putRef (rd_T38 b.o j) i q)).length:Nat))
    rw[List.length_set,List.length_set];exact s.rg u v h
  · intro u v h
    show (rd_T38 (a.o.set k.toNat (putRef (rd_T38 a.o k) i p)) u).f0=(rd_T38 (b.o.set j.toNat (putRef (rd_T38 b.o j) i q)) v).f0
    rw[ha u v h,hb u v h]
    by_cases c:u=k
    · rw[if_pos c,if_pos ((hi u v h).1 c)];exact s.k _ _ hk
    · rw[if_neg c,if_neg (fun e=>c ((hi u v h).2 e))];exact s.k _ _ h
  · intro u v h
    show (rd_T38 (a.o.set k.toNat (putRef (rd_T38 a.o k) i p)) u).f1.toList=(rd_T38 (b.o.set j.toNat (putRef (rd_T38 b.o j) i q)) v).f1.toList
    rw[ha u v h,hb u v h]
    by_cases c:u=k
    · rw[if_pos c,if_pos ((hi u v h).1 c)];exact s.t _ _ hk
    · rw[if_neg c,if_neg (fun e=>c ((hi u v h).2 e))];exact s.t _ _ h
  · intro u v h'
    show all2 _ (rd_T38 (a.o.set k.toNat (putRef (rd_T38 a.o k) i p)) u).f2 (rd_T38 (b.o.set j.toNat (putRef (rd_T38 b.o j) i q)) v).f2
    rw[ha u v h',hb u v h']
    by_cases c:u=k
    · rw[if_pos c,if_pos ((hi u v h').1 c)];exact all2_set h _ (s.f _ _ hk)
    · rw[if_neg c,if_neg (fun e=>c ((hi u v h').2 e))];exact s.f _ _ h'
theorem part_at (s:Sim ρ a b) (p i:Int):(partL a.o a.r p i<0∧partL b.o b.r p i<0)∨(ρ (partL a.o a.r p i) (partL b.o b.r p i)∧¬ partL a.o a.r p i<0∧¬ partL b.o b.r p i<0∧0≤i∧i<(rd_T38 a.o (partL a.o a.r p i)).f2.length):=by
  have h:=known_at s.r p
  unfold partL
  rcases h with⟨h1,h2⟩|⟨h1,h2,h3⟩
  · rw[if_pos h1,if_pos h2];exact .inl ⟨by omega,by omega⟩
  · rw[if_neg (show ¬ knownL a.r p<0 by omega),if_neg (show ¬ knownL b.r p<0 by omega),←all2_len (s.f _ _ h3)]
    by_cases c:0≤i∧i<(rd_T38 a.o (knownL a.r p)).f2.length
    · rw[if_pos c,if_pos c];exact .inr ⟨h3,by omega,by omega,c⟩
    · rw[if_neg c,if_neg c];exact .inl ⟨by omega,by omega⟩
theorem no_guard {h:Hp} (hp:Pl h) (p:Int):isGuard h p=false:=by
  unfold isGuard
  by_cases c:0≤p∧p<h.o.length
  · have:=hp.o _ (getD_mem h.o z38 p c.1 c.2)
    rw[deF (show ¬ (rd_T38 h.o p).f0=4 by unfold rd_T38;omega)];simp
  · by_cases d:0≤p
    · have : rd_T38 h.o p = z38 := by
        unfold rd_T38
        rw[List.getD_eq_getElem?_getD,List.getElem?_eq_none (by omega)];rfl
      rw[this,deF (show ¬ z38.f0=4 by decide)];simp
    · rw[deF d];rfl
end
end
section
section
variable {ρ:Int→Int→Prop} {a b:Hp}
theorem sim_step (s:Sim ρ a b) (ha:Pl a) (hb:Pl b) {e:S40} (h7:e.f0≠7) (la:a.o.length<60) (lb:b.o.length<60) :
    (stepB a e).2.toList=(stepB b e).2.toList∧∃σ,Sim σ (stepB a e).1 (stepB b e).1:=by
  unfold stepB
  have ht:toB a e=toB b e:=by unfold toB;rw[all2_len s.r]
  rw[if_pos ha.k,if_pos hb.k,ht]
  by_cases c:e.f0=7∨toB b e=true
  · rw[if_pos c,if_pos c]
    unfold doB
    by_cases c1:e.f0=1
    · rw[if_pos c1,if_pos c1]
      unfold makesB
      rw[made_ob ha.k,made_ob hb.k,made_sh a b e]
      by_cases d:shB (madeO b e)=true
      · rw[if_pos d,if_pos d,if_neg (by omega),if_neg (by omega)]
        have s2:=sim_make s e e.f1.toNat
        exact⟨s2.sees (p:=a.o.length) (q:=b.o.length) (.inr ⟨by omega,by omega,.inr ⟨rfl,rfl⟩⟩),_,s2⟩
      · rw[if_neg d,if_neg d];exact⟨rfl,_,s⟩
    rw[if_neg c1,if_neg c1]
    by_cases c2:e.f0=2
    · rw[if_pos c2,if_pos c2]
      unfold takesB
      rcases part_at s e.f2 e.f3 with⟨d1,d2⟩|⟨d,d1,d2,d3,d4⟩
      · rw[if_pos d1,if_pos d2];exact⟨rfl,_,s⟩
      · rw[if_neg d1,if_neg d2]
        have hz:=known_at (s.f _ _ d) e.f3
        rw[known_in d3 d4,known_in d3 (by rw[←all2_len (s.f _ _ d)];exact d4)]at hz
        exact⟨s.sees hz,_,sim_forget s hz _⟩
    rw[if_neg c2,if_neg c2]
    by_cases c3:e.f0=3
    · rw[if_pos c3,if_pos c3]
      unfold setsB
      rcases part_at s e.f1 e.f3 with⟨d1,d2⟩|⟨d,d1,d2,d3,d4⟩
      · rw[if_pos d1,if_pos d2];exact⟨rfl,_,s⟩
      · rw[if_neg d1,if_neg d2]
        exact⟨rfl,_,sim_set s d (known_at s.r e.f2) _⟩
    rw[if_neg c3,if_neg c3]
    by_cases c4:e.f0=4
    · rw[if_pos c4,if_pos c4]
      exact⟨rfl,_,sim_forget s At.neg _⟩
    rw[if_neg c4,if_neg c4]
    by_cases c5:e.f0=5
    · rw[if_pos c5,if_pos c5]
      unfold watchesB
      rw[no_guard ha,no_guard hb,if_neg (by simp),if_neg (by simp)];exact⟨rfl,_,s⟩
    rw[if_neg c5,if_neg c5]
    by_cases c6:e.f0=6
    · rw[if_pos c6,if_pos c6]
      unfold asksB
      rw[no_guard ha,no_guard hb,if_neg (by simp),if_neg (by simp)];exact⟨rfl,_,s⟩
    rw[if_neg c6,if_neg c6,if_neg h7,if_neg h7];exact⟨rfl,_,s⟩
  · rw[if_neg c,if_neg c];exact⟨rfl,_,s⟩
theorem next_pl (hp:Pl a) {p:Int} (h0:0≤p) (h1:p<a.o.length):nextL a.o a.d p=(rd_T38 a.o p).f2:=by
  have:=hp.o _ (getD_mem a.o z38 p h0 h1)
  unfold nextL
  have h2:(rd_T38 a.o p).f0<3:=this
  rw[if_neg (by omega),if_neg (by omega)]
theorem pl_collect (hp:Pl a):Pl (collectB a).1∧(collectB a).1.o.length≤a.o.length:=by
  obtain⟨t2,t3,ht,hk2,e1,e2⟩:=collect_eq hp.k
  rw[tell_none (by rw[hp.w];intro w hw;cases hw)]at ht
  injection ht with h2 h3
  subst h2 h3
  have hg:GoodL a.o.length (reachL a.o a.r a.d):=reach_good (ok_parts hp.k)
  refine⟨⟨collect_ok a,?_,?_,?_⟩,?_⟩
  · rw[e1]
    intro x hx
    obtain⟨p,hq,rfl⟩:=List.mem_map.1 (show x∈(reachL a.o a.r a.d).map fun p=>objOf (reachL a.o a.r a.d) (rd_T38 a.o p)from hx)
    exact hp.o (rd_T38 a.o p) (getD_mem a.o z38 p (hg.2 p hq).1 (hg.2 p hq).2)
  · rw[e1];show movedW _ a.w=[];rw[hp.w];rfl
  · rw[e1];show movedW _ a.d=[];rw[hp.d];rfl
  · rw[e1];show ((reachL a.o a.r a.d).map _).length≤_;rw[List.length_map];exact nodup_len _ _ hg
theorem pl_step (hp:Pl a) {e:S40} (he:e.f4.f0<3):Pl (stepB a e).1∧(stepB a e).1.o.length≤a.o.length+1:=by
  have hk:=step_ok a e
  unfold stepB at hk ⊢
  rw[if_pos hp.k]at hk ⊢
  have h0:Pl a∧a.o.length≤a.o.length+1:=⟨hp,by omega⟩
  by_cases c:e.f0=7∨toB a e=true
  · rw[if_pos c]at hk ⊢
    unfold doB at hk ⊢
    by_cases c1:e.f0=1
    · rw[if_pos c1]at hk ⊢
      unfold makesB at hk ⊢
      split
      · split
        · exact h0
        · rename_i d1 d2
          rw[if_pos d1,if_neg d2]at hk
          refine⟨⟨hk,?_,hp.w,hp.d⟩,by show (a.o++[madeO a e]).length≤_;simp⟩
          intro x hx
          rcases List.mem_append.1 hx with hx|hx
          · exact hp.o x hx
          · rw[List.mem_singleton.1 hx];exact he
      · exact h0
    rw[if_neg c1]at hk ⊢
    by_cases c2:e.f0=2
    · rw[if_pos c2]at hk ⊢
      unfold takesB at hk ⊢
      split
      · exact h0
      · rename_i d
        rw[if_neg d]at hk
        exact⟨⟨hk,hp.o,hp.w,hp.d⟩,by show a.o.length≤_;omega⟩
    rw[if_neg c2]at hk ⊢
    by_cases c3:e.f0=3
    · rw[if_pos c3]at hk ⊢
      unfold setsB at hk ⊢
      split
      · exact h0
      · rename_i d
        rw[if_neg d]at hk
        have hr:=part_range (ok_parts hp.k) _ _ d
        refine⟨⟨hk,?_,hp.w,hp.d⟩,by show (a.o.set _ _).length≤_;rw[List.length_set];omega⟩
        intro x hx
        rcases List.mem_or_eq_of_mem_set hx with hx|rfl
        · exact hp.o x hx
        · exact hp.o (rd_T38 a.o _) (getD_mem a.o z38 _ hr.1.1 hr.1.2)
    rw[if_neg c3]at hk ⊢
    by_cases c4:e.f0=4
    · rw[if_pos c4]at hk ⊢
      exact⟨⟨hk,hp.o,hp.w,hp.d⟩,by show a.o.length≤_;omega⟩
    rw[if_neg c4]at hk ⊢
    by_cases c5:e.f0=5
    · rw[if_pos c5]at hk ⊢
      unfold watchesB
      rw[no_guard hp,if_neg (by simp)];exact h0
    rw[if_neg c5]at hk ⊢
    by_cases c6:e.f0=6
    · rw[if_pos c6]at hk ⊢
      unfold asksB
      rw[no_guard hp,if_neg (by simp)];exact h0
    rw[if_neg c6]at hk ⊢
    by_cases c7:e.f0=7
    · rw[if_pos c7]
      exact⟨(pl_collect hp).1,by have:=(pl_collect hp).2;show (collectB a).1.o.length≤_;omega⟩
    rw[if_neg c7];exact h0
  · rw[if_neg c];exact h0
theorem step_seven (hp:Pl a) {e:S40} (h7:e.f0=7):stepB a e=((collectB a).1,sOk):=by
  unfold stepB doB
  rw[if_pos hp.k,if_pos (.inl h7)]
  simp[h7]
theorem whB_at {x y:List Int} {p q:Int} (h:whB x y p q=true) (hp:p<0∨p∈x) (hq:q<0∨q∈y) (hx:∀p∈x,0≤p) (hy:∀p∈y,0≤p):At (fun p q=>p∈x∧q∈y∧idxL x p=idxL y q) p q:=by
  unfold whB at h
  have h1:wh x p=wh y q:=by simpa using h
  rcases hp with hp|hp<;>rcases hq with hq|hq
  · exact .inl ⟨hp,hq⟩
  · rw[wh_neg hp,wh_pos (hy q hq)]at h1
    have:=(idxL_get hq).1;omega
  · rw[wh_neg hq,wh_pos (hx p hp)]at h1
    have:=(idxL_get hp).1;omega
  · rw[wh_pos (hx p hp),wh_pos (hy q hq)]at h1
    exact .inr ⟨hx p hp,hy q hq,hp,hq,h1⟩
theorem same_sim (hs:sameB a.o a.r a.w a.d b.o b.r b.w b.d=true) (ha:Pl a) (hb:Pl b):∃ρ,Sim ρ a b:=by
  have ga:GoodL a.o.length (reachL a.o a.r a.d):=reach_good (ok_parts ha.k)
  have gb:GoodL b.o.length (reachL b.o b.r b.d):=reach_good (ok_parts hb.k)
  have ca:Closed a.o a.d (·∈reachL a.o a.r a.d):=reach_closed (ok_parts ha.k)
  have cb:Closed b.o b.d (·∈reachL b.o b.r b.d):=reach_closed (ok_parts hb.k)
  have ra:∀p∈a.r,p<0∨p∈reachL a.o a.r a.d:=fun p hp=>by
    by_cases c:p<0
    · exact .inl c
    · exact .inr (reach_root hp (by omega))
  have rb:∀p∈b.r,p<0∨p∈reachL b.o b.r b.d:=fun p hp=>by
    by_cases c:p<0
    · exact .inl c
    · exact .inr (reach_root hp (by omega))
  unfold sameB sameC at hs
  simp only[Bool.and_eq_true,decide_eq_true_eq]at hs
  obtain⟨_,_,hr,hx,hrr,ho,_⟩:=hs
  generalize reachL a.o a.r a.d=x at *
  generalize reachL b.o b.r b.d=y at *
  have hx0:∀p∈x,0≤p:=fun p hp=>(ga.2 p hp).1
  have hy0:∀p∈y,0≤p:=fun p hp=>(gb.2 p hp).1
  have hal:∀p q,(p∈x∧q∈y∧idxL x p=idxL y q)→alikeB x y (rd_T38 a.o p) (rd_T38 b.o q)=true:=by
    rintro p q ⟨hp,hq,he⟩
    have h1:all2 (fun p q=>alikeB x y (rd_T38 a.o p) (rd_T38 b.o q)=true) x y:=all2_cmp _ x y hx ho (fun _ _ _ _ h=>h)
    have h2:=all2_get 0 0 h1 (idxL x p).toNat (by have:=idxL_get hp;omega)
    have h3:x.getD (idxL x p).toNat 0=p:=(idxL_get hp).2.2
    have h4:y.getD (idxL x p).toNat 0=q:=by rw[he];exact(idxL_get hq).2.2
    rwa [h3,h4]at h2
  have hpa:∀p q,(p∈x∧q∈y∧idxL x p=idxL y q)→(rd_T38 a.o p).f0=(rd_T38 b.o q).f0∧(rd_T38 a.o p).f1.toList=(rd_T38 b.o q).f1.toList∧(rd_T38 a.o p).f2.length=(rd_T38 b.o q).f2.length∧cmp2 (whB x y) (rd_T38 a.o p).f2 (rd_T38 b.o q).f2=true:=by
    intro p q h
    have:=hal p q h
    unfold alikeB rowsB at this
    simp only[Bool.and_eq_true,decide_eq_true_eq]at this
    exact⟨this.1.1,this.1.2,this.2.1,this.2.2⟩
  refine⟨fun p q=>p∈x∧q∈y∧idxL x p=idxL y q,?_,?_,?_,?_,fun p q h=>(hpa p q h).1,fun p q h=>(hpa p q h).2.1,?_⟩
  · rintro p q q' ⟨h1,h2,h3⟩ ⟨_,h5,h6⟩
    exact idx_inj h2 h5 (by rw[←h3,h6])
  · rintro p p' q ⟨h1,h2,h3⟩ ⟨h4,h5,h6⟩
    exact idx_inj h1 h4 (by rw[h3,h6])
  · rintro p q ⟨h1,h2,_⟩
    exact⟨ga.2 p h1,gb.2 q h2⟩
  · exact all2_cmp _ _ _ hr hrr (fun p hp q hq h=>whB_at h (ra p hp) (rb q hq) hx0 hy0)
  · intro p q h
    have h2:=hpa p q h
    refine all2_cmp _ _ _ h2.2.2.1 h2.2.2.2 (fun u hu v hv h3=>whB_at h3 ?_ ?_ hx0 hy0)
    · by_cases c:u<0
      · exact .inl c
      · refine .inr (ca p h.1 u ?_ (by omega))
        rw[next_pl ha (ga.2 p h.1).1 (ga.2 p h.1).2];exact hu
    · by_cases c:v<0
      · exact .inl c
      · refine .inr (cb q h.2.1 v ?_ (by omega))
        rw[next_pl hb (gb.2 q h.2.1).1 (gb.2 q h.2.1).2];exact hv
theorem all2_mem (s:Sim ρ a b) {p q:Int} (h:ρ p q):∀{l m:List Int},all2 ρ l m→(p∈l↔q∈m)
  | [],[],_=>by simp
  | x :: l,y :: m,h2=>by
    have h3:=all2_mem s h h2.2
    rw[List.mem_cons,List.mem_cons,h3]
    constructor
    · rintro(rfl|h4)
      · exact .inl (s.fn _ _ _ h h2.1)
      · exact .inr h4
    · rintro(rfl|h4)
      · exact .inl (s.inj _ _ _ h h2.1)
      · exact .inr h4
  | [],_ :: _,h=>h.elim
  | _ :: _,[],h=>h.elim
theorem all2_idx (s:Sim ρ a b) {p q:Int} (h:ρ p q):∀{l m:List Int},all2 ρ l m→idxL l p=idxL m q
  | [],[],_=>rfl
  | x :: l,y :: m,h2=>by
    have h3:=all2_idx s h h2.2
    unfold idxL
    by_cases c:x=p
    · have d:y=q:=by subst c;exact s.fn _ _ _ h2.1 h
      rw[if_pos c,if_pos d]
    · have d:y≠q:=fun e=>by subst e;exact c (s.inj _ _ _ h2.1 h)
      rw[if_neg c,if_neg d,h3]
  | [],_ :: _,h=>h.elim
  | _ :: _,[],h=>h.elim
theorem lock_put (s:Sim ρ a b) {l m:List Int} (h:all2 ρ l m) {p q:Int} (hp:At ρ p q):all2 ρ (putL l p) (putL m q):=by
  unfold putL
  rcases hp with⟨h1,h2⟩|⟨h1,h2,h3⟩
  · rw[if_pos h1,if_pos h2];exact h
  · rw[if_neg (show ¬ p<0 by omega),if_neg (show ¬ q<0 by omega)]
    by_cases c:p∈l
    · rw[if_pos c,if_pos ((all2_mem s h3 h).1 c)];exact h
    · rw[if_neg c,if_neg (fun e=>c ((all2_mem s h3 h).2 e))]
      exact all2_app (show all2 ρ [p] [q]from⟨h3,trivial⟩) h
theorem lock_all (s:Sim ρ a b):∀{xs ys l m:List Int},all2 (At ρ) xs ys→all2 ρ l m→all2 ρ (putAll l xs) (putAll m ys)
  | [],[],_,_,_,h=>h
  | x :: xs,y :: ys,l,m,h,h2=>lock_all s (l:=putL l x) (m:=putL m y) h.2 (lock_put s h2 h.1)
  | [],_ :: _,_,_,h,_=>h.elim
  | _ :: _,[],_,_,h,_=>h.elim
theorem lock_trace (s:Sim ρ a b) (ha:Pl a) (hb:Pl b):∀(n:Nat) (i:Int) {l m:List Int},0≤i→all2 ρ l m→all2 ρ (traceL a.o a.d n i l) (traceL b.o b.d n i m)
  | 0,_,_,_,_,h=>h
  | n+1,i,l,m,h0,h=>by
    unfold traceL
    rw[←all2_len h]
    by_cases c:i<l.length
    · rw[if_pos c,if_pos c]
      have hr:ρ (rd l i) (rd m i):=all2_get 0 0 h i.toNat (by omega)
      have hg:=s.rg _ _ hr
      rw[next_pl ha hg.1.1 hg.1.2,next_pl hb hg.2.1 hg.2.2]
      exact lock_trace s ha hb n (i+1) (by omega) (lock_all s (s.f _ _ hr) h)
    · rw[if_neg c,if_neg c];exact h
theorem reach_long {l0:List S38} {l1:List Int} {l2 l3:List S60} (h:OkH l0 l1 l2 l3) (k:Nat):traceL l0 l3 (l0.length+1+k) 0 (putAll [] l1)=reachL l0 l1 l3:=by
  refine trace_fuel _ _ _ _ ?_
  have:=nodup_len _ _ (reach_good h)
  unfold reachL at this
  omega
theorem sim_same (s:Sim ρ a b) (ha:Pl a) (hb:Pl b):sameB a.o a.r a.w a.d b.o b.r b.w b.d=true:=by
  have hxy:all2 ρ (reachL a.o a.r a.d) (reachL b.o b.r b.d):=by
    rw[←reach_long (ok_parts ha.k) (b.o.length+1),←reach_long (ok_parts hb.k) (a.o.length+1),show a.o.length+1+(b.o.length+1)=b.o.length+1+(a.o.length+1)by omega]
    exact lock_trace s ha hb _ 0 (by omega) (lock_all s s.r (show all2 ρ [] []from trivial))
  have ka:okB a.o a.r a.w a.d=true:=ha.k
  have kb:okB b.o b.r b.w b.d=true:=hb.k
  unfold sameB
  rw[ka,kb,deT (all2_len s.r)]
  generalize reachL a.o a.r a.d=x at *
  generalize reachL b.o b.r b.d=y at *
  have hw:∀p q,At ρ p q→whB x y p q=true:=by
    intro p q h
    unfold whB
    rcases h with⟨h1,h2⟩|⟨h1,h2,h3⟩
    · rw[wh_neg h1,wh_neg h2];rfl
    · rw[wh_pos h1,wh_pos h2,all2_idx s h3 hxy];simp
  have ho:objsB a.o b.o x y=true:=by
    refine cmp2_all (fun p q h=>?_) hxy
    unfold alikeB rowsB
    rw[deT (s.k _ _ h),deT (s.t _ _ h),deT (all2_len (s.f _ _ h)),cmp2_all hw (s.f _ _ h)];rfl
  unfold sameC
  rw[deT (all2_len hxy),cmp2_all hw s.r,ho,ha.w,ha.d,hb.w,hb.d]
  rfl
theorem sim_comp {σ:Int→Int→Prop} {c:Hp} (s:Sim ρ a b) (t:Sim σ b c):Sim (fun p r=>∃q,ρ p q∧σ q r) a c:=by
  have hat:∀p r,(∃q,At ρ p q∧At σ q r)→At (fun p r=>∃q,ρ p q∧σ q r) p r:=by
    rintro p r ⟨q,⟨h1,h2⟩|⟨h1,h2,h3⟩,⟨h4,h5⟩|⟨h4,h5,h6⟩⟩
    · exact .inl ⟨h1,h5⟩
    · omega
    · omega
    · exact .inr ⟨h1,h5,q,h3,h6⟩
  refine⟨?_,?_,?_,all2_mono hat (all2_comp s.r t.r),?_,?_,?_⟩
  · rintro p r r' ⟨q,h1,h2⟩ ⟨q',h3,h4⟩
    have:=s.fn _ _ _ h1 h3
    subst this
    exact t.fn _ _ _ h2 h4
  · rintro p p' r ⟨q,h1,h2⟩ ⟨q',h3,h4⟩
    have:=t.inj _ _ _ h2 h4
    subst this
    exact s.inj _ _ _ h1 h3
  · rintro p r ⟨q,h1,h2⟩
    exact⟨(s.rg _ _ h1).1,(t.rg _ _ h2).2⟩
  · rintro p r ⟨q,h1,h2⟩
    rw[s.k _ _ h1,t.k _ _ h2]
  · rintro p r ⟨q,h1,h2⟩
    rw[s.t _ _ h1,t.t _ _ h2]
  · rintro p r ⟨q,h1,h2⟩
    exact all2_mono hat (all2_comp (s.f _ _ h1) (t.f _ _ h2))
theorem sim_collect_r (s:Sim ρ a b) (hb:Pl b):∃σ,Sim σ a (collectB b).1:=by
  have h:sameB b.o b.r b.w b.d (collectB b).1.o (collectB b).1.r (collectB b).1.w (collectB b).1.d=true:=(same_collected (by rw[hb.w];intro w hw;cases hw)).trans hb.k
  obtain⟨σ,t⟩:=same_sim h hb (pl_collect hb).1
  exact⟨_,sim_comp s t⟩
theorem sim_collect_l (s:Sim ρ a b) (ha:Pl a):∃σ,Sim σ (collectB a).1 b:=by
  have h:sameB a.o a.r a.w a.d (collectB a).1.o (collectB a).1.r (collectB a).1.w (collectB a).1.d=true:=(same_collected (by rw[ha.w];intro w hw;cases hw)).trans ha.k
  rw[same_symm]at h
  obtain⟨σ,t⟩:=same_sim h (pl_collect ha).1 ha
  exact⟨_,sim_comp t s⟩
end
def Ins:List S40→List S40→Prop
  | [],es=>es=[]
  | c :: ms,es=>(c.f0=7∧Ins ms es)∨∃es',es=c :: es'∧Ins ms es'
theorem ins_drop:∀(ms:List S40) {e:S40} {es:List S40},e.f0=7→Ins ms (e :: es)→Ins ms es
  | [],_,_,_,h=>by cases h
  | c :: ms,e,es,h7,h=>by
    rcases h with⟨h1,h2⟩|⟨es',h1,h2⟩
    · exact .inl ⟨h1,ins_drop ms h7 h2⟩
    · injection h1 with h3 h4
      subst h3 h4
      exact .inl ⟨h7,h2⟩
structure Al (fa fb:Hp) (es ms:List S40) (sa sb:List ByteArray):Prop where
  h:∃(A B:Hp) (ρ:Int→Int→Prop),Sim ρ A B∧Pl A∧Pl B∧runL A es=(fa,sa)∧runL B ms=(fb,sb)∧A.o.length+es.length<60∧B.o.length+es.length<60
  i:Ins ms es
  e:∀e∈es,e.f4.f0<3
section
variable {fa fb:Hp} {es ms:List S40} {sa sb:List ByteArray}
theorem al_end (h:Al fa fb es [] sa sb):es=[]∧sameB fa.o fa.r fa.w fa.d fb.o fb.r fb.w fb.d=true:=by
  have he:es=[]:=h.i
  subst he
  obtain⟨A,B,ρ,hs,ha,hb,h1,h2,_⟩:=h.h
  have e1:A=fa:=congrArg Prod.fst h1
  have e2:B=fb:=congrArg Prod.fst h2
  subst e1 e2
  exact⟨rfl,sim_same hs ha hb⟩
theorem al_skip {m:S40} (h:Al fa fb es (m :: ms) sa sb) (h7:m.f0=7) (hn:∀e es',es=e :: es'→e.f0≠7):∃t sb',sb=t :: sb'∧Al fa fb es ms sa sb':=by
  obtain⟨A,B,ρ,hs,ha,hb,h1,h2,h3,h4⟩:=h.h
  have h5:runL B (m :: ms)=((runL (stepB B m).1 ms).1,(stepB B m).2 :: (runL (stepB B m).1 ms).2):=rfl
  rw[h5]at h2
  rw[step_seven hb h7]at h2
  obtain⟨σ,t⟩:=sim_collect_r hs hb
  have e1:=congrArg Prod.fst h2
  have e2:=congrArg Prod.snd h2
  refine⟨_,_,e2.symm,⟨A,(collectB B).1,σ,t,ha,(pl_collect hb).1,h1,?_,h3,by have:=(pl_collect hb).2;omega⟩,?_,h.e⟩
  · exact Prod.ext e1 rfl
  · rcases h.i with⟨_,h6⟩|⟨es',h6,_⟩
    · exact h6
    · exact absurd h7 (hn m es' h6)
theorem al_next {m:S40} (h:Al fa fb es (m :: ms) sa sb) (hn:¬ (m.f0=7∧∀e es',es=e :: es'→e.f0≠7)):∃e es' t sa' u sb',es=e :: es'∧sa=t :: sa'∧sb=u :: sb'∧u.toList=t.toList∧Al fa fb es' ms sa' sb':=by
  obtain⟨A,B,ρ,hs,ha,hb,h1,h2,h3,h4⟩:=h.h
  have h5:runL B (m :: ms)=((runL (stepB B m).1 ms).1,(stepB B m).2 :: (runL (stepB B m).1 ms).2):=rfl
  rw[h5]at h2
  have e1:=congrArg Prod.fst h2
  have e2:=congrArg Prod.snd h2
  by_cases c:m.f0=7
  · have ⟨e, es', he, h7⟩ : ∃ e es', es = e :: es' ∧ e.f0 = 7 := by
      refine Classical.byContradiction fun hx=>hn ⟨c,fun e es' he h7=>hx ⟨e,es',he,h7⟩⟩
    subst he
    have h6:runL A (e :: es')=((runL (stepB A e).1 es').1,(stepB A e).2 :: (runL (stepB A e).1 es').2):=rfl
    rw[h6,step_seven ha h7]at h1
    rw[step_seven hb c]at e1 e2
    have e3:=congrArg Prod.fst h1
    have e4:=congrArg Prod.snd h1
    obtain⟨σ,t⟩:=sim_collect_r hs hb
    obtain⟨τ,u⟩:=sim_collect_l t ha
    have hl:(e :: es').length=es'.length+1:=rfl
    refine⟨e,es',_,_,_,_,rfl,e4.symm,e2.symm,rfl,⟨(collectB A).1,(collectB B).1,τ,u,(pl_collect ha).1,(pl_collect hb).1,?_,?_,by have:=(pl_collect ha).2;omega,by have:=(pl_collect hb).2;omega⟩,?_,fun x hx=>h.e x (List.mem_cons_of_mem _ hx)⟩
    · exact Prod.ext e3 rfl
    · exact Prod.ext e1 rfl
    · rcases h.i with⟨_,h6⟩|⟨es'',h6,h8⟩
      · exact ins_drop ms h7 h6
      · injection h6 with h9 h10;subst h10;exact h8
  · rcases h.i with⟨h6,_⟩|⟨es',h6,h8⟩
    · exact absurd h6 c
    subst h6
    have h6:runL A (m :: es')=((runL (stepB A m).1 es').1,(stepB A m).2 :: (runL (stepB A m).1 es').2):=rfl
    rw[h6]at h1
    have e3:=congrArg Prod.fst h1
    have e4:=congrArg Prod.snd h1
    have hl:(m :: es').length=es'.length+1:=rfl
    have hm:=h.e m (List.mem_cons_self ..)
    obtain⟨g1,σ,g2⟩:=sim_step hs ha hb c (by omega) (by omega)
    refine⟨m,es',_,_,_,_,rfl,e4.symm,e2.symm,g1.symm,⟨(stepB A m).1,(stepB B m).1,σ,g2,(pl_step ha hm).1,(pl_step hb hm).1,?_,?_,by have:=(pl_step ha hm).2;omega,by have:=(pl_step hb hm).2;omega⟩,h8,fun x hx=>h.e x (List.mem_cons_of_mem _ hx)⟩
    · exact Prod.ext e3 rfl
    · exact Prod.ext e1 rfl
theorem sim_refl {A:Hp} (ha:Pl A):∃ρ,Sim ρ A A:=same_sim ((same_refl _ _ _ _).trans ha.k) ha ha
end
end
section
theorem ins_same:∀{ms es:List S40} (e:S40),Ins ms es→Ins (ms++[e]) (es++[e])
  | [],es,e,h=>by have:es=[]:=h;subst this;exact .inr ⟨[],rfl,rfl⟩
  | c :: ms,es,e,h=>by
    rcases h with⟨h1,h2⟩|⟨es',rfl,h2⟩
    · exact .inl ⟨h1,ins_same e h2⟩
    · exact .inr ⟨es'++[e],rfl,ins_same e h2⟩
theorem ins_more:∀{ms es:List S40} {c:S40},c.f0=7→Ins ms es→Ins (ms++[c]) es
  | [],es,c,h7,h=>.inl ⟨h7,h⟩
  | a :: ms,es,c,h7,h=>by
    rcases h with⟨h1,h2⟩|⟨es',rfl,h2⟩
    · exact .inl ⟨h1,ins_more h7 h2⟩
    · exact .inr ⟨es',rfl,ins_more h7 h2⟩
theorem Rdr.apart {v w:World} {g:Nat} {P:Int} {α:Type} {d:Kd α} {e base:Nat} {ok:Nat→Prop} {u:Value} {xs:List α} (h:Rdr v w g P) (ho:d.R e w base ok u xs) (ht:∀q,q∈e :: d.E→q≠121):d.R e w base (fun k=>ok k∧k≠g) u xs:=by
  obtain⟨bs,p,hi,h2⟩:=h.ex
  exact hi.apart ho ht
structure TB (w0:World) (g n6 N0:Nat) (P:Int) (B0:Option Addr) (d0:Nat) (B1:Option Addr) (d1:Nat) (B2:Option Addr) (d2:Nat) (B3:Option Addr) (d3:Nat) (G:Hp) (es:List S40) (K M:Option Addr) (cm:Nat) (ms:List S40) (w:World):Prop where
  b:Below w0.heap.size w0 w
  r:Rdr w0 w g P
  x6:w.heap[n6]?=some (.cells #[.slice B0 G.o.length d0,.slice B1 G.r.length d1,.slice B2 G.w.length d2,.slice B3 G.d.length d3] 28 (0,0))
  o:OwnG w w0.heap.size B0 d0 B1 d1 B2 d2 B3 d3 G
  e:Kd.F k40 w (fun k=>k≠g∧k<N0∧w0.heap.size≤k) K es.length es
  m:Kd.N k40 40 w N0 (fun k=>k≠g∧w0.heap.size≤k) (.slice M ms.length cm) ms
  s:w0.heap.size≤N0∧N0≤w.heap.size
section
variable {w0 w w1:World} {g n6 N0:Nat} {P:Int} {B0 B1 B2 B3 K M:Option Addr} {d0 d1 d2 d3 ck cm:Nat} {G:Hp} {es ms:List S40}
theorem TB.below (h:TB w0 g n6 N0 P B0 d0 B1 d1 B2 d2 B3 d3 G es K M cm ms w) (hb:Below w.heap.size w w1):TB w0 g n6 N0 P B0 d0 B1 d1 B2 d2 B3 d3 G es K M cm ms w1:=
  ⟨bst h.b hb,h.r.below hb,bbl h.x6 hb,h.o.below hb,Kd.F_below h.e hb,Kd.N_below h.m hb,h.s.1,Nat.le_trans h.s.2 hb.size⟩
theorem TB.more {Q:Int} (h:TB w0 g n6 N0 P B0 d0 B1 d1 B2 d2 B3 d3 G es K M cm ms w) (hq:P≤Q):TB w0 g n6 N0 Q B0 d0 B1 d1 B2 d2 B3 d3 G es K M cm ms w:=⟨h.b,h.r.more hq,h.x6,h.o,h.e,h.m,h.s⟩
theorem TB.pick {Q:Int} (h:TB w0 g n6 N0 P B0 d0 B1 d1 B2 d2 B3 d3 G es K M cm ms w) (hr:Rdr w0 w1 g Q) (hb:Below w0.heap.size w0 w1) (hk:KeepBut w w1 g none):TB w0 g n6 N0 Q B0 d0 B1 d1 B2 d2 B3 d3 G es K M cm ms w1:=
  ⟨hb,hr,h.r.blk hk h.x6 (by decide),h.r.own hk h.o,Kd.F_keep h.e hk (fun _ h=>h.1),Kd.N_keep h.m hk (fun _ h=>h.1),h.s.1,Nat.le_trans h.s.2 hk.1⟩
theorem TB.push {M2:Option Addr} {cm2:Nat} {ms2:List S40} (h:TB w0 g n6 N0 P B0 d0 B1 d1 B2 d2 B3 d3 G es K M cm ms w) (hn:Kd.N k40 40 w1 N0 (fun k=>k≠g∧w0.heap.size≤k) (.slice M2 ms2.length cm2) ms2) (hg:w.grownBy w1 (Value.slice M ms.length cm).ownBlock):TB w0 g n6 N0 P B0 d0 B1 d1 B2 d2 B3 d3 G es K M2 cm2 ms2 w1:=by
  have hlo:=Kd.N_base h.m
  have hty:=Kd.N_typed h.m
  exact⟨h.b.grown hg h.b.size (fun k hk=>by have:=hlo k hk;have:=h.s;omega),h.r.grown hg (Kd.N_away h.m (fun _ h=>h.1)),blk_grown h.x6 hg (Kd.N_ne h.m h.x6 (by decide)),
    ⟨Kd.S_over' h.o.s0 hty (by decide) hg,Kd.R_over' h.o.s1 hty (by decide) hg,Kd.R_over' h.o.s2 hty (by decide) hg,Kd.R_over' h.o.s3 hty (by decide) hg⟩,
    Kd.F_grown h.e hg (fun k hk he=>by have:=hlo k he.symm;omega),hn,h.s.1,Nat.le_trans h.s.2 hg.size⟩
end
theorem at_T40F {w:World} {ok:Nat→Prop} {A:Option Addr} {n:Nat} {xs:List S40} (h:Kd.F k40 w ok A n xs) (i:Int) (h0:0≤i) (h1:i<n):∃ad A6 c6,A=some ad∧(w.cell? (ad.add (i.toNat*7))=some (.int .i64 (rd_T40 xs i).f0)∧w.cell? ⟨(ad.add (i.toNat*7)).block,(ad.add (i.toNat*7)).off+1,none⟩=some (.int .i64 (rd_T40 xs i).f1)∧w.cell? ⟨(ad.add (i.toNat*7)).block,(ad.add (i.toNat*7)).off+2,none⟩=some (.int .i64 (rd_T40 xs i).f2)∧w.cell? ⟨(ad.add (i.toNat*7)).block,(ad.add (i.toNat*7)).off+3,none⟩=some (.int .i64 (rd_T40 xs i).f3)∧w.cell? ⟨(ad.add (i.toNat*7)).block,(ad.add (i.toNat*7)).off+4,none⟩=some (.int .i64 (rd_T40 xs i).f4.f0)∧w.cell? ⟨(ad.add (i.toNat*7)).block,(ad.add (i.toNat*7)).off+5,none⟩=some (.string (rd_T40 xs i).f4.f1)∧w.cell? ⟨(ad.add (i.toNat*7)).block,(ad.add (i.toNat*7)).off+6,none⟩=some (.slice A6 (rd_T40 xs i).f4.f2.length c6)) ∧
    Kd.FK k40 w ok (rd_T40 xs i) [.int .i64 (rd_T40 xs i).f0,.int .i64 (rd_T40 xs i).f1,.int .i64 (rd_T40 xs i).f2,.int .i64 (rd_T40 xs i).f3,.int .i64 (rd_T40 xs i).f4.f0,.string (rd_T40 xs i).f4.f1,.slice A6 (rd_T40 xs i).f4.f2.length c6]:=by
  obtain⟨ad,c,e,_,hK,hc0,_⟩:=Kd.F_get h z40 i h0 h1
  have hc:∀j u,c[j]?=some u→w.cell? (ad.add (i.toNat*7+j))=some u:=hc0
  obtain⟨A6,c6,rfl,l6,g6⟩:=k40_openF hK
  exact⟨ad,A6,c6,e,⟨hc 0 _ rfl,by rw[←add_field _ _ 1 (by omega)];exact hc 1 _ rfl,by rw[←add_field _ _ 2 (by omega)];exact hc 2 _ rfl,by rw[←add_field _ _ 3 (by omega)];exact hc 3 _ rfl,by rw[←add_field _ _ 4 (by omega)];exact hc 4 _ rfl,by rw[←add_field _ _ 5 (by omega)];exact hc 5 _ rfl,by rw[←add_field _ _ 6 (by omega)];exact hc 6 _ rfl⟩,hK⟩
set_option maxHeartbeats 4000000 in
set_option maxRecDepth 100000 in
theorem drawMoments_c {A:Option Addr} {c:Nat} {code:List Int} (w:World) (hr:Kd.C (Kd.int .u8) w A code.length code) (hc:code.length≤c) (hb:∀b∈code,0≤b∧b<256) :
    Calls Try.prog 16 #[.slice A code.length c] w fun en w'=>∃(m:Nat) (G:Hp) (B0:Option Addr) (d0:Nat) (B1:Option Addr) (d1:Nat) (B2:Option Addr) (d2:Nat) (B3:Option Addr) (d3:Nat) (es:List S40) (K:Option Addr) (ck:Nat) (ms:List S40) (M:Option Addr) (cm:Nat),en=.returned (.tuple #[.agg #[.slice B0 G.o.length d0,.slice B1 G.r.length d1,.slice B2 G.w.length d2,.slice B3 G.d.length d3],.slice K es.length ck,.slice M ms.length cm])∧(m≤6∧G=baseH m)∧(es.length<40∧∀x∈es,EvOk true x)∧(ms.length≤80∧(∀x∈ms,EvOk true x)∧Ins ms es)∧InH w' B0 d0 B1 d1 B2 d2 B3 d3 G.o G.r G.w G.d∧Kd.C k40 w' K es.length es∧Kd.C k40 w' M ms.length ms∧Below w.heap.size w w':=by
  have hb1:Below w.heap.size w (w.alloc (.cells #[.slice none 0 0,.slice none 0 0,.slice none 0 0,.slice none 0 0] 28 (0,0))):=below_alloc (Below.refl w.heap.size w) _
  have HC:=AK (And.intro (Kd.C_below hr hb1) (And.intro hc hb))
  have HB:=AK hb1
  have HX:=AK (show (w.alloc (.cells #[.slice none 0 0,.slice none 0 0,.slice none 0 0,.slice none 0 0] 28 (0,0))).heap[w.heap.size]?=some (.cells #[.slice none 0 0,.slice none 0 0,.slice none 0 0,.slice none 0 0] 28 (0,0))from blk_new w _)
  clear hr hc hb hb1
  go_enter Try.func16,Try.ntmps16
  go_upto_region 1 with fail
  generalize (w.alloc (.cells #[.slice none 0 0,.slice none 0 0,.slice none 0 0,.slice none 0 0] 28 (0,0)))=w1 at HB HX HC ⊢
  go_wp2_with fail
  refine(open_c HC.out.1 HC.out.2.1 HC.out.2.2).mono ?_
  rintro en w2 ⟨g,rfl,hr,hb⟩
  have D:=AK (And.intro hr hb)
  clear hr hb
  go_wp2_with fail
  refine(l5Base_c D.out.1 D.out.2 (by omega)).mono ?_
  rintro en w3 ⟨m,B0,d0,B1,d1,B2,d2,B3,d3,rfl,hm,hO,hr,hb,_⟩
  have HM:=AK (show m≤6 from hm.2)
  generalize hG:baseH m=G at hO ⊢
  have EG:=AK hG.symm
  have O:=AK (hO.lower2 (show w1.heap.size≤w2.heap.size from D.out.2.size))
  replace D:=AK (And.intro (hr.more (show (0:Int)+1≤1 by omega)) hb)
  clear hG hm hO hr hb
  go_upto_region 3 with fail
  have X6:=AK (blk_new w3 (.cells #[.slice B0 G.o.length d0,.slice B1 G.r.length d1,.slice B2 G.w.length d2,.slice B3 G.d.length d3] 28 (0,0)))
  replace O:=AK (O.out.below (below_alloc (Below.refl _ _) (.cells #[.slice B0 G.o.length d0,.slice B1 G.r.length d1,.slice B2 G.w.length d2,.slice B3 G.d.length d3] 28 (0,0))))
  replace D:=AK (And.intro (D.out.1.below (below_alloc (Below.refl _ _) (.cells #[.slice B0 G.o.length d0,.slice B1 G.r.length d1,.slice B2 G.w.length d2,.slice B3 G.d.length d3] 28 (0,0)))) (below_alloc D.out.2 (.cells #[.slice B0 G.o.length d0,.slice B1 G.r.length d1,.slice B2 G.w.length d2,.slice B3 G.d.length d3] 28 (0,0))))
  generalize w3.alloc (.cells #[.slice B0 G.o.length d0,.slice B1 G.r.length d1,.slice B2 G.w.length d2,.slice B3 G.d.length d3] 28 (0,0))=w4 at X6 O D ⊢
  generalize w3.heap.size=n6 at X6 ⊢
  obtain⟨p0,p1,p2,p3⟩:=box4 X6.out
  go_wp2_with fail
  clear p0 p1 p2 p3
  refine(l5Events_c D.out.1 D.out.2 (by omega) O.out D.out.2.size (by rw[EG.out];exact base_ok m HM.out) (by rw[EG.out];intro o ho;cases ho) 40 (by omega) true).mono ?_
  rintro en w6 ⟨S,es,Q0,t0,Q1,t1,Q2,t2,Q3,t3,Ka,ck,rfl,he,_,hK,hr,hb,hk⟩
  have HE:=AK (show es.length<40∧∀x∈es,EvOk true x from⟨he.2.2.1,he.2.2.2⟩)
  have HEL:=AK he.2.2.1
  replace X6:=AK (D.out.1.blk hk X6.out (by decide))
  replace O:=AK (D.out.1.own hk O.out)
  have HSZ:=AK (show w1.heap.size≤w4.heap.size from D.out.2.size)
  have HK0:=AK (hr.apart hK (k40_ap 121 (by decide) (by decide)))
  replace D:=AK (And.intro (hr.more (show (1:Int)+1000≤2000 by omega)) hb)
  clear he hK hr hb hk
  go_upto_region 4 with fail
  have HK:=AK (show Kd.F k40 (w6.alloc (.cells #[.slice Q0 S.o.length t0,.slice Q1 S.r.length t1,.slice Q2 S.w.length t2,.slice Q3 S.d.length t3] 28 (0,0))) (fun k=>k≠g∧k<(w6.alloc (.cells #[.slice Q0 S.o.length t0,.slice Q1 S.r.length t1,.slice Q2 S.w.length t2,.slice Q3 S.d.length t3] 28 (0,0))).heap.size∧w1.heap.size≤k) Ka es.length es from
    Kd.F_mono (Kd.F_bound (Kd.F_alloc (Kd.N_F (Kd.R_N (Kd.R_bound HK0.out))) (.cells #[.slice Q0 S.o.length t0,.slice Q1 S.r.length t1,.slice Q2 S.w.length t2,.slice Q3 S.d.length t3] 28 (0,0)))) (fun k hk=>⟨hk.1.1.2,hk.2,by have:=hk.1.2.1;have:=HSZ.out;omega⟩))
  replace X6:=AK (blk_alloc X6.out (.cells #[.slice Q0 S.o.length t0,.slice Q1 S.r.length t1,.slice Q2 S.w.length t2,.slice Q3 S.d.length t3] 28 (0,0)))
  replace O:=AK (O.out.below (below_alloc (Below.refl _ _) (.cells #[.slice Q0 S.o.length t0,.slice Q1 S.r.length t1,.slice Q2 S.w.length t2,.slice Q3 S.d.length t3] 28 (0,0))))
  replace D:=AK (And.intro (D.out.1.below (below_alloc (Below.refl _ _) (.cells #[.slice Q0 S.o.length t0,.slice Q1 S.r.length t1,.slice Q2 S.w.length t2,.slice Q3 S.d.length t3] 28 (0,0)))) (below_alloc D.out.2 (.cells #[.slice Q0 S.o.length t0,.slice Q1 S.r.length t1,.slice Q2 S.w.length t2,.slice Q3 S.d.length t3] 28 (0,0))))
  clear HK0 HSZ
  generalize w6.alloc (.cells #[.slice Q0 S.o.length t0,.slice Q1 S.r.length t1,.slice Q2 S.w.length t2,.slice Q3 S.d.length t3] 28 (0,0))=w7 at X6 O D HK ⊢
  go_upto_block 0 with((with_reducible refine gate_dst (N:=21) rfl ?_);refine Kd.R_lit k40 (w0:=w7) w7.heap.size 40 ?hg (N:=21) ?hd (xs:=([]:List S40)) (inner:=[]) (ok:=fun k=>k≠g∧w1.heap.size≤k) (okp:=fun _=>False) ?hr ?hp (fun _ hk=>hk.elim) (by have:=D.out.1.lt;have:=D.out.2.size;omega) (Below.refl _ _) (Nat.le_refl _) (by simp) ?_;(case hd=>rfl);(case hg=>rfl);(case hr=>first|(go_simp;done)|(go_simp;rfl));(case hp=>exact Reps.none _ _);intro v1 w8 hr hb hg hn;obtain⟨K0,ck0,hv⟩:=Kd.R_slice hr;subst hv;have T:=AK (show TB w1 g n6 w7.heap.size 2000 B0 d0 B1 d1 B2 d2 B3 d3 G es Ka K0 ck0 [] w8 from⟨bst D.out.2 hb,(D.out.1.more (by omega)).below hb,bbl X6.out hb,O.out.below hb,Kd.F_below HK.out hb,Kd.R_N hr,D.out.2.size,hb.size⟩);clear hr hb hg hn)
  generalize w7.heap.size=N0 at T
  clear X6 O D HK
  go_wp2_with fail
  go_loopg [9,10] es.length (fun kq v9 v10 w'=>∃(ms:List S40) (M:Option Addr) (cm:Nat) (i:Int),v9=.slice M ms.length cm∧v10=.int .i64 i∧Aside0 (0≤i∧i+kq=es.length∧(ms.length:Int)≤2*i)∧Aside0 (Ins ms (es.take i.toNat)∧∀x∈ms,EvOk true x)∧Aside0 (TB w1 g n6 N0 (2000+i) B0 d0 B1 d1 B2 d2 B3 d3 G es Ka M cm ms w'))
  case atStart=>exact⟨[],K0,ck0,0,rfl,rfl,⟨by omega,by omega,by simp⟩,⟨rfl,fun x hx=>by cases hx⟩,⟨T.out.more (by omega)⟩⟩
  case round=>
    clear T
    obtain⟨ms,M,cm,i,rfl,rfl,HI,HS,T⟩:=hrel
    cases gk with
    | zero=>
      have c9:decide (i<(es.length:Int))=false:=deF (by have:=HI.out;omega)
      obtain⟨p0,p1,p2,p3⟩:=box4 T.out.x6
      have HZ:=AK (show wr.heap[w.heap.size]?=some (.cells nilC 28 (0,0))from bbl HX.out T.out.b)
      obtain⟨z0,z1,z2,z3⟩:=box4 HZ.out
      have y0:=bfz HZ.out 0
      have y1:=bfz HZ.out 1
      have y2:=bfz HZ.out 2
      have y3:=bfz HZ.out 3
      go_wp2
      refine bodyPost_ret (results_ctt rfl _ _ w.heap.size 28 #[.slice B0 G.o.length d0,.slice B1 G.r.length d1,.slice B2 G.w.length d2,.slice B3 G.d.length d3] (0,0) _ rfl (set4_blk HZ.out) Try.underlying28 rfl (by kernel_rfl)) rfl ?_
      have hlt:w.heap.size<w1.heap.size:=blk_lt HX.out
      have hne:g≠w.heap.size:=T.out.r.ne HZ.out (by decide)
      have hfk:∀k,(k≠g∧k<N0∧w1.heap.size≤k)→k≠w.heap.size:=fun k hk=>by have:=hk.2.2;omega
      have hfn:∀k,(k≠g∧w1.heap.size≤k)→k≠w.heap.size:=fun k hk=>by have:=hk.2;omega
      refine⟨m,G,B0,d0,B1,d1,B2,d2,B3,d3,es,Ka,ck,ms,M,cm,rfl,⟨HM.out,EG.out⟩,HE.out,⟨by have:=HI.out;have:=HEL.out;omega,HS.out.2,?_⟩,(OwnH.set4 T.out.o HZ.out).reads,?_,?_,set4_below (bst HB.out T.out.b) (Nat.le_refl _)⟩
      · have:=HS.out.1
        rwa [List.take_of_length_le (by have:=HI.out;omega)]at this
      · exact Kd.F_now (Kd.F_far (Kd.F_far (Kd.F_far (Kd.F_far T.out.e (p:=⟨w.heap.size,0,none⟩) hfk _) (p:=⟨w.heap.size,1,none⟩) hfk _) (p:=⟨w.heap.size,2,none⟩) hfk _) (p:=⟨w.heap.size,3,none⟩) hfk _)
      · exact(Kd.N_reads' (Kd.N_far (Kd.N_far (Kd.N_far (Kd.N_far T.out.m (p:=⟨w.heap.size,0,none⟩) hfn _) (p:=⟨w.heap.size,1,none⟩) hfn _) (p:=⟨w.heap.size,2,none⟩) hfn _) (p:=⟨w.heap.size,3,none⟩) hfn _)).2.2
    | succ k1=>
      have c9:decide (i<(es.length:Int))=true:=deT (by have:=HI.out;omega)
      have hi0:=eq_true (show 0≤i by have:=HI.out;omega)
      have hi1:=eq_true (show i<(es.length:Int)by have:=HI.out;omega)
      have HTK:=AK (take_one es z40 i (by have:=HI.out;omega) (by have:=HI.out;omega))
      have HEI:=AK (HE.out.2 _ (getD_mem es z40 i (by have:=HI.out;omega) (by have:=HI.out;omega)))
      obtain⟨ad,F,f,e1,⟨x0,x1,x2,x3,x4,x5,x6⟩,hFK⟩:=at_T40F T.out.e i (by have:=HI.out;omega) (by have:=HI.out;omega)
      subst e1
      obtain⟨e,ez⟩:∃e,e=rd_T40 es i:=⟨_,rfl⟩
      rw[←ez]at x0 x1 x2 x3 x4 x5 x6 hFK
      rw[show es.getD i.toNat z40=e from ez.symm]at HTK HEI
      have HFK:=AK hFK
      clear hFK ez
      obtain⟨m2,em2⟩:∃l,l=ms++[e]:=⟨_,rfl⟩
      have EM:=AK em2
      clear em2
      go_wp2_with ((with_reducible refine gate_builtin (b:=.append) (xs:=#[.tmp 28,.tmp 33]) rfl ?_);at_builtin;refine Kd.N_append k40 (w0:=wr) N0 rfl (.tmp 28) (.tmp 33) 29 40 (.agg zevC) 80 rfl Try.underlying29 info40 rfl (by decide) (by omega) (.slice M ms.length cm) ms e [.int .i64 e.f0,.int .i64 e.f1,.int .i64 e.f2,.int .i64 e.f3,.int .i64 e.f4.f0,.string e.f4.f1,.slice F e.f4.f2.length f] (fun k=>k≠g∧w1.heap.size≤k) (fun k=>k≠g∧k<N0∧w1.heap.size≤k) rfl rfl ?aP ?aK ?aF ?aO (Below.refl _ _) ?aS ?aL ?_;(case aP=>exact HFK.out);(case aK=>exact fun k hk=>⟨⟨hk.1,hk.2.2⟩,fun e=>by have:=Kd.N_base T.out.m k e.symm;have:=hk.2;omega⟩);(case aF=>exact fun k hk=>by have:=T.out.r.lt;have:=T.out.s;omega);(case aO=>exact T.out.m);(case aS=>exact T.out.s.2);(case aL=>have:=HI.out;have:=HEL.out;omega);intro v9 wa hn hb hg hat;rw[←EM.out]at hn;obtain⟨M2,cm2,hv⟩:=Kd.N_slice hn;subst hv;replace T:=AK (T.out.push hn hg);clear hn hb hg hat)
      clear c9 hi0 hi1 x0 x1 x2 x3 x4 x5 x6 HFK
      replace HS:=AK (show Ins m2 (es.take (i+1).toNat)∧∀x∈m2,EvOk true x from⟨by rw[EM.out,HTK.out];exact ins_same e HS.out.1,fun x hx=>by
        rw[EM.out]at hx
        rcases List.mem_append.1 hx with hx|hx
        · exact HS.out.2 x hx
        · rw[List.mem_singleton.1 hx];exact HEI.out⟩)
      have HML:=AK (show m2.length=ms.length+1 by rw[EM.out];simp)
      clear EM
      refine(pick_c 4 T.out.r T.out.b (by have:=HI.out;have:=HEL.out;omega)).mono ?_
      rintro en wb ⟨k,rfl,_,hr,hb,hk⟩
      replace T:=AK (T.out.pick hr hb hk)
      clear hr hb hk
      obtain⟨bk,hbk⟩:∃b,(k == 0)=b:=⟨_,rfl⟩
      cases bk
      · go_wp2
        go_roundg k1
        case measure=>omega
        case rel=>
          rw[wrap_succ i (by have:=HI.out;omega) (by have:=HI.out;have:=HEL.out;omega)]
          exact⟨m2,M2,cm2,i+1,rfl,rfl,⟨by have:=HI.out;omega,by have:=HI.out;omega,by have:=HI.out;have:=HML.out;omega⟩,HS,⟨T.out.more (by omega)⟩⟩
      · obtain⟨m3,em3⟩:∃l,l=m2++[(⟨7,0,0,0,⟨0,⟨#[]⟩,[]⟩⟩:S40)]:=⟨_,rfl⟩
        have EM:=AK em3
        clear em3
        go_wp2_with ((with_reducible refine gate_builtin (b:=.append) (xs:=#[.tmp 38,.tmp 40]) rfl ?_);at_builtin;refine Kd.N_append k40 (w0:=wb) N0 rfl (.tmp 38) (.tmp 40) 29 40 (.agg zevC) 80 rfl Try.underlying29 info40 rfl (by decide) (by omega) (.slice M2 m2.length cm2) m2 (⟨7,0,0,0,⟨0,⟨#[]⟩,[]⟩⟩:S40) [.int .i64 7,.int .i64 0,.int .i64 0,.int .i64 0,.int .i64 0,.string ⟨#[]⟩,.slice none 0 0] (fun k=>k≠g∧w1.heap.size≤k) (fun k=>k≠g∧k<N0∧w1.heap.size≤k) rfl rfl ?aP ?aK ?aF ?aO (Below.refl _ _) ?aS ?aL ?_;(case aP=>exact k40_mkF _ _ (⟨7,0,0,0,⟨0,⟨#[]⟩,[]⟩⟩:S40) (Nat.le_refl _) (Kd.F_nil _ _ _));(case aK=>exact fun k hk=>⟨⟨hk.1,hk.2.2⟩,fun e=>by have:=Kd.N_base T.out.m k e.symm;have:=hk.2;omega⟩);(case aF=>exact fun k hk=>by have:=T.out.r.lt;have:=T.out.s;omega);(case aO=>exact T.out.m);(case aS=>exact T.out.s.2);(case aL=>have:=HI.out;have:=HEL.out;have:=HML.out;omega);intro v9 wc hn hb hg hat;rw[←EM.out]at hn;obtain⟨M3,cm3,hv⟩:=Kd.N_slice hn;subst hv;replace T:=AK (T.out.push hn hg);clear hn hb hg hat)
        go_roundg k1
        case measure=>omega
        case rel=>
          rw[wrap_succ i (by have:=HI.out;omega) (by have:=HI.out;have:=HEL.out;omega)]
          have hl:m3.length=m2.length+1:=by rw[EM.out];simp
          refine⟨m3,M3,cm3,i+1,rfl,rfl,⟨by have:=HI.out;omega,by have:=HI.out;omega,by have:=HI.out;have:=HML.out;omega⟩,⟨by rw[EM.out];exact ins_more rfl HS.out.1,fun x hx=>?_⟩,⟨T.out.more (by omega)⟩⟩
          rw[EM.out]at hx
          rcases List.mem_append.1 hx with hx|hx
          · exact HS.out.2 x hx
          · rw[List.mem_singleton.1 hx];exact⟨by simp,tx_0,fun _=>by decide⟩
end
end Go.Proofs.Ytigjhfijkdlldaa.H
