import Derived.Test.YtigjhfijkdlldaaSfpDh
namespace Go.Proofs.Ytigjhfijkdlldaa.H
open Go.RowKit Go.Proofs.YtigjhfijkdlldaaW.PrintWords Go.Proofs.YtigjhfijkdlldaaW.PrintLast Go.Proofs.YtigjhfijkdlldaaW.PrintMore Go.Proofs.Ytigjhfijkdlldaa.Q
set_option linter.unusedVariables false
theorem cut_hm {P:Program} (t e:TypeId) (kh:IntKind) {i:TypeInfo} (ht:P.underlying t=some (.slice e)) (hi:P.info? e=some i) (A:Option Addr) (n c:Nat) (j:Int) (h0:0≤j) (hm:j≤c) :
    ∀W:World,(Instr.slice t (.slice A n c) none (some (.int kh j)) (some (.int kh j))).run P W=.ok (.slice A j.toNat j.toNat) W:=by
  intro W
  have hel:P.elem t=e:=by simp[Program.elem,ht]
  have hu:P.underlying t=some (.slice (P.elem t)):=by rw[hel];exact ht
  have ha:(A.map fun x=>x.add 0)=A:=by cases A<;>simp[Addr.add]
  rw[run_slice_hm W t A n c hu kh kh j j h0 (by omega) (by omega),hel]
  simp[sizeOf,typeInfo,hi,sliced,Result.andThen,ha]
def FullR (W:World) (A:Option Addr) (i:Nat) (xs ys:List S60) (v1:Value) (w1:World):Prop:=
  Below W.heap.size W w1∧∃B d,v1=.slice B (xs++ys).length d∧((ys=[]∧w1=W∧B=A∧d=i)∨Kd.R k60 60 w1 W.heap.size (fun _=>True) (.slice B (xs++ys).length d) (xs++ys))
section
variable {P:Program} {ops:Array Oper} {o:Oper} {a:Act} {Q:Exit→Act→World→Prop} {Kc:Act→World→Prop}
theorem app_full_step {W:World} (hw:Region.wanted o (yielded ops a.tmps)=true) (s x:Operand)
    (ho:o.op=.call { callee:=.builtin .append,args:=#[s,x],argTypes:=#[26,26] }) (ht:P.underlying 26=some (.slice 60)) (hinfo:(P.info? 60).map (fun i=>(i.zero,i.size,i.bytes))=some (some (.agg #[.int .i64 0,.int .i64 0]),2,16))
    (A:Addr) (i:Nat) (xs:List S60) (hs:a.eval s=.slice (some A) i i) (HX:Kd.C k60 W (some A) i xs) (B:Option Addr) (m c:Nat) (ys:List S60) (hx:a.eval x=.slice B m c) (HY:Kd.C k60 W B m ys) (hl:i+m≤1000)
    (h:∀v1 w1,FullR W (some A) i xs ys v1 w1→Kc (a.put o.dst v1) w1):if Region.wanted o (yielded ops a.tmps)=true then Oper.wp P o a W Kc Q else Kc (a.put o.dst undef) W:=by
  obtain⟨i0,hi,hzz⟩:=Option.map_eq_some_iff.1 hinfo
  simp only[Prod.mk.injEq]at hzz
  obtain⟨hz0,hz1,hz2⟩:=hzz
  have hxl:xs.length=i:=HX.1
  have hyl:ys.length=m:=HY.1
  have hrun:∃v1 w1,(Builtin.append_ #[26,26] o.type #[.slice (some A) i i,.slice B m c]).run P W=.ok v1 w1∧FullR W (some A) i xs ys v1 w1:=by
    by_cases h0:m=0
    · subst h0
      obtain rfl:ys=[]:=List.eq_nil_of_length_eq_zero hyl
      refine⟨.slice (some A) i i,W,?_,Below.refl _ _,some A,i,by rw[List.append_nil,hxl],.inl ⟨rfl,rfl,rfl,rfl⟩⟩
      rcases B with _|B<;>simp[Builtin.append_,run_underlying ht,sizeOf,typeInfo,hi,Builtin.lenOf,Builtin.firstCells,storeCells,loadCells,loadCellsFrom]
    · obtain⟨ad,e,_⟩:=HY.2.2 (by omega)
      subst e
      obtain⟨olds,hor,hoc⟩:=ReadsRow.inner_ HX
      obtain⟨news,hnr,hnc⟩:=ReadsRow.inner_ HY
      obtain⟨v1,w1,hr,hown,hg⟩:=run_append_arg_grows (P:=P) W 26 o.type 60 i0 _ 2 16 ht hi hz0 hz1 hz2 (by decide) (by decide) A i i olds (by rw[hor.1,hxl];rfl) hoc ad m c news (by rw[hnr.1,hyl];rfl) hnc (by omega) (by simp only[maxLen];omega) (by omega)
      have hb:Below W.heap.size W w1:=(Below.refl W.heap.size W).grown hg (Nat.le_refl _) (fun k hk=>by cases hk)
      have hR:Kd.R k60 60 w1 W.heap.size (fun _=>True) v1 (xs++ys):=⟨fun _ _=>trivial,olds++news,by rw[List.length_append,hxl,hyl];exact hown,Kd.reps_append (hor.imp_ (fun _ _ h=>h)) (hnr.imp_ (fun _ _ h=>h))⟩
      obtain⟨B',d,e⟩:=Kd.R_slice hR
      subst e
      exact⟨_,w1,hr,hb,B',d,rfl,.inr hR⟩
  obtain⟨v1,w1,hr1,hF⟩:=hrun
  rw[if_pos hw]
  unfold Oper.wp execOp
  simp only[ho,resolve,invoke,builtin,Sem.run_bind,Sem.run_pure,Result.andThen_ok,List.map_toArray,List.map_cons,List.map_nil,hs,hx,hr1]
  exact h v1 w1 hF
end
structure WKX (v:World) (n:Nat) (A0:Option Addr) (c0:Nat) (A1:Option Addr) (c1:Nat) (A2:Option Addr) (c2:Nat) (A3:Option Addr) (c3 x3:Nat) (G:Hp) (e:S40) (A6:Option Addr) (c6:Nat) (w':World):Prop where
  b:Below v.heap.size v w'
  n0:v.heap.size≤n
  h:w'.heap[n]?=some (.cells (hpC A0 c0 A1 c1 A2 c2 A3 c3 G) 28 (0,0))
  e:w'.heap[n+1]?=some (.cells (evC e A6 c6) 40 (0,0))
  o:w'.heap[n+2]?=some (.cells nilC 28 (0,0))
  ow:OwnG w' v.heap.size A0 c0 A1 c1 A2 c2 A3 x3 G
  k:G.d.length≤c3
section
variable {v w0 w w1:World} {n:Nat} {A0 A1 A2 A3 A6:Option Addr} {c0 c1 c2 c3 c6 x3:Nat} {G:Hp} {e:S40}
theorem WKX.below (h:WKX v n A0 c0 A1 c1 A2 c2 A3 c3 x3 G e A6 c6 w) (hb:Below w.heap.size w w1):WKX v n A0 c0 A1 c1 A2 c2 A3 c3 x3 G e A6 c6 w1:=
  ⟨bst h.b hb,h.n0,bbl h.h hb,bbl h.e hb,bbl h.o hb,h.ow.below hb,h.k⟩
theorem WKX.reads (h:WKX v n A0 c0 A1 c1 A2 c2 A3 c3 x3 G e A6 c6 w):InH w A0 c0 A1 c1 A2 c2 A3 c3 G.o G.r G.w G.d:=
  have r:=h.ow.reads
  ⟨r.r0,r.r1,r.r2,r.r3,r.k0,r.k1,r.k2,h.k⟩
theorem WKX.hc (h:WKX v n A0 c0 A1 c1 A2 c2 A3 c3 x3 G e A6 c6 w):w.cell? ⟨n,0,none⟩=some (.slice A0 G.o.length c0)∧w.cell? ⟨n,1,none⟩=some (.slice A1 G.r.length c1)∧w.cell? ⟨n,2,none⟩=some (.slice A2 G.w.length c2)∧w.cell? ⟨n,3,none⟩=some (.slice A3 G.d.length c3):=box4 h.h
theorem WKX.ec (h:WKX v n A0 c0 A1 c1 A2 c2 A3 c3 x3 G e A6 c6 w):w.cell? ⟨n+1,0,none⟩=some (.int .i64 e.f0)∧w.cell? ⟨n+1,1,none⟩=some (.int .i64 e.f1)∧w.cell? ⟨n+1,2,none⟩=some (.int .i64 e.f2)∧w.cell? ⟨n+1,3,none⟩=some (.int .i64 e.f3)∧w.cell? ⟨n+1,4,none⟩=some (.int .i64 e.f4.f0)∧w.cell? ⟨n+1,5,none⟩=some (.string e.f4.f1)∧w.cell? ⟨n+1,6,none⟩=some (.slice A6 e.f4.f2.length c6):=ec7 h.e
theorem WKX.oc (h:WKX v n A0 c0 A1 c1 A2 c2 A3 c3 x3 G e A6 c6 w):w.cell? ⟨n+2,0,none⟩=some (.slice none 0 0)∧w.cell? ⟨n+2,1,none⟩=some (.slice none 0 0)∧w.cell? ⟨n+2,2,none⟩=some (.slice none 0 0)∧w.cell? ⟨n+2,3,none⟩=some (.slice none 0 0):=box4 h.o
theorem WKX.of (h:WKX v n A0 c0 A1 c1 A2 c2 A3 c3 x3 G e A6 c6 w) (j:Nat):w.frozen? ⟨n+2,j,none⟩=false:=bfz h.o j
theorem WKX.fin (h:WKX v n A0 c0 A1 c1 A2 c2 A3 c3 x3 G e A6 c6 w) {p q r s:Value}:OwnG (H.set4 w (n+2) p q r s) v.heap.size A0 c0 A1 c1 A2 c2 A3 x3 G∧Below v.heap.size v (H.set4 w (n+2) p q r s)∧(H.set4 w (n+2) p q r s).heap[n+2]?=some (.cells #[p,q,r,s] 28 (0,0)):=
  ⟨h.ow.set4 h.o,set4_below h.b (by have:=h.n0;omega),set4_blk h.o⟩
theorem WK.cutD {A:Addr} (K:WK v w0 n A0 c0 A1 c1 A2 c2 (some A) c3 G e A6 c6 w) {i:Nat} {D:List S60} {B:Option Addr} {d:Nat} {xs ys:List S60} (hD:D=xs++ys) (hxs:xs=G.d.take i) (hi:i≤G.d.length) (hF:FullR w (some A) i xs ys (.slice B D.length d) w1) :
    ∃x3,WKX v n A0 c0 A1 c1 A2 c2 B d x3 ⟨G.o,G.r,G.w,D⟩ e A6 c6 (w1.setCell ⟨n,3,none⟩ (.slice B D.length d)):=by
  obtain⟨hb,B',d',e1,h2⟩:=hF
  rw[←hD]at e1 h2
  injection e1 with e1 _ e3
  subst e1 e3
  rcases h2 with⟨rfl,rfl,rfl,rfl⟩|hR
  · rw[List.append_nil]at hD
    subst hxs hD
    have hl:(G.d.take d).length=d:=by rw[List.length_take];omega
    refine⟨c3,below_set K.b K.n0,K.n0,blk_put K.h 3 _ rfl,blk_far K.e (p:=⟨n,3,none⟩) (by show n+1≠n;omega) _,blk_far K.o (p:=⟨n,3,none⟩) (by show n+2≠n;omega) _,?_,by show (G.d.take d).length≤d;omega⟩
    have s3:=Kd.R_take (m:=d) K.own.s3 hi
    exact⟨Kd.S_set K.own.s0 K.h (k38_ap 28 (by decide) (by decide)) 3 _,Kd.R_set K.own.s1 K.h (int_ap 28 (by decide)) 3 _,Kd.R_set K.own.s2 K.h (k60_ap 28 (by decide)) 3 _,by
      show Kd.R k60 60 _ _ _ (.slice _ (G.d.take d).length _) _
      rw[hl];exact Kd.R_set s3 K.h (k60_ap 28 (by decide)) 3 _⟩
  · have K2:=K.newD hb hR
    exact⟨d,K2.b,K2.n0,K2.h,K2.e,K2.o,K2.own,K2.own.reads.k3⟩
end
end Go.Proofs.Ytigjhfijkdlldaa.H
