import Derived.Test.YtigjhfijkdlldaaStpDt
import Derived.Test.YtigjhfijkdlldaaStpJd
namespace Go.Proofs.Ytigjhfijkdlldaa.H
open Go.RowKit Go.Proofs.YtigjhfijkdlldaaW.PrintWords Go.Proofs.YtigjhfijkdlldaaW.PrintLast Go.Proofs.YtigjhfijkdlldaaW.PrintMore Go.Proofs.Ytigjhfijkdlldaa.Q
set_option linter.unusedVariables false
set_option linter.unusedSimpArgs false
section
structure PL (w:World) (b7:Nat) (H7:Array Value) (K:Option Addr) (ck:Nat) (ts:List ByteArray) (w':World):Prop where
  b:Below w.heap.size w w'
  z:w'.heap[w.heap.size+1]?=some (.cells #[.slice none 0 0,.slice none 0 0,.slice none 0 0,.slice none 0 0] 28 (0,0))
  h:w'.heap[b7]?=some (.cells H7 28 (0,0))
  n:w.heap.size≤b7∧b7≠w.heap.size+1
  t:Kd.R Kd.string 9 w' w.heap.size (fun _=>True) (.slice K ts.length ck) ts
section
variable {w w1 w2:World} {b7:Nat} {H7:Array Value} {K K2:Option Addr} {ck k2:Nat} {ts ts2:List ByteArray}
theorem str_ap (t:Nat) (h:(9:Nat)≠t):∀q,q∈9 :: Kd.string.E→q≠t:=fun q hq=>by
  rcases List.mem_cons.1 hq with rfl|h1
  · exact h
  · cases (show q∈[]from h1)
theorem PL.below (h:PL w b7 H7 K ck ts w1) (hb:Below w1.heap.size w1 w2):PL w b7 H7 K ck ts w2:=
  ⟨bst h.b hb,bbl h.z hb,bbl h.h hb,h.n,Kd.R_below h.t hb⟩
theorem PL.put (h:PL w b7 H7 K ck ts w1) {p q r s:Value} (X:Array Value) (hX:H7=X) (h4:∃a b c d,X=#[a,b,c,d]):PL w b7 #[p,q,r,s] K ck ts (H.set4 w1 b7 p q r s):=by
  subst hX
  obtain⟨a,b,c,d,rfl⟩:=h4
  exact⟨set4_below h.b h.n.1,set4_far h.z (by have:=h.n.2;omega),set4_blk h.h,h.n,set4_R h.t h.h (str_ap 28 (by decide))⟩
theorem PL.text (h:PL w b7 H7 K ck ts w1) (hb:Below w.heap.size w w2) (hg:w1.grownBy w2 (Value.slice K ts.length ck).ownBlock) (ht:Kd.R Kd.string 9 w2 w.heap.size (fun _=>True) (.slice K2 ts2.length k2) ts2):PL w b7 H7 K2 k2 ts2 w2:=
  ⟨hb,blk_grown h.z hg (Kd.R_ne h.t h.z (by decide)),blk_grown h.h hg (Kd.R_ne h.t h.h (by decide)),h.n,ht⟩
end
theorem OwnH.overT {w w1:World} {base lo:Nat} {ok:Nat→Prop} {A0 A1 A2 A3:Option Addr} {c0 c1 c2 c3:Nat} {l0:List S38} {l1:List Int} {l2 l3:List S60} {v:Value} {ts:List ByteArray} (h:OwnH w base A0 c0 A1 c1 A2 c2 A3 c3 l0 l1 l2 l3) (ht:Kd.R Kd.string 9 w lo ok v ts) (hg:w.grownBy w1 v.ownBlock):OwnH w1 base A0 c0 A1 c1 A2 c2 A3 c3 l0 l1 l2 l3:=
  ⟨Kd.S_over' h.s0 (Kd.R_typed ht) (k38_ap 9 (by decide) (by decide)) hg,Kd.R_over' h.s1 (Kd.R_typed ht) (int_ap 9 (by decide)) hg,Kd.R_over' h.s2 (Kd.R_typed ht) (k60_ap 9 (by decide)) hg,Kd.R_over' h.s3 (Kd.R_typed ht) (k60_ap 9 (by decide)) hg⟩
theorem splay8_tab:rtab .any (opsOf Try.f18 8)=(true,[([],[]),([],[]),([],[]),([1,2],[1,2]),([3],[3]),([0,4],[0,4]),([5],[5]),([6],[6]),([6],[6]),([],[]),([9,7,5,0,1,2,3,4,5,6,7,9],[7,9]),([8,10,0,1,2,3,4,5,6,7,8,9,10],[8])]):=by kernel_rfl
theorem splay8_bits:waitsOk [([],[]),([],[]),([],[]),([1,2],[1,2]),([3],[3]),([0,4],[0,4]),([5],[5]),([6],[6]),([6],[6]),([],[]),([9,7,5,0,1,2,3,4,5,6,7,9],[7,9]),([8,10,0,1,2,3,4,5,6,7,8,9,10],[8])] [0,0,0,6,14,31,63,127,127,0,767,2047]=true:=by kernel_rfl
set_option maxHeartbeats 4000000 in
set_option maxRecDepth 100000 in
theorem specPlay_calls (w:World) (A0 A1 A2 A3:Option Addr) (c0 c1 c2 c3:Nat) (G:Hp) (es:List S40) (Ee:Option Addr) (ce:Nat) (h:InH w A0 c0 A1 c1 A2 c2 A3 c3 G.o G.r G.w G.d) (hf:Fine G.o G.r G.w G.d) (he:Kd.C k40 w Ee es.length es) (hl:es.length≤1048576) (hv:∀x∈es,x.f4.f2.length≤1048576∧(x.f4.f1.size:Int)≤4611686018427387903) (S:Hp) (tt:List ByteArray) (hR:(S,tt)=playB G es) :
    Calls Try.prog 18 #[.agg #[.slice A0 G.o.length c0,.slice A1 G.r.length c1,.slice A2 G.w.length c2,.slice A3 G.d.length c3],.slice Ee es.length ce] w fun en w'=>∃B0 k0 B1 k1 B2 k2 B3 k3 K ck,en=.returned (.tuple #[.agg #[.slice B0 S.o.length k0,.slice B1 S.r.length k1,.slice B2 S.w.length k2,.slice B3 S.d.length k3],.slice K tt.length ck]) ∧
      OwnG w' w.heap.size B0 k0 B1 k1 B2 k2 B3 k3 S∧Kd.R Kd.string 9 w' w.heap.size (fun _=>True) (.slice K tt.length ck) tt∧Below w.heap.size w w':=by
  have HI:=AK h
  have HF:=AK hf
  have HE:=AK (And.intro he (And.intro hl hv))
  have HR:=AK hR
  obtain⟨ok,eb⟩:∃ok,ok=okB G.o G.r G.w G.d:=⟨_,rfl⟩
  have EB:=AK eb
  have HW:=AK (show Below w.heap.size w ((w.alloc (.cells #[(.slice A0 G.o.length c0),(.slice A1 G.r.length c1),(.slice A2 G.w.length c2),(.slice A3 G.d.length c3)] 28 (0,0))).alloc (.cells #[.slice none 0 0,.slice none 0 0,.slice none 0 0,.slice none 0 0] 28 (0,0)))∧((w.alloc (.cells #[(.slice A0 G.o.length c0),(.slice A1 G.r.length c1),(.slice A2 G.w.length c2),(.slice A3 G.d.length c3)] 28 (0,0))).alloc (.cells #[.slice none 0 0,.slice none 0 0,.slice none 0 0,.slice none 0 0] 28 (0,0))).heap[w.heap.size]?=some (.cells #[(.slice A0 G.o.length c0),(.slice A1 G.r.length c1),(.slice A2 G.w.length c2),(.slice A3 G.d.length c3)] 28 (0,0))∧((w.alloc (.cells #[(.slice A0 G.o.length c0),(.slice A1 G.r.length c1),(.slice A2 G.w.length c2),(.slice A3 G.d.length c3)] 28 (0,0))).alloc (.cells #[.slice none 0 0,.slice none 0 0,.slice none 0 0,.slice none 0 0] 28 (0,0))).heap[w.heap.size+1]?=some (.cells #[.slice none 0 0,.slice none 0 0,.slice none 0 0,.slice none 0 0] 28 (0,0))from⟨below_alloc (below_alloc (Below.refl _ _) _) _,blk_alloc (blk_new w _) _,blk_new1 w _ _⟩)
  clear h hf he hl hv hR eb
  go_enter Try.func18,Try.ntmps18
  go_wp2_with ((with_reducible refine gate_dst (N:=11) rfl ?_);refine Kd.R_lit Kd.string (w0:=((w.alloc (.cells #[(.slice A0 G.o.length c0),(.slice A1 G.r.length c1),(.slice A2 G.w.length c2),(.slice A3 G.d.length c3)] 28 (0,0))).alloc (.cells #[.slice none 0 0,.slice none 0 0,.slice none 0 0,.slice none 0 0] 28 (0,0)))) (World.heap ((w.alloc (.cells #[(.slice A0 G.o.length c0),(.slice A1 G.r.length c1),(.slice A2 G.w.length c2),(.slice A3 G.d.length c3)] 28 (0,0))).alloc (.cells #[.slice none 0 0,.slice none 0 0,.slice none 0 0,.slice none 0 0] 28 (0,0)))).size 9 ?hg (N:=11) ?hd (xs:=([]:List ByteArray)) (inner:=[]) (ok:=fun _=>True) (okp:=fun _=>True) ?hr ?hp (fun _ hk=>hk) trivial (Below.refl _ _) (Nat.le_refl _) (by simp) ?_;(case hd=>rfl);(case hg=>rfl);(case hr=>first|(go_simp;done)|(go_simp;rfl));(case hp=>exact Reps.none _ _);intro v1 w2 hr hb hg hn;obtain⟨K0,ck0,hv⟩:=Kd.R_slice hr;subst hv;have HT:=AK (Kd.R_lower hr HW.out.1.size);have HB:=AK (And.intro (bst HW.out.1 hb) (And.intro (bbl HW.out.2.1 hb) (bbl HW.out.2.2 hb)));clear hr hb hg hn HW;obtain⟨p0,p1,p2,p3⟩:=box4 HB.out.2.1)
  clear p0 p1 p2 p3
  refine(specOk_c (HI.out.below HB.out.1) (by have:=HF.out.o;omega) HF.out.f (by have:=HF.out.r;omega) (by have:=HF.out.w;omega)).mono ?_
  rintro en w3 ⟨rfl,hb⟩
  rw[←EB.out]
  replace HB:=AK (And.intro (bst HB.out.1 hb) (And.intro (bbl HB.out.2.1 hb) (bbl HB.out.2.2 hb)))
  replace HT:=AK (Kd.R_below HT.out hb)
  clear hb
  cases ok with
  | false=>
    have he:(S,tt)=(hp0,[]):=by rw[HR.out];unfold playB Hp.ok;rw[←EB.out];rfl
    injection he with he1 he2
    subst he1 he2
    obtain⟨z0,z1,z2,z3⟩:=box4 HB.out.2.2
    have y0:=bfz HB.out.2.2 0
    have y1:=bfz HB.out.2.2 1
    have y2:=bfz HB.out.2.2 2
    have y3:=bfz HB.out.2.2 3
    go_wp2
    refine bodyPost_ret (results_ct rfl _ _ (w.heap.size+1) 28 #[.slice none 0 0,.slice none 0 0,.slice none 0 0,.slice none 0 0] (0,0) _ rfl (set4_blk HB.out.2.2) Try.underlying28 rfl (by kernel_rfl)) rfl ?_
    exact⟨none,0,none,0,none,0,none,0,K0,ck0,rfl,⟨Kd.S_nil _ _ _ _ _,Kd.R_nil _ _ _ _ _,Kd.R_nil _ _ _ _ _,Kd.R_nil _ _ _ _ _⟩,set4_R HT.out HB.out.2.2 (str_ap 28 (by decide)),set4_below HB.out.1 (by omega)⟩
  | true=>
  have HK:=AK (ok_parts EB.out.symm)
  have HST:=AK (show (S,tt)=runL G es by rw[HR.out];unfold playB Hp.ok;rw[←EB.out];rfl)
  have HOK:=AK (show G.ok=true from EB.out.symm)
  clear HR
  obtain⟨p0,p1,p2,p3⟩:=box4 HB.out.2.1
  go_wp2_with fail
  clear p0 p1 p2 p3
  refine(l1Copy_calls _ _ _ _ _ _ _ _ _ _ _ _ _ (HI.out.below HB.out.1) (lim_ok HK.out)).mono ?_
  rintro en w4 ⟨B0,k0,B1,k1,B2,k2,B3,k3,rfl,hO,hb⟩
  have hba:=below_alloc (Below.refl w4.heap.size w4) (.cells #[(.slice B0 G.o.length k0),(.slice B1 G.r.length k1),(.slice B2 G.w.length k2),(.slice B3 G.d.length k3)] 28 (0,0))
  have HO:=AK ((OwnH.lower hO HB.out.1.size).below hba)
  have HP:=AK (show PL w w4.heap.size #[(.slice B0 G.o.length k0),(.slice B1 G.r.length k1),(.slice B2 G.w.length k2),(.slice B3 G.d.length k3)] K0 ck0 [] (w4.alloc (.cells #[(.slice B0 G.o.length k0),(.slice B1 G.r.length k1),(.slice B2 G.w.length k2),(.slice B3 G.d.length k3)] 28 (0,0)))from⟨bst (bst HB.out.1 hb) hba,bbl (bbl HB.out.2.2 hb) hba,blk_new w4 _,⟨by have:=HB.out.1.size;have:=hb.size;omega,by have h1:=blk_lt (bbl HB.out.2.2 hb);omega⟩,Kd.R_below (Kd.R_below HT.out hb) hba⟩)
  have hz:=blk_lt (bbl HB.out.2.2 hb)
  clear hO hb hba HB HT
  go_wp2
  clear hz
  generalize w4.alloc (.cells #[(.slice B0 G.o.length k0),(.slice B1 G.r.length k1),(.slice B2 G.w.length k2),(.slice B3 G.d.length k3)] 28 (0,0))=w5 at HO HP ⊢
  generalize w4.heap.size=b7 at HP ⊢
  have HRUN:=AK (show (G,([]:List ByteArray))=runL G (es.take (0:Int).toNat)from rfl)
  go_loopg [6,8] es.length (fun kq v6 v8 w'=>∃(R:Hp) (ts:List ByteArray) (B0:Option Addr) (k0:Nat) (B1:Option Addr) (k1:Nat) (B2:Option Addr) (k2:Nat) (B3:Option Addr) (k3:Nat) (K:Option Addr) (ck:Nat) (i:Int),v6=.slice K ts.length ck∧v8=.int .i64 i∧Aside0 (0≤i∧i+kq=es.length)∧Aside0 ((R,ts)=runL G (es.take i.toNat))∧Aside0 (OwnG w' w.heap.size B0 k0 B1 k1 B2 k2 B3 k3 R)∧Aside0 (PL w b7 #[(.slice B0 R.o.length k0),(.slice B1 R.r.length k1),(.slice B2 R.w.length k2),(.slice B3 R.d.length k3)] K ck ts w'))
  case atStart=>exact⟨G,[],B0,k0,B1,k1,B2,k2,B3,k3,K0,ck0,0,rfl,rfl,⟨by omega,by omega⟩,HRUN,HO,HP⟩
  case round=>
    clear HRUN HO HP
    obtain⟨R,ts,B0,k0,B1,k1,B2,k2,B3,k3,K,ck,i,rfl,rfl,HI2,HRUN,HO,HP⟩:=hrel
    have hrl:ts.length=i.toNat:=by have h1:ts.length=(runL G (es.take i.toNat)).2.length:=congrArg (fun p=>p.2.length) HRUN.out;have h3:=HI2.out;rw[run_len,List.length_take]at h1;omega
    have HRL:=AK hrl
    have HROK:=AK (show R.ok=true by have h1:=run_ok (es.take i.toNat) G HOK.out;rw[←HRUN.out]at h1;exact h1)
    have HFR:=AK (OkH.fine (show OkH R.o R.r R.w R.d from ok_parts HROK.out))
    clear hrl
    cases gk with
    | zero=>
      have c9:decide (i<(es.length:Int))=false:=deF (by have:=HI2.out;omega)
      have he:(R,ts)=(S,tt):=by rw[HRUN.out,HST.out,take_all _ _ (by have:=HI2.out;omega)]
      injection he with he1 he2
      subst he1 he2
      obtain⟨p0,p1,p2,p3⟩:=box4 HP.out.h
      obtain⟨z0,z1,z2,z3⟩:=box4 HP.out.z
      have y0:=bfz HP.out.z 0
      have y1:=bfz HP.out.z 1
      have y2:=bfz HP.out.z 2
      have y3:=bfz HP.out.z 3
      go_wp2
      refine bodyPost_ret (results_ct rfl _ _ (w.heap.size+1) 28 #[(.slice B0 R.o.length k0),(.slice B1 R.r.length k1),(.slice B2 R.w.length k2),(.slice B3 R.d.length k3)] (0,0) _ rfl (set4_blk HP.out.z) Try.underlying28 rfl (by kernel_rfl)) rfl ?_
      exact⟨B0,k0,B1,k1,B2,k2,B3,k3,K,ck,rfl,OwnH.set4 HO.out HP.out.z,set4_R HP.out.t HP.out.z (str_ap 28 (by decide)),set4_below HP.out.b (by omega)⟩
    | succ g1=>
      have c9:decide (i<(es.length:Int))=true:=deT (by have:=HI2.out;omega)
      have hi0:=eq_true (show 0≤i by have:=HI2.out;omega)
      have hi1:=eq_true (show i<(es.length:Int)by have:=HI2.out;omega)
      have hm:=HE.out.2.2 _ (getD_mem es z40 i (by have:=HI2.out;omega) (by have:=HI2.out;omega))
      have HTK:=AK (take_one es z40 i (by have:=HI2.out;omega) (by have:=HI2.out;omega))
      obtain⟨ad,F,f,e1,x0,x1,x2,x3,x4,x5,x6,hfl,hx⟩:=at_T40 HE.out.1 i (by have:=HI2.out;omega) (by have:=HI2.out;omega)
      subst e1
      obtain⟨e,ez⟩:∃e,e=rd_T40 es i:=⟨_,rfl⟩
      rw[←ez]at x0 x1 x2 x3 x4 x5 x6 hfl hx
      rw[show es.getD i.toNat z40=e from ez.symm]at hm HTK
      have HX:=AK (show _∧_∧_∧_∧_∧_∧_ from⟨x0,x1,x2,x3,x4,x5,x6⟩)
      have HEC:=AK (And.intro hx (And.intro hfl hm))
      obtain⟨R2,s2,hR2⟩:∃R2 s2,(R2,s2)=stepB R e:=⟨_,_,rfl⟩
      have HS2:=AK hR2
      have HRUN2:=AK (show (R2,ts++[s2])=runL G (es.take (i+1).toNat)by
        rw[HTK.out,run_snoc,←HRUN.out]
        show _=((stepB R e).1,ts++[(stepB R e).2])
        rw[←hR2])
      clear hm hfl hx ez hR2 x0 x1 x2 x3 x4 x5 x6
      go_wp2_with fail
      have HU:=AK (Below.refl wr.drew.heap.size wr.drew)
      replace HP:=AK (HP.out.below (below_drew1 (Below.refl _ _)))
      replace HO:=AK (HO.out.below (below_drew1 (Below.refl _ _)))
      refine start_ (n:=12) (S:=(fun w'=>(w'.cell? ⟨b7,0,none⟩=some (.slice B0 R.o.length k0)∧w'.cell? ⟨b7,1,none⟩=some (.slice B1 R.r.length k1)∧w'.cell? ⟨b7,2,none⟩=some (.slice B2 R.w.length k2)∧w'.cell? ⟨b7,3,none⟩=some (.slice B3 R.d.length k3))∧w'.cell? (ad.add (i.toNat*7))=some (.int .i64 e.f0)∧w'.cell? ⟨(ad.add (i.toNat*7)).block,(ad.add (i.toNat*7)).off+1,none⟩=some (.int .i64 e.f1)∧w'.cell? ⟨(ad.add (i.toNat*7)).block,(ad.add (i.toNat*7)).off+2,none⟩=some (.int .i64 e.f2)∧w'.cell? ⟨(ad.add (i.toNat*7)).block,(ad.add (i.toNat*7)).off+3,none⟩=some (.int .i64 e.f3)∧w'.cell? ⟨(ad.add (i.toNat*7)).block,(ad.add (i.toNat*7)).off+4,none⟩=some (.int .i64 e.f4.f0)∧w'.cell? ⟨(ad.add (i.toNat*7)).block,(ad.add (i.toNat*7)).off+5,none⟩=some (.string e.f4.f1)∧w'.cell? ⟨(ad.add (i.toNat*7)).block,(ad.add (i.toNat*7)).off+6,none⟩=some (.slice F e.f4.f2.length f))) (ds:=[]) #[fF,fF,fF,fF,fF,fF,fF,fF,fF,fF,fF,fF] (by kernel_rfl) rfl rfl ⟨box4 (bbl HP.out.h HU.out),pcb (bst HP.out.b HU.out) HX.out.1,pcb (bst HP.out.b HU.out) HX.out.2.1,pcb (bst HP.out.b HU.out) HX.out.2.2.1,pcb (bst HP.out.b HU.out) HX.out.2.2.2.1,pcb (bst HP.out.b HU.out) HX.out.2.2.2.2.1,pcb (bst HP.out.b HU.out) HX.out.2.2.2.2.2.1,pcb (bst HP.out.b HU.out) HX.out.2.2.2.2.2.2⟩ (fun hHeld=>?_);refine with_tabW splay8_tab splay8_bits (fun HT_ HW_=>?_)
      generalize wr.drew=u5 at HU HP HO hHeld ⊢
      refine tU HT_ HW_ 0 (some 26) (bM 12 1) hHeld rfl (by refine Or.inl ⟨by rfl,?_⟩;rintro w' ⟨⟨s0,s1,s2',s3⟩,s4,s5,s6,s7,s8,s9,s10⟩;go_simp;with_reducible rfl) ?_
      refine pU HT_ 1 (some 27) (bM 12 3) ?_
      refine pU HT_ 2 (some 28) (bM 12 7) ?_
      refine pU HT_ 3 (some 29) (bM 12 15) ?_
      refine tU HT_ HW_ 4 (some 30) (bM 12 31) hHeld rfl (by refine Or.inl ⟨by rfl,?_⟩;rintro w' ⟨⟨s0,s1,s2',s3⟩,s4,s5,s6,s7,s8,s9,s10⟩;go_simp;with_reducible rfl) ?_
      refine join_ (σ:=Option Addr × Nat × Option Addr × Nat × Option Addr × Nat × Option Addr × Nat × Nat) 2 #[tT,tT,tT,tT,tT,tT,tT,tT,tT,tT,fF,fF] (fun s=>[(31,.tuple #[.agg #[.slice s.1 R2.o.length s.2.1,.slice s.2.2.1 R2.r.length s.2.2.2.1,.slice s.2.2.2.2.1 R2.w.length s.2.2.2.2.2.1,.slice s.2.2.2.2.2.2.1 R2.d.length s.2.2.2.2.2.2.2.1],.string s2]),(25,.tuple #[.agg #[.slice s.1 R2.o.length s.2.1,.slice s.2.2.1 R2.r.length s.2.2.2.1,.slice s.2.2.2.2.1 R2.w.length s.2.2.2.2.2.1,.slice s.2.2.2.2.2.2.1 R2.d.length s.2.2.2.2.2.2.2.1],.string s2]),(32,.agg #[.slice s.1 R2.o.length s.2.1,.slice s.2.2.1 R2.r.length s.2.2.2.1,.slice s.2.2.2.2.1 R2.w.length s.2.2.2.2.2.1,.slice s.2.2.2.2.2.2.1 R2.d.length s.2.2.2.2.2.2.2.1]),(33,.string s2),(9,.pointer (some ⟨s.2.2.2.2.2.2.2.2,0,none⟩))]) (fun s w'=>Below u5.heap.size u5 w'∧OwnG w' u5.heap.size (s.1) (s.2.1) (s.2.2.1) (s.2.2.2.1) (s.2.2.2.2.1) (s.2.2.2.2.2.1) (s.2.2.2.2.2.2.1) (s.2.2.2.2.2.2.2.1) R2∧(w'.heap[s.2.2.2.2.2.2.2.2]?=some (.cells #[.slice none 0 0,.slice none 0 0,.slice none 0 0,.slice none 0 0] 28 (0,0))∧u5.heap.size≤s.2.2.2.2.2.2.2.2)) ?_ ?_
      rotate_left
      · intro hCont
        refine two_ (i:=5) (j:=9) (Ni:=some 31) (Nj:=some 9) (bM 12 63) (bM 12 543) rfl rfl rfl rfl (two_of HT_.out (by kernel_rfl)) (by decide) (by decide) (fun K hK=>?_) (fun K hK=>?_)
        · skip
          refine goes_ Try.func47 (by kernel_rfl) rfl #[.agg #[.slice B0 R.o.length k0,.slice B1 R.r.length k1,.slice B2 R.w.length k2,.slice B3 R.d.length k3],.agg #[(.int .i64 e.f0),(.int .i64 e.f1),(.int .i64 e.f2),(.int .i64 e.f3),(.int .i64 e.f4.f0),(.string e.f4.f1),(.slice F e.f4.f2.length f)]] (by rfl) rfl rfl zI ?_
          refine(specStep_calls _ _ _ _ _ _ _ _ _ _ R e _ _ (Below.refl _ _) (HO.out.reads.below HU.out) HFR.out (Kd.C_below HEC.out.1 (bst HP.out.b HU.out)) HEC.out.2.1 HEC.out.2.2.1 HEC.out.2.2.2 R2 s2 HS2.out).mono ?_
          rintro en q4 ⟨D0,d0,D1,d1,D2,d2,D3,d3,rfl,hO,hb⟩
          refine⟨_,rfl,?_⟩
          have hO2:=OwnH.lower hO HU.out.size
          replace HU:=AK (bst HU.out hb)
          have HWO:=AK hO2
          clear hO hO2 hb
          refine hK.out _ _ ⟨box4 (bbl HP.out.h HU.out),pcb (bst HP.out.b HU.out) HX.out.1,pcb (bst HP.out.b HU.out) HX.out.2.1,pcb (bst HP.out.b HU.out) HX.out.2.2.1,pcb (bst HP.out.b HU.out) HX.out.2.2.2.1,pcb (bst HP.out.b HU.out) HX.out.2.2.2.2.1,pcb (bst HP.out.b HU.out) HX.out.2.2.2.2.2.1,pcb (bst HP.out.b HU.out) HX.out.2.2.2.2.2.2⟩ (fun hHeld=>?_)
          clear hK K
          refine nO (some 31) ?_
          refine pU HT_ 6 (some 25) (bM 12 127) ?_
          refine pU HT_ 7 (some 32) (bM 12 255) ?_
          refine pU HT_ 8 (some 33) (bM 12 511) ?_
          refine one_ (i:=9) (N:=some 9) (bM 12 1023) rfl rfl (one_of HT_.out (by kernel_rfl)) (by decide) (fun K hK=>?_)
          refine box_step ?hg (N:=9) ?hd (cs:=#[.slice none 0 0,.slice none 0 0,.slice none 0 0,.slice none 0 0]) (t:=28) ?hr ?_;(case hd=>rfl);(case hg=>rfl);(case hr=>first|(go_simp;done)|(go_simp;rfl))
          intro b9 hg q8 hbox hb
          have h6:=And.intro hbox (show u5.heap.size≤b9 by rw[hg];exact HU.out.size)
          replace HU:=AK (bst HU.out hb)
          replace HWO:=AK (HWO.out.below hb)
          have H6:=AK h6
          clear h6 hg hbox hb
          refine hK.out _ _ ⟨box4 (bbl HP.out.h HU.out),pcb (bst HP.out.b HU.out) HX.out.1,pcb (bst HP.out.b HU.out) HX.out.2.1,pcb (bst HP.out.b HU.out) HX.out.2.2.1,pcb (bst HP.out.b HU.out) HX.out.2.2.2.1,pcb (bst HP.out.b HU.out) HX.out.2.2.2.2.1,pcb (bst HP.out.b HU.out) HX.out.2.2.2.2.2.1,pcb (bst HP.out.b HU.out) HX.out.2.2.2.2.2.2⟩ (fun hHeld=>?_)
          clear hK K
          refine nO (some 9) ?_
          exact norm_ zJ (hCont (D0,d0,D1,d1,D2,d2,D3,d3,b9) _ ⟨HU.out,HWO.out,H6.out⟩)
        · skip
          refine box_step ?hg (N:=9) ?hd (cs:=#[.slice none 0 0,.slice none 0 0,.slice none 0 0,.slice none 0 0]) (t:=28) ?hr ?_;(case hd=>rfl);(case hg=>rfl);(case hr=>first|(go_simp;done)|(go_simp;rfl))
          intro b9 hg q8 hbox hb
          have h6:=And.intro hbox (show u5.heap.size≤b9 by rw[hg];exact HU.out.size)
          replace HU:=AK (bst HU.out hb)
          have H6:=AK h6
          clear h6 hg hbox hb
          refine hK.out _ _ ⟨box4 (bbl HP.out.h HU.out),pcb (bst HP.out.b HU.out) HX.out.1,pcb (bst HP.out.b HU.out) HX.out.2.1,pcb (bst HP.out.b HU.out) HX.out.2.2.1,pcb (bst HP.out.b HU.out) HX.out.2.2.2.1,pcb (bst HP.out.b HU.out) HX.out.2.2.2.2.1,pcb (bst HP.out.b HU.out) HX.out.2.2.2.2.2.1,pcb (bst HP.out.b HU.out) HX.out.2.2.2.2.2.2⟩ (fun hHeld=>?_)
          clear hK K
          refine nO (some 9) ?_
          refine one_ (i:=5) (N:=some 31) (bM 12 575) rfl rfl (one_of HT_.out (by kernel_rfl)) (by decide) (fun K hK=>?_)
          refine goes_ Try.func47 (by kernel_rfl) rfl #[.agg #[.slice B0 R.o.length k0,.slice B1 R.r.length k1,.slice B2 R.w.length k2,.slice B3 R.d.length k3],.agg #[(.int .i64 e.f0),(.int .i64 e.f1),(.int .i64 e.f2),(.int .i64 e.f3),(.int .i64 e.f4.f0),(.string e.f4.f1),(.slice F e.f4.f2.length f)]] (by rfl) rfl rfl zI ?_
          refine(specStep_calls _ _ _ _ _ _ _ _ _ _ R e _ _ (Below.refl _ _) (HO.out.reads.below HU.out) HFR.out (Kd.C_below HEC.out.1 (bst HP.out.b HU.out)) HEC.out.2.1 HEC.out.2.2.1 HEC.out.2.2.2 R2 s2 HS2.out).mono ?_
          rintro en q4 ⟨D0,d0,D1,d1,D2,d2,D3,d3,rfl,hO,hb⟩
          refine⟨_,rfl,?_⟩
          have hO2:=OwnH.lower hO HU.out.size
          replace HU:=AK (bst HU.out hb)
          replace H6:=AK (show _∧_ from⟨bbl H6.out.1 hb,H6.out.2⟩)
          have HWO:=AK hO2
          clear hO hO2 hb
          refine hK.out _ _ ⟨box4 (bbl HP.out.h HU.out),pcb (bst HP.out.b HU.out) HX.out.1,pcb (bst HP.out.b HU.out) HX.out.2.1,pcb (bst HP.out.b HU.out) HX.out.2.2.1,pcb (bst HP.out.b HU.out) HX.out.2.2.2.1,pcb (bst HP.out.b HU.out) HX.out.2.2.2.2.1,pcb (bst HP.out.b HU.out) HX.out.2.2.2.2.2.1,pcb (bst HP.out.b HU.out) HX.out.2.2.2.2.2.2⟩ (fun hHeld=>?_)
          clear hK K
          refine nO (some 31) ?_
          refine pU HT_ 6 (some 25) (bM 12 639) ?_
          refine pU HT_ 7 (some 32) (bM 12 767) ?_
          refine pU HT_ 8 (some 33) (bM 12 1023) ?_
          exact norm_ zJ (hCont (D0,d0,D1,d1,D2,d2,D3,d3,b9) _ ⟨HU.out,HWO.out,H6.out⟩)
      clear HU hHeld
      rintro⟨D0,d0,D1,d1,D2,d2,D3,d3,b9⟩ q9 ⟨hb,ho,h6⟩
      have HU:=AK (show Below u5.heap.size u5 q9 from hb)
      have HWO:=AK (show OwnG q9 u5.heap.size D0 d0 D1 d1 D2 d2 D3 d3 R2 from ho)
      have H6:=AK (show q9.heap[b9]?=some (.cells #[.slice none 0 0,.slice none 0 0,.slice none 0 0,.slice none 0 0] 28 (0,0))∧u5.heap.size≤b9 from h6)
      have hHeld:(fun w'=>(w'.cell? ⟨b7,0,none⟩=some (.slice B0 R.o.length k0)∧w'.cell? ⟨b7,1,none⟩=some (.slice B1 R.r.length k1)∧w'.cell? ⟨b7,2,none⟩=some (.slice B2 R.w.length k2)∧w'.cell? ⟨b7,3,none⟩=some (.slice B3 R.d.length k3))∧w'.cell? (ad.add (i.toNat*7))=some (.int .i64 e.f0)∧w'.cell? ⟨(ad.add (i.toNat*7)).block,(ad.add (i.toNat*7)).off+1,none⟩=some (.int .i64 e.f1)∧w'.cell? ⟨(ad.add (i.toNat*7)).block,(ad.add (i.toNat*7)).off+2,none⟩=some (.int .i64 e.f2)∧w'.cell? ⟨(ad.add (i.toNat*7)).block,(ad.add (i.toNat*7)).off+3,none⟩=some (.int .i64 e.f3)∧w'.cell? ⟨(ad.add (i.toNat*7)).block,(ad.add (i.toNat*7)).off+4,none⟩=some (.int .i64 e.f4.f0)∧w'.cell? ⟨(ad.add (i.toNat*7)).block,(ad.add (i.toNat*7)).off+5,none⟩=some (.string e.f4.f1)∧w'.cell? ⟨(ad.add (i.toNat*7)).block,(ad.add (i.toNat*7)).off+6,none⟩=some (.slice F e.f4.f2.length f)) q9:=⟨box4 (bbl HP.out.h HU.out),pcb (bst HP.out.b HU.out) HX.out.1,pcb (bst HP.out.b HU.out) HX.out.2.1,pcb (bst HP.out.b HU.out) HX.out.2.2.1,pcb (bst HP.out.b HU.out) HX.out.2.2.2.1,pcb (bst HP.out.b HU.out) HX.out.2.2.2.2.1,pcb (bst HP.out.b HU.out) HX.out.2.2.2.2.2.1,pcb (bst HP.out.b HU.out) HX.out.2.2.2.2.2.2⟩
      clear hb ho h6
      refine norm_ (a':=?_) ?_ ?_
      rotate_left
      · show (Act.put (Act.put (Act.put (Act.put (Act.put _ (some 31) _) (some 25) _) (some 32) _) (some 33) _) (some 9) _)=_
        exact zP
      refine one_ (i:=10) (N:=none) (bM 12 2047) rfl rfl (one_of HT_.out (by kernel_rfl)) (by decide) (fun K hK=>?_)
      obtain⟨z0,z1,z2,z3⟩:=box4 H6.out.1
      have f0:=bfz H6.out.1 0
      have f1:=bfz H6.out.1 1
      have f2:=bfz H6.out.1 2
      have f3:=bfz H6.out.1 3
      have N1:=AK (show ((((q9.setCell ⟨b9,0,none⟩ (.slice D0 R2.o.length d0)).setCell ⟨b9,1,none⟩ (.slice D1 R2.r.length d1)).setCell ⟨b9,2,none⟩ (.slice D2 R2.w.length d2)).setCell ⟨b9,3,none⟩ (.slice D3 R2.d.length d3)).heap[b9]?=some (.cells #[(.slice D0 R2.o.length d0),(.slice D1 R2.r.length d1),(.slice D2 R2.w.length d2),(.slice D3 R2.d.length d3)] 28 (0,0))∧u5.heap.size≤b9 from⟨set4_blk H6.out.1,H6.out.2⟩)
      have N2:=AK (show Below u5.heap.size u5 ((((q9.setCell ⟨b9,0,none⟩ (.slice D0 R2.o.length d0)).setCell ⟨b9,1,none⟩ (.slice D1 R2.r.length d1)).setCell ⟨b9,2,none⟩ (.slice D2 R2.w.length d2)).setCell ⟨b9,3,none⟩ (.slice D3 R2.d.length d3))from set4_below HU.out H6.out.2)
      have N3:=AK (show OwnG ((((q9.setCell ⟨b9,0,none⟩ (.slice D0 R2.o.length d0)).setCell ⟨b9,1,none⟩ (.slice D1 R2.r.length d1)).setCell ⟨b9,2,none⟩ (.slice D2 R2.w.length d2)).setCell ⟨b9,3,none⟩ (.slice D3 R2.d.length d3)) u5.heap.size D0 d0 D1 d1 D2 d2 D3 d3 R2 from OwnH.set4 HWO.out H6.out.1)
      refine skip_ (w1:=?_) (by rfl) rfl ?_ ?_
      rotate_left
      · go_simp
        rfl
      clear z0 z1 z2 z3 f0 f1 f2 f3 HU HWO H6
      generalize ((((q9.setCell ⟨b9,0,none⟩ (.slice D0 R2.o.length d0)).setCell ⟨b9,1,none⟩ (.slice D1 R2.r.length d1)).setCell ⟨b9,2,none⟩ (.slice D2 R2.w.length d2)).setCell ⟨b9,3,none⟩ (.slice D3 R2.d.length d3))=w6 at N1 N2 N3 ⊢
      have HU:=N2
      have HWO:=N3
      have H6:=N1
      clear N1 N2 N3
      refine hK.out _ _ ⟨box4 (bbl HP.out.h HU.out),pcb (bst HP.out.b HU.out) HX.out.1,pcb (bst HP.out.b HU.out) HX.out.2.1,pcb (bst HP.out.b HU.out) HX.out.2.2.1,pcb (bst HP.out.b HU.out) HX.out.2.2.2.1,pcb (bst HP.out.b HU.out) HX.out.2.2.2.2.1,pcb (bst HP.out.b HU.out) HX.out.2.2.2.2.2.1,pcb (bst HP.out.b HU.out) HX.out.2.2.2.2.2.2⟩ (fun hHeld=>?_)
      clear hK K
      refine pU HT_ 11 (some 10) (bM 12 4095) ?_
      refine done_ (done_of HT_.out (by kernel_rfl)) ?_
      clear HT_ HW_ hHeld
      have HP6:=AK (HP.out.below HU.out)
      obtain⟨p0,p1,p2,p3⟩:=box4 HP6.out.h
      obtain⟨q0,q1,q2,q3⟩:=box4 H6.out.1
      have f0:=bfz HP6.out.h 0
      have f1:=bfz HP6.out.h 1
      have f2:=bfz HP6.out.h 2
      have f3:=bfz HP6.out.h 3
      have HO2:=AK (show OwnG ((((w6.setCell ⟨b7,0,none⟩ (.slice D0 R2.o.length d0)).setCell ⟨b7,1,none⟩ (.slice D1 R2.r.length d1)).setCell ⟨b7,2,none⟩ (.slice D2 R2.w.length d2)).setCell ⟨b7,3,none⟩ (.slice D3 R2.d.length d3)) w.heap.size D0 d0 D1 d1 D2 d2 D3 d3 R2 from OwnH.set4 (OwnH.lower HWO.out HP.out.b.size) HP6.out.h)
      have HP7:=AK (show PL w b7 #[(.slice D0 R2.o.length d0),(.slice D1 R2.r.length d1),(.slice D2 R2.w.length d2),(.slice D3 R2.d.length d3)] K ck ts ((((w6.setCell ⟨b7,0,none⟩ (.slice D0 R2.o.length d0)).setCell ⟨b7,1,none⟩ (.slice D1 R2.r.length d1)).setCell ⟨b7,2,none⟩ (.slice D2 R2.w.length d2)).setCell ⟨b7,3,none⟩ (.slice D3 R2.d.length d3))from HP6.out.put _ rfl ⟨_,_,_,_,rfl⟩)
      obtain⟨ts2,et⟩:∃t,t=ts++[s2]:=⟨_,rfl⟩
      have ET:=AK et
      have HRUN3:=AK (show (R2,ts2)=runL G (es.take (i+1).toNat)by rw[et];exact HRUN2.out)
      clear et
      go_upto_region 10 with fail
      clear p0 p1 p2 p3 q0 q1 q2 q3 f0 f1 f2 f3 HP HO HU HWO H6 HP6
      generalize ((((w6.setCell ⟨b7,0,none⟩ (.slice D0 R2.o.length d0)).setCell ⟨b7,1,none⟩ (.slice D1 R2.r.length d1)).setCell ⟨b7,2,none⟩ (.slice D2 R2.w.length d2)).setCell ⟨b7,3,none⟩ (.slice D3 R2.d.length d3))=w7 at HO2 HP7 ⊢
      have HP:=HP7
      clear HP7
      go_wp2_with ((with_reducible refine gate_builtin (b:=.append) (xs:=#[.tmp 35,.tmp 37]) rfl ?_);at_builtin;refine Kd.R_append Kd.string (w0:=w) w.heap.size rfl (.tmp 35) (.tmp 37) 32 9 (.string ⟨#[]⟩) 16 rfl Try.underlying32 info9 rfl (by decide) (by omega) (.slice K ts.length ck) ts s2 [.string s2] (fun _=>True) (fun _=>False) rfl rfl ?aP (fun _ hk=>hk.elim) (fun _ _=>trivial) HP.out.t HP.out.b HP.out.b.size ?aL ?_;(case aP=>exact rfl);(case aL=>have:=HRL.out;have:=HI2.out;have:=HE.out.2.1;omega);intro v3 w8 ho hb hg hat;rw[←ET.out]at ho;obtain⟨K3,ck3,hv3⟩:=Kd.R_slice ho;subst hv3;have HP8:=AK (HP.out.text hb hg ho);have HO8:=AK (OwnH.overT HO2.out HP.out.t hg);clear ho hb hg hat)
      go_roundg g1
      case measure=>omega
      case rel=>
        rw[wrap_succ i (by have:=HI2.out;omega) (by have:=HI2.out;have:=HE.out.2.1;omega)]
        exact⟨R2,ts2,D0,d0,D1,d1,D2,d2,D3,d3,K3,ck3,i+1,rfl,rfl,⟨by have:=HI2.out;omega,by have:=HI2.out;omega⟩,HRUN3,HO8,HP8⟩
end
section
section
variable {w:World} {n m:Nat} {A0 A1 A2 A3 A6:Option Addr} {c0 c1 c2 c3 c6:Nat} {G:Hp} {e:S40}
theorem known_c {p:Int} (hb:w.heap[n]?=some (.cells (hpC A0 c0 A1 c1 A2 c2 A3 c3 G) 28 (0,0))) (h:InH w A0 c0 A1 c1 A2 c2 A3 c3 G.o G.r G.w G.d) :
    Calls Try.prog 122 #[.int .i64 p,.pointer (some ⟨n,0,none⟩)] w fun e w'=>e=.returned (.int .i64 (knownL G.r p))∧Drawn0 w w':=by
  obtain⟨p0,p1,p2,p3⟩:=box4 hb
  have HI:=AK h.r1
  clear h hb
  obtain⟨r,er⟩:∃r,r=knownL G.r p:=⟨_,rfl⟩
  rw[←er]
  by_cases a:p<0
  case pos=>
    have a1:decide (p<0)=true:=deT a
    have e:r=-1:=by rw[er];unfold knownL;exact if_neg (by omega)
    subst e
    clear er a p0 p2 p3
    go_enter Try.func122,Try.ntmps122
    go_wp2
    go_ret
    exact⟨rfl,Drawn0.refl _⟩
  have a1:decide (p<0)=false:=deF a
  by_cases b:p<G.r.length
  case neg=>
    have b1:decide ((G.r.length:Int)≤p)=true:=deT (by omega)
    have e:r=-1:=by rw[er];unfold knownL;exact if_neg (by omega)
    subst e
    clear er a p0 p2 p3 b
    go_enter Try.func122,Try.ntmps122
    go_wp2
    go_ret
    exact⟨rfl,Drawn0.refl _⟩
  have b1:decide ((G.r.length:Int)≤p)=false:=deF (by omega)
  obtain⟨ad,ea,hr⟩:=Kd.at_int HI.out p (by omega) (by exact b)
  subst ea
  have e:r=rd G.r p:=by rw[er];unfold knownL;exact if_pos ⟨by omega,b⟩
  rw[←e]at hr
  have h0:=eq_true (show 0≤p by omega)
  have h1:=eq_true (show p<(G.r.length:Int)from b)
  clear er e a b p0 p2 p3
  go_enter Try.func122,Try.ntmps122
  go_wp2
  go_ret
  exact⟨rfl,Drawn0.refl _⟩
theorem is_c {p:Int} (hb:w.heap[n]?=some (.cells (hpC A0 c0 A1 c1 A2 c2 A3 c3 G) 28 (0,0))) (h:InH w A0 c0 A1 c1 A2 c2 A3 c3 G.o G.r G.w G.d) (hp:p<G.o.length) :
    Calls Try.prog 123 #[.int .i64 p,.int .i64 4,.pointer (some ⟨n,0,none⟩)] w fun e w'=>e=.returned (.bool (isGuard G p))∧Drawn0 w w':=by
  obtain⟨p0,p1,p2,p3⟩:=box4 hb
  have HI:=AK h.r0
  clear h hb
  by_cases a:0≤p
  case neg=>
    have a1:decide (0≤p)=false:=deF a
    rw[show isGuard G p=false by unfold isGuard;rw[a1];rfl]
    clear a p1 p2 p3
    go_enter Try.func123,Try.ntmps123
    go_wp2
    go_ret
    exact⟨rfl,Drawn0.refl _⟩
  have a1:decide (0≤p)=true:=deT a
  obtain⟨ad,Af,cf,ea,ha0,_,_,_,_⟩:=at_T38 HI.out p a hp
  subst ea
  have h0:=eq_true a
  have h1:=eq_true hp
  rw[show isGuard G p=((rd_T38 G.o p).f0 == 4)by unfold isGuard;rw[a1,Bool.true_and];exact Bool.eq_iff_iff.2 (by rw[decide_eq_true_eq,beq_iff_eq])]
  obtain⟨k,ek⟩:∃k,k=(rd_T38 G.o p).f0:=⟨_,rfl⟩
  rw[←ek]at ha0 ⊢
  clear ek a hp p1 p2 p3
  go_enter Try.func123,Try.ntmps123
  go_wp2
  go_ret
  exact⟨rfl,Drawn0.refl _⟩
def partB (G:Hp) (p a:Int):Bool:=decide (0≤p) && (decide (0≤a) && decide (a<(rd_T38 G.o p).f2.length))
theorem isPart_c {p:Int} (hb:w.heap[n]?=some (.cells (hpC A0 c0 A1 c1 A2 c2 A3 c3 G) 28 (0,0))) (he:w.heap[m]?=some (.cells (evC e A6 c6) 40 (0,0))) (h:InH w A0 c0 A1 c1 A2 c2 A3 c3 G.o G.r G.w G.d) (hp:p<G.o.length) :
    Calls Try.prog 124 #[.int .i64 p,.pointer (some ⟨m,0,none⟩),.pointer (some ⟨n,0,none⟩)] w fun en w'=>en=.returned (.bool (partB G p e.f3))∧Drawn0 w w':=by
  obtain⟨p0,p1,p2,p3⟩:=box4 hb
  obtain⟨q0,q1,q2,q3,q4,q5,q6⟩:=ec7 he
  have HI:=AK h.r0
  clear h hb he p1 p2 p3 q0 q1 q2 q4 q5 q6
  by_cases a:0≤p
  case neg=>
    have a1:decide (0≤p)=false:=deF a
    rw[show partB G p e.f3=false by unfold partB;rw[a1];rfl]
    clear a
    go_enter Try.func124,Try.ntmps124
    go_wp2
    go_quiet (fail)
    go_wp2
    go_ret
    exact⟨rfl,Drawn0.step (Drawn0.refl _) _⟩
  have a1:decide (0≤p)=true:=deT a
  by_cases b:0≤e.f3
  case neg=>
    have b1:decide (0≤e.f3)=false:=deF b
    rw[show partB G p e.f3=false by unfold partB;rw[b1];simp]
    clear a b
    go_enter Try.func124,Try.ntmps124
    go_wp2
    go_quiet (fail)
    go_wp2
    go_ret
    exact⟨rfl,Drawn0.step (Drawn0.refl _) _⟩
  have b1:decide (0≤e.f3)=true:=deT b
  obtain⟨ad,Af,cf,ea,_,_,ha2,_,_⟩:=at_T38 HI.out p a hp
  subst ea
  have h0:=eq_true a
  have h1:=eq_true hp
  rw[show partB G p e.f3=decide (e.f3<(rd_T38 G.o p).f2.length)by unfold partB;rw[a1,b1];simp]
  obtain⟨k,ek⟩:∃k,k=(rd_T38 G.o p).f2.length:=⟨_,rfl⟩
  rw[←ek]at ha2 ⊢
  clear ek a b hp
  go_enter Try.func124,Try.ntmps124
  go_wp2
  go_quiet (fail)
  go_wp2
  go_ret
  exact⟨rfl,Drawn0.step (Drawn0.refl _) _⟩
set_option maxRecDepth 100000 in
theorem seen_c {p:Int} (h:InH w A0 c0 A1 c1 A2 c2 A3 c3 G.o G.r G.w G.d) (hp:p<G.o.length) (hl:0≤p→(rd_T38 G.o p).f2.length≤6) :
    Calls Try.prog 125 #[.agg #[.slice A0 G.o.length c0,.slice A1 G.r.length c1,.slice A2 G.w.length c2,.slice A3 G.d.length c3],.int .i64 p] w fun e w'=>e=.returned (.string (seesB G.o p))∧Below w.heap.size w w':=by
  have HI:=AK h.r0
  clear h
  obtain⟨r,er⟩:∃r,r=seesB G.o p:=⟨_,rfl⟩
  rw[←er]
  by_cases a:p<0
  case pos=>
    have a1:decide (p<0)=true:=deT a
    have e:r=sNone:=by rw[er];unfold seesB;exact if_pos a
    subst e
    clear er a hl hp
    go_enter Try.func125,Try.ntmps125
    go_wp2
    go_ret
    exact⟨rfl,below_alloc (Below.refl _ _) _⟩
  have a1:decide (p<0)=false:=deF a
  obtain⟨ad,Af,cf,ea,ha0,ha1,ha2,_,_⟩:=at_T38 HI.out p (by omega) hp
  subst ea
  have h0:=eq_true (show 0≤p by omega)
  have h1:=eq_true hp
  have h6:=hl (by omega)
  have es:r=if(rd_T38 G.o p).f0=1 then(rd_T38 G.o p).f1 else if(rd_T38 G.o p).f0=2 then sCell++strOfNums [48+((rd_T38 G.o p).f2.length:Int)]else if(rd_T38 G.o p).f0=3 then sWeak else sGuard:=by rw[er];unfold seesB;exact if_neg a
  obtain⟨z,ez⟩:∃z,z=rd_T38 G.o p:=⟨_,rfl⟩
  rw[←ez]at ha0 ha1 ha2 es h6
  obtain⟨k,hk⟩:∃k,k=z.f2.length:=⟨_,rfl⟩
  rw[←hk]at ha2 es h6
  clear hk
  have hb:=below_alloc (Below.refl w.heap.size w) (.cells #[.slice (some ad) G.o.length c0,.slice A1 G.r.length c1,.slice A2 G.w.length c2,.slice A3 G.d.length c3] 28 (0,0))
  have HB:=AK hb
  have HX:=AK (blk_new w (.cells #[.slice (some ad) G.o.length c0,.slice A1 G.r.length c1,.slice A2 G.w.length c2,.slice A3 G.d.length c3] 28 (0,0)))
  replace ha0:=pcb hb ha0
  replace ha1:=pcb hb ha1
  replace ha2:=pcb hb ha2
  clear ez er a hl hp HI hb
  go_enter Try.func125,Try.ntmps125
  go_upto_region 3 with fail
  generalize (w.alloc (.cells #[.slice (some ad) G.o.length c0,.slice A1 G.r.length c1,.slice A2 G.w.length c2,.slice A3 G.d.length c3] 28 (0,0)))=w1 at HB HX ha0 ha1 ha2 ⊢
  have hx:=(box4 HX.out).1
  clear HX
  by_cases k1:z.f0=1
  case pos=>
    have f1:(z.f0 == 1)=true:=beq_iff_eq.mpr k1
    rw[if_pos k1]at es
    subst es
    clear k1 h6
    go_wp2
    go_ret
    exact⟨rfl,below_alloc HB.out _⟩
  have f1:(z.f0 == 1)=false:=beq_eq_false_iff_ne.mpr k1
  rw[if_neg k1]at es
  clear k1
  by_cases k2:z.f0=2
  case pos=>
    have f2:(z.f0 == 2)=true:=beq_iff_eq.mpr k2
    rw[if_pos k2]at es
    clear k2
    have hk:k=0∨k=1∨k=2∨k=3∨k=4∨k=5∨k=6:=by omega
    clear h6
    rcases hk with rfl|rfl|rfl|rfl|rfl|rfl|rfl
    all_goals (subst es;go_wp2;go_ret;exact⟨rfl,below_alloc HB.out _⟩)
  have f2:(z.f0 == 2)=false:=beq_eq_false_iff_ne.mpr k2
  rw[if_neg k2]at es
  clear k2 h6
  by_cases k3:z.f0=3
  case pos=>
    have f3:(z.f0 == 3)=true:=beq_iff_eq.mpr k3
    rw[if_pos k3]at es
    subst es
    clear k3
    go_wp2
    go_ret
    exact⟨rfl,below_alloc HB.out _⟩
  have f3:(z.f0 == 3)=false:=beq_eq_false_iff_ne.mpr k3
  rw[if_neg k3]at es
  subst es
  clear k3
  go_wp2
  go_ret
  exact⟨rfl,below_alloc HB.out _⟩
end
end
section
theorem cut_hm {P:Program} (t e:TypeId) (kh:IntKind) {i:TypeInfo} (ht:P.underlying t=some (.slice e)) (hi:P.info? e=some i) (A:Option Addr) (n c:Nat) (j:Int) (h0:0≤j) (hm:j≤c) :
    ∀W:World,(Instr.slice t (.slice A n c) none (some (.int kh j)) (some (.int kh j))).run P W=.ok (.slice A j.toNat j.toNat) W:=by
  intro W
  have hel:P.elem t=e:=by simp[Program.elem,ht]
  have hu:P.underlying t=some (.slice (P.elem t)):=by rw[hel];exact ht
  have ha:(A.map fun x=>x.add 0)=A:=by cases A<;>simp[Addr.add]
  rw[run_slice_hm W t A n c hu kh kh j j h0 (by omega) (by omega),hel]
  simp[sizeOf,typeInfo,hi,sliced,Result.andThen,ha]
def FullR (W:World) (A:Option Addr) (i:Nat) (xs ys:List S60) (v1:Value) (w1:World):Prop:=
  Below W.heap.size W w1∧∃B d,v1=.slice B (xs++ys).length d∧((ys=[]∧w1=W∧B=A∧d=i)∨Kd.R k60 60 w1 W.heap.size (fun _=>True) (.slice B (xs++ys).length d) (xs++ys))
section
variable {P:Program} {ops:Array Oper} {o:Oper} {a:Act} {Q:Exit→Act→World→Prop} {Kc:Act→World→Prop}
theorem app_full_step {W:World} (hw:Region.wanted o (yielded ops a.tmps)=true) (s x:Operand)
    (ho:o.op=.call { callee:=.builtin .append,args:=#[s,x],argTypes:=#[26,26] }) (ht:P.underlying 26=some (.slice 60)) (hinfo:(P.info? 60).map (fun i=>(i.zero,i.size,i.bytes))=some (some (.agg #[.int .i64 0,.int .i64 0]),2,16))
    (A:Addr) (i:Nat) (xs:List S60) (hs:a.eval s=.slice (some A) i i) (HX:Kd.C k60 W (some A) i xs) (B:Option Addr) (m c:Nat) (ys:List S60) (hx:a.eval x=.slice B m c) (HY:Kd.C k60 W B m ys) (hl:i+m≤1000)
    (h:∀v1 w1,FullR W (some A) i xs ys v1 w1→Kc (a.put o.dst v1) w1):if Region.wanted o (yielded ops a.tmps)=true then Oper.wp P o a W Kc Q else Kc (a.put o.dst undef) W:=by
  obtain⟨i0,hi,hzz⟩:=Option.map_eq_some_iff.1 hinfo
  simp only[Prod.mk.injEq]at hzz
  obtain⟨hz0,hz1,hz2⟩:=hzz
  have hxl:xs.length=i:=HX.1
  have hyl:ys.length=m:=HY.1
  have hrun:∃v1 w1,(Builtin.append_ #[26,26] o.type #[.slice (some A) i i,.slice B m c]).run P W=.ok v1 w1∧FullR W (some A) i xs ys v1 w1:=by
    by_cases h0:m=0
    · subst h0
      obtain rfl:ys=[]:=List.eq_nil_of_length_eq_zero hyl
      refine⟨.slice (some A) i i,W,?_,Below.refl _ _,some A,i,by rw[List.append_nil,hxl],.inl ⟨rfl,rfl,rfl,rfl⟩⟩
      rcases B with _|B<;>simp[Builtin.append_,run_underlying ht,sizeOf,typeInfo,hi,Builtin.lenOf,Builtin.firstCells,storeCells,loadCells,loadCellsFrom]
    · obtain⟨ad,e,_⟩:=HY.2.2 (by omega)
      subst e
      obtain⟨olds,hor,hoc⟩:=ReadsRow.inner_ HX
      obtain⟨news,hnr,hnc⟩:=ReadsRow.inner_ HY
      obtain⟨v1,w1,hr,hown,hg⟩:=run_append_arg_grows (P:=P) W 26 o.type 60 i0 _ 2 16 ht hi hz0 hz1 hz2 (by decide) (by decide) A i i olds (by rw[hor.1,hxl];rfl) hoc ad m c news (by rw[hnr.1,hyl];rfl) hnc (by omega) (by simp only[maxLen];omega) (by omega)
      have hb:Below W.heap.size W w1:=(Below.refl W.heap.size W).grown hg (Nat.le_refl _) (fun k hk=>by cases hk)
      have hR:Kd.R k60 60 w1 W.heap.size (fun _=>True) v1 (xs++ys):=⟨fun _ _=>trivial,olds++news,by rw[List.length_append,hxl,hyl];exact hown,Kd.reps_append (hor.imp_ (fun _ _ h=>h)) (hnr.imp_ (fun _ _ h=>h))⟩
      obtain⟨B',d,e⟩:=Kd.R_slice hR
      subst e
      exact⟨_,w1,hr,hb,B',d,rfl,.inr hR⟩
  obtain⟨v1,w1,hr1,hF⟩:=hrun
  rw[if_pos hw]
  unfold Oper.wp execOp
  simp only[ho,resolve,invoke,builtin,Sem.run_bind,Sem.run_pure,Result.andThen_ok,List.map_toArray,List.map_cons,List.map_nil,hs,hx,hr1]
  exact h v1 w1 hF
end
structure WKX (v:World) (n:Nat) (A0:Option Addr) (c0:Nat) (A1:Option Addr) (c1:Nat) (A2:Option Addr) (c2:Nat) (A3:Option Addr) (c3 x3:Nat) (G:Hp) (e:S40) (A6:Option Addr) (c6:Nat) (w':World):Prop where
  b:Below v.heap.size v w'
  n0:v.heap.size≤n
  h:w'.heap[n]?=some (.cells (hpC A0 c0 A1 c1 A2 c2 A3 c3 G) 28 (0,0))
  e:w'.heap[n+1]?=some (.cells (evC e A6 c6) 40 (0,0))
  o:w'.heap[n+2]?=some (.cells nilC 28 (0,0))
  ow:OwnG w' v.heap.size A0 c0 A1 c1 A2 c2 A3 x3 G
  k:G.d.length≤c3
section
variable {v w0 w w1:World} {n:Nat} {A0 A1 A2 A3 A6:Option Addr} {c0 c1 c2 c3 c6 x3:Nat} {G:Hp} {e:S40}
theorem WKX.below (h:WKX v n A0 c0 A1 c1 A2 c2 A3 c3 x3 G e A6 c6 w) (hb:Below w.heap.size w w1):WKX v n A0 c0 A1 c1 A2 c2 A3 c3 x3 G e A6 c6 w1:=
  ⟨bst h.b hb,h.n0,bbl h.h hb,bbl h.e hb,bbl h.o hb,h.ow.below hb,h.k⟩
theorem WKX.reads (h:WKX v n A0 c0 A1 c1 A2 c2 A3 c3 x3 G e A6 c6 w):InH w A0 c0 A1 c1 A2 c2 A3 c3 G.o G.r G.w G.d:=
  have r:=h.ow.reads
  ⟨r.r0,r.r1,r.r2,r.r3,r.k0,r.k1,r.k2,h.k⟩
theorem WKX.hc (h:WKX v n A0 c0 A1 c1 A2 c2 A3 c3 x3 G e A6 c6 w):w.cell? ⟨n,0,none⟩=some (.slice A0 G.o.length c0)∧w.cell? ⟨n,1,none⟩=some (.slice A1 G.r.length c1)∧w.cell? ⟨n,2,none⟩=some (.slice A2 G.w.length c2)∧w.cell? ⟨n,3,none⟩=some (.slice A3 G.d.length c3):=box4 h.h
theorem WKX.ec (h:WKX v n A0 c0 A1 c1 A2 c2 A3 c3 x3 G e A6 c6 w):w.cell? ⟨n+1,0,none⟩=some (.int .i64 e.f0)∧w.cell? ⟨n+1,1,none⟩=some (.int .i64 e.f1)∧w.cell? ⟨n+1,2,none⟩=some (.int .i64 e.f2)∧w.cell? ⟨n+1,3,none⟩=some (.int .i64 e.f3)∧w.cell? ⟨n+1,4,none⟩=some (.int .i64 e.f4.f0)∧w.cell? ⟨n+1,5,none⟩=some (.string e.f4.f1)∧w.cell? ⟨n+1,6,none⟩=some (.slice A6 e.f4.f2.length c6):=ec7 h.e
theorem WKX.oc (h:WKX v n A0 c0 A1 c1 A2 c2 A3 c3 x3 G e A6 c6 w):w.cell? ⟨n+2,0,none⟩=some (.slice none 0 0)∧w.cell? ⟨n+2,1,none⟩=some (.slice none 0 0)∧w.cell? ⟨n+2,2,none⟩=some (.slice none 0 0)∧w.cell? ⟨n+2,3,none⟩=some (.slice none 0 0):=box4 h.o
theorem WKX.of (h:WKX v n A0 c0 A1 c1 A2 c2 A3 c3 x3 G e A6 c6 w) (j:Nat):w.frozen? ⟨n+2,j,none⟩=false:=bfz h.o j
theorem WKX.fin (h:WKX v n A0 c0 A1 c1 A2 c2 A3 c3 x3 G e A6 c6 w) {p q r s:Value}:OwnG (H.set4 w (n+2) p q r s) v.heap.size A0 c0 A1 c1 A2 c2 A3 x3 G∧Below v.heap.size v (H.set4 w (n+2) p q r s)∧(H.set4 w (n+2) p q r s).heap[n+2]?=some (.cells #[p,q,r,s] 28 (0,0)):=
  ⟨h.ow.set4 h.o,set4_below h.b (by have:=h.n0;omega),set4_blk h.o⟩
theorem WK.cutD {A:Addr} (K:WK v w0 n A0 c0 A1 c1 A2 c2 (some A) c3 G e A6 c6 w) {i:Nat} {D:List S60} {B:Option Addr} {d:Nat} {xs ys:List S60} (hD:D=xs++ys) (hxs:xs=G.d.take i) (hi:i≤G.d.length) (hF:FullR w (some A) i xs ys (.slice B D.length d) w1) :
    ∃x3,WKX v n A0 c0 A1 c1 A2 c2 B d x3 ⟨G.o,G.r,G.w,D⟩ e A6 c6 (w1.setCell ⟨n,3,none⟩ (.slice B D.length d)):=by
  obtain⟨hb,B',d',e1,h2⟩:=hF
  rw[←hD]at e1 h2
  injection e1 with e1 _ e3
  subst e1 e3
  rcases h2 with⟨rfl,rfl,rfl,rfl⟩|hR
  · rw[List.append_nil]at hD
    subst hxs hD
    have hl:(G.d.take d).length=d:=by rw[List.length_take];omega
    refine⟨c3,below_set K.b K.n0,K.n0,blk_put K.h 3 _ rfl,blk_far K.e (p:=⟨n,3,none⟩) (by show n+1≠n;omega) _,blk_far K.o (p:=⟨n,3,none⟩) (by show n+2≠n;omega) _,?_,by show (G.d.take d).length≤d;omega⟩
    have s3:=Kd.R_take (m:=d) K.own.s3 hi
    exact⟨Kd.S_set K.own.s0 K.h (k38_ap 28 (by decide) (by decide)) 3 _,Kd.R_set K.own.s1 K.h (int_ap 28 (by decide)) 3 _,Kd.R_set K.own.s2 K.h (k60_ap 28 (by decide)) 3 _,by
      show Kd.R k60 60 _ _ _ (.slice _ (G.d.take d).length _) _
      rw[hl];exact Kd.R_set s3 K.h (k60_ap 28 (by decide)) 3 _⟩
  · have K2:=K.newD hb hR
    exact⟨d,K2.b,K2.n0,K2.h,K2.e,K2.o,K2.own,K2.own.reads.k3⟩
end
end
end Go.Proofs.Ytigjhfijkdlldaa.H
