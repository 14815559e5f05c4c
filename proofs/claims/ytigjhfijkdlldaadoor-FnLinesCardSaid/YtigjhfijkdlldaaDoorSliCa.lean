import Derived.Test.YtigjhfijkdlldaaDoorSliYob
import Derived.Test.YtigjhfijkdlldaaDoorSliPu
import Derived.Test.YtigjhfijkdlldaaDoorSliSa
namespace Go.Proofs.YtigjhfijkdlldaaDoor.H
open Go.RowKit Go.Proofs.YtigjhfijkdlldaaDoorW.PrintWords Go.Proofs.YtigjhfijkdlldaaDoorW.PrintLast Go.Proofs.YtigjhfijkdlldaaDoorW.PrintMore Go.Proofs.YtigjhfijkdlldaaDoor.Q
set_option linter.unusedVariables false
set_option linter.unusedSimpArgs false
section
structure NS (v:World) (bg bo:Nat) (GX cs:Array Value) (n1 n2:Nat) (M:Option Addr) (em:Nat) (mv:List Int) (V:Value) (objs:List S38) (w':World):Prop where
  b:Below v.heap.size v w'
  g:w'.heap[bg]?=some (.cells GX 33 (0,0))
  o:w'.heap[bo]?=some (.cells cs 33 (0,0))
  m:Kd.R (Kd.int .i64) 3 w' v.heap.size (fun k=>k<n1) (.slice M mv.length em) mv
  s:Kd.S k38 35 w' v.heap.size (fun k=>n1≤k∧k<n2) V objs
section
variable {v w1 w2:World} {bg bo:Nat} {GX cs:Array Value} {n1 n2 n3:Nat} {M:Option Addr} {em:Nat} {mv:List Int} {V:Value} {objs:List S38}
theorem NS.below (h:NS v bg bo GX cs n1 n2 M em mv V objs w1) (hb:Below w1.heap.size w1 w2):NS v bg bo GX cs n1 n2 M em mv V objs w2:=
  ⟨bst h.b hb,bbl h.g hb,bbl h.o hb,Kd.R_below h.m hb,Kd.S_below h.s hb⟩
theorem NS.set (h:NS v bg bo GX cs n1 n2 M em mv V objs w1) (hbo:v.heap.size≤bo) (hne:bg≠bo) (j:Nat) (u:Value) (cs':Array Value) (e:cs.setIfInBounds j u=cs'):NS v bg bo GX cs' n1 n2 M em mv V objs (w1.setCell ⟨bo,j,none⟩ u):=
  ⟨below_set h.b hbo,blk_far h.g (p:=⟨bo,j,none⟩) hne u,blk_put h.o j u e,Kd.R_set h.m h.o (int_ap 33 (by decide)) j u,Kd.S_set h.s h.o (k38_ap 33 (by decide) (by decide)) j u⟩
theorem NS.grown (h:NS v bg bo GX cs n1 n2 M em mv V objs w1) {u:Value} (hg:w1.grownBy w2 u.ownBlock) (hb:Below v.heap.size v w2) (hu:∀k,u.ownBlock=some k→n2≤k∧n1≤k∧∃cells,w1.heap[k]?=some (.cells cells 3 (0,0))):NS v bg bo GX cs n1 n2 M em mv V objs w2:=by
  have hno:∀{k:Nat} {cs:Array Value} {t:TypeId},w1.heap[k]?=some (.cells cs t (0,0))→t≠3→some k≠u.ownBlock:=fun hk h3 e=>by
    obtain⟨_,_,cells,hc⟩:=hu _ e.symm
    exact blk_ne hk hc h3 rfl
  exact⟨hb,blk_grown h.g hg (hno h.g (by decide)),blk_grown h.o hg (hno h.o (by decide)),Kd.R_step h.m (fun k hk hl=>hg.block k hl (fun e=>by have:=(hu k e.symm).2.1;omega)),Kd.S_step h.s (fun k hk hl=>hg.block k hl (fun e=>by have:=(hu k e.symm).1;omega))⟩
theorem NS.push (h:NS v bg bo GX cs n1 n2 M em mv V objs w1) (hbo:v.heap.size≤bo) (hne:bg≠bo) {V2:Value} {objs2:List S38} (hs:Kd.S k38 35 w2 v.heap.size (fun k=>n1≤k∧k<n3) V2 objs2) (hb:Below v.heap.size v w2) (hg:w1.grownBy w2 V.ownBlock) (cs':Array Value) (e:cs.setIfInBounds 0 V2=cs') :
    NS v bg bo GX cs' n1 n3 M em mv V2 objs2 (w2.setCell ⟨bo,0,none⟩ V2):=by
  have hno:∀{k:Nat} {cs:Array Value} {t:TypeId},w1.heap[k]?=some (.cells cs t (0,0))→(35:Nat)≠t→some k≠V.ownBlock:=fun hk h3=>Kd.S_ne h.s hk h3
  have ho2:=blk_grown h.o hg (hno h.o (by decide))
  have ty:=Kd.S_typed h.s
  exact⟨below_set hb hbo,blk_far (blk_grown h.g hg (hno h.g (by decide))) (p:=⟨bo,0,none⟩) hne _,blk_put ho2 0 _ e,Kd.R_set (Kd.R_over' h.m ty (int_ap 35 (by decide)) hg) ho2 (int_ap 33 (by decide)) 0 _,Kd.S_set hs ho2 (k38_ap 33 (by decide) (by decide)) 0 _⟩
theorem NS.far (h:NS v bg bo GX cs n1 n2 M em mv V objs w1) {b:Nat} {cells:Array Value} (hv:v.heap.size≤b) (ht:w1.heap[b]?=some (.cells cells 3 (0,0))) (h1:n1≤b) (h2:n2≤b) (j:Nat) (u:Value):NS v bg bo GX cs n1 n2 M em mv V objs (w1.setCell ⟨b,j,none⟩ u):=
  ⟨below_set h.b hv,blk_far h.g (p:=⟨b,j,none⟩) (blk_ne h.g ht (by decide)) u,blk_far h.o (p:=⟨b,j,none⟩) (blk_ne h.o ht (by decide)) u,Kd.R_far (p:=⟨b,j,none⟩) h.m (fun k hk e=>by have e2:k=b:=e;omega) u,Kd.S_far (p:=⟨b,j,none⟩) h.s (fun k hk e=>by have e2:k=b:=e;omega) u⟩
end
theorem S_upto {w:World} {base n:Nat} {V:Value} {objs:List S38} {ok:Nat→Prop} (h:Kd.S k38 35 w base (fun k=>n≤k∧ok k) V objs):Kd.S k38 35 w base (fun k=>n≤k∧k<w.heap.size) V objs:=
  Kd.S_mono (Kd.S_bound h) (fun k hk=>⟨hk.1.1,hk.2.2.1⟩)
end
section
section
variable {w:World} {A0 A1 A2 A3 B0 B1 B2 B3 A6:Option Addr} {c0 c1 c2 c3 d0 d1 d2 d3 c6:Nat} {l0:List S38} {l1:List Int} {l2 l3:List S60}
set_option maxHeartbeats 4000000 in
theorem specOk_c (h:InH w A0 c0 A1 c1 A2 c2 A3 c3 l0 l1 l2 l3) (h0:(l0.length:Int)≤4611686018427387903) (hf:∀x∈l0,Fit x) (h1:(l1.length:Int)≤4611686018427387903) (h2:(l2.length:Int)+l3.length≤4611686018427387903) :
    Calls Tryd.prog 20 #[.agg #[.slice A0 l0.length c0,.slice A1 l1.length c1,.slice A2 l2.length c2,.slice A3 l3.length c3]] w fun e w'=>e=.returned (.bool (okB l0 l1 l2 l3))∧Below w.heap.size w w':=by
  have HI:=AK h
  have HF:=AK (And.intro h0 (And.intro hf (And.intro h1 h2)))
  have HX:=AK (blk_new w (.cells #[.slice A0 l0.length c0,.slice A1 l1.length c1,.slice A2 l2.length c2,.slice A3 l3.length c3] 33 (0,0)))
  have HB:=AK (below_alloc (Below.refl w.heap.size w) (.cells #[.slice A0 l0.length c0,.slice A1 l1.length c1,.slice A2 l2.length c2,.slice A3 l3.length c3] 33 (0,0)))
  have hw2:wrap64 ((l2.length:Int)+l3.length)=l2.length+l3.length:=by unfold wrap64;omega
  have hw0:wrap64 ((l0.length:Int) - 1)=l0.length - 1:=by unfold wrap64;omega
  obtain⟨r,er⟩:∃r,r=okB l0 l1 l2 l3:=⟨_,rfl⟩
  rw[←er]
  have HR:=AK (show r=(!decide (60<(l0.length:Int)) && !decide (8<(l1.length:Int)) && !decide (20<(l2.length:Int)+l3.length) && (l0.all (obB l0.length) && (l1.all (inB · l0.length) && (l2.all (wtB l0) && l3.all (wtB l0)))))by
    rw[er];unfold okB;rw[←decide_not,←decide_not,←decide_not]
    rw[show decide (l0.length≤60)=decide (¬ (60<(l0.length:Int)))from decide_eq_decide.2 (by omega),show decide (l1.length≤8)=decide (¬ (8<(l1.length:Int)))from decide_eq_decide.2 (by omega),show decide (l2.length+l3.length≤20)=decide (¬ (20<(l2.length:Int)+l3.length))from decide_eq_decide.2 (by omega)]
    simp only[Bool.and_assoc])
  clear h h0 hf h1 h2 er
  obtain⟨x0,hx0⟩:∃y,decide (60<(l0.length:Int))=y:=⟨_,rfl⟩
  obtain⟨x1,hx1⟩:∃y,decide (8<(l1.length:Int))=y:=⟨_,rfl⟩
  obtain⟨x2,hx2⟩:∃y,decide (20<(l2.length:Int)+l3.length)=y:=⟨_,rfl⟩
  rw[hx0,hx1,hx2]at HR
  go_enter Tryd.func20,Tryd.ntmps20
  go_upto_region 1 with fail
  generalize w.alloc (.cells #[.slice A0 l0.length c0,.slice A1 l1.length c1,.slice A2 l2.length c2,.slice A3 l3.length c3] 33 (0,0))=w1 at HB HX ⊢
  generalize w.heap.size=n at HX ⊢
  obtain⟨p0,p1,p2,p3⟩:=box4 HX.out
  cases x0 with
  | true=>
    have h2:r=false:=HR.out
    subst h2
    go_wp2
    go_ret
    exact⟨rfl,HB.out⟩
  | false=>
  cases x1 with
  | true=>
    have h2:r=false:=HR.out
    subst h2
    go_wp2
    go_ret
    exact⟨rfl,HB.out⟩
  | false=>
  cases x2 with
  | true=>
    have h2:r=false:=HR.out
    subst h2
    go_wp2
    go_ret
    exact⟨rfl,HB.out⟩
  | false=>
  have HR1:=AK (show r=((l0.drop (0:Int).toNat).all (obB l0.length) && (l1.all (inB · l0.length) && (l2.all (wtB l0) && l3.all (wtB l0))))from HR.out)
  clear HR
  go_wp2
  clear p0 p1 p2 p3 hx0 hx1 hx2 hw2
  go_loopg [3] l0.length (fun kq v3 w'=>∃i:Int,v3=.int .i64 i∧Aside0 (0≤i∧i+kq=l0.length)∧Aside0 (r=((l0.drop i.toNat).all (obB l0.length) && (l1.all (inB · l0.length) && (l2.all (wtB l0) && l3.all (wtB l0)))))∧Aside0 (Below w.heap.size w w')∧Aside0 (w'.heap[n]?=some (.cells #[.slice A0 l0.length c0,.slice A1 l1.length c1,.slice A2 l2.length c2,.slice A3 l3.length c3] 33 (0,0))))
  case atStart=>exact⟨0,rfl,⟨by omega,by omega⟩,HR1,HB,HX⟩
  case round=>
    clear HR1 HB HX
    obtain⟨i,rfl,HI0,HR,HB,HX⟩:=hrel
    obtain⟨p0,p1,p2,p3⟩:=box4 HX.out
    cases gk with
    | succ k1=>
      have c9:decide (i<(l0.length:Int))=true:=deT (by have:=HI0.out;omega)
      have hi0:=eq_true (show 0≤i by have:=HI0.out;omega)
      have hi1:=eq_true (show i<(l0.length:Int)by have:=HI0.out;omega)
      have HM:=AK (HF.out.2.1 _ (getD_mem l0 z38 i (by have:=HI0.out;omega) (by have:=HI0.out;omega)))
      obtain⟨ad,F,f,e1,y0,y1,y2,_,hx⟩:=at_T38 (Kd.C_below HI.out.r0 HB.out) i (by have:=HI0.out;omega) (by have:=HI0.out;omega)
      subst e1
      have hr:=HR.out
      rw[drop_cons _ z38 i (by have:=HI0.out;omega) (by have:=HI0.out;omega),List.all_cons]at hr
      obtain⟨z,ez⟩:∃z,z=rd_T38 l0 i:=⟨_,rfl⟩
      rw[←ez]at y0 y1 y2 hx
      rw[show l0.getD i.toNat z38=z from ez.symm]at hr HM
      have HR2:=AK hr
      have HC:=AK hx
      have HS:=AK (show (_∧_∧_)∧_ from⟨⟨y0,y1,y2⟩,p0⟩)
      clear ez hr hx HR
      go_wp2_with fail
      clear p0 p1 p2 p3 y0 y1 y2
      go_region_held3 (fun w'=>(w'.cell? (ad.add (i.toNat*3))=some (.int .i64 z.f0)∧w'.cell? ⟨(ad.add (i.toNat*3)).block,(ad.add (i.toNat*3)).off+1,none⟩=some (.string z.f1)∧w'.cell? ⟨(ad.add (i.toNat*3)).block,(ad.add (i.toNat*3)).off+2,none⟩=some (.slice F z.f2.length f))∧w'.cell? ⟨n,0,none⟩=some (.slice (some ad) l0.length c0))
        (first|exact HS.out|exact HY.out)
        (first|(go_at_call 30;refine(l1ObjOk_c (x:=z) ⟨by omega,HF.out.1⟩ HM.out (Kd.C_below HC.out (below_drew1 (Below.refl _ _)))).mono ?_;rintro e w5 ⟨rfl,hb⟩;have HY:=AK (show (_∧_∧_)∧_ from⟨⟨pcb hb HS.out.1.1,pcb hb HS.out.1.2.1,pcb hb HS.out.1.2.2⟩,pcb hb HS.out.2⟩);have HX5:=AK (bbl (blk_drew HX.out) hb);have HB5:=AK (bst (below_drew1 HB.out) hb);clear hb))
      obtain⟨y,hy⟩:∃y,obB l0.length z=y:=⟨_,rfl⟩
      rw[hy]at HR2 ⊢
      clear hy
      cases y with
      | false=>
        have h2:r=false:=HR2.out
        subst h2
        go_wp2
        go_ret
        exact⟨rfl,HB5.out⟩
      | true=>
        have HR:=AK (show r=((l0.drop (i+1).toNat).all (obB l0.length) && (l1.all (inB · l0.length) && (l2.all (wtB l0) && l3.all (wtB l0))))from HR2.out)
        clear HR2
        go_wp2
        go_roundg k1
        case measure=>omega
        case rel=>
          rw[wrap_succ i (by have:=HI0.out;omega) (by have:=HI0.out;have:=HF.out.1;omega)]
          exact⟨i+1,rfl,⟨by have:=HI0.out;omega,by have:=HI0.out;omega⟩,HR,HB5,HX5⟩
    | zero=>
    have c9:decide (i<(l0.length:Int))=false:=deF (by have:=HI0.out;omega)
    have hr:=HR.out
    rw[drop_end _ _ (by have:=HI0.out;omega)]at hr
    have HR1:=AK (show r=((l1.drop (0:Int).toNat).all (inB · l0.length) && (l2.all (wtB l0) && l3.all (wtB l0)))from hr)
    clear hr HR HI0
    go_wp2
    clear p0 p1 p2 p3 c9
    go_loopg [4] l1.length (fun kq v4 w'=>∃i:Int,v4=.int .i64 i∧Aside0 (0≤i∧i+kq=l1.length)∧Aside0 (r=((l1.drop i.toNat).all (inB · l0.length) && (l2.all (wtB l0) && l3.all (wtB l0))))∧Aside0 (Below w.heap.size w w')∧Aside0 (w'.heap[n]?=some (.cells #[.slice A0 l0.length c0,.slice A1 l1.length c1,.slice A2 l2.length c2,.slice A3 l3.length c3] 33 (0,0))))
    case atStart=>exact⟨0,rfl,⟨by omega,by omega⟩,HR1,HB,HX⟩
    case round=>
      clear HR1 HB HX
      obtain⟨i,rfl,HI0,HR,HB,HX⟩:=hrel
      obtain⟨p0,p1,p2,p3⟩:=box4 HX.out
      cases gk with
      | succ k1=>
        have c9:decide (i<(l1.length:Int))=true:=deT (by have:=HI0.out;omega)
        have hi0:=eq_true (show 0≤i by have:=HI0.out;omega)
        have hi1:=eq_true (show i<(l1.length:Int)by have:=HI0.out;omega)
        obtain⟨ad,e1,hq⟩:=Kd.at_int (Kd.C_below HI.out.r1 HB.out) i (by have:=HI0.out;omega) (by have:=HI0.out;omega)
        subst e1
        have hr:=HR.out
        rw[drop_cons _ 0 i (by have:=HI0.out;omega) (by have:=HI0.out;omega),List.all_cons]at hr
        obtain⟨q,eq⟩:∃q,q=rd l1 i:=⟨_,rfl⟩
        rw[←eq]at hq
        rw[show l1.getD i.toNat 0=q from eq.symm,show inB q l0.length=lB q (-1) (l0.length - 1)by unfold inB lB;congr 1;exact decide_eq_decide.2 (by omega)]at hr
        have HR2:=AK hr
        clear hr eq HR
        go_wp2_with fail
        go_quiet (refine Calls.quiet_of_same (l1In_c (p:=q) (a:=-1) (b:=l0.length - 1)))
        obtain⟨y,hy⟩:∃y,lB q (-1) (l0.length - 1)=y:=⟨_,rfl⟩
        rw[hy]at HR2 ⊢
        clear hy hq
        replace HB:=AK (pw_below_drewN HB.out nq)
        replace HX:=AK (blk_drewN HX.out nq)
        cases y with
        | false=>
          have h2:r=false:=HR2.out
          subst h2
          go_wp2
          go_ret
          exact⟨rfl,HB.out⟩
        | true=>
          have HR:=AK (show r=((l1.drop (i+1).toNat).all (inB · l0.length) && (l2.all (wtB l0) && l3.all (wtB l0)))from HR2.out)
          clear HR2 p0 p1 p2 p3
          go_wp2
          go_roundg k1
          case measure=>omega
          case rel=>
            rw[wrap_succ i (by have:=HI0.out;omega) (by have:=HI0.out;have:=HF.out.2.2.1;omega)]
            exact⟨i+1,rfl,⟨by have:=HI0.out;omega,by have:=HI0.out;omega⟩,HR,HB,HX⟩
      | zero=>
        have c9:decide (i<(l1.length:Int))=false:=deF (by have:=HI0.out;omega)
        have hr:=HR.out
        rw[drop_end _ _ (by have:=HI0.out;omega)]at hr
        have HR1:=AK (show r=(l2.all (wtB l0) && l3.all (wtB l0))from hr)
        clear hr HR HI0
        go_wp2_with fail
        clear p0 p1 p2 p3
        refine(l1WatchOk_c (Kd.C_below HI.out.r0 HB.out) (Kd.C_below HI.out.r2 HB.out)).mono ?_
        rintro e w5 ⟨rfl,hb⟩
        replace HB:=AK (bst HB.out hb)
        replace HX:=AK (bbl HX.out hb)
        obtain⟨p0,p1,p2,p3⟩:=box4 HX.out
        clear hb
        obtain⟨y,hy⟩:∃y,l2.all (wtB l0)=y:=⟨_,rfl⟩
        rw[hy]at HR1 ⊢
        clear hy
        cases y with
        | false=>
          have h2:r=false:=HR1.out
          subst h2
          go_wp2
          go_ret
          exact⟨rfl,HB.out⟩
        | true=>
          have h2:r=l3.all (wtB l0):=HR1.out
          subst h2
          clear HR1
          go_wp2_with fail
          clear p0 p1 p2 p3
          refine(l1WatchOk_c (Kd.C_below HI.out.r0 HB.out) (Kd.C_below HI.out.r3 HB.out)).mono ?_
          rintro e w5 ⟨rfl,hb⟩
          replace HB:=AK (bst HB.out hb)
          clear hb
          go_wp2
          go_ret
          exact⟨rfl,HB.out⟩
end
end
end Go.Proofs.YtigjhfijkdlldaaDoor.H
