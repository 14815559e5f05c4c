import Derived.Test.YtigjhfijkdlldaaSfsYw
import Derived.Test.YtigjhfijkdlldaaSfsHsk
import Derived.Test.YtigjhfijkdlldaaSfsPv
namespace Go.Proofs.Ytigjhfijkdlldaa.H
open Go.RowKit Go.Proofs.YtigjhfijkdlldaaW.PrintWords Go.Proofs.YtigjhfijkdlldaaW.PrintLast Go.Proofs.YtigjhfijkdlldaaW.PrintMore Go.Proofs.Ytigjhfijkdlldaa.Q
set_option linter.unusedVariables false
set_option linter.unusedSimpArgs false
section
theorem next_parts {l0:List S38} {l1:List Int} {l2 l3:List S60} (h:OkH l0 l1 l2 l3) {i:Int} (h0:0≤i) (h1:i<l0.length) :
    nextL l0 l3 i=(rd_T38 l0 i).f2.drop (if(rd_T38 l0 i).f0=3 then 1 else 0)++(l3.filter (fun w=>w.f0 == i)).map (·.f1):=by
  have ho:=ob_parts (ob_at h h0 h1)
  have hf:(rd_T38 l0 i).f0≠4→l3.filter (fun w=>w.f0 == i)=[]:=fun c=>by
    refine List.filter_eq_nil_iff.2 (fun w hw e=>c ?_)
    have h5:=wt_parts (h.ds w hw)
    rw[beq_iff_eq]at e
    rw[←e];exact h5.2.2.1
  unfold nextL
  by_cases c3:(rd_T38 l0 i).f0=3
  · rw[if_pos c3,if_pos c3,hf (by omega)];simp
  · rw[if_neg c3,if_neg c3]
    by_cases c4:(rd_T38 l0 i).f0=4
    · rw[if_pos c4]
      have:(rd_T38 l0 i).f2=[]:=by rcases ho.2.2 with⟨a,b⟩|⟨a,b⟩|⟨a,b⟩|⟨a,b⟩<;>first|exact b|omega
      rw[this];rfl
    · rw[if_neg c4,hf c4];simp
theorem behind_len {n:Nat} {a l:List Int} (h:Behind n a l):l.length≤a.length+n:=by
  obtain⟨t,rfl,hg⟩:=h
  have:=nodup_len _ _ hg
  rw[List.length_append];omega
theorem putAll_cons (l:List Int) (p:Int) (xs:List Int):putAll l (p :: xs)=putAll (putL l p) xs:=rfl
theorem putL_neg {l:List Int} {p:Int} (h:p<0):putL l p=l:=by unfold putL;rw[if_pos h]
theorem putL_has {l:List Int} {p:Int} (h:p∈l):putL l p=l:=by
  unfold putL
  by_cases c:p<0
  · rw[if_pos c]
  · rw[if_neg c,if_pos h]
theorem putL_new {l:List Int} {p:Int} (h0:0≤p) (h:p ∉ l):putL l p=l++[p]:=by unfold putL;rw[if_neg (by omega),if_neg h]
theorem behind_from {l0:List S38} {l1:List Int} {l2 l3:List S60} (h:OkH l0 l1 l2 l3) {a:List Int} (ha:∀p∈a,0≤p∧p<l0.length):∀(n:Nat) (l:List Int),Behind l0.length a l→Behind l0.length a (fromL l0 l3 n l):=by
  intro n
  induction n with
  | zero=>intro l hl;exact hl
  | succ n ih=>intro l hl;exact ih _ (behind_sweep h ha _ _ _ hl)
section
variable {v w:World} {K A0 A1 A2 A3:Option Addr} {ck c0 c1 c2 c3:Nat}
set_option maxHeartbeats 4000000 in
set_option maxRecDepth 100000 in
theorem wFrom_c {l0:List S38} {l1 x a:List Int} {l2 l3:List S60} (h:InH v A0 c0 A1 c1 A2 c2 A3 c3 l0 l1 l2 l3) (hk:OkH l0 l1 l2 l3) (hB:Below v.heap.size v w) (hx:Kd.R (Kd.int .i64) 3 w v.heap.size (fun _=>True) (.slice K x.length ck) x) (hbe:Behind l0.length a x) (ha:a.length≤8) (har:∀p∈a,0≤p∧p<l0.length) :
    Calls Try.prog 94 #[.agg #[.slice A0 l0.length c0,.slice A1 l1.length c1,.slice A2 l2.length c2,.slice A3 l3.length c3],.slice K x.length ck] w fun e w'=>∃M m,e=.returned (.slice M (fromL l0 l3 (l0.length+1) x).length m)∧Kd.R (Kd.int .i64) 3 w' v.heap.size (fun _=>True) (.slice M (fromL l0 l3 (l0.length+1) x).length m) (fromL l0 l3 (l0.length+1) x)∧Below v.heap.size v w':=by
  have HH:=AK h
  have HA:=AK (And.intro ha (And.intro har hk))
  have HB:=AK (And.intro (below_alloc hB (.cells #[.slice A0 l0.length c0,.slice A1 l1.length c1,.slice A2 l2.length c2,.slice A3 l3.length c3] 28 (0,0))) (blk_new w (.cells #[.slice A0 l0.length c0,.slice A1 l1.length c1,.slice A2 l2.length c2,.slice A3 l3.length c3] 28 (0,0))))
  have HR:=AK (Kd.R_alloc hx (.cells #[.slice A0 l0.length c0,.slice A1 l1.length c1,.slice A2 l2.length c2,.slice A3 l3.length c3] 28 (0,0)))
  obtain⟨y,ey⟩:∃y,y=fromL l0 l3 (l0.length+1) x:=⟨_,rfl⟩
  have HE:=AK (And.intro hbe ey)
  have HZ:=AK (show l0.length≤60∧l3.length≤20 from⟨hk.n,by have:=hk.w;omega⟩)
  rw[←ey]
  clear h hk hB hx hbe ha har ey
  go_enter Try.func94,Try.ntmps94
  go_wp2
  generalize w.alloc (.cells #[.slice A0 l0.length c0,.slice A1 l1.length c1,.slice A2 l2.length c2,.slice A3 l3.length c3] 28 (0,0))=w1 at HB HR ⊢
  generalize w.heap.size=g at HB ⊢
  go_loopg [1,5] (l0.length+1) (fun kq v1 v5 w'=>∃(m:List Int) (M:Option Addr) (cm:Nat) (n:Int),v1=.slice M m.length cm∧v5=.int .i64 n∧Aside0 (0≤n∧n+kq=l0.length+1)∧Aside0 (Behind l0.length a m∧y=fromL l0 l3 kq m)∧Aside0 (Kd.R (Kd.int .i64) 3 w' v.heap.size (fun _=>True) (.slice M m.length cm) m)∧Aside0 (Below v.heap.size v w'∧w'.heap[g]?=some (.cells #[.slice A0 l0.length c0,.slice A1 l1.length c1,.slice A2 l2.length c2,.slice A3 l3.length c3] 28 (0,0))))
  case atStart=>exact⟨_,_,_,0,rfl,rfl,⟨by omega,by omega⟩,HE,HR,HB⟩
  case round=>
    clear HE HR HB
    obtain⟨m,M,cm,n,rfl,rfl,HIn,HE,HR,HB⟩:=hrel
    obtain⟨p0,p1,p2,p3⟩:=box4 HB.out.2
    cases gk with
    | zero=>
      have c9:decide (n≤(l0.length:Int))=false:=deF (by have:=HIn.out;omega)
      have hr:m=y:=HE.out.2.symm
      clear HE
      subst hr
      go_wp2
      go_ret
      exact⟨_,_,rfl,HR.out,HB.out.1⟩
    | succ k1=>
      have c9:decide (n≤(l0.length:Int))=true:=deT (by have:=HIn.out;omega)
      have HE2:=AK (show Behind l0.length a m∧y=fromL l0 l3 k1 (sweepL l0 l3 l0.length 0 m)from HE.out)
      clear HE
      have HE:=HE2
      clear HE2
      go_wp2
      clear c9 p0 p1 p2 p3
      go_loopg [1,6] l0.length (fun kq v1 v6 w'=>∃(m:List Int) (M:Option Addr) (cm:Nat) (i:Int),v1=.slice M m.length cm∧v6=.int .i64 i∧Aside0 (0≤i∧i+kq=l0.length)∧Aside0 (Behind l0.length a m∧y=fromL l0 l3 k1 (sweepL l0 l3 kq i m))∧Aside0 (Kd.R (Kd.int .i64) 3 w' v.heap.size (fun _=>True) (.slice M m.length cm) m)∧Aside0 (Below v.heap.size v w'∧w'.heap[g]?=some (.cells #[.slice A0 l0.length c0,.slice A1 l1.length c1,.slice A2 l2.length c2,.slice A3 l3.length c3] 28 (0,0))))
      case atStart=>exact⟨_,_,_,0,rfl,rfl,⟨by omega,by omega⟩,HE,HR,HB⟩
      case round=>
        clear HE HR HB
        obtain⟨m,M,cm,i,rfl,rfl,HIi,HE,HR,HB⟩:=hrel
        obtain⟨p0,p1,p2,p3⟩:=box4 HB.out.2
        cases gk with
        | zero=>
          have c9:decide (i<(l0.length:Int))=false:=deF (by have:=HIi.out;omega)
          go_wp2
          go_roundg k1
          case measure=>omega
          case rel=>
            rw[wrap_succ n (by have:=HIn.out;omega) (by have:=HIn.out;have:=HZ.out.1;omega)]
            exact⟨m,M,cm,n+1,rfl,rfl,⟨by have:=HIn.out;omega,by have:=HIn.out;omega⟩,HE,HR,HB⟩
        | succ k2=>
          have c9:decide (i<(l0.length:Int))=true:=deT (by have:=HIi.out;omega)
          have hi0:=eq_true (show 0≤i by have:=HIi.out;omega)
          have hi1:=eq_true (show i<(l0.length:Int)by have:=HIi.out;omega)
          obtain⟨ad,P,cp,e1,x0,x1,x2,_,hP⟩:=at_T38 HH.out.r0 i (by have:=HIi.out;omega) (by have:=HIi.out;omega)
          obtain⟨o,eo⟩:∃o,o=rd_T38 l0 i:=⟨_,rfl⟩
          rw[←eo]at x0 x2 hP
          have HX:=AK (And.intro x0 (And.intro x2 hP))
          have HI2:=AK (And.intro (of_eq_true hi0) (of_eq_true hi1))
          subst e1
          have HEO:=AK eo
          clear x0 x1 x2 hP eo
          have he:=HE.out.2
          have HE0:=AK HE.out.1
          simp only[sweepL]at he
          go_wp2_with fail
          refine(wHas_s (Kd.R_reads' HR.out).2.2 i).mono ?_
          rintro e w7 ⟨rfl,rfl⟩
          by_cases c:i∈m
          · rw[show visitL l0 l3 m i=putAll m (nextL l0 l3 i)by unfold visitL;rw[if_pos c],next_parts HA.out.2.2 (of_eq_true hi0) (of_eq_true hi1),putAll_append,←HEO.out]at he
            obtain⟨s,es⟩:∃s,s=putAll (putAll m (o.f2.drop (if o.f0=3 then 1 else 0))) ((l3.filter (fun w=>w.f0 == i)).map (·.f1)):=⟨_,rfl⟩
            rw[←es]at he
            have HY:=AK he
            have hq:o.f2.drop (if o.f0=3 then 1 else 0)=o.f2.drop (if o.f0=3 then(if(0:Int)<1 then 1 else(0:Int).toNat)else(0:Int).toNat):=by split<;>rfl
            rw[hq]at es
            have HE2:=AK (And.intro HE0.out es)
            have hc:decide (i∈m)=true:=deT c
            clear HE HE0 he hq es c
            have HE:=HE2
            clear HE2
            have HOB:=AK (show o.f2.length≤6∧(o.f0=3→o.f2.length=2)∧∀p∈o.f2,p<l0.length by
              have ho:=ob_at HA.out.2.2 HI2.out.1 HI2.out.2
              rw[←HEO.out]at ho
              obtain⟨h1,_,h3⟩:=ob_parts ho
              refine⟨?_,fun e3=>?_,fun p hp=>(h1 p hp).2⟩
              · rcases h3 with⟨_,b⟩|⟨_,b⟩|⟨_,b⟩|⟨_,b⟩<;>first|omega|(rw[b];simp)
              · rcases h3 with⟨b,_⟩|⟨b,_⟩|⟨b,c⟩|⟨b,_⟩<;>omega)
            go_wp2
            clear p0 p1 p2 p3 c9 hc
            go_loopg [1,7] o.f2.length (fun kq v1 v7 w'=>∃(m:List Int) (M:Option Addr) (cm:Nat) (k:Int),v1=.slice M m.length cm∧v7=.int .i64 k∧Aside0 (0≤k∧k+kq=o.f2.length)∧Aside0 (Behind l0.length a m∧s=putAll (putAll m (o.f2.drop (if o.f0=3 then(if k<1 then 1 else k.toNat)else k.toNat))) ((l3.filter (fun w=>w.f0 == i)).map (·.f1)))∧Aside0 (Kd.R (Kd.int .i64) 3 w' v.heap.size (fun _=>True) (.slice M m.length cm) m)∧Aside0 (Below v.heap.size v w'∧w'.heap[g]?=some (.cells #[.slice (some ad) l0.length c0,.slice A1 l1.length c1,.slice A2 l2.length c2,.slice A3 l3.length c3] 28 (0,0))))
            case atStart=>exact⟨_,_,_,0,rfl,rfl,⟨by omega,by omega⟩,HE,HR,HB⟩
            case round=>
              clear HE HR HB
              obtain⟨m,M,cm,k,rfl,rfl,HIk,HE,HR,HB⟩:=hrel
              obtain⟨p0,p1,p2,p3⟩:=box4 HB.out.2
              have x0:=pcb HB.out.1 HX.out.1
              have x2:=pcb HB.out.1 HX.out.2.1
              cases gk with
              | zero=>
                have c9:decide (k<(o.f2.length:Int))=false:=deF (by have:=HIk.out;omega)
                have hs:=HE.out.2
                rw[List.drop_eq_nil_of_le (by have:=HIk.out;have:=HOB.out.2.1;split<;>(try split)<;>omega)]at hs
                have hs2:s=putAll m (((l3.drop (0:Int).toNat).filter (fun w=>w.f0 == i)).map (·.f1)):=hs
                have HE2:=AK (And.intro HE.out.1 hs2)
                clear HE hs hs2
                have HE:=HE2
                clear HE2
                go_wp2
                clear p0 p1 p2 p3 c9 x0 x2
                go_loopg [1,8] l3.length (fun kq v1 v8 w'=>∃(m:List Int) (M:Option Addr) (cm:Nat) (j:Int),v1=.slice M m.length cm∧v8=.int .i64 j∧Aside0 (0≤j∧j+kq=l3.length)∧Aside0 (Behind l0.length a m∧s=putAll m (((l3.drop j.toNat).filter (fun w=>w.f0 == i)).map (·.f1)))∧Aside0 (Kd.R (Kd.int .i64) 3 w' v.heap.size (fun _=>True) (.slice M m.length cm) m)∧Aside0 (Below v.heap.size v w'∧w'.heap[g]?=some (.cells #[.slice (some ad) l0.length c0,.slice A1 l1.length c1,.slice A2 l2.length c2,.slice A3 l3.length c3] 28 (0,0))))
                case atStart=>exact⟨_,_,_,0,rfl,rfl,⟨by omega,by omega⟩,HE,HR,HB⟩
                case round=>
                  clear HE HR HB
                  obtain⟨m,M,cm,j,rfl,rfl,HIj,HE,HR,HB⟩:=hrel
                  obtain⟨p0,p1,p2,p3⟩:=box4 HB.out.2
                  cases gk with
                  | zero=>
                    have c9:decide (j<(l3.length:Int))=false:=deF (by have:=HIj.out;omega)
                    have hs:s=m:=by rw[HE.out.2,drop_end _ _ (by have:=HIj.out;omega)];rfl
                    have HE2:=AK (show Behind l0.length a m∧y=fromL l0 l3 k1 (sweepL l0 l3 k2 (i+1) m)from⟨HE.out.1,by rw[←hs];exact HY.out⟩)
                    clear HE hs
                    go_wp2
                    go_roundg k2
                    case measure=>omega
                    case rel=>
                      rw[wrap_succ i (by have:=HIi.out;omega) (by have:=HIi.out;have:=HZ.out.1;omega)]
                      exact⟨m,M,cm,i+1,rfl,rfl,⟨by have:=HIi.out;omega,by have:=HIi.out;omega⟩,HE2,HR,HB⟩
                  | succ k4=>
                    have c9:decide (j<(l3.length:Int))=true:=deT (by have:=HIj.out;omega)
                    have hj0:=eq_true (show 0≤j by have:=HIj.out;omega)
                    have hj1:=eq_true (show j<(l3.length:Int)by have:=HIj.out;omega)
                    obtain⟨ae,e2,u0,u1⟩:=at_T60 HH.out.r3 j (by have:=HIj.out;omega) (by have:=HIj.out;omega)
                    subst e2
                    have hs:=HE.out.2
                    rw[filter_drop l3 i j (by have:=HIj.out;omega) (by have:=HIj.out;omega)]at hs
                    have hd:=wt_parts (HA.out.2.2.ds _ (getD_mem l3 z60 j (by have:=HIj.out;omega) (by have:=HIj.out;omega)))
                    rw[show l3.getD j.toNat z60=rd_T60 l3 j from rfl]at hd
                    obtain⟨u,eu⟩:∃u,u=rd_T60 l3 j:=⟨_,rfl⟩
                    rw[←eu]at u0 u1 hs hd
                    replace u0:=pcb HB.out.1 u0
                    replace u1:=pcb HB.out.1 u1
                    obtain⟨q,eq⟩:∃q,q=u.f1:=⟨_,rfl⟩
                    rw[←eq]at u1 hs hd
                    have HQ:=AK (show 0≤q∧q<l0.length from hd.2.2.2)
                    clear hd eu eq
                    by_cases d:u.f0=i
                    · have d1:(u.f0 == i)=true:=beq_iff_eq.2 d
                      rw[if_pos d]at hs
                      clear d
                      go_wp2_with fail
                      refine(wHas_s (Kd.R_reads' HR.out).2.2 q).mono ?_
                      rintro e w7 ⟨rfl,rfl⟩
                      by_cases c:q∈m
                      · have hc:decide (q∈m)=true:=deT c
                        have HE2:=AK (And.intro HE.out.1 (show s=putAll m (((l3.drop (j+1).toNat).filter (fun w=>w.f0 == i)).map (·.f1))by rw[hs,List.singleton_append,putAll_cons,putL_has c]))
                        clear HE hs c
                        go_wp2
                        go_roundg k4
                        case measure=>omega
                        case rel=>
                          rw[wrap_succ j (by have:=HIj.out;omega) (by have:=HIj.out;have:=HZ.out.2;omega)]
                          exact⟨m,M,cm,j+1,rfl,rfl,⟨by have:=HIj.out;omega,by have:=HIj.out;omega⟩,HE2,HR,HB⟩
                      · have hc:decide (q∈m)=false:=deF c
                        obtain⟨m2,e2⟩:∃a,a=m++[q]:=⟨_,rfl⟩
                        have E2:=AK e2
                        have HE2:=AK (show Behind l0.length a m2∧s=putAll m2 (((l3.drop (j+1).toNat).filter (fun w=>w.f0 == i)).map (·.f1))by
                          rw[e2,←putL_new HQ.out.1 c];exact⟨behind_put HE.out.1 HQ.out.2,by rw[hs,List.singleton_append,putAll_cons]⟩)
                        clear e2 hs c
                        go_wp2_with ((with_reducible refine gate_builtin (b:=.append) (xs:=#[.tmp 113,.tmp 120]) rfl ?_);at_builtin;refine Kd.R_append (Kd.int .i64) (w0:=v) v.heap.size rfl (.tmp 113) (.tmp 120) 25 3 (.int .i64 0) 8 rfl Try.underlying25 info3 rfl (by decide) (by omega) (.slice M m.length cm) m q [.int .i64 q] (fun _=>True) (fun _=>False) rfl rfl ?aP (fun _ hk=>hk.elim) (fun _ _=>trivial) HR.out HB.out.1 HB.out.1.size ?aL ?_;(case aP=>exact rfl);(case aL=>have:=behind_len HE.out.1;have:=HA.out.1;have:=HA.out.2.2.n;omega);intro v3 w3 ho hb hg hat;rw[←E2.out]at ho;obtain⟨A3',c3',hv3⟩:=Kd.R_slice ho;subst hv3;have HR3:=AK ho;have HB3:=AK (And.intro hb (blk_grown HB.out.2 hg (ne_own HR.out HB.out.2 (by decide))));clear ho hb hg hat)
                        clear HE
                        have HE:=HE2
                        go_roundg k4
                        case measure=>omega
                        case rel=>
                          rw[wrap_succ j (by have:=HIj.out;omega) (by have:=HIj.out;have:=HZ.out.2;omega)]
                          exact⟨m2,A3',c3',j+1,rfl,rfl,⟨by have:=HIj.out;omega,by have:=HIj.out;omega⟩,HE2,HR3,HB3⟩
                    · have d1:(u.f0 == i)=false:=beq_eq_false_iff_ne.2 d
                      have HE2:=AK (And.intro HE.out.1 (show s=putAll m (((l3.drop (j+1).toNat).filter (fun w=>w.f0 == i)).map (·.f1))by rw[hs,if_neg d];rfl))
                      clear HE hs d
                      go_wp2
                      go_roundg k4
                      case measure=>omega
                      case rel=>
                        rw[wrap_succ j (by have:=HIj.out;omega) (by have:=HIj.out;have:=HZ.out.2;omega)]
                        exact⟨m,M,cm,j+1,rfl,rfl,⟨by have:=HIj.out;omega,by have:=HIj.out;omega⟩,HE2,HR,HB⟩
              | succ k3=>
                have c9:decide (k<(o.f2.length:Int))=true:=deT (by have:=HIk.out;omega)
                have hk0:=eq_true (show 0≤k by have:=HIk.out;omega)
                have hk1:=eq_true (show k<(o.f2.length:Int)by have:=HIk.out;omega)
                have hi0:=eq_true HI2.out.1
                have hi1:=eq_true HI2.out.2
                obtain⟨ap,e3,hq⟩:=Kd.at_int HX.out.2.2 k (by have:=HIk.out;omega) (by have:=HIk.out;omega)
                subst e3
                have hqr:=HOB.out.2.2 _ (getD_mem o.f2 0 k (by have:=HIk.out;omega) (by have:=HIk.out;omega))
                have hdc:=drop_cons o.f2 0 k (by have:=HIk.out;omega) (by have:=HIk.out;omega)
                rw[show o.f2.getD k.toNat 0=rd o.f2 k from rfl]at hqr hdc
                obtain⟨q,eq⟩:∃q,q=rd o.f2 k:=⟨_,rfl⟩
                rw[←eq]at hq hqr hdc
                replace hq:=pcb HB.out.1 hq
                have HQ:=AK hqr
                have HDC:=AK hdc
                clear hqr hdc eq
                have hs:=HE.out.2
                by_cases w3:o.f0=3∧k=0
                · obtain⟨a3,kz⟩:=w3
                  have d3:(o.f0 != 3)=false:=by simp[a3]
                  have d4:(k == 1)=false:=by rw[kz];rfl
                  have HE2:=AK (And.intro HE.out.1 (show s=putAll (putAll m (o.f2.drop (if o.f0=3 then(if k+1<1 then 1 else(k+1).toNat)else(k+1).toNat))) ((l3.filter (fun w=>w.f0 == i)).map (·.f1))by rw[hs,if_pos a3,if_pos a3,kz];rfl))
                  clear HE hs a3 kz
                  go_wp2
                  go_roundg k3
                  case measure=>omega
                  case rel=>
                    rw[wrap_succ k (by have:=HIk.out;omega) (by have:=HIk.out;have:=HOB.out.1;omega)]
                    exact⟨m,M,cm,k+1,rfl,rfl,⟨by have:=HIk.out;omega,by have:=HIk.out;omega⟩,HE2,HR,HB⟩
                · have hdr : o.f2.drop (if o.f0 = 3 then (if k < 1 then 1 else k.toNat) else k.toNat) = q :: o.f2.drop (if o.f0 = 3 then (if k + 1 < 1 then 1 else (k + 1).toNat) else (k + 1).toNat) := by
                    have:=HIk.out
                    by_cases a3:o.f0=3
                    · rw[if_pos a3,if_pos a3,if_neg (by omega),if_neg (by omega)];exact HDC.out
                    · rw[if_neg a3,if_neg a3];exact HDC.out
                  rw[hdr,putAll_cons]at hs
                  have hor:(o.f0 != 3)=true∨((o.f0 != 3)=false∧(k == 1)=true):=by
                    by_cases a3:o.f0=3
                    · have:=HIk.out;have:=HOB.out.2.1 a3
                      exact .inr ⟨by simp[a3],beq_iff_eq.2 (by omega)⟩
                    · exact .inl (bne_iff_ne.2 a3)
                  clear w3 hdr
                  rcases hor with d3|⟨d3,d4⟩
                  · by_cases n0:0≤q
                    · have n1:decide (0≤q)=true:=deT n0
                      go_wp2_with fail
                      refine(wHas_s (Kd.R_reads' HR.out).2.2 q).mono ?_
                      rintro e w7 ⟨rfl,rfl⟩
                      by_cases c:q∈m
                      · have hc:decide (q∈m)=true:=deT c
                        rw[putL_has c]at hs
                        have HE2:=AK (And.intro HE.out.1 hs)
                        clear HE hs c n0
                        go_wp2
                        go_roundg k3
                        case measure=>omega
                        case rel=>
                          rw[wrap_succ k (by have:=HIk.out;omega) (by have:=HIk.out;have:=HOB.out.1;omega)]
                          exact⟨m,M,cm,k+1,rfl,rfl,⟨by have:=HIk.out;omega,by have:=HIk.out;omega⟩,HE2,HR,HB⟩
                      · have hc:decide (q∈m)=false:=deF c
                        rw[putL_new n0 c]at hs
                        obtain⟨m2,e2⟩:∃a,a=m++[q]:=⟨_,rfl⟩
                        have E2:=AK e2
                        rw[←e2]at hs
                        have HE2:=AK (And.intro (show Behind l0.length a m2 by rw[e2,←putL_new n0 c];exact behind_put HE.out.1 HQ.out) hs)
                        clear e2 hs c n0
                        go_wp2_with ((with_reducible refine gate_builtin (b:=.append) (xs:=#[.tmp 75,.tmp 85]) rfl ?_);at_builtin;refine Kd.R_append (Kd.int .i64) (w0:=v) v.heap.size rfl (.tmp 75) (.tmp 85) 25 3 (.int .i64 0) 8 rfl Try.underlying25 info3 rfl (by decide) (by omega) (.slice M m.length cm) m q [.int .i64 q] (fun _=>True) (fun _=>False) rfl rfl ?aP (fun _ hk=>hk.elim) (fun _ _=>trivial) HR.out HB.out.1 HB.out.1.size ?aL ?_;(case aP=>exact rfl);(case aL=>have:=behind_len HE.out.1;have:=HA.out.1;have:=HA.out.2.2.n;omega);intro v3 w3 ho hb hg hat;rw[←E2.out]at ho;obtain⟨A3',c3',hv3⟩:=Kd.R_slice ho;subst hv3;have HR3:=AK ho;have HB3:=AK (And.intro hb (blk_grown HB.out.2 hg (ne_own HR.out HB.out.2 (by decide))));clear ho hb hg hat)
                        go_roundg k3
                        case measure=>omega
                        case rel=>
                          rw[wrap_succ k (by have:=HIk.out;omega) (by have:=HIk.out;have:=HOB.out.1;omega)]
                          exact⟨m2,A3',c3',k+1,rfl,rfl,⟨by have:=HIk.out;omega,by have:=HIk.out;omega⟩,HE2,HR3,HB3⟩
                    · have n1:decide (0≤q)=false:=deF n0
                      rw[putL_neg (by omega)]at hs
                      have HE2:=AK (And.intro HE.out.1 hs)
                      clear HE hs n0
                      go_wp2
                      go_roundg k3
                      case measure=>omega
                      case rel=>
                        rw[wrap_succ k (by have:=HIk.out;omega) (by have:=HIk.out;have:=HOB.out.1;omega)]
                        exact⟨m,M,cm,k+1,rfl,rfl,⟨by have:=HIk.out;omega,by have:=HIk.out;omega⟩,HE2,HR,HB⟩
                  · by_cases n0:0≤q
                    · have n1:decide (0≤q)=true:=deT n0
                      go_wp2_with fail
                      refine(wHas_s (Kd.R_reads' HR.out).2.2 q).mono ?_
                      rintro e w7 ⟨rfl,rfl⟩
                      by_cases c:q∈m
                      · have hc:decide (q∈m)=true:=deT c
                        rw[putL_has c]at hs
                        have HE2:=AK (And.intro HE.out.1 hs)
                        clear HE hs c n0
                        go_wp2
                        go_roundg k3
                        case measure=>omega
                        case rel=>
                          rw[wrap_succ k (by have:=HIk.out;omega) (by have:=HIk.out;have:=HOB.out.1;omega)]
                          exact⟨m,M,cm,k+1,rfl,rfl,⟨by have:=HIk.out;omega,by have:=HIk.out;omega⟩,HE2,HR,HB⟩
                      · have hc:decide (q∈m)=false:=deF c
                        rw[putL_new n0 c]at hs
                        obtain⟨m2,e2⟩:∃a,a=m++[q]:=⟨_,rfl⟩
                        have E2:=AK e2
                        rw[←e2]at hs
                        have HE2:=AK (And.intro (show Behind l0.length a m2 by rw[e2,←putL_new n0 c];exact behind_put HE.out.1 HQ.out) hs)
                        clear e2 hs c n0
                        go_wp2_with ((with_reducible refine gate_builtin (b:=.append) (xs:=#[.tmp 75,.tmp 85]) rfl ?_);at_builtin;refine Kd.R_append (Kd.int .i64) (w0:=v) v.heap.size rfl (.tmp 75) (.tmp 85) 25 3 (.int .i64 0) 8 rfl Try.underlying25 info3 rfl (by decide) (by omega) (.slice M m.length cm) m q [.int .i64 q] (fun _=>True) (fun _=>False) rfl rfl ?aP (fun _ hk=>hk.elim) (fun _ _=>trivial) HR.out HB.out.1 HB.out.1.size ?aL ?_;(case aP=>exact rfl);(case aL=>have:=behind_len HE.out.1;have:=HA.out.1;have:=HA.out.2.2.n;omega);intro v3 w3 ho hb hg hat;rw[←E2.out]at ho;obtain⟨A3',c3',hv3⟩:=Kd.R_slice ho;subst hv3;have HR3:=AK ho;have HB3:=AK (And.intro hb (blk_grown HB.out.2 hg (ne_own HR.out HB.out.2 (by decide))));clear ho hb hg hat)
                        go_roundg k3
                        case measure=>omega
                        case rel=>
                          rw[wrap_succ k (by have:=HIk.out;omega) (by have:=HIk.out;have:=HOB.out.1;omega)]
                          exact⟨m2,A3',c3',k+1,rfl,rfl,⟨by have:=HIk.out;omega,by have:=HIk.out;omega⟩,HE2,HR3,HB3⟩
                    · have n1:decide (0≤q)=false:=deF n0
                      rw[putL_neg (by omega)]at hs
                      have HE2:=AK (And.intro HE.out.1 hs)
                      clear HE hs n0
                      go_wp2
                      go_roundg k3
                      case measure=>omega
                      case rel=>
                        rw[wrap_succ k (by have:=HIk.out;omega) (by have:=HIk.out;have:=HOB.out.1;omega)]
                        exact⟨m,M,cm,k+1,rfl,rfl,⟨by have:=HIk.out;omega,by have:=HIk.out;omega⟩,HE2,HR,HB⟩
          · have hc:decide (i∈m)=false:=deF c
            rw[show visitL l0 l3 m i=m by unfold visitL;rw[if_neg c]]at he
            have HE2:=AK (And.intro HE0.out he)
            clear HE HE0 he c
            go_wp2
            go_roundg k2
            case measure=>omega
            case rel=>
              rw[wrap_succ i (by have:=HIi.out;omega) (by have:=HIi.out;have:=HZ.out.1;omega)]
              exact⟨m,M,cm,i+1,rfl,rfl,⟨by have:=HIi.out;omega,by have:=HIi.out;omega⟩,HE2,HR,HB⟩
theorem filter_drop1 (l:List Int) (i:Int) (h0:0≤i) (h1:i<l.length):(l.drop i.toNat).filter (fun p=>decide (0≤p))=(if 0≤rd l i then[rd l i]else[])++(l.drop (i+1).toNat).filter (fun p=>decide (0≤p)):=by
  rw[drop_cons l 0 i h0 h1,List.filter_cons,show l.getD i.toNat 0=rd l i from rfl]
  by_cases c:0≤rd l i
  · rw[if_pos (by simpa using c),if_pos c];rfl
  · rw[if_neg (by simpa using c),if_neg c];rfl
set_option maxHeartbeats 4000000 in
theorem wKnown_c {l0:List S38} {l1:List Int} {l2 l3:List S60} (h:InH w A0 c0 A1 c1 A2 c2 A3 c3 l0 l1 l2 l3) (hk:OkH l0 l1 l2 l3) :
    Calls Try.prog 36 #[.agg #[.slice A0 l0.length c0,.slice A1 l1.length c1,.slice A2 l2.length c2,.slice A3 l3.length c3]] w fun e w'=>∃M m x,e=.returned (.slice M x.length m)∧(∀p,p∈x↔p∈reachL l0 l1 l3)∧x.length≤68∧Kd.R (Kd.int .i64) 3 w' w.heap.size (fun _=>True) (.slice M x.length m) x∧Below w.heap.size w w':=by
  have HH:=AK h
  have HA:=AK hk
  have HW:=AK (show Below w.heap.size w (w.alloc (.cells #[.slice A0 l0.length c0,.slice A1 l1.length c1,.slice A2 l2.length c2,.slice A3 l3.length c3] 28 (0,0)))∧(w.alloc (.cells #[.slice A0 l0.length c0,.slice A1 l1.length c1,.slice A2 l2.length c2,.slice A3 l3.length c3] 28 (0,0))).heap[w.heap.size]?=some (.cells #[.slice A0 l0.length c0,.slice A1 l1.length c1,.slice A2 l2.length c2,.slice A3 l3.length c3] 28 (0,0))from⟨below_alloc (Below.refl _ _) _,blk_new w _⟩)
  obtain⟨r,er⟩:∃r,r=l1.filter (fun p=>decide (0≤p)):=⟨_,rfl⟩
  have ER:=AK er
  have HR0:=AK (show r=[]++(l1.drop (0:Int).toNat).filter (fun p=>decide (0≤p))from er)
  clear h hk er
  go_enter Try.func36,Try.ntmps36
  go_wp2_with ((with_reducible refine gate_dst (N:=5) rfl ?_);refine Kd.R_lit (Kd.int .i64) (w0:=w.alloc (.cells #[.slice A0 l0.length c0,.slice A1 l1.length c1,.slice A2 l2.length c2,.slice A3 l3.length c3] 28 (0,0))) (World.heap (w.alloc (.cells #[.slice A0 l0.length c0,.slice A1 l1.length c1,.slice A2 l2.length c2,.slice A3 l3.length c3] 28 (0,0)))).size 3 ?hg (N:=5) ?hd (xs:=([]:List Int)) (inner:=[]) (ok:=fun _=>True) (okp:=fun _=>True) ?hr ?hp (fun _ hk=>hk) trivial (Below.refl _ _) (Nat.le_refl _) (by simp) ?_;(case hd=>rfl);(case hg=>rfl);(case hr=>first|(go_simp;done)|(go_simp;rfl));(case hp=>exact Reps.none _ _);intro v1 w2 hr hb hg hn;obtain⟨K0,ck0,hv⟩:=Kd.R_slice hr;subst hv;have HR:=AK (Kd.R_lower hr HW.out.1.size);have HB:=AK (And.intro (bst HW.out.1 hb) (bbl HW.out.2 hb));clear hr hb hg hn)
  go_loopg [3,4] l1.length (fun kq v3 v4 w'=>∃(m:List Int) (M:Option Addr) (cm:Nat) (i:Int),v3=.slice M m.length cm∧v4=.int .i64 i∧Aside0 (0≤i∧i+kq=l1.length∧(m.length:Int)≤i)∧Aside0 (r=m++(l1.drop i.toNat).filter (fun p=>decide (0≤p)))∧Aside0 (Kd.R (Kd.int .i64) 3 w' w.heap.size (fun _=>True) (.slice M m.length cm) m)∧Aside0 (Below w.heap.size w w'∧w'.heap[w.heap.size]?=some (.cells #[.slice A0 l0.length c0,.slice A1 l1.length c1,.slice A2 l2.length c2,.slice A3 l3.length c3] 28 (0,0))))
  case atStart=>exact⟨[],K0,ck0,0,rfl,rfl,⟨by omega,by omega,by simp⟩,HR0,HR,HB⟩
  case round=>
    clear HR0 HR HB HW
    obtain⟨m,M,cm,i,rfl,rfl,HI,HE,HR,HB⟩:=hrel
    obtain⟨p0,p1,p2,p3⟩:=box4 HB.out.2
    cases gk with
    | zero=>
      have c9:decide (i<(l1.length:Int))=false:=deF (by have:=HI.out;omega)
      have hr:m=r:=by rw[HE.out,drop_end _ _ (by have:=HI.out;omega)];simp
      clear HE
      subst hr
      go_wp2_with fail
      refine(wFrom_c (a:=m) HH.out HA.out HB.out.1 HR.out ⟨[],(List.append_nil m).symm,good_nil _⟩ (by have:=HA.out.r;have:=HI.out;omega) (by rw[ER.out];exact roots_range HA.out)).mono ?_
      rintro e w5 ⟨M2,m2,rfl,hr,hb⟩
      have HZ:=AK (And.intro hr hb)
      clear hr hb
      go_wp2
      go_ret
      refine⟨M2,m2,_,rfl,fun p=>?_,?_,HZ.out⟩
      · rw[ER.out];exact known_iff HA.out p
      · obtain⟨t,et,hg⟩:=behind_from HA.out (a:=m) (by rw[ER.out];exact roots_range HA.out) (l0.length+1) m ⟨[],(List.append_nil m).symm,good_nil _⟩
        have h1:=nodup_len _ _ hg
        have h2:=HA.out.n
        have h3:=HA.out.r
        have h4:=HI.out
        rw[et,List.length_append];omega
    | succ k1=>
      have c9:decide (i<(l1.length:Int))=true:=deT (by have:=HI.out;omega)
      have hi0:=eq_true (show 0≤i by have:=HI.out;omega)
      have hi1:=eq_true (show i<(l1.length:Int)by have:=HI.out;omega)
      obtain⟨ad,e1,hq⟩:=Kd.at_int HH.out.r1 i (by have:=HI.out;omega) (by have:=HI.out;omega)
      subst e1
      have hr:=HE.out
      rw[filter_drop1 l1 i (by have:=HI.out;omega) (by have:=HI.out;omega)]at hr
      obtain⟨q,eq⟩:∃q,q=rd l1 i:=⟨_,rfl⟩
      rw[←eq]at hq hr
      replace hq:=pcb HB.out.1 hq
      clear eq
      by_cases d:0≤q
      · have d1:decide (0≤q)=true:=deT d
        rw[if_pos d]at hr
        obtain⟨m2,e2⟩:∃a,a=m++[q]:=⟨_,rfl⟩
        have E2:=AK e2
        rw[←List.append_assoc,←e2]at hr
        have HE2:=AK hr
        have HL2:=AK (show m2.length=m.length+1 by rw[e2];simp)
        clear e2 hr d HE
        go_wp2_with ((with_reducible refine gate_builtin (b:=.append) (xs:=#[.tmp 19,.tmp 25]) rfl ?_);at_builtin;refine Kd.R_append (Kd.int .i64) (w0:=w) w.heap.size rfl (.tmp 19) (.tmp 25) 25 3 (.int .i64 0) 8 rfl Try.underlying25 info3 rfl (by decide) (by omega) (.slice M m.length cm) m q [.int .i64 q] (fun _=>True) (fun _=>False) rfl rfl ?aP (fun _ hk=>hk.elim) (fun _ _=>trivial) HR.out HB.out.1 HB.out.1.size ?aL ?_;(case aP=>exact rfl);(case aL=>have:=HI.out;have:=HA.out.r;omega);intro v3 w3 ho hb hg hat;rw[←E2.out]at ho;obtain⟨A3',c3',hv3⟩:=Kd.R_slice ho;subst hv3;have HR3:=AK ho;have HB3:=AK (And.intro hb (blk_grown HB.out.2 hg (ne_own HR.out HB.out.2 (by decide))));clear ho hb hg hat)
        go_roundg k1
        case measure=>omega
        case rel=>
          rw[wrap_succ i (by have:=HI.out;omega) (by have:=HI.out;have:=HA.out.r;omega)]
          exact⟨m2,A3',c3',i+1,rfl,rfl,⟨by have:=HI.out;omega,by have:=HI.out;omega,by have:=HI.out;have:=HL2.out;omega⟩,HE2,HR3,HB3⟩
      · have d1:decide (0≤q)=false:=deF d
        rw[if_neg d]at hr
        have HE2:=AK (show r=m++(l1.drop (i+1).toNat).filter (fun p=>decide (0≤p))from hr)
        clear hr d HE
        go_wp2
        go_roundg k1
        case measure=>omega
        case rel=>
          rw[wrap_succ i (by have:=HI.out;omega) (by have:=HI.out;have:=HA.out.r;omega)]
          exact⟨m,M,cm,i+1,rfl,rfl,⟨by have:=HI.out;omega,by have:=HI.out;omega,by have:=HI.out;omega⟩,HE2,HR,HB⟩
end
end
section
theorem cmp2_symm {α β:Type} {f:α→β→Bool} {g:β→α→Bool} (h:∀a b,f a b=g b a):∀(l:List α) (m:List β),cmp2 f l m=cmp2 g m l:=by
  intro l
  induction l with
  | nil=>intro m;cases m<;>rfl
  | cons a l ih=>
    intro m
    cases m with
    | nil=>rfl
    | cons b m=>show (f a b && cmp2 f l m)=(g b a && cmp2 g m l);rw[h,ih]
theorem cmp2_map {α β:Type} {f:α→β→Bool} (g:α→β):∀(l:List α),(∀a∈l,f a (g a)=true)→cmp2 f l (l.map g)=true:=by
  intro l
  induction l with
  | nil=>intro _;rfl
  | cons a l ih=>
    intro h
    show (f a (g a) && cmp2 f l (l.map g))=true
    rw[h a (List.mem_cons_self ..),ih (fun b hb=>h b (List.mem_cons_of_mem _ hb))];rfl
theorem cmp2_refl {α:Type} {f:α→α→Bool} (l:List α) (h:∀a∈l,f a a=true):cmp2 f l l=true:=by
  have:=cmp2_map (f:=f) id l h
  rwa [List.map_id]at this
theorem dec_symm {α:Type} [DecidableEq α] (a b:α):decide (a=b)=decide (b=a):=by
  by_cases c:a=b
  · subst c;rfl
  · rw[deF c,deF (fun e=>c e.symm)]
theorem whB_symm (x y:List Int) (p q:Int):whB x y p q=whB y x q p:=by
  unfold whB;exact BEq.comm
theorem rowsB_symm (x y l m:List Int):rowsB x y l m=rowsB y x m l:=by
  unfold rowsB
  rw[dec_symm,cmp2_symm (whB_symm x y)]
theorem alikeB_symm (x y:List Int) (a b:S38):alikeB x y a b=alikeB y x b a:=by
  unfold alikeB
  rw[rowsB_symm,dec_symm a.f0,dec_symm a.f1.toList]
theorem weB_symm (a b:S60):weB a b=weB b a:=by
  unfold weB
  rw[BEq.comm (a:=a.f0),BEq.comm (a:=a.f1)]
theorem sameW_symm (l m:List S60):sameW l m=sameW m l:=by
  unfold sameW
  rw[dec_symm,cmp2_symm weB_symm]
theorem sameC_symm (l0:List S38) (l1:List Int) (l2 l3:List S60) (m0:List S38) (m1:List Int) (m2 m3:List S60) (x y:List Int) :
    sameC l0 l1 l2 l3 m0 m1 m2 m3 x y=sameC m0 m1 m2 m3 l0 l1 l2 l3 y x:=by
  unfold sameC objsB
  rw[dec_symm x.length,cmp2_symm (whB_symm x y),sameW_symm (seenW x l2),sameW_symm (seenW x l3),
    cmp2_symm (g:=fun q p=>alikeB y x (rd_T38 m0 q) (rd_T38 l0 p)) (fun p q=>alikeB_symm x y _ _) x y]
theorem same_symm (l0:List S38) (l1:List Int) (l2 l3:List S60) (m0:List S38) (m1:List Int) (m2 m3:List S60):sameB l0 l1 l2 l3 m0 m1 m2 m3=sameB m0 m1 m2 m3 l0 l1 l2 l3:=by
  unfold sameB
  rw[sameC_symm,dec_symm l1.length]
  cases okB l0 l1 l2 l3<;>cases okB m0 m1 m2 m3<;>rfl
theorem weB_refl (a:S60):weB a a=true:=by unfold weB;simp
theorem sameW_refl (l:List S60):sameW l l=true:=by
  unfold sameW
  rw[cmp2_refl l (fun a _=>weB_refl a)];simp
theorem sameC_refl (l0:List S38) (l1:List Int) (l2 l3:List S60) (x:List Int):sameC l0 l1 l2 l3 l0 l1 l2 l3 x x=true:=by
  have hw:∀p:Int,whB x x p p=true:=fun p=>by unfold whB;simp
  unfold sameC objsB
  rw[cmp2_refl l1 (fun p _=>hw p),sameW_refl,sameW_refl,cmp2_refl x (fun p _=>by
    unfold alikeB rowsB
    rw[cmp2_refl _ (fun p _=>hw p)];simp)]
  simp
theorem same_refl (l0:List S38) (l1:List Int) (l2 l3:List S60):sameB l0 l1 l2 l3 l0 l1 l2 l3=okB l0 l1 l2 l3:=by
  unfold sameB
  rw[sameC_refl,deT rfl]
  cases okB l0 l1 l2 l3<;>rfl
theorem seenW_range (n:Nat) (l:List S60) (h:∀w∈l,(0≤w.f0∧w.f0<n)∧0≤w.f1∧w.f1<n):seenW (rangeL n) l=l:=by
  unfold seenW
  rw[List.filter_eq_self.2 (fun w hw=>by
    have:=h w hw
    rw[decide_eq_true_eq,idx_rangeL n _ this.1.1 this.1.2]
    exact this.1.1)]
  conv=>rhs;rw[←List.map_id l]
  refine List.map_congr_left (fun w hw=>?_)
  have:=h w hw
  rw[idx_rangeL n _ this.1.1 this.1.2,idx_rangeL n _ this.2.1 this.2.2];rfl
theorem seen_moved (x:List Int) (l:List S60) (h:∀w∈l,w.f0∈x→w.f1∈x):seenW (rangeL x.length) (movedW x l)=seenW x l:=by
  rw[seenW_range]
  · unfold movedW seenW
    congr 1
    refine List.filter_congr (fun w hw=>?_)
    by_cases c:w.f0∈x
    · rw[deT ((idxL_nonneg x w.f0).2 c),deT ((idxL_nonneg x w.f1).2 (h w hw c))];rfl
    · rw[deF (fun e=>c ((idxL_nonneg x w.f0).1 e))];rfl
  · intro w hw
    obtain⟨u,hu,rfl⟩:=List.mem_map.1 hw
    have h2:=(List.mem_filter.1 hu).2
    rw[Bool.and_eq_true,decide_eq_true_eq,decide_eq_true_eq]at h2
    exact⟨⟨h2.1,(idxL_range x u.f0).2⟩,h2.2,(idxL_range x u.f1).2⟩
theorem tell_none {l0:List S38} {l1:List Int} {l2 l3:List S60} (h:∀w∈l2,w.f1∈reachL l0 l1 l3) (n:Nat):tellL l0 l1 (n+1) l2 l3=(l2,l3):=by
  simp only[tellL]
  rw[if_pos]
  unfold toldL
  rw[List.filter_eq_nil_iff.2 (fun w hw=>by rw[toldB_iff];exact fun e=>e.2 (h w hw))];rfl
theorem same_collected {h:Hp} (hw:∀w∈h.w,w.f1∈reachL h.o h.r h.d):sameB h.o h.r h.w h.d (collectB h).1.o (collectB h).1.r (collectB h).1.w (collectB h).1.d=h.ok:=by
  cases hk:h.ok
  · have:okB h.o h.r h.w h.d=false:=hk
    unfold sameB
    rw[this];rfl
  · obtain⟨t2,t3,ht,hk2,e1,e2⟩:=collect_eq hk
    have hh:OkH h.o h.r h.w h.d:=ok_parts hk
    rw[tell_none hw]at ht
    injection ht with a b
    subst a b
    obtain⟨x,ex⟩:∃x,x=reachL h.o h.r h.d:=⟨_,rfl⟩
    have hA:=reach_collected hk
    have hM:okB (collectB h).1.o (collectB h).1.r (collectB h).1.w (collectB h).1.d=true:=collect_ok h
    have hml:(collectB h).1.o.length=x.length:=by rw[e1,ex];exact List.length_map _
    rw[←ex]at e1 hw
    have hg:GoodL h.o.length x:=ex ▸ reach_good hh
    have hc:Closed h.o h.d (·∈x):=ex ▸ reach_closed hh
    have hk0:okB h.o h.r h.w h.d=true:=hk
    rw[hml]at hA
    unfold sameB
    rw[hM,hk0,hA,←ex,e1]
    have hwh:∀p:Int,whB x (rangeL x.length) p (wh x p)=true:=fun p=>by
      unfold whB
      rw[wh_rangeL _ _ (wh_range x p).1 (wh_range x p).2];simp
    have hr:cmp2 (whB x (rangeL x.length)) h.r (h.r.map (wh x))=true:=cmp2_map (wh x) h.r (fun p _=>hwh p)
    have ho:objsB h.o (moveL h.o h.r h.w h.d x).o x (rangeL x.length)=true:=by
      unfold objsB
      have h2:=cmp2_map (f:=fun p q=>alikeB x (rangeL x.length) (rd_T38 h.o p) (rd_T38 (moveL h.o h.r h.w h.d x).o q)) (idxL x) x (fun p hp=>by
        show alikeB x (rangeL x.length) (rd_T38 h.o p) (rd_T38 (moveL h.o h.r h.w h.d x).o (idxL x p))=true
        rw[rd_moved p hp]
        unfold alikeB rowsB objOf
        rw[cmp2_map (f:=whB x (rangeL x.length)) (wh x) _ (fun p _=>hwh p)];simp)
      rwa [map_idx_self x hg.1]at h2
    have h2:sameW (seenW x h.w) (seenW (rangeL x.length) (movedW x h.w))=true:=by
      rw[seen_moved x h.w (fun w hw2 _=>hw w hw2)];exact sameW_refl _
    have h3:sameW (seenW x h.d) (seenW (rangeL x.length) (movedW x h.d))=true:=by
      rw[seen_moved x h.d (fun w hw2 h0=>by
        have h5:=wt_parts (hh.ds w hw2)
        exact hc w.f0 h0 w.f1 (next_told hw2 h5.2.2.1) h5.2.2.2.1)];exact sameW_refl _
    have hl:decide (h.r.length=(h.r.map (wh x)).length)=true:=by simp
    show (true && (true && (decide (h.r.length=(h.r.map (wh x)).length) && sameC h.o h.r h.w h.d (moveL h.o h.r h.w h.d x).o (h.r.map (wh x)) (movedW x h.w) (movedW x h.d) x (rangeL x.length))))=true
    rw[hl]
    unfold sameC
    rw[hr,ho,h2,h3,rangeL_length]
    simp
end
section
attribute [local go_sem high] eqA60
set_option maxHeartbeats 4000000 in
set_option maxRecDepth 100000 in
theorem sameWs_calls (A B:Option Addr) (c d:Nat) (l m:List S60) (w:World) (hl:Kd.C k60 w A l.length l) (hm:Kd.C k60 w B m.length m) (hll:(l.length:Int)≤4611686018427387903) :
    Calls Try.prog 72 #[.slice A l.length c,.slice B m.length d] w fun e w'=>e=.returned (.bool (sameW l m))∧Below w.heap.size w w':=by
  have hu60:=Try.underlying60
  have HL:=AK hl
  have HM:=AK hm
  have HLL:=AK hll
  clear hl hm hll
  by_cases hlen:l.length=m.length
  · have c1:((l.length:Int) != m.length)=false:=by simp[hlen]
    have HN:=AK hlen
    have e0:sameW l m=cmp2 weB (l.drop (0:Int).toNat) (m.drop (0:Int).toNat):=by unfold sameW;rw[deT hlen];rfl
    obtain⟨r,er⟩:∃r,r=sameW l m:=⟨_,rfl⟩
    rw[←er]at e0 ⊢
    have E0:=AK e0
    clear hlen e0 er
    go_enter Try.func72,Try.ntmps72
    go_wp2
    go_loopg [13] l.length (fun kq v13 w'=>∃i:Int,v13=.int .i64 i∧Aside0 (0≤i∧i+kq=l.length)∧Aside0 (r=cmp2 weB (l.drop i.toNat) (m.drop i.toNat))∧Aside0 (Below w.heap.size w w'))
    case atStart=>exact⟨0,rfl,⟨by omega,by omega⟩,E0,⟨Below.refl _ _⟩⟩
    case round=>
      clear E0
      obtain⟨i,rfl,HI,HE,HB⟩:=hrel
      cases gk with
      | zero=>
        have c4b:decide (i<(l.length:Int))=false:=deF (by have:=HI.out;omega)
        have e:r=true:=by rw[HE.out];exact cmp2_end _ _ _ _ (by have:=HI.out;omega)
        subst e
        go_wp2
        go_ret
        exact⟨rfl,HB.out⟩
      | succ k1=>
        have hi:=HI.out
        have hn:=HN.out
        have c4b:decide (i<(l.length:Int))=true:=deT (by omega)
        have e4a:=eq_true (show 0≤i by omega)
        have e4b:=eq_true (show i<(l.length:Int)by omega)
        have e4c:=eq_true (show i<(m.length:Int)by omega)
        have he:=HE.out
        rw[cmp2_at _ l m z60 z60 i (by omega) (by omega) (by omega)]at he
        obtain⟨ad2,e2,hz0,hz1⟩:=at_T60 HL.out i (by omega) (by omega)
        subst e2
        obtain⟨ad3,e3,hy0,hy1⟩:=at_T60 HM.out i (by omega) (by omega)
        subst e3
        obtain⟨p,ep⟩:∃p,p=rd_T60 l i:=⟨_,rfl⟩
        obtain⟨q,eq⟩:∃q,q=rd_T60 m i:=⟨_,rfl⟩
        rw[←ep]at hz0 hz1
        rw[←eq]at hy0 hy1
        have HE1:=AK (show r=(weB p q && cmp2 weB (l.drop (i+1).toNat) (m.drop (i+1).toNat))by rw[ep,eq];exact he)
        replace hz0:=pcb HB.out hz0
        replace hz1:=pcb HB.out hz1
        replace hy0:=pcb HB.out hy0
        replace hy1:=pcb HB.out hy1
        clear ep eq he hi hn HE
        have HZ:=AK (And.intro (And.intro hz0 hz1) (And.intro hy0 hy1))
        by_cases cc:weB p q=true
        · have c6:(!(p.f0 == q.f0) || !(p.f1 == q.f1))=false:=by revert cc;unfold weB;cases (p.f0 == q.f0)<;>cases (p.f1 == q.f1)<;>simp
          have HE2:=AK (show r=cmp2 weB (l.drop (i+1).toNat) (m.drop (i+1).toNat)by rw[HE1.out,cc];rfl)
          clear cc HE1
          go_wp2_with fail
          go_region_held3 (fun w'=>(w'.cell? (ad2.add (i.toNat*2))=some (.int .i64 p.f0)∧w'.cell? ⟨(ad2.add (i.toNat*2)).block,(ad2.add (i.toNat*2)).off+1,none⟩=some (.int .i64 p.f1))∧w'.cell? (ad3.add (i.toNat*2))=some (.int .i64 q.f0)∧w'.cell? ⟨(ad3.add (i.toNat*2)).block,(ad3.add (i.toNat*2)).off+1,none⟩=some (.int .i64 q.f1))
            (first|exact HZ.out)
            (first|fail)
          go_wp2
          go_roundg k1
          case measure=>omega
          case rel=>
            have h1:=HI.out
            have h2:=HLL.out
            rw[wrap_succ i (by omega) (by omega)]
            exact⟨i+1,rfl,⟨by omega,by omega⟩,HE2,⟨below_drew1 HB.out⟩⟩
        · have c6:(!(p.f0 == q.f0) || !(p.f1 == q.f1))=true:=by revert cc;unfold weB;cases (p.f0 == q.f0)<;>cases (p.f1 == q.f1)<;>simp
          have e:r=false:=by rw[HE1.out,Bool.eq_false_iff.2 cc];rfl
          subst e
          clear cc HE1
          go_wp2_with fail
          go_region_held3 (fun w'=>(w'.cell? (ad2.add (i.toNat*2))=some (.int .i64 p.f0)∧w'.cell? ⟨(ad2.add (i.toNat*2)).block,(ad2.add (i.toNat*2)).off+1,none⟩=some (.int .i64 p.f1))∧w'.cell? (ad3.add (i.toNat*2))=some (.int .i64 q.f0)∧w'.cell? ⟨(ad3.add (i.toNat*2)).block,(ad3.add (i.toNat*2)).off+1,none⟩=some (.int .i64 q.f1))
            (first|exact HZ.out)
            (first|fail)
          go_wp2
          go_ret
          exact⟨rfl,below_drew1 HB.out⟩
  · have c1:((l.length:Int) != m.length)=true:=by simp;omega
    have e0:sameW l m=false:=by unfold sameW;rw[deF hlen];rfl
    rw[e0]
    clear hlen e0
    go_enter Try.func72,Try.ntmps72
    go_wp2
    go_ret
    exact⟨rfl,Below.refl _ _⟩
end
end Go.Proofs.Ytigjhfijkdlldaa.H
