import Derived.Test.YtigjhfijkdlldaaDoorSliYob
import Derived.Test.YtigjhfijkdlldaaDoorSliSa
namespace Go.Proofs.YtigjhfijkdlldaaDoor.H
open Go.RowKit Go.Proofs.YtigjhfijkdlldaaDoorW.PrintWords Go.Proofs.YtigjhfijkdlldaaDoorW.PrintLast Go.Proofs.YtigjhfijkdlldaaDoorW.PrintMore Go.Proofs.YtigjhfijkdlldaaDoor.Q
set_option linter.unusedVariables false
set_option linter.unusedSimpArgs false
section
def idxL:List Int→Int→Int
  | [],_=>-1
  | x :: l,n=>if x=n then 0 else if idxL l n<0 then -1 else idxL l n+1
theorem idxL_range (l:List Int) (n:Int):-1≤idxL l n∧idxL l n<l.length:=by
  induction l with
  | nil=>simp[idxL]
  | cons x l ih=>
    unfold idxL
    rw[List.length_cons]
    split
    · omega
    split<;>omega
theorem idxL_neg (l:List Int) (n:Int):idxL l n<0↔n ∉ l:=by
  induction l with
  | nil=>simp[idxL]
  | cons x l ih=>
    unfold idxL
    rw[List.mem_cons]
    by_cases c:x=n
    · rw[if_pos c];simp[c]
    · rw[if_neg c]
      by_cases d:idxL l n<0
      · rw[if_pos d];have:=ih.1 d;simp[Ne.symm c,this]
      · rw[if_neg d]
        have h1:n∈l:=by
          by_cases e:n∈l
          · exact e
          · exact absurd (ih.2 e) d
        have h2:=(idxL_range l n).1
        constructor
        · intro h;omega
        · intro h;exact absurd (.inr h1) h
theorem idxL_get {l:List Int} {n:Int} (h:n∈l):0≤idxL l n∧idxL l n<l.length∧rd l (idxL l n)=n:=by
  induction l with
  | nil=>cases h
  | cons x l ih=>
    have hr:=idxL_range (x :: l) n
    by_cases c:x=n
    · have e:idxL (x :: l) n=0:=by unfold idxL;rw[if_pos c]
      rw[e,List.length_cons];exact⟨by omega,by omega,c⟩
    · have h1 : n ∈ l := by rcases List.mem_cons.1 h with h | h
                            · exact absurd h.symm c
                            · exact h
      obtain⟨a,b,g⟩:=ih h1
      have e:idxL (x :: l) n=idxL l n+1:=by
        conv=>lhs;unfold idxL
        rw[if_neg c,if_neg (by omega)]
      rw[e,List.length_cons]
      refine⟨by omega,by omega,?_⟩
      unfold rd at g ⊢
      rw[show (idxL l n+1).toNat=(idxL l n).toNat+1 by omega]
      simpa using g
theorem filter_drop (l:List S60) (p y:Int) (h0:0≤y) (h1:y<l.length):((l.drop y.toNat).filter (fun x=>x.f0 == p)).map (·.f1) =
    (if(rd_T60 l y).f0=p then[(rd_T60 l y).f1]else[])++((l.drop (y+1).toNat).filter (fun x=>x.f0 == p)).map (·.f1):=by
  rw[drop_cons l z60 y h0 h1,List.filter_cons]
  show List.map _ (if((rd_T60 l y).f0 == p)=true then rd_T60 l y :: _ else _)=_
  by_cases c:(rd_T60 l y).f0=p
  · rw[if_pos c,if_pos (by rw[c];exact beq_self_eq_true p)];rfl
  · rw[if_neg c,if_neg (by simpa using c)];rfl
end
section
def wh (l:List Int) (p:Int):Int:=if p<0 then -1 else idxL l p
def weB (a b:S60):Bool:=(a.f0 == b.f0) && (a.f1 == b.f1)
end
section
theorem info4:(Tryd.prog.info? 4).map (fun i=>(i.zero,i.size,i.bytes))=some (some (.bool false),1,1):=by kernel_rfl
theorem start_inv {w w1:World} {A0 A1 A2 A3 Am:Option Addr} {c0 c1 c2 c3 cm n0 n1 n2 n3 n:Nat}
    (hm:Kd.R Kd.bool 4 w1 w.heap.size (fun _=>True) (.slice Am (List.replicate (n:Int).toNat false).length cm) (List.replicate (n:Int).toNat false)) (hb:Below w.heap.size w w1)
    (hg:((w.alloc (.cells #[.slice A0 n0 c0,.slice A1 n1 c1,.slice A2 n2 c2,.slice A3 n3 c3] 33 (0,0))).alloc (.cells #[.slice none 0 0] 29 (0,0))).grownBy w1 none) :
    RInv w (w1.alloc (.cells #[.slice Am n cm] 82 (0,0))) w.heap.size (w.heap.size+1) w1.heap.size #[.slice A0 n0 c0,.slice A1 n1 c1,.slice A2 n2 c2,.slice A3 n3 c3] n (putAll [] []):=by
  have e:(List.replicate (n:Int).toNat false).length=n:=by simp
  rw[e]at hm
  refine⟨below_alloc hb _,blk_alloc (blk_grown (blk_alloc (blk_new w _) _) hg (by simp)) _,⟨_,blk_alloc (blk_grown (blk_new1 w _ _) hg (by simp)) _,Kd.R_nil _ _ _ _ _⟩,⟨_,_,blk_new w1 _,Kd.R_alloc hm _,e,fun i h0 h1=>?_⟩,by omega⟩
  have:i.toNat<n:=by omega
  simp[rdOf,putAll,this]
theorem putAll_take (l xs:List Int) (x:Int) (h0:0≤x) (h1:x<xs.length):putL (putAll l (xs.take x.toNat)) (rd xs x)=putAll l (xs.take (x+1).toNat):=by
  have h2:x.toNat<xs.length:=by omega
  rw[show (x+1).toNat=x.toNat+1 by omega,List.take_succ_eq_append_getElem h2,putAll_append]
  unfold rd
  rw[List.getD_eq_getElem?_getD,List.getElem?_eq_getElem h2];rfl
theorem filter_take (l:List S60) (p y:Int) (h0:0≤y) (h1:y<l.length):((l.take (y+1).toNat).filter (fun x=>x.f0 == p)).map (·.f1) =
    ((l.take y.toNat).filter (fun x=>x.f0 == p)).map (·.f1)++(if((rd_T60 l y).f0 == p)=true then[(rd_T60 l y).f1]else[]):=by
  have h2:y.toNat<l.length:=by omega
  have e:rd_T60 l y=l[y.toNat]:=by unfold rd_T60;rw[List.getD_eq_getElem?_getD,List.getElem?_eq_getElem h2];rfl
  rw[show (y+1).toNat=y.toNat+1 by omega,List.take_succ_eq_append_getElem h2,List.filter_append,List.map_append,←e,List.filter_cons,List.filter_nil]
  by_cases c:((rd_T60 l y).f0 == p)=true
  · rw[if_pos c,if_pos c];rfl
  · rw[if_neg c,if_neg c];rfl
set_option maxHeartbeats 4000000 in
set_option maxRecDepth 100000 in
theorem memReach_calls (A0 A1 A2 A3:Option Addr) (c0 c1 c2 c3:Nat) (l0:List S38) (l1:List Int) (l2 l3:List S60) (w:World) (h:InH w A0 c0 A1 c1 A2 c2 A3 c3 l0 l1 l2 l3) (hok:OkH l0 l1 l2 l3) :
    Calls Tryd.prog 47 #[.agg #[.slice A0 l0.length c0,.slice A1 l1.length c1,.slice A2 l2.length c2,.slice A3 l3.length c3]] w fun e w'=>
      ∃v:Value,e=.returned v∧Kd.R (Kd.int .i64) 3 w' w.heap.size (fun _=>True) v (reachL l0 l1 l3)∧Below w.heap.size w w':=by
  have HI:=AK h
  have HK:=AK hok
  clear h hok
  go_enter Tryd.func47,Tryd.ntmps47
  go_wp2_with (first|((with_reducible refine gate_dst (N:=18) rfl ?_);refine Kd.R_make Kd.bool (w0:=w) w.heap.size 4 rfl (N:=18) rfl 82 _ _ rfl (l0.length:Int) rfl rfl Tryd.underlying82 (.bool false) 1 info4 rfl (by decide) (by omega) false (ok:=fun _=>True) (okp:=fun _=>True) rfl (fun _ hk=>hk) trivial (by omega) (by have:=HK.out.n;omega) (below_alloc (below_alloc (Below.refl _ _) _) _) (by simp;omega) ?_;intro v1 w1 ho hb hg hnew;obtain⟨Am,cm,hv1⟩:=Kd.R_slice ho;subst hv1;have HM:=AK ho;have HB:=AK hb;have HG:=AK hg;have HX0:=AK (blk_grown (blk_alloc (blk_new w (.cells #[.slice A0 l0.length c0,.slice A1 l1.length c1,.slice A2 l2.length c2,.slice A3 l3.length c3] 33 (0,0))) (.cells #[.slice none 0 0] 29 (0,0))) hg (by simp));obtain⟨q0,q1,q2,q3⟩:=box4 HX0.out;have z0:=blk_lt HX0.out;clear ho hb hg hnew))
  have HR0:=AK (start_inv HM.out HB.out HG.out)
  go_loopg [23] l1.length (fun kq v23 w'=>∃x:Int,v23=.int .i64 x∧Aside0 (0≤x∧x+kq=l1.length) ∧
    Aside0 (RInv w w' w.heap.size (w.heap.size+1) w1.heap.size #[.slice A0 l0.length c0,.slice A1 l1.length c1,.slice A2 l2.length c2,.slice A3 l3.length c3] l0.length (putAll [] (l1.take x.toNat))))
  case atStart=>exact⟨0,rfl,⟨by omega,by omega⟩,HR0⟩
  case round=>
    clear HR0 HM HB HG HX0 q0 q1 q2 q3 z0
    obtain⟨x,rfl,HX,HR⟩:=hrel
    have HGD:=AK (show GoodL l0.length (putAll [] (l1.take x.toNat))from good_putAll _ (good_nil _) (fun p hp=>(HK.out.rs p (List.mem_of_mem_take hp)).2))
    cases gk with
    | succ k1=>
      have c4b:decide (x<(l1.length:Int))=true:=deT (by have:=HX.out;omega)
      have e4a:=eq_true (show 0≤x by have:=HX.out;omega)
      have e4b:=eq_true (show x<(l1.length:Int)by have:=HX.out;omega)
      obtain⟨ad,e,hx0⟩:=Kd.at_int HI.out.r1 x (by have:=HX.out;omega) (by have:=HX.out;omega)
      subst e
      replace hx0:=pcb HR.out.bel hx0
      go_wp2_with (go_at_call 63;refine(add_calls (rd l1 x) w _ _ _ _ _ _ _ HR.out (by have:=(HK.out.rs _ (getD_mem l1 0 x (by have:=HX.out;omega) (by have:=HX.out;omega))).2;exact this) (by have:=nodup_len _ _ HGD.out;have:=HK.out.n;omega)).mono ?_;rintro e w5 ⟨rfl,hr⟩;have HR5:=AK hr;clear hr)
      go_roundg k1
      case measure=>omega
      case rel=>
        have h1:=HX.out
        have h2:=HK.out.r
        rw[wrap_succ x (by omega) (by omega)]
        refine⟨x+1,rfl,⟨by omega,by omega⟩,⟨?_⟩⟩
        have h3:=HR5.out
        rwa [putAll_take _ _ _ (by omega) (by omega)]at h3
    | zero=>
      have c4b:decide (x<(l1.length:Int))=false:=deF (by have:=HX.out;omega)
      have HX0:=AK HR.out.hh
      obtain⟨q0,q1,q2,q3⟩:=box4 HX0.out
      have HR0:=AK (show RInv w wr w.heap.size (w.heap.size+1) w1.heap.size #[.slice A0 l0.length c0,.slice A1 l1.length c1,.slice A2 l2.length c2,.slice A3 l3.length c3] l0.length (putAll [] l1)from by have h1:=HR.out;rwa [take_all _ _ (by have:=HX.out;omega)]at h1)
      have HGD0:=AK (show GoodL l0.length (putAll [] l1)from good_putAll _ (good_nil _) (fun p hp=>(HK.out.rs p hp).2))
      clear HR HX HGD HX0
      go_wp2
      go_loopg [8] (l0.length+1) (fun kq v8 w'=>∃(x:Int) (out:List Int),v8=.int .i64 x∧Aside0 (0≤x∧x+kq=l0.length+1∧x≤out.length)∧Aside0 (GoodL l0.length out)∧Aside0 (traceL l0 l3 kq x out=reachL l0 l1 l3) ∧
        Aside0 (RInv w w' w.heap.size (w.heap.size+1) w1.heap.size #[.slice A0 l0.length c0,.slice A1 l1.length c1,.slice A2 l2.length c2,.slice A3 l3.length c3] l0.length out))
      case atStart=>exact⟨0,putAll [] l1,rfl,⟨by omega,by omega,by omega⟩,HGD0,⟨rfl⟩,HR0⟩
      case round=>
        clear HR0 HGD0 q0 q1 q2 q3
        obtain⟨x,out,rfl,HX,HGD,HT,HR⟩:=hrel
        obtain⟨v,ho,hR⟩:=HR.out.ho
        obtain⟨Ao,co,rfl⟩:=Kd.R_slice hR
        have qo:=(box1 ho).1
        have HRO:=AK hR
        have hlen:=nodup_len _ _ HGD.out
        have HLEN:=AK hlen
        clear ho hR hlen
        by_cases hlt:x<(out.length:Int)
        · obtain⟨k1,rfl⟩:∃k1,gk=k1+1:=⟨gk - 1,by have:=HX.out;have:=HLEN.out;omega⟩
          have c4b:decide (x<(out.length:Int))=true:=deT hlt
          have e4a:=eq_true (show 0≤x by have:=HX.out;omega)
          have e4b:=eq_true hlt
          obtain⟨ad,e,hx0⟩:=Kd.at_int (Kd.R_reads' HRO.out).2.2 x (by have:=HX.out;omega) hlt
          subst e
          obtain⟨p,hp⟩:∃p,p=rd out x:=⟨_,rfl⟩
          rw[←hp]at hx0
          have hpr:=HGD.out.2 p (by rw[hp];exact getD_mem out 0 x (by have:=HX.out;omega) hlt)
          have e5a:=eq_true hpr.1
          have e5b:=eq_true hpr.2
          have HP:=AK hpr
          have HPE:=AK hp
          have HLT:=AK hlt
          clear hpr hp hlt
          obtain⟨ad2,Af,cf,e,hy0,hy1,hy2,hl,hg⟩:=at_T38 HI.out.r0 p HP.out.1 HP.out.2
          subst e
          replace hy0:=pcb HR.out.bel hy0
          replace hy1:=pcb HR.out.bel hy1
          replace hy2:=pcb HR.out.bel hy2
          have q0:=(box4 HR.out.hh).1
          have z0:=blk_lt HR.out.hh
          have HF:=AK hg
          clear hg
          have hT:=HT.out
          simp only[traceL]at hT
          rw[if_pos HLT.out,←HPE.out]at hT
          have HT2:=AK hT
          have HN:=AK (next_lt HK.out HP.out.1 HP.out.2)
          clear hT HT
          obtain⟨hparts,hsh,hkind⟩:=ob_parts (ob_at HK.out HP.out.1 HP.out.2)
          have HPT:=AK hparts
          clear hparts hsh
          rcases hkind with⟨hk,he⟩|⟨hk,he⟩|⟨hk,he⟩|⟨hk,he⟩
          · have b2:((rd_T38 l0 p).f0 == 2)=false:=by rw[hk];rfl
            have b3:((rd_T38 l0 p).f0 == 3)=false:=by rw[hk];rfl
            have b4:((rd_T38 l0 p).f0 == 4)=false:=by rw[hk];rfl
            have HNX:=AK (show nextL l0 l3 p=[]by unfold nextL;rw[hk,he];rfl)
            clear hk he
            go_wp2
            go_roundg k1
            case measure=>omega
            case rel=>
              have h1:=HX.out
              have h2:=HK.out.n
              have h3:=HLT.out
              have h4:=HT2.out
              rw[HNX.out]at h4
              rw[wrap_succ x (by omega) (by omega)]
              exact⟨x+1,out,rfl,⟨by omega,by omega,by omega⟩,HGD,⟨h4⟩,⟨HR.out.below (below_alloc (Below.refl _ _) _)⟩⟩
          · have b2:((rd_T38 l0 p).f0 == 2)=true:=by rw[hk];rfl
            have HNX:=AK (show nextL l0 l3 p=(rd_T38 l0 p).f2 by unfold nextL;rw[hk];rfl)
            have HE:=AK he
            clear hk he
            go_wp2
            have HR1:=AK (HR.out.below (below_alloc (Below.refl _ _) (.cells #[.int .i64 (rd_T38 l0 p).f0,.string (rd_T38 l0 p).f1,.slice Af (rd_T38 l0 p).f2.length cf] 35 (0,0))))
            clear qo q0 hy0 hy1 hy2 z0 HRO
            go_loopg [53] (rd_T38 l0 p).f2.length (fun kq v53 w'=>∃y:Int,v53=.int .i64 y∧Aside0 (0≤y∧y+kq=(rd_T38 l0 p).f2.length) ∧
              Aside0 (RInv w w' w.heap.size (w.heap.size+1) w1.heap.size #[.slice (some ad2) l0.length c0,.slice A1 l1.length c1,.slice A2 l2.length c2,.slice A3 l3.length c3] l0.length (putAll out ((rd_T38 l0 p).f2.take y.toNat))))
            case atStart=>exact⟨0,rfl,⟨by omega,by omega⟩,HR1⟩
            case round=>
              clear HR1 HR
              obtain⟨y,rfl,HY,HR⟩:=hrel
              cases gk with
              | succ k2=>
                have c5b:decide (y<((rd_T38 l0 p).f2.length:Int))=true:=deT (by have:=HY.out;omega)
                have e6a:=eq_true (show 0≤y by have:=HY.out;omega)
                have e6b:=eq_true (show y<((rd_T38 l0 p).f2.length:Int)by have:=HY.out;omega)
                obtain⟨ad3,e,hz0⟩:=Kd.at_int HF.out y (by have:=HY.out;omega) (by have:=HY.out;omega)
                subst e
                replace hz0:=pcb HR.out.bel hz0
                have HGY:=AK (good_putAll ((rd_T38 l0 p).f2.take y.toNat) HGD.out (fun q hq=>(HPT.out q (List.mem_of_mem_take hq)).2))
                go_wp2_with (go_at_call 63;refine(add_calls (rd (rd_T38 l0 p).f2 y) w _ _ _ _ _ _ _ HR.out (HPT.out _ (getD_mem (rd_T38 l0 p).f2 0 y (by have:=HY.out;omega) (by have:=HY.out;omega))).2 (by have:=nodup_len _ _ HGY.out;have:=HK.out.n;omega)).mono ?_;rintro e w5 ⟨rfl,hr⟩;have HR5:=AK hr;clear hr)
                go_roundg k2
                case measure=>omega
                case rel=>
                  have h1:=HY.out
                  have h2:=HE.out
                  rw[wrap_succ y (by omega) (by omega)]
                  refine⟨y+1,rfl,⟨by omega,by omega⟩,⟨?_⟩⟩
                  have h3:=HR5.out
                  rwa [putAll_take out (rd_T38 l0 p).f2 y (by omega) (by omega)]at h3
              | zero=>
                have c5b:decide (y<((rd_T38 l0 p).f2.length:Int))=false:=deF (by have:=HY.out;omega)
                go_wp2
                go_roundg k1
                case measure=>omega
                case rel=>
                  have h1:=HX.out
                  have h2:=HK.out.n
                  have h3:=HLT.out
                  have h4:=HT2.out
                  have h5:=HR.out
                  rw[take_all _ _ (by have:=HY.out;omega),←HNX.out]at h5
                  rw[wrap_succ x (by omega) (by omega)]
                  have h6:=(putAll_prefix (nextL l0 l3 p) out).length_le
                  exact⟨x+1,_,rfl,⟨by omega,by omega,by omega⟩,⟨good_putAll _ HGD.out HN.out⟩,⟨h4⟩,⟨h5⟩⟩
          · have b2:((rd_T38 l0 p).f0 == 2)=false:=by rw[hk];rfl
            have b3:((rd_T38 l0 p).f0 == 3)=true:=by rw[hk];rfl
            have e7:=eq_true (show (1:Int)<((rd_T38 l0 p).f2.length:Int)by omega)
            have HNX:=AK (show nextL l0 l3 p=[rd (rd_T38 l0 p).f2 1]by
              unfold nextL;rw[if_pos hk]
              match hf:(rd_T38 l0 p).f2,he with
              | [a,b],_=>rfl)
            have HPI:=AK (HPT.out _ (getD_mem (rd_T38 l0 p).f2 0 1 (by omega) (by omega))).2
            obtain⟨ad3,e,hz0⟩:=Kd.at_int HF.out 1 (by omega) (by omega)
            subst e
            replace hz0:∀o:Obj,(wr.alloc o).cell? ⟨ad3.block,ad3.off+1,none⟩=some (.int .i64 (rd (rd_T38 l0 p).f2 1)):=fun o=>by
              have h1:=pcb (below_alloc HR.out.bel o) hz0
              rwa [show ad3.add (1:Int).toNat=⟨ad3.block,ad3.off+1,none⟩by simp[Addr.add]]at h1
            have HLE:=AK HLEN.out
            clear hk he
            go_wp2_with (go_at_call 63;refine(add_calls (rd (rd_T38 l0 p).f2 1) w _ _ _ _ _ _ _ (HR.out.below (below_alloc (Below.refl _ _) _)) HPI.out (by have:=HLE.out;have:=HK.out.n;omega)).mono ?_;rintro e w5 ⟨rfl,hr⟩;have HR5:=AK hr;clear hr)
            go_roundg k1
            case measure=>omega
            case rel=>
              have h1:=HX.out
              have h2:=HK.out.n
              have h3:=HLT.out
              have h4:=HT2.out
              have h5:RInv w w5 w.heap.size (w.heap.size+1) w1.heap.size #[.slice (some ad2) l0.length c0,.slice A1 l1.length c1,.slice A2 l2.length c2,.slice A3 l3.length c3] l0.length (putAll out (nextL l0 l3 p)):=by rw[HNX.out];exact HR5.out
              rw[wrap_succ x (by omega) (by omega)]
              have h6:=(putAll_prefix (nextL l0 l3 p) out).length_le
              exact⟨x+1,_,rfl,⟨by omega,by omega,by omega⟩,⟨good_putAll _ HGD.out HN.out⟩,⟨h4⟩,⟨h5⟩⟩
          · have b2:((rd_T38 l0 p).f0 == 2)=false:=by rw[hk];rfl
            have b3:((rd_T38 l0 p).f0 == 3)=false:=by rw[hk];rfl
            have b4:((rd_T38 l0 p).f0 == 4)=true:=by rw[hk];rfl
            have HNX:=AK (show nextL l0 l3 p=(l3.filter (fun x=>x.f0 == p)).map (·.f1)by unfold nextL;rw[hk];rfl)
            have q3:=(box4 HR.out.hh).2.2.2
            clear hk he
            go_wp2
            have HR1:=AK (HR.out.below (below_alloc (Below.refl _ _) (.cells #[.int .i64 (rd_T38 l0 p).f0,.string (rd_T38 l0 p).f1,.slice Af (rd_T38 l0 p).f2.length cf] 35 (0,0))))
            clear qo q0 q3 hy0 hy1 hy2 z0 HRO
            go_loopg [74] l3.length (fun kq v74 w'=>∃y:Int,v74=.int .i64 y∧Aside0 (0≤y∧y+kq=l3.length) ∧
              Aside0 (RInv w w' w.heap.size (w.heap.size+1) w1.heap.size #[.slice (some ad2) l0.length c0,.slice A1 l1.length c1,.slice A2 l2.length c2,.slice A3 l3.length c3] l0.length (putAll out (((l3.take y.toNat).filter (fun x=>x.f0 == p)).map (·.f1)))))
            case atStart=>exact⟨0,rfl,⟨by omega,by omega⟩,HR1⟩
            case round=>
              clear HR1 HR
              obtain⟨y,rfl,HY,HR⟩:=hrel
              cases gk with
              | succ k2=>
                have c5b:decide (y<(l3.length:Int))=true:=deT (by have:=HY.out;omega)
                have e6a:=eq_true (show 0≤y by have:=HY.out;omega)
                have e6b:=eq_true (show y<(l3.length:Int)by have:=HY.out;omega)
                obtain⟨ad3,e,hz0,hz1⟩:=at_T60 HI.out.r3 y (by have:=HY.out;omega) (by have:=HY.out;omega)
                subst e
                replace hz0:=pcb HR.out.bel hz0
                replace hz1:=pcb HR.out.bel hz1
                have HW:=AK (wt_parts (HK.out.ds _ (getD_mem l3 z60 y (by have:=HY.out;omega) (by have:=HY.out;omega))))
                have HGY:=AK (good_putAll (((l3.take y.toNat).filter (fun x=>x.f0 == p)).map (·.f1)) HGD.out (fun q hq=>by
                  obtain⟨z,hz,rfl⟩:=List.mem_map.1 hq
                  exact(wt_parts (HK.out.ds z (List.mem_of_mem_take (List.mem_filter.1 hz).1))).2.2.2.2))
                have HT3:=AK (filter_take l3 p y (by have:=HY.out;omega) (by have:=HY.out;omega))
                by_cases hwp:(rd_T60 l3 y).f0=p
                · have b6:((rd_T60 l3 y).f0 == p)=true:=by rw[hwp];exact beq_self_eq_true p
                  have HB6:=AK b6
                  have HWP:=AK hwp
                  clear hwp
                  go_wp2_with (go_at_call 63;refine(add_calls (rd_T60 l3 y).f1 w _ _ _ _ _ _ _ (HR.out.below (below_alloc (Below.refl _ _) _)) HW.out.2.2.2.2 (by have:=nodup_len _ _ HGY.out;have:=HK.out.n;omega)).mono ?_;rintro e w5 ⟨rfl,hr⟩;have HR5:=AK hr;clear hr)
                  go_roundg k2
                  case measure=>omega
                  case rel=>
                    have h1:=HY.out
                    have h2:=HK.out.w
                    have h3:=HR5.out
                    have h4:=HT3.out
                    rw[if_pos HB6.out]at h4
                    rw[wrap_succ y (by omega) (by omega)]
                    refine⟨y+1,rfl,⟨by omega,by omega⟩,⟨?_⟩⟩
                    rw[h4,putAll_append];exact h3
                · have b6:((rd_T60 l3 y).f0 == p)=false:=beq_eq_false_iff_ne.2 hwp
                  have HB6:=AK b6
                  have HWP:=AK hwp
                  clear hwp
                  go_wp2
                  go_roundg k2
                  case measure=>omega
                  case rel=>
                    have h1:=HY.out
                    have h2:=HK.out.w
                    have h4:=HT3.out
                    rw[HB6.out,if_neg (by simp),List.append_nil]at h4
                    rw[wrap_succ y (by omega) (by omega)]
                    refine⟨y+1,rfl,⟨by omega,by omega⟩,⟨?_⟩⟩
                    rw[h4];exact HR.out.below (below_alloc (Below.refl _ _) _)
              | zero=>
                have c5b:decide (y<(l3.length:Int))=false:=deF (by have:=HY.out;omega)
                go_wp2
                go_roundg k1
                case measure=>omega
                case rel=>
                  have h1:=HX.out
                  have h2:=HK.out.n
                  have h3:=HLT.out
                  have h4:=HT2.out
                  have h5:=HR.out
                  rw[take_all _ _ (by have:=HY.out;omega),←HNX.out]at h5
                  rw[wrap_succ x (by omega) (by omega)]
                  have h6:=(putAll_prefix (nextL l0 l3 p) out).length_le
                  exact⟨x+1,_,rfl,⟨by omega,by omega,by omega⟩,⟨good_putAll _ HGD.out HN.out⟩,⟨h4⟩,⟨h5⟩⟩
        · have c4b:decide (x<(out.length:Int))=false:=deF hlt
          have HE:=AK (show out=reachL l0 l1 l3 by
            have h1:=HT.out
            cases gk with
            | zero=>exact h1
            | succ k=>simp only[traceL]at h1;rw[if_neg hlt]at h1;exact h1)
          clear hlt
          go_wp2
          go_ret
          exact⟨_,rfl,by rw[←HE.out];exact HRO.out,HR.out.bel⟩
end
section
set_option maxHeartbeats 400000 in
theorem MemOk1_calls (bn:Nat) (n p:Int) (w:World) (hn:w.cell? ⟨bn,0,none⟩=some (.int .i64 n)) :
    Calls Tryd.prog 61 #[.int .i64 p,.pointer (some ⟨bn,0,none⟩)] w fun e w'=>e=.returned (.bool (inB p n))∧w=w':=by
  by_cases h1:-1≤p
  · have h1b:decide (-1≤p)=true:=deT h1
    go_enter Tryd.func61,Tryd.ntmps61
    go_wp2
    go_ret
    exact⟨by simp[inB,h1b],rfl⟩
  · have h1b:decide (-1≤p)=false:=deF h1
    go_enter Tryd.func61,Tryd.ntmps61
    go_wp2
    go_ret
    exact⟨by simp[inB,h1b],rfl⟩
theorem wt_cases (l0:List S38) (x:S60):(x.f0<0∧wtB l0 x=false)∨(0≤x.f0∧((l0.length:Int)≤x.f0)∧wtB l0 x=false) ∨
    (0≤x.f0∧x.f0<l0.length∧((rd_T38 l0 x.f0).f0 != 4)=true∧wtB l0 x=false)∨(0≤x.f0∧x.f0<l0.length∧((rd_T38 l0 x.f0).f0 != 4)=false∧x.f1<0∧wtB l0 x=false) ∨
    (0≤x.f0∧x.f0<l0.length∧((rd_T38 l0 x.f0).f0 != 4)=false∧0≤x.f1∧((l0.length:Int)≤x.f1)∧wtB l0 x=false) ∨
    (0≤x.f0∧x.f0<l0.length∧((rd_T38 l0 x.f0).f0 != 4)=false∧0≤x.f1∧x.f1<l0.length∧wtB l0 x=true):=by
  unfold wtB
  by_cases a:x.f0<0
  · exact .inl ⟨a,by rw[deF (by omega)];rfl⟩
  by_cases b:(l0.length:Int)≤x.f0
  · exact .inr (.inl ⟨by omega,b,by rw[deT (show 0≤x.f0 by omega),deF (show ¬ x.f0<l0.length by omega)];rfl⟩)
  rw[deT (show 0≤x.f0 by omega),deT (show x.f0<l0.length by omega)]
  by_cases c:(rd_T38 l0 x.f0).f0=4
  · have c':((rd_T38 l0 x.f0).f0 != 4)=false:=by rw[c];rfl
    by_cases d:x.f1<0
    · exact .inr (.inr (.inr (.inl ⟨by omega,by omega,c',d,by rw[deT c,deF (show ¬ 0≤x.f1 by omega)];rfl⟩)))
    by_cases e:(l0.length:Int)≤x.f1
    · exact .inr (.inr (.inr (.inr (.inl ⟨by omega,by omega,c',by omega,e,by rw[deT c,deT (show 0≤x.f1 by omega),deF (show ¬ x.f1<l0.length by omega)];rfl⟩))))
    · exact .inr (.inr (.inr (.inr (.inr ⟨by omega,by omega,c',by omega,by omega,by rw[deT c,deT (show 0≤x.f1 by omega),deT (show x.f1<l0.length by omega)];rfl⟩))))
  · exact .inr (.inr (.inl ⟨by omega,by omega,by rw[bne_iff_ne];exact c,by rw[deF c];rfl⟩))
set_option maxHeartbeats 2000000 in
set_option maxRecDepth 100000 in
theorem MemOk_calls (A0 A1 A2 A3:Option Addr) (c0 c1 c2 c3:Nat) (l0:List S38) (l1:List Int) (l2 l3:List S60) (w:World)
   (hr0:Kd.C k38 w A0 l0.length l0) (hr1:Kd.C (Kd.int .i64) w A1 l1.length l1) (hr2:Kd.C k60 w A2 l2.length l2) (hr3:Kd.C k60 w A3 l3.length l3)
   (hb:(l2.length:Int)+l3.length≤4611686018427387903) (hfit:∀x∈l0,Fit x) :
   Calls Tryd.prog 46 #[.agg #[.slice A0 l0.length c0,.slice A1 l1.length c1,.slice A2 l2.length c2,.slice A3 l3.length c3]] w fun e w'=>e=.returned (.bool (okB l0 l1 l2 l3))∧Below w.heap.size w w':=by
  have HR0:=AK hr0
  have HR1:=AK hr1
  have HR2:=AK hr2
  have HR3:=AK hr3
  have HFIT:=AK hfit
  clear hr0 hr1 hr2 hr3 hfit
  have HB:=AK (Below.refl w.heap.size w)
  by_cases c1:(60:Int)<l0.length
  · have c1b:decide ((60:Int)<l0.length)=true:=deT c1
    have C1:=AK c1
    clear c1
    go_enter Tryd.func46,Tryd.ntmps46
    go_wp2
    go_ret
    refine⟨?_,?_⟩
    · have:=C1.out;simp[okB];intro h;omega
    · exact below_alloc HB.out _
  have C1:=AK c1
  have c1b:decide ((60:Int)<l0.length)=false:=deF c1
  clear c1
  by_cases c2:(8:Int)<l1.length
  · have c2b:decide ((8:Int)<l1.length)=true:=deT c2
    have C2:=AK c2
    clear c2
    go_enter Tryd.func46,Tryd.ntmps46
    go_wp2
    go_ret
    refine⟨?_,?_⟩
    · have:=C2.out;simp[okB];intro h;omega
    · exact below_alloc HB.out _
  have C2:=AK c2
  have c2b:decide ((8:Int)<l1.length)=false:=deF c2
  clear c2
  by_cases c3:(20:Int)<l2.length+l3.length
  · have c3b:decide ((20:Int)<l2.length+l3.length)=true:=deT c3
    have C3:=AK c3
    clear c3
    go_enter Tryd.func46,Tryd.ntmps46
    go_wp2
    go_ret
    refine⟨?_,?_⟩
    · have:=C3.out;simp[okB];intro h;omega
    · exact below_alloc HB.out _
  have C3:=AK c3
  have c3b:decide ((20:Int)<l2.length+l3.length)=false:=deF c3
  clear c3
  go_enter Tryd.func46,Tryd.ntmps46
  go_wp2
  go_loopg [42] l0.length (fun kq v42 w'=>∃x:Int,v42=.int .i64 x∧Aside0 (0≤x∧x+kq=l0.length)∧Aside0 ((l0.take x.toNat).all (obB l0.length)=true)∧Aside0 (w'.heap[w.heap.size]?=some (.cells #[.slice A0 l0.length c0,.slice A1 l1.length c1,.slice A2 l2.length c2,.slice A3 l3.length c3] 33 (0,0)))∧Aside0 (w'.heap[w.heap.size+1]?=some (.cells #[.int .i64 l0.length] 3 (0,0)))∧Aside0 (Below w.heap.size w w'))
  case atStart=>exact⟨0,rfl,⟨by omega,by omega⟩,⟨rfl⟩,⟨blk_alloc (blk_new w _) _⟩,⟨blk_new1 w _ _⟩,⟨below_alloc (below_alloc HB.out _) _⟩⟩
  case round=>
    clear HB
    obtain⟨x,rfl,HX,HA,BK,BN,HB⟩:=hrel
    cases gk with
    | succ k1=>
      have c4b:decide (x<(l0.length:Int))=true:=deT (by have:=HX.out;omega)
      have e4a:=eq_true (show 0≤x by have:=HX.out;omega)
      have e4b:=eq_true (show x<(l0.length:Int)by have:=HX.out;omega)
      obtain⟨ad,Ao,co,e,hx0,hx1,hx2,hl,hg⟩:=at_T38 HR0.out x (by have:=HX.out;omega) (by have:=HX.out;omega)
      subst e
      replace hx0:=pcb HB.out hx0
      replace hx1:=pcb HB.out hx1
      replace hx2:=pcb HB.out hx2
      have HG:=AK (Kd.C_below hg HB.out)
      have HG0:=AK hg
      clear hg
      cases hsb:shB (rd_T38 l0 x)with
      | false=>
        have HS:=AK hsb
        clear hsb
        go_wp2_with (go_at_call 62;refine(memObjOk_calls (rd_T38 l0 x) _ _ _ (HFIT.out _ (getD_mem l0 z38 x (by have:=HX.out;omega) (by have:=HX.out;omega))) (Kd.C_alloc HG.out _) hl).mono ?_;rintro e w5 ⟨rfl,hb5⟩;rw[HS.out];have HB5:=AK hb5;clear hb5)
        go_ret
        refine⟨?_,bst (below_alloc HB.out _) HB5.out⟩
        have h1:l0.all (obB l0.length)=false:=all_fails l0 _ z38 x (by have:=HX.out;omega) (by have:=HX.out;omega) (by show (shB (rd_T38 l0 x) && _)=false;rw[HS.out];rfl)
        simp[okB,h1]
      | true=>
        have HS:=AK hsb
        clear hsb
        go_wp2_with (go_at_call 62;refine(memObjOk_calls (rd_T38 l0 x) _ _ _ (HFIT.out _ (getD_mem l0 z38 x (by have:=HX.out;omega) (by have:=HX.out;omega))) (Kd.C_alloc HG.out _) hl).mono ?_;rintro e w5 ⟨rfl,hb5⟩;rw[HS.out];have HB5:=AK (bst (below_alloc HB.out _) hb5);have HC5:=AK hb5;have q2:=((box3 (bbl (blk_new wr _) hb5)).2.2);clear hb5)
        have BK5:=AK (bbl (blk_alloc BK.out _) HC5.out)
        have BN5:=AK (bbl (blk_alloc BN.out _) HC5.out)
        clear BK BN
        go_loopg [52] (rd_T38 l0 x).f2.length (fun kq v52 w'=>∃y:Int,v52=.int .i64 y∧Aside0 (0≤y∧y+kq=(rd_T38 l0 x).f2.length)∧Aside0 (((rd_T38 l0 x).f2.take y.toNat).all (inB · l0.length)=true)∧Aside0 (w'.heap[w.heap.size]?=some (.cells #[.slice (some ad) l0.length c0,.slice A1 l1.length c1,.slice A2 l2.length c2,.slice A3 l3.length c3] 33 (0,0)))∧Aside0 (w'.heap[w.heap.size+1]?=some (.cells #[.int .i64 l0.length] 3 (0,0)))∧Aside0 (Below w.heap.size w w'))
        case atStart=>exact⟨0,rfl,⟨by omega,by omega⟩,⟨rfl⟩,BK5,BN5,HB5⟩
        case round=>
          clear BK5 BN5 HB5 HC5
          obtain⟨y,rfl,HY,HA2,BK,BN,HB2⟩:=hrel
          cases gk with
          | succ k2=>
            have c5b:decide (y<((rd_T38 l0 x).f2.length:Int))=true:=deT (by have:=HY.out;omega)
            have e5a:=eq_true (show 0≤y by have:=HY.out;omega)
            have e5b:=eq_true (show y<((rd_T38 l0 x).f2.length:Int)by have:=HY.out;omega)
            obtain⟨ad2,e,hy0⟩:=Kd.at_int HG0.out y (by have:=HY.out;omega) (by have:=HY.out;omega)
            subst e
            replace hy0:=pcb HB2.out hy0
            have hn:=(box1 BN.out).1
            cases hin:inB (rd (rd_T38 l0 x).f2 y) l0.length with
            | false=>
              have HI:=AK hin
              clear hin
              go_wp2_with (go_at_call 61;refine(MemOk1_calls _ _ _ _ hn).mono ?_;rintro e w5 ⟨rfl,rfl⟩;rw[HI.out])
              go_ret
              refine⟨?_,HB2.out⟩
              have h1:(rd_T38 l0 x).f2.all (inB · l0.length)=false:=all_fails _ _ 0 y (by have:=HY.out;omega) (by have:=HY.out;omega) HI.out
              have h2:l0.all (obB l0.length)=false:=all_fails l0 _ z38 x (by have:=HX.out;omega) (by have:=HX.out;omega) (by show (shB (rd_T38 l0 x) && (rd_T38 l0 x).f2.all (inB · l0.length))=false;rw[h1,Bool.and_false])
              simp[okB,h2]
            | true=>
              have HI:=AK hin
              clear hin
              go_wp2_with (go_at_call 61;refine(MemOk1_calls _ _ _ _ hn).mono ?_;rintro e w5 ⟨rfl,rfl⟩;rw[HI.out])
              go_roundg k2
              case measure=>omega
              case rel=>
                have h1:=HY.out
                have h2:=HG0.out.2.1
                rw[wrap_succ y (by omega) (by omega)]
                exact⟨y+1,rfl,⟨by omega,by omega⟩,⟨by rw[all_take_succ _ _ 0 _ (by omega) (by omega),HA2.out];exact HI.out⟩,BK,BN,HB2⟩
          | zero=>
            have c5b:decide (y<((rd_T38 l0 x).f2.length:Int))=false:=deF (by have:=HY.out;omega)
            go_wp2
            go_roundg k1
            case measure=>omega
            case rel=>
              have h1:=HX.out
              have h2:=HR0.out.2.1
              have h3:=HA2.out
              rw[take_all _ _ (by have:=HY.out;omega)]at h3
              rw[wrap_succ x (by omega) (by omega)]
              exact⟨x+1,rfl,⟨by omega,by omega⟩,⟨by rw[all_take_succ _ _ z38 _ (by omega) (by omega),HA.out];show (shB (rd_T38 l0 x) && (rd_T38 l0 x).f2.all (inB · l0.length))=true;rw[h3,HS.out];rfl⟩,BK,BN,HB2⟩
    | zero=>
      have c4b:decide (x<(l0.length:Int))=false:=deF (by have:=HX.out;omega)
      obtain⟨-,q1,-,-⟩:=box4 BK.out
      have HA0:=AK (show l0.all (obB l0.length)=true by have h1:=HA.out;have h2:=HX.out;rwa [take_all _ _ (by omega)]at h1)
      clear HA HX
      go_wp2
      go_loopg [65] l1.length (fun kq v42 w'=>∃x:Int,v42=.int .i64 x∧Aside0 (0≤x∧x+kq=l1.length)∧Aside0 ((l1.take x.toNat).all (inB · l0.length)=true)∧Aside0 (w'.heap[w.heap.size]?=some (.cells #[.slice A0 l0.length c0,.slice A1 l1.length c1,.slice A2 l2.length c2,.slice A3 l3.length c3] 33 (0,0)))∧Aside0 (w'.heap[w.heap.size+1]?=some (.cells #[.int .i64 l0.length] 3 (0,0)))∧Aside0 (Below w.heap.size w w'))
      case atStart=>exact⟨0,rfl,⟨by omega,by omega⟩,⟨rfl⟩,BK,BN,HB⟩
      case round=>
        clear HB BK BN
        obtain⟨x,rfl,HX,HA,BK,BN,HB⟩:=hrel
        cases gk with
        | succ k1=>
          have c5b:decide (x<(l1.length:Int))=true:=deT (by have:=HX.out;omega)
          have e5a:=eq_true (show 0≤x by have:=HX.out;omega)
          have e5b:=eq_true (show x<(l1.length:Int)by have:=HX.out;omega)
          obtain⟨ad2,e,hy0⟩:=Kd.at_int HR1.out x (by have:=HX.out;omega) (by have:=HX.out;omega)
          subst e
          replace hy0:=pcb HB.out hy0
          have hn:=(box1 BN.out).1
          cases hin:inB (rd l1 x) l0.length with
          | false=>
            have HI:=AK hin
            clear hin
            go_wp2_with (go_at_call 61;refine(MemOk1_calls _ _ _ _ hn).mono ?_;rintro e w5 ⟨rfl,rfl⟩;rw[HI.out])
            go_ret
            refine⟨?_,HB.out⟩
            have h1:l1.all (inB · l0.length)=false:=all_fails _ _ 0 x (by have:=HX.out;omega) (by have:=HX.out;omega) HI.out
            simp[okB,h1]
          | true=>
            have HI:=AK hin
            clear hin
            go_wp2_with (go_at_call 61;refine(MemOk1_calls _ _ _ _ hn).mono ?_;rintro e w5 ⟨rfl,rfl⟩;rw[HI.out])
            go_roundg k1
            case measure=>omega
            case rel=>
              have h1:=HX.out
              have h2:=HR1.out.2.1
              rw[wrap_succ x (by omega) (by omega)]
              exact⟨x+1,rfl,⟨by omega,by omega⟩,⟨by rw[all_take_succ _ _ 0 _ (by omega) (by omega),HA.out];exact HI.out⟩,BK,BN,HB⟩
        | zero=>
          have c5b:decide (x<(l1.length:Int))=false:=deF (by have:=HX.out;omega)
          have HA1:=AK (show l1.all (inB · l0.length)=true by have h1:=HA.out;have h2:=HX.out;rwa [take_all _ _ (by omega)]at h1)
          clear HA HX
          obtain⟨q0,q1,q2,q3⟩:=box4 BK.out
          go_wp2
          obtain⟨wr1,hwr1⟩:∃wr1,wr1=wr:=⟨_,rfl⟩
          subst hwr1
          have BL0:=AK (blk_new wr1 (.cells #[.slice A2 l2.length c2,.slice A3 l3.length c3] 31 (0,0)))
          go_loopg [80] 2 (fun kq v80 w'=>∃x:Int,v80=.int .i64 x∧Aside0 (0≤x∧x+kq=2)∧Aside0 ((1≤x→l2.all (wtB l0)=true)∧(2≤x→l3.all (wtB l0)=true))∧Aside0 (w'.heap[w.heap.size]?=some (.cells #[.slice A0 l0.length c0,.slice A1 l1.length c1,.slice A2 l2.length c2,.slice A3 l3.length c3] 33 (0,0)))∧Aside0 (w'.heap[w.heap.size+1]?=some (.cells #[.int .i64 l0.length] 3 (0,0)))
            ∧ Aside0 (w'.heap[wr1.heap.size]?=some (.cells #[.slice A2 l2.length c2,.slice A3 l3.length c3] 31 (0,0)))∧Aside0 (Below w.heap.size w w'))
          case atStart=>exact⟨0,rfl,⟨by omega,by omega⟩,⟨by intro h;omega,by intro h;omega⟩,⟨blk_alloc BK.out _⟩,⟨blk_alloc BN.out _⟩,BL0,⟨below_alloc HB.out _⟩⟩
          case round=>
            clear HB BK BN BL0 q2 q3
            obtain⟨x,rfl,HX,HA,BK,BN,BL,HB⟩:=hrel
            cases gk with
            | succ k1=>
              have c6b:decide (x<2)=true:=deT (by have:=HX.out;omega)
              have e6a:=eq_true (show 0≤x by have:=HX.out;omega)
              have e6b:=eq_true (show x<2 by have:=HX.out;omega)
              obtain ⟨L, AL, cL, HRL, hbx, hno, hyes⟩ : ∃ (L : List S60) (AL : Option Addr) (cL : Nat), Aside0 (Kd.C k60 w AL L.length L) ∧ wr.cell? ⟨wr1.heap.size, x.toNat, none⟩ = some (.slice AL L.length cL) ∧
                  Aside0 (L.all (wtB l0)=false→okB l0 l1 l2 l3=false)∧Aside0 (L.all (wtB l0)=true→(1≤x+1→l2.all (wtB l0)=true)∧(2≤x+1→l3.all (wtB l0)=true)):=by
                have h1:=HX.out
                have h2:=HA.out
                by_cases hx:x=0
                · subst hx
                  exact⟨l2,A2,c2,HR2,(box2 BL.out).1,⟨fun h=>by simp[okB,h]⟩,⟨fun h=>⟨fun _=>h,fun h'=>by omega⟩⟩⟩
                · obtain rfl:x=1:=by omega
                  exact⟨l3,A3,c3,HR3,(box2 BL.out).2,⟨fun h=>by simp[okB,h]⟩,⟨fun h=>⟨fun _=>h2.1 (by omega),fun h'=>h⟩⟩⟩
              go_wp2
              go_loopg [86] L.length (fun kq v86 w'=>∃y:Int,v86=.int .i64 y∧Aside0 (0≤y∧y+kq=L.length)∧Aside0 ((L.take y.toNat).all (wtB l0)=true)∧Aside0 (w'.heap[w.heap.size]?=some (.cells #[.slice A0 l0.length c0,.slice A1 l1.length c1,.slice A2 l2.length c2,.slice A3 l3.length c3] 33 (0,0)))∧Aside0 (w'.heap[w.heap.size+1]?=some (.cells #[.int .i64 l0.length] 3 (0,0)))
                ∧ Aside0 (w'.heap[wr1.heap.size]?=some (.cells #[.slice A2 l2.length c2,.slice A3 l3.length c3] 31 (0,0)))∧Aside0 (Below w.heap.size w w'))
              case atStart=>exact⟨0,rfl,⟨by omega,by omega⟩,⟨rfl⟩,BK,BN,BL,HB⟩
              case round=>
                clear HB BK BN BL hbx
                obtain⟨y,rfl,HY,HA2,BK,BN,BL,HB⟩:=hrel
                cases gk with
                | succ k2=>
                  have c7b:decide (y<(L.length:Int))=true:=deT (by have:=HY.out;omega)
                  have e7a:=eq_true (show 0≤y by have:=HY.out;omega)
                  have e7b:=eq_true (show y<(L.length:Int)by have:=HY.out;omega)
                  obtain⟨ad,e,hy0,hy1⟩:=at_T60 HRL.out y (by have:=HY.out;omega) (by have:=HY.out;omega)
                  subst e
                  replace hy0:=pcb HB.out hy0
                  replace hy1:=pcb HB.out hy1
                  have hn:=(box1 BN.out).1
                  have q0:=(box4 BK.out).1
                  have z0:w.heap.size+1<wr.heap.size:=blk_lt BN.out
                  have z1:w.heap.size<wr.heap.size:=blk_lt BK.out
                  have hbad:wtB l0 (rd_T60 L y)=false→okB l0 l1 l2 l3=false:=fun h=>hno.out (all_fails L _ z60 y (by have:=HY.out;omega) (by have:=HY.out;omega) h)
                  have HBAD:=AK hbad
                  clear hbad
                  rcases wt_cases l0 (rd_T60 L y)with⟨d1,hw⟩|⟨d1,d2,hw⟩|⟨d1,d2,d3,hw⟩|⟨d1,d2,d3,d4,hw⟩|⟨d1,d2,d3,d4,d5,hw⟩|⟨d1,d2,d3,d4,d5,hw⟩
                  · have HW:=AK hw
                    clear hw
                    go_wp2
                    go_ret
                    exact⟨by rw[HBAD.out HW.out];rfl,below_alloc HB.out _⟩
                  · have HW:=AK hw
                    clear hw
                    go_wp2
                    go_ret
                    exact⟨by rw[HBAD.out HW.out];rfl,below_alloc HB.out _⟩
                  all_goals
                    have HW:=AK hw
                    clear hw
                    obtain⟨ad4,Ao,co,e,hz0,-,-,-,-⟩:=at_T38 HR0.out (rd_T60 L y).f0 d1 d2
                    subst e
                    replace hz0:=fun(o:Obj)=>pcb (below_alloc HB.out o) hz0
                  · go_wp2
                    go_ret
                    exact⟨by rw[HBAD.out HW.out];rfl,below_alloc HB.out _⟩
                  · go_wp2
                    go_ret
                    exact⟨by rw[HBAD.out HW.out];rfl,below_alloc HB.out _⟩
                  · go_wp2
                    go_ret
                    exact⟨by rw[HBAD.out HW.out];rfl,below_alloc HB.out _⟩
                  · go_wp2
                    go_roundg k2
                    case measure=>omega
                    case rel=>
                      have h1:=HY.out
                      have h2:=HRL.out.2.1
                      rw[wrap_succ y (by omega) (by omega)]
                      exact⟨y+1,rfl,⟨by omega,by omega⟩,⟨by rw[all_take_succ _ _ z60 _ (by omega) (by omega),HA2.out];exact HW.out⟩,⟨blk_alloc BK.out _⟩,⟨blk_alloc BN.out _⟩,⟨blk_alloc BL.out _⟩,⟨below_alloc HB.out _⟩⟩
                | zero=>
                  have c7b:decide (y<(L.length:Int))=false:=deF (by have:=HY.out;omega)
                  go_wp2
                  go_roundg k1
                  case measure=>omega
                  case rel=>
                    have h1:=HX.out
                    have h3:=HA2.out
                    rw[take_all _ _ (by have:=HY.out;omega)]at h3
                    rw[wrap_succ x (by omega) (by omega)]
                    exact⟨x+1,rfl,⟨by omega,by omega⟩,⟨hyes.out h3⟩,BK,BN,BL,HB⟩
            | zero=>
              have c6b:decide (x<2)=false:=deF (by have:=HX.out;omega)
              go_wp2
              go_ret
              refine⟨?_,HB.out⟩
              have h1:=HA.out
              have h2:=HX.out
              have h3:=C1.out
              have h4:=C2.out
              have h5:=C3.out
              simp only[okB,HA0.out,HA1.out,h1.1 (by omega),h1.2 (by omega),deT (show l0.length≤60 by omega),deT (show l1.length≤8 by omega),deT (show l2.length+l3.length≤20 by omega)]
              rfl
end
section
def reachA (l0:List S38) (l1:List Int) (l2 l3:List S60):List Int:=if okB l0 l1 l2 l3=true then reachL l0 l1 l3 else[]
theorem trace_good {l0:List S38} {l1:List Int} {l2 l3:List S60} (h:OkH l0 l1 l2 l3):∀(m:Nat) (i:Int) (l:List Int),GoodL l0.length l→0≤i→GoodL l0.length (traceL l0 l3 m i l):=by
  intro m
  induction m with
  | zero=>intro i l hg _;exact hg
  | succ m ih=>
    intro i l hg h0
    simp only[traceL]
    split
    · rename_i c
      have hp:=hg.2 (rd l i) (getD_mem l 0 i h0 c)
      exact ih _ _ (good_putAll _ hg (next_lt h hp.1 hp.2)) (by omega)
    · exact hg
theorem reach_good {l0:List S38} {l1:List Int} {l2 l3:List S60} (h:OkH l0 l1 l2 l3):GoodL l0.length (reachL l0 l1 l3):=
  trace_good h _ _ _ (good_putAll _ (good_nil _) (fun p hp=>(h.rs p hp).2)) (by omega)
set_option maxHeartbeats 1000000 in
theorem MemReach_calls (A0 A1 A2 A3:Option Addr) (c0 c1 c2 c3:Nat) (l0:List S38) (l1:List Int) (l2 l3:List S60) (w:World) (h:InH w A0 c0 A1 c1 A2 c2 A3 c3 l0 l1 l2 l3)
    (hb:(l2.length:Int)+l3.length≤4611686018427387903) (hf:∀x∈l0,Fit x) :
    Calls Tryd.prog 28 #[.agg #[.slice A0 l0.length c0,.slice A1 l1.length c1,.slice A2 l2.length c2,.slice A3 l3.length c3]] w fun e w'=>
      ∃v:Value,e=.returned v∧Kd.R (Kd.int .i64) 3 w' w.heap.size (fun _=>True) v (reachA l0 l1 l2 l3)∧Below w.heap.size w w':=by
  have HI:=AK (h.below (below_alloc (Below.refl _ _) (.cells #[.slice A0 l0.length c0,.slice A1 l1.length c1,.slice A2 l2.length c2,.slice A3 l3.length c3] 33 (0,0))))
  have HF:=AK hf
  have HB:=AK (below_alloc (Below.refl w.heap.size w) (.cells #[.slice A0 l0.length c0,.slice A1 l1.length c1,.slice A2 l2.length c2,.slice A3 l3.length c3] 33 (0,0)))
  have HW:=AK hb
  have HX:=AK (blk_new w (.cells #[.slice A0 l0.length c0,.slice A1 l1.length c1,.slice A2 l2.length c2,.slice A3 l3.length c3] 33 (0,0)))
  clear h hf hb
  cases hok:okB l0 l1 l2 l3 with
  | false=>
    have HO:=AK hok
    clear hok
    go_enter Tryd.func28,Tryd.ntmps28
    go_wp2_with (go_at_call 46;refine(MemOk_calls _ _ _ _ _ _ _ _ _ _ _ _ _ HI.out.r0 HI.out.r1 HI.out.r2 HI.out.r3 HW.out HF.out).mono ?_;rintro e w2 ⟨rfl,hb⟩;rw[HO.out];have HB2:=AK (bst HB.out hb);clear hb)
    go_ret
    exact⟨_,rfl,by unfold reachA;rw[HO.out,if_neg (by decide)];exact Kd.R_nil _ _ _ _ _,HB2.out⟩
  | true=>
    have HO:=AK hok
    clear hok
    go_enter Tryd.func28,Tryd.ntmps28
    go_wp2_with (go_at_call 46;refine(MemOk_calls _ _ _ _ _ _ _ _ _ _ _ _ _ HI.out.r0 HI.out.r1 HI.out.r2 HI.out.r3 HW.out HF.out).mono ?_;rintro e w2 ⟨rfl,hb⟩;rw[HO.out];have HB2:=AK (bst HB.out hb);have HI2:=AK (HI.out.below hb);obtain⟨q0,q1,q2,q3⟩:=box4 (bbl HX.out hb);clear hb)
    refine(memReach_calls _ _ _ _ _ _ _ _ _ _ _ _ _ HI2.out (ok_parts HO.out)).mono ?_
    rintro e w3 ⟨v,rfl,hr,hb⟩
    have HB3:=AK (bst HB2.out hb)
    have HR3:=AK (Kd.R_lower hr HB2.out.size)
    clear hr hb
    go_wp2
    go_ret
    exact⟨_,rfl,by unfold reachA;rw[if_pos HO.out];exact HR3.out,HB3.out⟩
end
section
structure Hp where
  o:List S38
  r:List Int
  w:List S60
  d:List S60
def Hp.ok (h:Hp):Bool:=okB h.o h.r h.w h.d
def hp0:Hp:=⟨[],[],[],[]⟩
def Closed (l0:List S38) (l3:List S60) (S:Int→Prop):Prop:=∀p,S p→∀q∈nextL l0 l3 p,0≤q→S q
theorem prefix_getElem {α:Type} {l m:List α} (h:l <+: m) {j:Nat} {x:α} (hj:l[j]?=some x):m[j]?=some x:=by
  obtain⟨t,rfl⟩:=h
  have:=(List.getElem?_eq_some_iff.1 hj).1
  rw[List.getElem?_append_left this];exact hj
section
variable {l0:List S38} {l1:List Int} {l2 l3:List S60}
theorem trace_prefix:∀(n:Nat) (i:Int) (l:List Int),l <+: traceL l0 l3 n i l:=by
  intro n
  induction n with
  | zero=>intro i l;exact List.prefix_rfl
  | succ n ih=>
    intro i l
    simp only[traceL]
    split
    · exact(putAll_prefix _ l).trans (ih _ _)
    · exact List.prefix_rfl
theorem trace_least {S:Int→Prop} (hS:Closed l0 l3 S):∀(n:Nat) (i:Int) (l:List Int),0≤i→(∀p∈l,S p)→∀p∈traceL l0 l3 n i l,S p:=by
  intro n
  induction n with
  | zero=>intro i l _ h;exact h
  | succ n ih=>
    intro i l h0 h
    simp only[traceL]
    split
    · rename_i c
      refine ih _ _ (by omega) (fun p hp=>?_)
      rcases(mem_putAll _ _ _).1 hp with h1|⟨h1,h2⟩
      · exact h p h1
      · exact hS _ (h _ (getD_mem l 0 i h0 c)) p h1 h2
    · exact h
theorem trace_closed (h:OkH l0 l1 l2 l3):∀(n:Nat) (i:Int) (l:List Int),GoodL l0.length l→0≤i→i+n=l0.length+1 →
    (∀j:Nat,(j:Int)<i→∀p,l[j]?=some p→∀q∈nextL l0 l3 p,0≤q→q∈l)→Closed l0 l3 (·∈traceL l0 l3 n i l):=by
  intro n
  induction n with
  | zero=>
    intro i l hg h0 hn hi p hp q hq h2
    replace hp:p∈l:=hp
    show q∈l
    obtain⟨j,hj,e⟩:=List.mem_iff_getElem.1 hp
    have:=nodup_len _ _ hg
    exact hi j (by omega) p (by rw[List.getElem?_eq_getElem hj,e]) q hq h2
  | succ n ih=>
    intro i l hg h0 hn hi
    simp only[traceL]
    split
    · rename_i c
      have hp:=hg.2 (rd l i) (getD_mem l 0 i h0 c)
      have hg2:=good_putAll (nextL l0 l3 (rd l i)) hg (next_lt h hp.1 hp.2)
      refine ih _ _ hg2 (by omega) (by omega) (fun j hj p hp q hq h2=>?_)
      by_cases d:(j:Int)<i
      · have hlj:j<l.length:=by omega
        have e:=prefix_getElem (putAll_prefix (nextL l0 l3 (rd l i)) l) (List.getElem?_eq_getElem hlj)
        rw[hp]at e
        injection e with e
        exact(mem_putAll _ _ _).2 (.inl (hi j d p (by rw[List.getElem?_eq_getElem hlj,e]) q hq h2))
      · have hji:j=i.toNat:=by omega
        have hlj:j<l.length:=by omega
        have e:=prefix_getElem (putAll_prefix (nextL l0 l3 (rd l i)) l) (List.getElem?_eq_getElem hlj)
        rw[hp]at e
        injection e with e
        have e2:rd l i=p:=by unfold rd;rw[←hji,List.getD_eq_getElem?_getD,List.getElem?_eq_getElem hlj,e];rfl
        rw[e2]
        exact(mem_putAll _ _ _).2 (.inr ⟨hq,h2⟩)
    · rename_i c
      intro p hp q hq h2
      obtain⟨j,hj,e⟩:=List.mem_iff_getElem.1 hp
      exact hi j (by omega) p (by rw[List.getElem?_eq_getElem hj,e]) q hq h2
theorem reach_closed (h:OkH l0 l1 l2 l3):Closed l0 l3 (·∈reachL l0 l1 l3):=
  trace_closed h _ _ _ (good_putAll _ (good_nil _) (fun p hp=>(h.rs p hp).2)) (by omega) (by omega) (fun j hj=>by omega)
theorem reach_root {p:Int} (hp:p∈l1) (h0:0≤p):p∈reachL l0 l1 l3:=(trace_prefix _ _ _).subset ((mem_putAll _ _ _).2 (.inr ⟨hp,h0⟩))
theorem reach_least {S:Int→Prop} (hS:Closed l0 l3 S) (hr:∀p∈l1,0≤p→S p):∀p∈reachL l0 l1 l3,S p:=
  trace_least hS _ _ _ (by omega) (fun p hp=>((mem_putAll _ _ _).1 hp).elim (fun h1=>by cases h1) (fun h1=>hr p h1.1 h1.2))
end
theorem idxL_nonneg (l:List Int) (n:Int):0≤idxL l n↔n∈l:=by
  have:=idxL_neg l n
  constructor
  · intro h
    by_cases c:n∈l
    · exact c
    · have:=this.2 c;omega
  · intro h
    by_cases c:idxL l n<0
    · exact absurd h (this.1 c)
    · omega
def toldB (x:List Int) (w:S60):Bool:=decide (0≤idxL x w.f0) && decide (idxL x w.f1<0)
def toldL (x:List Int) (l:List S60):List S60:=l.filter (toldB x)
def stayL (x:List Int) (l:List S60):List S60:=l.filter fun w=>!toldB x w
theorem toldB_iff (x:List Int) (w:S60):toldB x w=true↔w.f0∈x∧w.f1 ∉ x:=by
  unfold toldB
  rw[Bool.and_eq_true,decide_eq_true_eq,decide_eq_true_eq,idxL_nonneg,idxL_neg]
theorem toldB_congr {x y:List Int} (h:∀p,p∈x↔p∈y) (w:S60):toldB x w=toldB y w:=by
  rw[Bool.eq_iff_iff,toldB_iff,toldB_iff,h,h]
theorem toldL_congr {x y:List Int} (h:∀p,p∈x↔p∈y) (l:List S60):toldL x l=toldL y l:=by
  unfold toldL;congr 1;funext w;exact toldB_congr h w
theorem stayL_congr {x y:List Int} (h:∀p,p∈x↔p∈y) (l:List S60):stayL x l=stayL y l:=by
  unfold stayL;congr 1;funext w;rw[toldB_congr h w]
theorem told_stay_len (x:List Int) (l:List S60):(toldL x l).length+(stayL x l).length=l.length:=by
  unfold toldL stayL
  induction l with
  | nil=>rfl
  | cons a l ih=>
    cases c:toldB x a
    · rw[List.filter_cons_of_neg (by simp[c]),List.filter_cons_of_pos (by simp[c]),List.length_cons,List.length_cons];omega
    · rw[List.filter_cons_of_pos c,List.filter_cons_of_neg (by simp[c]),List.length_cons,List.length_cons];omega
def tellL (l0:List S38) (l1:List Int):Nat→List S60→List S60→List S60 × List S60
  | 0,l2,l3=>(l2,l3)
  | n+1,l2,l3=>if(toldL (reachL l0 l1 l3) l2).length=0 then(l2,l3)else tellL l0 l1 n (stayL (reachL l0 l1 l3) l2) (l3++toldL (reachL l0 l1 l3) l2)
theorem tell_step_ok {l0:List S38} {l1:List Int} {l2 l3:List S60} (h:OkH l0 l1 l2 l3) (x:List Int):OkH l0 l1 (stayL x l2) (l3++toldL x l2):=by
  have hl:=told_stay_len x l2
  refine⟨h.n,h.r,by have:=h.w;rw[List.length_append];omega,h.o,h.rs,fun w hw=>h.ws w (List.mem_filter.1 hw).1,fun w hw=>?_⟩
  rcases List.mem_append.1 hw with h1|h1
  · exact h.ds w h1
  · exact h.ws w (List.mem_filter.1 h1).1
theorem tell_ok {l0:List S38} {l1:List Int}:∀(n:Nat) {l2 l3:List S60},OkH l0 l1 l2 l3→OkH l0 l1 (tellL l0 l1 n l2 l3).1 (tellL l0 l1 n l2 l3).2:=by
  intro n
  induction n with
  | zero=>intro l2 l3 h;exact h
  | succ n ih=>
    intro l2 l3 h
    simp only[tellL]
    split
    · exact h
    · exact ih (tell_step_ok h _)
theorem next_sub {l0:List S38} {l3 l3':List S60} (h:∀w∈l3,w∈l3') (p q:Int) (hq:q∈nextL l0 l3 p):q∈nextL l0 l3' p:=by
  unfold nextL at hq ⊢
  split
  · rename_i c;rw[if_pos c]at hq;exact hq
  · rename_i c;rw[if_neg c]at hq
    split
    · rename_i d;rw[if_pos d]at hq
      obtain⟨w,hw,e⟩:=List.mem_map.1 hq
      have h1:=List.mem_filter.1 hw
      exact List.mem_map.2 ⟨w,List.mem_filter.2 ⟨h w h1.1,h1.2⟩,e⟩
    · rename_i d;rw[if_neg d]at hq;exact hq
theorem next_told {l0:List S38} {l3:List S60} {w:S60} (hw:w∈l3) (hk:(rd_T38 l0 w.f0).f0=4):w.f1∈nextL l0 l3 w.f0:=by
  unfold nextL
  rw[if_neg (by omega),if_pos hk]
  exact List.mem_map.2 ⟨w,List.mem_filter.2 ⟨hw,beq_self_eq_true _⟩,rfl⟩
theorem tell_known {l0:List S38} {l1:List Int} {l2 l3:List S60} (h:OkH l0 l1 l2 l3) (x:List Int) (hg:GoodL l0.length x) (hx:∀p,p∈x↔p∈reachL l0 l1 l3) :
    let t:=toldL x l2
    let y:=traceL l0 (l3++t) (l0.length+1) 0 (putAll x (t.map (·.f1)))
    (∀p,p∈y↔p∈reachL l0 l1 (l3++t)):=by
  intro t y p
  have hok:=tell_step_ok h x
  have hrc:=reach_closed hok
  have hsub:∀p,p∈reachL l0 l1 l3→p∈reachL l0 l1 (l3++t):=
    reach_least (S:=(·∈reachL l0 l1 (l3++t))) (fun p hp q hq h0=>hrc p hp q (next_sub (fun w hw=>List.mem_append_left _ hw) p q hq) h0) (fun p hp h0=>reach_root hp h0)
  constructor
  · refine trace_least hrc _ _ _ (by omega) (fun q hq=>?_) p
    rcases(mem_putAll _ _ _).1 hq with h1|⟨h1,h2⟩
    · exact hsub q ((hx q).1 h1)
    · obtain⟨w,hw,rfl⟩:=List.mem_map.1 h1
      have h3:=List.mem_filter.1 hw
      have h4:=(toldB_iff x w).1 h3.2
      exact hrc w.f0 (hsub _ ((hx _).1 h4.1)) w.f1 (next_told (List.mem_append_right _ hw) (wt_parts (h.ws w h3.1)).2.2.1) h2
  · refine reach_least (trace_closed hok _ _ _ (good_putAll _ hg (fun q hq=>?_)) (by omega) (by omega) (fun j hj=>by omega)) (fun q hq h0=>?_) p
    · obtain⟨w,hw,rfl⟩:=List.mem_map.1 hq
      exact(wt_parts (h.ws w (List.mem_filter.1 hw).1)).2.2.2.2
    · exact(trace_prefix _ _ _).subset ((putAll_prefix _ _).subset ((hx q).2 (reach_root hq h0)))
def objOf (x:List Int) (o:S38):S38:=⟨o.f0,o.f1,o.f2.map (wh x)⟩
def movedW (x:List Int) (l:List S60):List S60:=(l.filter fun w=>decide (0≤idxL x w.f0) && decide (0≤idxL x w.f1)).map fun w=>⟨idxL x w.f0,idxL x w.f1⟩
def moveL (l0:List S38) (l1:List Int) (l2 l3:List S60) (x:List Int):Hp:=⟨x.map fun p=>objOf x (rd_T38 l0 p),l1.map (wh x),movedW x l2,movedW x l3⟩
def collectK (l0:List S38) (l1:List Int) (l2 l3:List S60):Hp × List Int:=
  let t:=tellL l0 l1 (l2.length+1) l2 l3
  let x:=reachL l0 l1 t.2
  (moveL l0 l1 t.1 t.2 x,(List.range l0.length).map fun(j:Nat)=>idxL x (j:Int))
def collectB (h:Hp):Hp × List Int:=if h.ok then collectK h.o h.r h.w h.d else(hp0,[])
end
end Go.Proofs.YtigjhfijkdlldaaDoor.H
