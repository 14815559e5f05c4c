import Derived.Test.YtigjhfijkdlldaaDoorSliSm
namespace Go.Proofs.YtigjhfijkdlldaaDoor.H
open Go.RowKit Go.Proofs.YtigjhfijkdlldaaDoorW.PrintWords Go.Proofs.YtigjhfijkdlldaaDoorW.PrintLast Go.Proofs.YtigjhfijkdlldaaDoorW.PrintMore Go.Proofs.YtigjhfijkdlldaaDoor.Q
set_option linter.unusedVariables false
set_option linter.unusedSimpArgs false
theorem Rdr.more {v w:World} {g:Nat} {P Q:Int} (h:Rdr v w g P) (hq:P≤Q):Rdr v w g Q:=by
  obtain⟨bs,p,hi,h2,h3⟩:=h.ex;exact⟨bs,p,hi,⟨h2.1,by omega⟩,h3⟩
set_option maxHeartbeats 8000000 in
set_option maxRecDepth 100000 in
theorem drawSession_c {w:World} {A:Option Addr} {c:Nat} {code:List Int} (hr:Kd.C (Kd.int .u8) w A code.length code) (hc:code.length≤c) (hb:∀b∈code,0≤b∧b<256) :
    Calls Tryd.prog 7 #[.slice A code.length c] w fun e w'=>∃t:ByteArray,e=.returned (.string t)∧t.size≤1000000∧Below w.heap.size w w':=by
  have H0:=AK (And.intro hr (And.intro hc hb))
  clear hr hc hb
  go_enter Tryd.func7,Tryd.ntmps7
  go_wp2_with fail
  refine(open_c H0.out.1 H0.out.2.1 H0.out.2.2).mono ?_
  rintro en w1 ⟨g,rfl,hR,hB⟩
  have R:=AK hR
  have B:=AK hB
  have HP:=AK (show (0:Int)≤1000 by omega)
  clear hR hB H0
  go_wp2_with fail
  refine(pick_c 30 R.out B.out (by have:=HP.out;omega)).mono ?_
  rintro en w1 ⟨j0,rfl,hk_,hr_,hb_,hkeep_⟩
  have HJ0:=AK hk_
  replace R:=AK hr_
  replace B:=AK hb_
  clear hk_ hr_ hb_ hkeep_
  go_wp2_with fail
  go_loopg [4,5] j0.toNat (fun kq v4 v5 w'=>∃(ot:ByteArray) (j:Int),v4=.string ot∧v5=.int .i64 j∧Aside0 (0≤j∧j≤kq∧j≤30)∧Aside0 ((ot.size:Int)≤100*(30 - j))∧Aside0 (Rdr w w' g (400 - 10*j))∧Aside0 (Below w.heap.size w w'))
  case atStart=>exact⟨ByteArray.empty,j0,rfl,rfl,⟨by have:=HJ0.out;omega,by have:=HJ0.out;omega,by have:=HJ0.out;omega⟩,⟨by have:=HJ0.out;show (0:Int)≤_;omega⟩,⟨R.out.more (by have:=HJ0.out;omega)⟩,B⟩
  case round=>
    clear R B HP
    obtain⟨ot,j,rfl,rfl,HJ,HO,R,B⟩:=hrel
    obtain⟨P,hP⟩:∃P,P=400 - 10*j:=⟨_,rfl⟩
    have HPE:=AK hP
    rw[←hP]at R
    have HP:=AK (show P≤1000 by have:=HJ.out;omega)
    clear hP
    by_cases cj:0<j
    · skip
      obtain⟨k1,rfl⟩:∃k1,gk=k1+1:=⟨gk - 1,by have:=HJ.out;omega⟩
      have c9:decide (0<j)=true:=deT cj
      have c8:decide (j > 0)=true:=deT cj
      have HCJ:=AK cj
      have HSZ:=AK (show (ot.size:Int)≤3000 from by have:=HO.out;have:=HJ.out;omega)
      clear cj
      go_wp2_with fail
      clear c8 c9
      refine(pick_c 12 R.out B.out (by have:=HP.out;omega)).mono ?_
      rintro en w2 ⟨k,rfl,hk_,hr_,hb_,hkeep_⟩
      have HK:=AK hk_
      replace R:=AK hr_
      replace B:=AK hb_
      clear hk_ hr_ hb_ hkeep_
      go_upto_block 2 with fail
      go_cut [4] (fun v4 wc=>∃(o2:ByteArray),v4=.string o2∧Aside0 ((o2.size:Int)≤ot.size+60)∧Aside0 (Rdr w wc g (P+9))∧Aside0 (Below w.heap.size w wc))
      case first=>
        have hk:=HK.out
        rcases(show (k=0∨k=1)∨(k=2∨k=3)∨k=4∨k=5∨k=6∨k=7∨k=8∨k=9∨k=10∨k=11 by omega)with h|h|h|h|h|h|h|h|h|h
        all_goals clear hk
        · skip
          rcases h with rfl|rfl
          all_goals
            focus
              have z0:=eq_true (show ot.size+5≤9223372036854775807 by have:=HSZ.out;omega)
              have z0b:=eq_false (show ¬ 9223372036854775807<ot.size+5 by have:=HSZ.out;omega)
              go_wp2_with fail
              refine(pick_c 9 R.out B.out (by have:=HP.out;omega)).mono ?_
              rintro en w3 ⟨k1,rfl,hk_,hr_,hb_,hkeep_⟩
              have HK1:=AK hk_
              replace R:=AK hr_
              replace B:=AK hb_
              clear hk_ hr_ hb_ hkeep_
              go_wp2_with fail
              refine(l5Dec1_c (n:=k1) (by have:=HK1.out;omega) (by have:=HK1.out;omega)).mono ?_
              rintro en w4 ⟨rfl,hb_⟩
              obtain⟨x1,hx_⟩:∃x,strOfNums [48+k1]=x:=⟨_,rfl⟩
              have S_x1:=AK (show x1.size=1 from by rw[←hx_];rfl)
              rw[hx_]
              clear hx_
              replace R:=AK (R.out.below hb_)
              replace B:=AK (bst B.out hb_)
              clear hb_
              have z1:=eq_true (show ot.size+5+x1.size≤9223372036854775807 by have:=HSZ.out;have:=S_x1.out;omega)
              have z1b:=eq_false (show ¬ 9223372036854775807<ot.size+5+x1.size by have:=HSZ.out;have:=S_x1.out;omega)
              have z2:=eq_true (show ot.size+5+x1.size+1≤9223372036854775807 by have:=HSZ.out;have:=S_x1.out;omega)
              have z2b:=eq_false (show ¬ 9223372036854775807<ot.size+5+x1.size+1 by have:=HSZ.out;have:=S_x1.out;omega)
              go_wp2_with ((with_reducible refine gate_dst (N:=29) rfl ?_);refine Kd.R_lit Kd.string (w0:=w) w.heap.size 9 ?hg (N:=29) ?hd (xs:=([⟨#[97]⟩,⟨#[98]⟩,⟨#[120,57]⟩,⟨#[65]⟩]:List ByteArray)) (inner:=[.string (⟨#[97]⟩),.string (⟨#[98]⟩),.string (⟨#[120,57]⟩),.string (⟨#[65]⟩)]) (ok:=fun _=>True) (okp:=fun _=>True) ?hr ?hp (fun _ hk=>hk) trivial B.out B.out.size (by simp) ?_;(case hd=>rfl);(case hg=>rfl);(case hr=>first|(go_simp;done)|(go_simp;rfl));(case hp=>exact(Reps.one (show Kd.M Kd.string _ _ _ (⟨#[97]⟩:ByteArray) [.string (⟨#[97]⟩)]from rfl) (Reps.one (show Kd.M Kd.string _ _ _ (⟨#[98]⟩:ByteArray) [.string (⟨#[98]⟩)]from rfl) (Reps.one (show Kd.M Kd.string _ _ _ (⟨#[120,57]⟩:ByteArray) [.string (⟨#[120,57]⟩)]from rfl) (Reps.one (show Kd.M Kd.string _ _ _ (⟨#[65]⟩:ByteArray) [.string (⟨#[65]⟩)]from rfl) (Reps.none _ _))))));intro v63 w8 hs hb hg hn;obtain⟨S,cS,hv⟩:=Kd.R_slice hs;subst hv;replace R:=AK (R.out.grown hg (by simp));replace B:=AK hb;have HS:=AK hs;clear hb hg hn hs)
              refine(of_c (ts:=[⟨#[97]⟩,⟨#[98]⟩,⟨#[120,57]⟩,⟨#[65]⟩]) R.out B.out (by have:=HP.out;omega) (Kd.R_reads' HS.out).2.2 (Kd.R_reads' HS.out).2.1 (fun ad e _ h=>R.out.ne_own HS.out (by decide) (by rw[e];exact congrArg some h.symm)) (by simp)).mono ?_
              rintro en w5 ⟨t1,rfl,ht_,hr_,hb_,hkeep_⟩
              have S_t1:=AK (show t1.size≤2 from by
                simp only[List.mem_cons,List.not_mem_nil,or_false]at ht_
                rcases ht_ with rfl|rfl|rfl|rfl<;>first|decide|(simp only[ByteArray.size_append];have:=HSZ.out;have l1:ByteArray.size ⟨#[115,101,116,32]⟩=4:=rfl;have l2:ByteArray.size ⟨#[32]⟩=1:=rfl;have l3:ByteArray.size ⟨#[102,111,114,103,101,116,32]⟩=7:=rfl;omega))
              replace R:=AK hr_
              replace B:=AK hb_
              clear ht_ hr_ hb_ hkeep_ HS
              have z3:=eq_true (show ot.size+5+x1.size+1+t1.size≤9223372036854775807 by have:=HSZ.out;have:=S_x1.out;have:=S_t1.out;omega)
              have z3b:=eq_false (show ¬ 9223372036854775807<ot.size+5+x1.size+1+t1.size by have:=HSZ.out;have:=S_x1.out;have:=S_t1.out;omega)
              go_wp2
              go_meet
              case rel=>exact⟨_,rfl,⟨by simp only[ByteArray.size_append];have:=S_x1.out;have:=S_t1.out;have:ByteArray.size ⟨#[100,97,116,97,32]⟩=5:=rfl;have:ByteArray.size ⟨#[32]⟩=1:=rfl;omega⟩,⟨R.out.more (by omega)⟩,B⟩
        · skip
          rcases h with rfl|rfl
          all_goals
            focus
              have z0:=eq_true (show ot.size+5≤9223372036854775807 by have:=HSZ.out;omega)
              have z0b:=eq_false (show ¬ 9223372036854775807<ot.size+5 by have:=HSZ.out;omega)
              go_wp2_with fail
              refine(pick_c 9 R.out B.out (by have:=HP.out;omega)).mono ?_
              rintro en w6 ⟨k1,rfl,hk_,hr_,hb_,hkeep_⟩
              have HK1:=AK hk_
              replace R:=AK hr_
              replace B:=AK hb_
              clear hk_ hr_ hb_ hkeep_
              go_wp2_with fail
              refine(l5Dec1_c (n:=k1) (by have:=HK1.out;omega) (by have:=HK1.out;omega)).mono ?_
              rintro en w7 ⟨rfl,hb_⟩
              obtain⟨x1,hx_⟩:∃x,strOfNums [48+k1]=x:=⟨_,rfl⟩
              have S_x1:=AK (show x1.size=1 from by rw[←hx_];rfl)
              rw[hx_]
              clear hx_
              replace R:=AK (R.out.below hb_)
              replace B:=AK (bst B.out hb_)
              clear hb_
              have z1:=eq_true (show ot.size+5+x1.size≤9223372036854775807 by have:=HSZ.out;have:=S_x1.out;omega)
              have z1b:=eq_false (show ¬ 9223372036854775807<ot.size+5+x1.size by have:=HSZ.out;have:=S_x1.out;omega)
              have z2:=eq_true (show ot.size+5+x1.size+1≤9223372036854775807 by have:=HSZ.out;have:=S_x1.out;omega)
              have z2b:=eq_false (show ¬ 9223372036854775807<ot.size+5+x1.size+1 by have:=HSZ.out;have:=S_x1.out;omega)
              go_wp2_with fail
              refine(pick_c 9 R.out B.out (by have:=HP.out;omega)).mono ?_
              rintro en w8 ⟨k2,rfl,hk_,hr_,hb_,hkeep_⟩
              have HK2:=AK hk_
              replace R:=AK hr_
              replace B:=AK hb_
              clear hk_ hr_ hb_ hkeep_
              go_wp2_with fail
              refine(l5Dec1_c (n:=k2) (by have:=HK2.out;omega) (by have:=HK2.out;omega)).mono ?_
              rintro en w9 ⟨rfl,hb_⟩
              obtain⟨x2,hx_⟩:∃x,strOfNums [48+k2]=x:=⟨_,rfl⟩
              have S_x2:=AK (show x2.size=1 from by rw[←hx_];rfl)
              rw[hx_]
              clear hx_
              replace R:=AK (R.out.below hb_)
              replace B:=AK (bst B.out hb_)
              clear hb_
              have z3:=eq_true (show ot.size+5+x1.size+1+x2.size≤9223372036854775807 by have:=HSZ.out;have:=S_x1.out;have:=S_x2.out;omega)
              have z3b:=eq_false (show ¬ 9223372036854775807<ot.size+5+x1.size+1+x2.size by have:=HSZ.out;have:=S_x1.out;have:=S_x2.out;omega)
              have z4:=eq_true (show ot.size+5+x1.size+1+x2.size+1≤9223372036854775807 by have:=HSZ.out;have:=S_x1.out;have:=S_x2.out;omega)
              have z4b:=eq_false (show ¬ 9223372036854775807<ot.size+5+x1.size+1+x2.size+1 by have:=HSZ.out;have:=S_x1.out;have:=S_x2.out;omega)
              go_wp2_with fail
              refine(pick_c 9 R.out B.out (by have:=HP.out;omega)).mono ?_
              rintro en w10 ⟨k3,rfl,hk_,hr_,hb_,hkeep_⟩
              have HK3:=AK hk_
              replace R:=AK hr_
              replace B:=AK hb_
              clear hk_ hr_ hb_ hkeep_
              go_wp2_with fail
              refine(l5Dec1_c (n:=k3) (by have:=HK3.out;omega) (by have:=HK3.out;omega)).mono ?_
              rintro en w11 ⟨rfl,hb_⟩
              obtain⟨x3,hx_⟩:∃x,strOfNums [48+k3]=x:=⟨_,rfl⟩
              have S_x3:=AK (show x3.size=1 from by rw[←hx_];rfl)
              rw[hx_]
              clear hx_
              replace R:=AK (R.out.below hb_)
              replace B:=AK (bst B.out hb_)
              clear hb_
              have z5:=eq_true (show ot.size+5+x1.size+1+x2.size+1+x3.size≤9223372036854775807 by have:=HSZ.out;have:=S_x1.out;have:=S_x2.out;have:=S_x3.out;omega)
              have z5b:=eq_false (show ¬ 9223372036854775807<ot.size+5+x1.size+1+x2.size+1+x3.size by have:=HSZ.out;have:=S_x1.out;have:=S_x2.out;have:=S_x3.out;omega)
              go_wp2
              go_meet
              case rel=>exact⟨_,rfl,⟨by simp only[ByteArray.size_append];have:=S_x1.out;have:=S_x2.out;have:=S_x3.out;have:ByteArray.size ⟨#[99,101,108,108,32]⟩=5:=rfl;have:ByteArray.size ⟨#[32]⟩=1:=rfl;omega⟩,⟨R.out.more (by omega)⟩,B⟩
        · skip
          subst h
          focus
            have z0:=eq_true (show ot.size+5≤9223372036854775807 by have:=HSZ.out;omega)
            have z0b:=eq_false (show ¬ 9223372036854775807<ot.size+5 by have:=HSZ.out;omega)
            go_wp2_with fail
            refine(pick_c 9 R.out B.out (by have:=HP.out;omega)).mono ?_
            rintro en w12 ⟨k1,rfl,hk_,hr_,hb_,hkeep_⟩
            have HK1:=AK hk_
            replace R:=AK hr_
            replace B:=AK hb_
            clear hk_ hr_ hb_ hkeep_
            go_wp2_with fail
            refine(l5Dec1_c (n:=k1) (by have:=HK1.out;omega) (by have:=HK1.out;omega)).mono ?_
            rintro en w13 ⟨rfl,hb_⟩
            obtain⟨x1,hx_⟩:∃x,strOfNums [48+k1]=x:=⟨_,rfl⟩
            have S_x1:=AK (show x1.size=1 from by rw[←hx_];rfl)
            rw[hx_]
            clear hx_
            replace R:=AK (R.out.below hb_)
            replace B:=AK (bst B.out hb_)
            clear hb_
            have z1:=eq_true (show ot.size+5+x1.size≤9223372036854775807 by have:=HSZ.out;have:=S_x1.out;omega)
            have z1b:=eq_false (show ¬ 9223372036854775807<ot.size+5+x1.size by have:=HSZ.out;have:=S_x1.out;omega)
            have z2:=eq_true (show ot.size+5+x1.size+1≤9223372036854775807 by have:=HSZ.out;have:=S_x1.out;omega)
            have z2b:=eq_false (show ¬ 9223372036854775807<ot.size+5+x1.size+1 by have:=HSZ.out;have:=S_x1.out;omega)
            go_wp2_with fail
            refine(pick_c 9 R.out B.out (by have:=HP.out;omega)).mono ?_
            rintro en w14 ⟨k2,rfl,hk_,hr_,hb_,hkeep_⟩
            have HK2:=AK hk_
            replace R:=AK hr_
            replace B:=AK hb_
            clear hk_ hr_ hb_ hkeep_
            go_wp2_with fail
            refine(l5Dec1_c (n:=k2) (by have:=HK2.out;omega) (by have:=HK2.out;omega)).mono ?_
            rintro en w15 ⟨rfl,hb_⟩
            obtain⟨x2,hx_⟩:∃x,strOfNums [48+k2]=x:=⟨_,rfl⟩
            have S_x2:=AK (show x2.size=1 from by rw[←hx_];rfl)
            rw[hx_]
            clear hx_
            replace R:=AK (R.out.below hb_)
            replace B:=AK (bst B.out hb_)
            clear hb_
            have z3:=eq_true (show ot.size+5+x1.size+1+x2.size≤9223372036854775807 by have:=HSZ.out;have:=S_x1.out;have:=S_x2.out;omega)
            have z3b:=eq_false (show ¬ 9223372036854775807<ot.size+5+x1.size+1+x2.size by have:=HSZ.out;have:=S_x1.out;have:=S_x2.out;omega)
            have z4:=eq_true (show ot.size+5+x1.size+1+x2.size+1≤9223372036854775807 by have:=HSZ.out;have:=S_x1.out;have:=S_x2.out;omega)
            have z4b:=eq_false (show ¬ 9223372036854775807<ot.size+5+x1.size+1+x2.size+1 by have:=HSZ.out;have:=S_x1.out;have:=S_x2.out;omega)
            go_wp2_with fail
            refine(pick_c 9 R.out B.out (by have:=HP.out;omega)).mono ?_
            rintro en w16 ⟨k3,rfl,hk_,hr_,hb_,hkeep_⟩
            have HK3:=AK hk_
            replace R:=AK hr_
            replace B:=AK hb_
            clear hk_ hr_ hb_ hkeep_
            go_wp2_with fail
            refine(l5Dec1_c (n:=k3) (by have:=HK3.out;omega) (by have:=HK3.out;omega)).mono ?_
            rintro en w17 ⟨rfl,hb_⟩
            obtain⟨x3,hx_⟩:∃x,strOfNums [48+k3]=x:=⟨_,rfl⟩
            have S_x3:=AK (show x3.size=1 from by rw[←hx_];rfl)
            rw[hx_]
            clear hx_
            replace R:=AK (R.out.below hb_)
            replace B:=AK (bst B.out hb_)
            clear hb_
            have z5:=eq_true (show ot.size+5+x1.size+1+x2.size+1+x3.size≤9223372036854775807 by have:=HSZ.out;have:=S_x1.out;have:=S_x2.out;have:=S_x3.out;omega)
            have z5b:=eq_false (show ¬ 9223372036854775807<ot.size+5+x1.size+1+x2.size+1+x3.size by have:=HSZ.out;have:=S_x1.out;have:=S_x2.out;have:=S_x3.out;omega)
            go_wp2
            go_meet
            case rel=>exact⟨_,rfl,⟨by simp only[ByteArray.size_append];have:=S_x1.out;have:=S_x2.out;have:=S_x3.out;have:ByteArray.size ⟨#[119,101,97,107,32]⟩=5:=rfl;have:ByteArray.size ⟨#[32]⟩=1:=rfl;omega⟩,⟨R.out.more (by omega)⟩,B⟩
        · skip
          subst h
          focus
            have z0:=eq_true (show ot.size+9≤9223372036854775807 by have:=HSZ.out;omega)
            have z0b:=eq_false (show ¬ 9223372036854775807<ot.size+9 by have:=HSZ.out;omega)
            go_wp2_with fail
            refine(pick_c 9 R.out B.out (by have:=HP.out;omega)).mono ?_
            rintro en w18 ⟨k1,rfl,hk_,hr_,hb_,hkeep_⟩
            have HK1:=AK hk_
            replace R:=AK hr_
            replace B:=AK hb_
            clear hk_ hr_ hb_ hkeep_
            go_wp2_with fail
            refine(l5Dec1_c (n:=k1) (by have:=HK1.out;omega) (by have:=HK1.out;omega)).mono ?_
            rintro en w19 ⟨rfl,hb_⟩
            obtain⟨x1,hx_⟩:∃x,strOfNums [48+k1]=x:=⟨_,rfl⟩
            have S_x1:=AK (show x1.size=1 from by rw[←hx_];rfl)
            rw[hx_]
            clear hx_
            replace R:=AK (R.out.below hb_)
            replace B:=AK (bst B.out hb_)
            clear hb_
            have z1:=eq_true (show ot.size+9+x1.size≤9223372036854775807 by have:=HSZ.out;have:=S_x1.out;omega)
            have z1b:=eq_false (show ¬ 9223372036854775807<ot.size+9+x1.size by have:=HSZ.out;have:=S_x1.out;omega)
            go_wp2
            go_meet
            case rel=>exact⟨_,rfl,⟨by simp only[ByteArray.size_append];have:=S_x1.out;have:ByteArray.size ⟨#[103,117,97,114,100,105,97,110,32]⟩=9:=rfl;omega⟩,⟨R.out.more (by omega)⟩,B⟩
        · skip
          subst h
          focus
            have z0:=eq_true (show ot.size+6≤9223372036854775807 by have:=HSZ.out;omega)
            have z0b:=eq_false (show ¬ 9223372036854775807<ot.size+6 by have:=HSZ.out;omega)
            go_wp2_with fail
            refine(pick_c 9 R.out B.out (by have:=HP.out;omega)).mono ?_
            rintro en w20 ⟨k1,rfl,hk_,hr_,hb_,hkeep_⟩
            have HK1:=AK hk_
            replace R:=AK hr_
            replace B:=AK hb_
            clear hk_ hr_ hb_ hkeep_
            go_wp2_with fail
            refine(l5Dec1_c (n:=k1) (by have:=HK1.out;omega) (by have:=HK1.out;omega)).mono ?_
            rintro en w21 ⟨rfl,hb_⟩
            obtain⟨x1,hx_⟩:∃x,strOfNums [48+k1]=x:=⟨_,rfl⟩
            have S_x1:=AK (show x1.size=1 from by rw[←hx_];rfl)
            rw[hx_]
            clear hx_
            replace R:=AK (R.out.below hb_)
            replace B:=AK (bst B.out hb_)
            clear hb_
            have z1:=eq_true (show ot.size+6+x1.size≤9223372036854775807 by have:=HSZ.out;have:=S_x1.out;omega)
            have z1b:=eq_false (show ¬ 9223372036854775807<ot.size+6+x1.size by have:=HSZ.out;have:=S_x1.out;omega)
            have z2:=eq_true (show ot.size+6+x1.size+1≤9223372036854775807 by have:=HSZ.out;have:=S_x1.out;omega)
            have z2b:=eq_false (show ¬ 9223372036854775807<ot.size+6+x1.size+1 by have:=HSZ.out;have:=S_x1.out;omega)
            go_wp2_with fail
            refine(pick_c 9 R.out B.out (by have:=HP.out;omega)).mono ?_
            rintro en w22 ⟨k2,rfl,hk_,hr_,hb_,hkeep_⟩
            have HK2:=AK hk_
            replace R:=AK hr_
            replace B:=AK hb_
            clear hk_ hr_ hb_ hkeep_
            go_wp2_with fail
            refine(l5Dec1_c (n:=k2) (by have:=HK2.out;omega) (by have:=HK2.out;omega)).mono ?_
            rintro en w23 ⟨rfl,hb_⟩
            obtain⟨x2,hx_⟩:∃x,strOfNums [48+k2]=x:=⟨_,rfl⟩
            have S_x2:=AK (show x2.size=1 from by rw[←hx_];rfl)
            rw[hx_]
            clear hx_
            replace R:=AK (R.out.below hb_)
            replace B:=AK (bst B.out hb_)
            clear hb_
            have z3:=eq_true (show ot.size+6+x1.size+1+x2.size≤9223372036854775807 by have:=HSZ.out;have:=S_x1.out;have:=S_x2.out;omega)
            have z3b:=eq_false (show ¬ 9223372036854775807<ot.size+6+x1.size+1+x2.size by have:=HSZ.out;have:=S_x1.out;have:=S_x2.out;omega)
            go_wp2
            go_meet
            case rel=>exact⟨_,rfl,⟨by simp only[ByteArray.size_append];have:=S_x1.out;have:=S_x2.out;have:ByteArray.size ⟨#[119,97,116,99,104,32]⟩=6:=rfl;have:ByteArray.size ⟨#[32]⟩=1:=rfl;omega⟩,⟨R.out.more (by omega)⟩,B⟩
        · skip
          subst h
          focus
            have z0:=eq_true (show ot.size+4≤9223372036854775807 by have:=HSZ.out;omega)
            have z0b:=eq_false (show ¬ 9223372036854775807<ot.size+4 by have:=HSZ.out;omega)
            go_wp2_with fail
            refine(pick_c 9 R.out B.out (by have:=HP.out;omega)).mono ?_
            rintro en w24 ⟨k1,rfl,hk_,hr_,hb_,hkeep_⟩
            have HK1:=AK hk_
            replace R:=AK hr_
            replace B:=AK hb_
            clear hk_ hr_ hb_ hkeep_
            go_wp2_with fail
            refine(l5Dec1_c (n:=k1) (by have:=HK1.out;omega) (by have:=HK1.out;omega)).mono ?_
            rintro en w25 ⟨rfl,hb_⟩
            obtain⟨x1,hx_⟩:∃x,strOfNums [48+k1]=x:=⟨_,rfl⟩
            have S_x1:=AK (show x1.size=1 from by rw[←hx_];rfl)
            rw[hx_]
            clear hx_
            replace R:=AK (R.out.below hb_)
            replace B:=AK (bst B.out hb_)
            clear hb_
            have z1:=eq_true (show ot.size+4+x1.size≤9223372036854775807 by have:=HSZ.out;have:=S_x1.out;omega)
            have z1b:=eq_false (show ¬ 9223372036854775807<ot.size+4+x1.size by have:=HSZ.out;have:=S_x1.out;omega)
            have z2:=eq_true (show ot.size+4+x1.size+1≤9223372036854775807 by have:=HSZ.out;have:=S_x1.out;omega)
            have z2b:=eq_false (show ¬ 9223372036854775807<ot.size+4+x1.size+1 by have:=HSZ.out;have:=S_x1.out;omega)
            go_wp2_with fail
            refine(pick_c 9 R.out B.out (by have:=HP.out;omega)).mono ?_
            rintro en w26 ⟨k2,rfl,hk_,hr_,hb_,hkeep_⟩
            have HK2:=AK hk_
            replace R:=AK hr_
            replace B:=AK hb_
            clear hk_ hr_ hb_ hkeep_
            go_wp2_with fail
            refine(l5Dec1_c (n:=k2) (by have:=HK2.out;omega) (by have:=HK2.out;omega)).mono ?_
            rintro en w27 ⟨rfl,hb_⟩
            obtain⟨x2,hx_⟩:∃x,strOfNums [48+k2]=x:=⟨_,rfl⟩
            have S_x2:=AK (show x2.size=1 from by rw[←hx_];rfl)
            rw[hx_]
            clear hx_
            replace R:=AK (R.out.below hb_)
            replace B:=AK (bst B.out hb_)
            clear hb_
            have z3:=eq_true (show ot.size+4+x1.size+1+x2.size≤9223372036854775807 by have:=HSZ.out;have:=S_x1.out;have:=S_x2.out;omega)
            have z3b:=eq_false (show ¬ 9223372036854775807<ot.size+4+x1.size+1+x2.size by have:=HSZ.out;have:=S_x1.out;have:=S_x2.out;omega)
            go_wp2
            go_meet
            case rel=>exact⟨_,rfl,⟨by simp only[ByteArray.size_append];have:=S_x1.out;have:=S_x2.out;have:ByteArray.size ⟨#[97,115,107,32]⟩=4:=rfl;have:ByteArray.size ⟨#[32]⟩=1:=rfl;omega⟩,⟨R.out.more (by omega)⟩,B⟩
        · skip
          subst h
          focus
            have z0:=eq_true (show ot.size+5≤9223372036854775807 by have:=HSZ.out;omega)
            have z0b:=eq_false (show ¬ 9223372036854775807<ot.size+5 by have:=HSZ.out;omega)
            go_wp2_with fail
            refine(pick_c 9 R.out B.out (by have:=HP.out;omega)).mono ?_
            rintro en w28 ⟨k1,rfl,hk_,hr_,hb_,hkeep_⟩
            have HK1:=AK hk_
            replace R:=AK hr_
            replace B:=AK hb_
            clear hk_ hr_ hb_ hkeep_
            go_wp2_with fail
            refine(l5Dec1_c (n:=k1) (by have:=HK1.out;omega) (by have:=HK1.out;omega)).mono ?_
            rintro en w29 ⟨rfl,hb_⟩
            obtain⟨x1,hx_⟩:∃x,strOfNums [48+k1]=x:=⟨_,rfl⟩
            have S_x1:=AK (show x1.size=1 from by rw[←hx_];rfl)
            rw[hx_]
            clear hx_
            replace R:=AK (R.out.below hb_)
            replace B:=AK (bst B.out hb_)
            clear hb_
            have z1:=eq_true (show ot.size+5+x1.size≤9223372036854775807 by have:=HSZ.out;have:=S_x1.out;omega)
            have z1b:=eq_false (show ¬ 9223372036854775807<ot.size+5+x1.size by have:=HSZ.out;have:=S_x1.out;omega)
            have z2:=eq_true (show ot.size+5+x1.size+1≤9223372036854775807 by have:=HSZ.out;have:=S_x1.out;omega)
            have z2b:=eq_false (show ¬ 9223372036854775807<ot.size+5+x1.size+1 by have:=HSZ.out;have:=S_x1.out;omega)
            go_wp2_with fail
            refine(pick_c 9 R.out B.out (by have:=HP.out;omega)).mono ?_
            rintro en w30 ⟨k2,rfl,hk_,hr_,hb_,hkeep_⟩
            have HK2:=AK hk_
            replace R:=AK hr_
            replace B:=AK hb_
            clear hk_ hr_ hb_ hkeep_
            go_wp2_with fail
            refine(l5Dec1_c (n:=k2) (by have:=HK2.out;omega) (by have:=HK2.out;omega)).mono ?_
            rintro en w31 ⟨rfl,hb_⟩
            obtain⟨x2,hx_⟩:∃x,strOfNums [48+k2]=x:=⟨_,rfl⟩
            have S_x2:=AK (show x2.size=1 from by rw[←hx_];rfl)
            rw[hx_]
            clear hx_
            replace R:=AK (R.out.below hb_)
            replace B:=AK (bst B.out hb_)
            clear hb_
            have z3:=eq_true (show ot.size+5+x1.size+1+x2.size≤9223372036854775807 by have:=HSZ.out;have:=S_x1.out;have:=S_x2.out;omega)
            have z3b:=eq_false (show ¬ 9223372036854775807<ot.size+5+x1.size+1+x2.size by have:=HSZ.out;have:=S_x1.out;have:=S_x2.out;omega)
            have z4:=eq_true (show ot.size+5+x1.size+1+x2.size+1≤9223372036854775807 by have:=HSZ.out;have:=S_x1.out;have:=S_x2.out;omega)
            have z4b:=eq_false (show ¬ 9223372036854775807<ot.size+5+x1.size+1+x2.size+1 by have:=HSZ.out;have:=S_x1.out;have:=S_x2.out;omega)
            go_wp2_with fail
            refine(pick_c 9 R.out B.out (by have:=HP.out;omega)).mono ?_
            rintro en w32 ⟨k3,rfl,hk_,hr_,hb_,hkeep_⟩
            have HK3:=AK hk_
            replace R:=AK hr_
            replace B:=AK hb_
            clear hk_ hr_ hb_ hkeep_
            go_wp2_with fail
            refine(l5Dec1_c (n:=k3) (by have:=HK3.out;omega) (by have:=HK3.out;omega)).mono ?_
            rintro en w33 ⟨rfl,hb_⟩
            obtain⟨x3,hx_⟩:∃x,strOfNums [48+k3]=x:=⟨_,rfl⟩
            have S_x3:=AK (show x3.size=1 from by rw[←hx_];rfl)
            rw[hx_]
            clear hx_
            replace R:=AK (R.out.below hb_)
            replace B:=AK (bst B.out hb_)
            clear hb_
            have z5:=eq_true (show ot.size+5+x1.size+1+x2.size+1+x3.size≤9223372036854775807 by have:=HSZ.out;have:=S_x1.out;have:=S_x2.out;have:=S_x3.out;omega)
            have z5b:=eq_false (show ¬ 9223372036854775807<ot.size+5+x1.size+1+x2.size+1+x3.size by have:=HSZ.out;have:=S_x1.out;have:=S_x2.out;have:=S_x3.out;omega)
            go_wp2
            go_meet
            case rel=>exact⟨_,rfl,⟨by simp only[ByteArray.size_append];have:=S_x1.out;have:=S_x2.out;have:=S_x3.out;have:ByteArray.size ⟨#[116,97,107,101,32]⟩=5:=rfl;have:ByteArray.size ⟨#[32]⟩=1:=rfl;omega⟩,⟨R.out.more (by omega)⟩,B⟩
        · skip
          subst h
          focus
            go_wp2_with fail
            refine(pick_c 9 R.out B.out (by have:=HP.out;omega)).mono ?_
            rintro en w34 ⟨k1,rfl,hk_,hr_,hb_,hkeep_⟩
            have HK1:=AK hk_
            replace R:=AK hr_
            replace B:=AK hb_
            clear hk_ hr_ hb_ hkeep_
            go_wp2_with fail
            refine(l5Dec1_c (n:=k1) (by have:=HK1.out;omega) (by have:=HK1.out;omega)).mono ?_
            rintro en w35 ⟨rfl,hb_⟩
            obtain⟨x1,hx_⟩:∃x,strOfNums [48+k1]=x:=⟨_,rfl⟩
            have S_x1:=AK (show x1.size=1 from by rw[←hx_];rfl)
            rw[hx_]
            clear hx_
            replace R:=AK (R.out.below hb_)
            replace B:=AK (bst B.out hb_)
            clear hb_
            have z0:=eq_true (show 4+x1.size≤9223372036854775807 by have:=HSZ.out;have:=S_x1.out;omega)
            have z0b:=eq_false (show ¬ 9223372036854775807<4+x1.size by have:=HSZ.out;have:=S_x1.out;omega)
            have z1:=eq_true (show 4+x1.size+1≤9223372036854775807 by have:=HSZ.out;have:=S_x1.out;omega)
            have z1b:=eq_false (show ¬ 9223372036854775807<4+x1.size+1 by have:=HSZ.out;have:=S_x1.out;omega)
            go_wp2_with fail
            refine(pick_c 9 R.out B.out (by have:=HP.out;omega)).mono ?_
            rintro en w36 ⟨k2,rfl,hk_,hr_,hb_,hkeep_⟩
            have HK2:=AK hk_
            replace R:=AK hr_
            replace B:=AK hb_
            clear hk_ hr_ hb_ hkeep_
            go_wp2_with fail
            refine(l5Dec1_c (n:=k2) (by have:=HK2.out;omega) (by have:=HK2.out;omega)).mono ?_
            rintro en w37 ⟨rfl,hb_⟩
            obtain⟨x2,hx_⟩:∃x,strOfNums [48+k2]=x:=⟨_,rfl⟩
            have S_x2:=AK (show x2.size=1 from by rw[←hx_];rfl)
            rw[hx_]
            clear hx_
            replace R:=AK (R.out.below hb_)
            replace B:=AK (bst B.out hb_)
            clear hb_
            have z2:=eq_true (show 4+x1.size+1+x2.size≤9223372036854775807 by have:=HSZ.out;have:=S_x1.out;have:=S_x2.out;omega)
            have z2b:=eq_false (show ¬ 9223372036854775807<4+x1.size+1+x2.size by have:=HSZ.out;have:=S_x1.out;have:=S_x2.out;omega)
            have z3:=eq_true (show 4+x1.size+1+x2.size+1≤9223372036854775807 by have:=HSZ.out;have:=S_x1.out;have:=S_x2.out;omega)
            have z3b:=eq_false (show ¬ 9223372036854775807<4+x1.size+1+x2.size+1 by have:=HSZ.out;have:=S_x1.out;have:=S_x2.out;omega)
            go_wp2_with fail
            refine(pick_c 9 R.out B.out (by have:=HP.out;omega)).mono ?_
            rintro en w38 ⟨k3,rfl,hk_,hr_,hb_,hkeep_⟩
            have HK3:=AK hk_
            replace R:=AK hr_
            replace B:=AK hb_
            clear hk_ hr_ hb_ hkeep_
            go_wp2_with fail
            refine(l5Dec1_c (n:=k3) (by have:=HK3.out;omega) (by have:=HK3.out;omega)).mono ?_
            rintro en w39 ⟨rfl,hb_⟩
            obtain⟨x3,hx_⟩:∃x,strOfNums [48+k3]=x:=⟨_,rfl⟩
            have S_x3:=AK (show x3.size=1 from by rw[←hx_];rfl)
            rw[hx_]
            clear hx_
            replace R:=AK (R.out.below hb_)
            replace B:=AK (bst B.out hb_)
            clear hb_
            have z4:=eq_true (show 4+x1.size+1+x2.size+1+x3.size≤9223372036854775807 by have:=HSZ.out;have:=S_x1.out;have:=S_x2.out;have:=S_x3.out;omega)
            have z4b:=eq_false (show ¬ 9223372036854775807<4+x1.size+1+x2.size+1+x3.size by have:=HSZ.out;have:=S_x1.out;have:=S_x2.out;have:=S_x3.out;omega)
            go_wp2_with fail
            refine(pick_c 9 R.out B.out (by have:=HP.out;omega)).mono ?_
            rintro en w40 ⟨k4,rfl,hk_,hr_,hb_,hkeep_⟩
            have HK4:=AK hk_
            replace R:=AK hr_
            replace B:=AK hb_
            clear hk_ hr_ hb_ hkeep_
            go_wp2_with fail
            refine(l5Dec1_c (n:=k4) (by have:=HK4.out;omega) (by have:=HK4.out;omega)).mono ?_
            rintro en w41 ⟨rfl,hb_⟩
            obtain⟨x4,hx_⟩:∃x,strOfNums [48+k4]=x:=⟨_,rfl⟩
            have S_x4:=AK (show x4.size=1 from by rw[←hx_];rfl)
            rw[hx_]
            clear hx_
            replace R:=AK (R.out.below hb_)
            replace B:=AK (bst B.out hb_)
            clear hb_
            have z5:=eq_true (show 7+x4.size≤9223372036854775807 by have:=HSZ.out;have:=S_x1.out;have:=S_x2.out;have:=S_x3.out;have:=S_x4.out;omega)
            have z5b:=eq_false (show ¬ 9223372036854775807<7+x4.size by have:=HSZ.out;have:=S_x1.out;have:=S_x2.out;have:=S_x3.out;have:=S_x4.out;omega)
            replace HSZ:=AK (show (ot.size:Int)≤3000∧x1.size=1∧x2.size=1∧x3.size=1∧x4.size=1 from⟨HSZ.out,S_x1.out,S_x2.out,S_x3.out,S_x4.out⟩)
            go_wp2_with ((with_reducible refine gate_dst (N:=143) rfl ?_);refine Kd.R_lit Kd.string (w0:=w) w.heap.size 9 ?hg (N:=143) ?hd (xs:=([⟨#[99,111,108,108,101,99,116]⟩,⟨#[115,105,122,101]⟩,(((((⟨#[115,101,116,32]⟩:ByteArray)++x1)++⟨#[32]⟩)++x2)++⟨#[32]⟩)++x3,(⟨#[102,111,114,103,101,116,32]⟩:ByteArray)++x4]:List ByteArray)) (inner:=[.string (⟨#[99,111,108,108,101,99,116]⟩),.string (⟨#[115,105,122,101]⟩),.string ((((((⟨#[115,101,116,32]⟩:ByteArray)++x1)++⟨#[32]⟩)++x2)++⟨#[32]⟩)++x3),.string ((⟨#[102,111,114,103,101,116,32]⟩:ByteArray)++x4)]) (ok:=fun _=>True) (okp:=fun _=>True) ?hr ?hp (fun _ hk=>hk) trivial B.out B.out.size (by simp) ?_;(case hd=>rfl);(case hg=>rfl);(case hr=>first|(go_simp;done)|(go_simp;rfl));(case hp=>exact(Reps.one (show Kd.M Kd.string _ _ _ (⟨#[99,111,108,108,101,99,116]⟩:ByteArray) [.string (⟨#[99,111,108,108,101,99,116]⟩)]from rfl) (Reps.one (show Kd.M Kd.string _ _ _ (⟨#[115,105,122,101]⟩:ByteArray) [.string (⟨#[115,105,122,101]⟩)]from rfl) (Reps.one (show Kd.M Kd.string _ _ _ ((((((⟨#[115,101,116,32]⟩:ByteArray)++x1)++⟨#[32]⟩)++x2)++⟨#[32]⟩)++x3:ByteArray) [.string ((((((⟨#[115,101,116,32]⟩:ByteArray)++x1)++⟨#[32]⟩)++x2)++⟨#[32]⟩)++x3)]from rfl) (Reps.one (show Kd.M Kd.string _ _ _ ((⟨#[102,111,114,103,101,116,32]⟩:ByteArray)++x4:ByteArray) [.string ((⟨#[102,111,114,103,101,116,32]⟩:ByteArray)++x4)]from rfl) (Reps.none _ _))))));intro v63 w8 hs hb hg hn;obtain⟨S,cS,hv⟩:=Kd.R_slice hs;subst hv;replace R:=AK (R.out.grown hg (by simp));replace B:=AK hb;have HS:=AK hs;clear hb hg hn hs)
            refine(of_c (ts:=[⟨#[99,111,108,108,101,99,116]⟩,⟨#[115,105,122,101]⟩,(((((⟨#[115,101,116,32]⟩:ByteArray)++x1)++⟨#[32]⟩)++x2)++⟨#[32]⟩)++x3,(⟨#[102,111,114,103,101,116,32]⟩:ByteArray)++x4]) R.out B.out (by have:=HP.out;omega) (Kd.R_reads' HS.out).2.2 (Kd.R_reads' HS.out).2.1 (fun ad e _ h=>R.out.ne_own HS.out (by decide) (by rw[e];exact congrArg some h.symm)) (by simp)).mono ?_
            rintro en w42 ⟨t1,rfl,ht_,hr_,hb_,hkeep_⟩
            have S_t1:=AK (show t1.size≤40 from by
              simp only[List.mem_cons,List.not_mem_nil,or_false]at ht_
              rcases ht_ with rfl|rfl|rfl|rfl<;>first|decide|(simp only[ByteArray.size_append];have:=HSZ.out;have l1:ByteArray.size ⟨#[115,101,116,32]⟩=4:=rfl;have l2:ByteArray.size ⟨#[32]⟩=1:=rfl;have l3:ByteArray.size ⟨#[102,111,114,103,101,116,32]⟩=7:=rfl;omega))
            replace R:=AK hr_
            replace B:=AK hb_
            clear ht_ hr_ hb_ hkeep_ HS
            have z6:=eq_true (show ot.size+t1.size≤9223372036854775807 by have:=HSZ.out;have:=S_t1.out;omega)
            have z6b:=eq_false (show ¬ 9223372036854775807<ot.size+t1.size by have:=HSZ.out;have:=S_t1.out;omega)
            go_wp2
            go_meet
            case rel=>exact⟨_,rfl,⟨by simp only[ByteArray.size_append];have:=S_t1.out;omega⟩,⟨R.out.more (by omega)⟩,B⟩
        · skip
          subst h
          focus
            go_wp2_with ((with_reducible refine gate_dst (N:=150) rfl ?_);refine Kd.R_lit Kd.string (w0:=w) w.heap.size 9 ?hg (N:=150) ?hd (xs:=([⟨#[]⟩,⟨#[119,104,97,116]⟩,⟨#[100,97,116,97,32,49]⟩,⟨#[99,101,108,108]⟩,⟨#[99,101,108,108,32,120]⟩,⟨#[119,101,97,107,32,49,32,50]⟩,⟨#[116,97,107,101,32,49,32,50]⟩,⟨#[115,105,122,101,32,49]⟩,⟨#[99,111,108,108,101,99,116,32,49]⟩,⟨#[102,111,114,103,101,116]⟩,⟨#[115,101,116,32,49,32,50]⟩,⟨#[99,101,108,108,32,49,32,49,32,49,32,49,32,49,32,49,32,49,32,49]⟩]:List ByteArray)) (inner:=[.string (⟨#[]⟩),.string (⟨#[119,104,97,116]⟩),.string (⟨#[100,97,116,97,32,49]⟩),.string (⟨#[99,101,108,108]⟩),.string (⟨#[99,101,108,108,32,120]⟩),.string (⟨#[119,101,97,107,32,49,32,50]⟩),.string (⟨#[116,97,107,101,32,49,32,50]⟩),.string (⟨#[115,105,122,101,32,49]⟩),.string (⟨#[99,111,108,108,101,99,116,32,49]⟩),.string (⟨#[102,111,114,103,101,116]⟩),.string (⟨#[115,101,116,32,49,32,50]⟩),.string (⟨#[99,101,108,108,32,49,32,49,32,49,32,49,32,49,32,49,32,49,32,49]⟩)]) (ok:=fun _=>True) (okp:=fun _=>True) ?hr ?hp (fun _ hk=>hk) trivial B.out B.out.size (by simp) ?_;(case hd=>rfl);(case hg=>rfl);(case hr=>first|(go_simp;done)|(go_simp;rfl));(case hp=>exact(Reps.one (show Kd.M Kd.string _ _ _ (⟨#[]⟩:ByteArray) [.string (⟨#[]⟩)]from rfl) (Reps.one (show Kd.M Kd.string _ _ _ (⟨#[119,104,97,116]⟩:ByteArray) [.string (⟨#[119,104,97,116]⟩)]from rfl) (Reps.one (show Kd.M Kd.string _ _ _ (⟨#[100,97,116,97,32,49]⟩:ByteArray) [.string (⟨#[100,97,116,97,32,49]⟩)]from rfl) (Reps.one (show Kd.M Kd.string _ _ _ (⟨#[99,101,108,108]⟩:ByteArray) [.string (⟨#[99,101,108,108]⟩)]from rfl) (Reps.one (show Kd.M Kd.string _ _ _ (⟨#[99,101,108,108,32,120]⟩:ByteArray) [.string (⟨#[99,101,108,108,32,120]⟩)]from rfl) (Reps.one (show Kd.M Kd.string _ _ _ (⟨#[119,101,97,107,32,49,32,50]⟩:ByteArray) [.string (⟨#[119,101,97,107,32,49,32,50]⟩)]from rfl) (Reps.one (show Kd.M Kd.string _ _ _ (⟨#[116,97,107,101,32,49,32,50]⟩:ByteArray) [.string (⟨#[116,97,107,101,32,49,32,50]⟩)]from rfl) (Reps.one (show Kd.M Kd.string _ _ _ (⟨#[115,105,122,101,32,49]⟩:ByteArray) [.string (⟨#[115,105,122,101,32,49]⟩)]from rfl) (Reps.one (show Kd.M Kd.string _ _ _ (⟨#[99,111,108,108,101,99,116,32,49]⟩:ByteArray) [.string (⟨#[99,111,108,108,101,99,116,32,49]⟩)]from rfl) (Reps.one (show Kd.M Kd.string _ _ _ (⟨#[102,111,114,103,101,116]⟩:ByteArray) [.string (⟨#[102,111,114,103,101,116]⟩)]from rfl) (Reps.one (show Kd.M Kd.string _ _ _ (⟨#[115,101,116,32,49,32,50]⟩:ByteArray) [.string (⟨#[115,101,116,32,49,32,50]⟩)]from rfl) (Reps.one (show Kd.M Kd.string _ _ _ (⟨#[99,101,108,108,32,49,32,49,32,49,32,49,32,49,32,49,32,49,32,49]⟩:ByteArray) [.string (⟨#[99,101,108,108,32,49,32,49,32,49,32,49,32,49,32,49,32,49,32,49]⟩)]from rfl) (Reps.none _ _))))))))))))));intro v63 w8 hs hb hg hn;obtain⟨S,cS,hv⟩:=Kd.R_slice hs;subst hv;replace R:=AK (R.out.grown hg (by simp));replace B:=AK hb;have HS:=AK hs;clear hb hg hn hs)
            refine(of_c (ts:=[⟨#[]⟩,⟨#[119,104,97,116]⟩,⟨#[100,97,116,97,32,49]⟩,⟨#[99,101,108,108]⟩,⟨#[99,101,108,108,32,120]⟩,⟨#[119,101,97,107,32,49,32,50]⟩,⟨#[116,97,107,101,32,49,32,50]⟩,⟨#[115,105,122,101,32,49]⟩,⟨#[99,111,108,108,101,99,116,32,49]⟩,⟨#[102,111,114,103,101,116]⟩,⟨#[115,101,116,32,49,32,50]⟩,⟨#[99,101,108,108,32,49,32,49,32,49,32,49,32,49,32,49,32,49,32,49]⟩]) R.out B.out (by have:=HP.out;omega) (Kd.R_reads' HS.out).2.2 (Kd.R_reads' HS.out).2.1 (fun ad e _ h=>R.out.ne_own HS.out (by decide) (by rw[e];exact congrArg some h.symm)) (by simp)).mono ?_
            rintro en w43 ⟨t1,rfl,ht_,hr_,hb_,hkeep_⟩
            have S_t1:=AK (show t1.size≤40 from by
              simp only[List.mem_cons,List.not_mem_nil,or_false]at ht_
              rcases ht_ with rfl|rfl|rfl|rfl|rfl|rfl|rfl|rfl|rfl|rfl|rfl|rfl<;>first|decide|(simp only[ByteArray.size_append];have:=HSZ.out;have l1:ByteArray.size ⟨#[115,101,116,32]⟩=4:=rfl;have l2:ByteArray.size ⟨#[32]⟩=1:=rfl;have l3:ByteArray.size ⟨#[102,111,114,103,101,116,32]⟩=7:=rfl;omega))
            replace R:=AK hr_
            replace B:=AK hb_
            clear ht_ hr_ hb_ hkeep_ HS
            have z0:=eq_true (show ot.size+t1.size≤9223372036854775807 by have:=HSZ.out;have:=S_t1.out;omega)
            have z0b:=eq_false (show ¬ 9223372036854775807<ot.size+t1.size by have:=HSZ.out;have:=S_t1.out;omega)
            go_wp2
            go_meet
            case rel=>exact⟨_,rfl,⟨by simp only[ByteArray.size_append];have:=S_t1.out;omega⟩,⟨R.out.more (by omega)⟩,B⟩
        · skip
          subst h
          focus
            have z0:=eq_true (show ot.size+7≤9223372036854775807 by have:=HSZ.out;omega)
            have z0b:=eq_false (show ¬ 9223372036854775807<ot.size+7 by have:=HSZ.out;omega)
            go_wp2
            go_meet
            case rel=>exact⟨_,rfl,⟨by simp only[ByteArray.size_append];have:ByteArray.size ⟨#[99,111,108,108,101,99,116]⟩=7:=rfl;omega⟩,⟨R.out.more (by omega)⟩,B⟩
      case rest=>
        clear R B
        obtain⟨o2,rfl,HO2,R,B⟩:=hcut
        have z0:=eq_true (show o2.size+1≤9223372036854775807 by have:=HSZ.out;have:=HO2.out;omega)
        have z0b:=eq_false (show ¬ 9223372036854775807<o2.size+1 by have:=HSZ.out;have:=HO2.out;omega)
        go_wp2
        go_roundg k1
        case measure=>omega
        case rel=>
          rw[wr_in (x:=j - 1) (by have:=HJ.out;omega) (by have:=HJ.out;omega)]
          exact⟨_,j - 1,rfl,rfl,⟨by have:=HJ.out;have:=HCJ.out;omega,by have:=HJ.out;omega,by have:=HJ.out;omega⟩,⟨by rw[ByteArray.size_append];have:=HO2.out;have:=HO.out;show ((o2.size+1:Nat):Int)≤_;omega⟩,⟨R.out.more (by have:=HPE.out;omega)⟩,B⟩
    · skip
      have c9:decide (0<j)=false:=deF cj
      have c8:decide (j > 0)=false:=deF cj
      have HSZ:=AK (show (ot.size:Int)≤3000 from by have:=HO.out;have:=HJ.out;omega)
      clear cj
      go_wp2_with fail
      clear c8 c9
      refine(pick_c 24 R.out B.out (by have:=HP.out;omega)).mono ?_
      rintro en w44 ⟨k,rfl,hk_,hr_,hb_,hkeep_⟩
      have HK:=AK hk_
      replace R:=AK hr_
      replace B:=AK hb_
      clear hk_ hr_ hb_ hkeep_
      by_cases h0:k=0
      · subst h0
        go_wp2_with fail
        refine(pick_c 2 R.out B.out (by have:=HP.out;omega)).mono ?_
        rintro en w45 ⟨q,rfl,hk_,hr_,hb_,hkeep_⟩
        have HQ:=AK hk_
        replace R:=AK hr_
        replace B:=AK hb_
        clear hk_ hr_ hb_ hkeep_
        obtain⟨m,hm⟩:∃m,wrap64 (200+q)=m:=⟨_,rfl⟩
        have HM:=AK (show 0≤m∧m≤10000 from by rw[←hm,wr_in (by have:=HQ.out;omega) (by have:=HQ.out;omega)];have:=HQ.out;omega)
        go_wp2_with fail
        clear hm
        refine(l1Many_c (s:=⟨#[115,105,122,101,10]⟩) (n:=m) HM.out.1 HM.out.2 (by decide)).mono ?_
        rintro en wz ⟨t,rfl,ht,hw_⟩
        rw[hw_]
        clear hw_ wz
        have HT:=AK ht
        clear ht
        go_wp2
        go_ret
        exact⟨t,rfl,by have:=HT.out;omega,B.out⟩
      by_cases h1:k=1
      · subst h1
        clear h0
        go_wp2_with fail
        refine(pick_c 2 R.out B.out (by have:=HP.out;omega)).mono ?_
        rintro en w46 ⟨q,rfl,hk_,hr_,hb_,hkeep_⟩
        have HQ:=AK hk_
        replace R:=AK hr_
        replace B:=AK hb_
        clear hk_ hr_ hb_ hkeep_
        obtain⟨m,hm⟩:∃m,wrap64 (6000+q)=m:=⟨_,rfl⟩
        have HM:=AK (show 0≤m∧m≤10000 from by rw[←hm,wr_in (by have:=HQ.out;omega) (by have:=HQ.out;omega)];have:=HQ.out;omega)
        go_wp2_with fail
        clear hm
        refine(l1Many_c (s:=⟨#[120]⟩) (n:=m) HM.out.1 HM.out.2 (by decide)).mono ?_
        rintro en wz ⟨t,rfl,ht,hw_⟩
        rw[hw_]
        clear hw_ wz
        have HT:=AK ht
        clear ht
        go_wp2
        go_ret
        exact⟨t,rfl,by have:=HT.out;omega,B.out⟩
      have e0:(k == 0)=false:=beq_eq_false_iff_ne.2 h0
      have e1:(k == 1)=false:=beq_eq_false_iff_ne.2 h1
      have e0p:=eq_false h0
      have e1p:=eq_false h1
      clear h0 h1
      go_wp2
      go_ret
      exact⟨ot,rfl,by have:=HSZ.out;omega,B.out⟩
end Go.Proofs.YtigjhfijkdlldaaDoor.H
