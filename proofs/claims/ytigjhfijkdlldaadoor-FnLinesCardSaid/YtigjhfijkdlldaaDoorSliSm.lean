import Derived.Test.YtigjhfijkdlldaaDoorSliSa
import Derived.Test.YtigjhfijkdlldaaDoorSliQc
import Derived.Test.YtigjhfijkdlldaaDoorSliSc
section
namespace Go.Proofs.YtigjhfijkdlldaaDoor.Q
open Go.RowKit Go.Proofs.YtigjhfijkdlldaaDoorW.PrintWords Go.Proofs.YtigjhfijkdlldaaDoorW.PrintLast Go.Proofs.YtigjhfijkdlldaaDoorW.PrintMore
attribute [local go_sem] max2_int min2_int max_two min_two max_three min_three max_four min_four
set_option linter.unusedVariables false
set_option linter.unusedSimpArgs false
def spec_l1Open.f (l0:List Int):Option (List Int × Int):=if(l0.length:Int) > 2000 then(if 2000≤(l0.length:Int)then(some (l0.take 2000,0))else(none))else(some (l0,0))
set_option maxHeartbeats 8000000 in
set_option maxRecDepth 100000 in
theorem spec_l1Open.calls (A0:Option Addr) (c0:Nat) (l0:List Int) (r1:List Int) (r2:Int) (w0 w:World) (hB:Below w0.heap.size w0 w) (hr0:Kd.C (Kd.int .u8) w0 A0 l0.length l0) (hc0:l0.length≤c0) (h:spec_l1Open.f l0=some (r1,r2)) :
    Calls Tryd.prog 15 #[.slice A0 l0.length c0] w fun e w'=>∃g_:Nat,e=.returned (.pointer (some ⟨g_,0,none⟩))∧IsS121 w0 w' g_ r1 r2∧Below w0.heap.size w0 w'∧Below w.heap.size w w':=by
  have hu121:=Tryd.underlying57
  have HR0:=AK hr0
  have HC0:=AK hc0
  clear hr0 hc0
  have HBW:=AK (Below.refl w.heap.size w)
  have HW0:=AK hB.size
  have HB:=AK hB
  clear hB
  have H:(if(l0.length:Int) > 2000 then(if 2000≤(l0.length:Int)then(some (l0.take 2000,0))else(none))else(some (l0,0)))=some (r1,r2):=h
  clear h
  by_cases c2:(l0.length:Int) > 2000
  · rw[if_pos c2]at H
    have c2b0:decide (2000<(l0.length:Int))=true:=deT c2
    have c2b1:decide (2000<l0.length)=true:=deT (by omega)
    clear c2
    by_cases c3:2000≤(l0.length:Int)
    · rw[if_pos c3]at H
      have c3b0:=eq_true c3
      have c3b1:decide (2000≤(l0.length:Int))=true:=deT c3
      clear c3
      simp only[Option.some.injEq,Prod.mk.injEq]at H
      obtain⟨rfl,rfl⟩:=H
      obtain⟨i04,hi04,_,hsz4,_⟩:=info_parts info5
      obtain⟨hcut4,hA4,hC4⟩:=print_take_of (P:=Tryd.prog) (Value.int .u8) 0 24 5 .i64 Tryd.underlying24 hi04 hsz4 A0 c0 l0 2000 (by omega) (of_decide_eq_true zA) HC0.out
      have HR101:=AK (Kd.C_of_reads (h1:=fun _=>rfl) (hA4 _ (Kd.reads_of_C HR0.out)))
      have HC101:=AK hC4
      clear hA4 hC4 hi04 hsz4
      go_enter Tryd.func15,Tryd.ntmps15
      go_wp2_with (first|((with_reducible refine gate_dst (N:=10) rfl ?_);refine box_event ?hg (N:=10) ?hd (cs:=#[.slice A0 (l0.take 2000).length c0,.int .i64 0]) (t:=57) ?hr ?_;(case hd=>rfl);(case hg=>rfl);(case hr=>first|(go_simp;done)|(go_simp;rfl));intro gb102 hg w5 hbox hb;have n0_:=AK (bst HBW.out hb);have n1_:=AK (bst zB hb);have n2_:=AK (hbox);have n3_:=AK ((by rw[hg];exact(below_size (by repeat (first|(with_reducible first|exact HBW.out|apply below_alloc|apply pw_below_drewN|apply below_drew1)|exact HBW.out))):w.heap.size≤gb102));have n4_:=AK ((Nat.le_trans HW0.out (by rw[hg];exact(below_size (by repeat (first|(with_reducible first|exact HBW.out|apply below_alloc|apply pw_below_drewN|apply below_drew1)|exact HBW.out))):w.heap.size≤gb102):w0.heap.size≤gb102));clear HBW;clear HB;have HBW:=n0_;have HB:=n1_;have BK102:=n2_;have GW102:=n3_;have GE102:=n4_;clear n0_ n1_ n2_ n3_ n4_;clear hb hbox hg))
      go_ret
      exact⟨_,rfl,(show IsS121 w0 _ gb102 (l0.take 2000) 0 from⟨_,_,by(with_reducible repeat (first|refine blk_drewN ?_ _|refine blk_drew ?_|refine blk_alloc ?_ _));exact BK102.out,GE102.out,HR101.out⟩),zB,by repeat (first|(with_reducible first|exact HBW.out|apply below_alloc|apply pw_below_drewN|apply below_drew1|refine below_set ?_ GW102.out)|exact HBW.out)⟩
    · rw[if_neg c3]at H
      exact absurd H (by simp)
  · rw[if_neg c2]at H
    have c2b0:decide (2000<(l0.length:Int))=false:=deF c2
    have c2b1:decide (2000<l0.length)=false:=deF (by omega)
    clear c2
    simp only[Option.some.injEq,Prod.mk.injEq]at H
    obtain⟨rfl,rfl⟩:=H
    go_enter Tryd.func15,Tryd.ntmps15
    go_wp2_with (first|((with_reducible refine gate_dst (N:=10) rfl ?_);refine box_event ?hg (N:=10) ?hd (cs:=#[.slice A0 l0.length c0,.int .i64 0]) (t:=57) ?hr ?_;(case hd=>rfl);(case hg=>rfl);(case hr=>first|(go_simp;done)|(go_simp;rfl));intro gb103 hg w6 hbox hb;have n0_:=AK (bst HBW.out hb);have n1_:=AK (bst zB hb);have n2_:=AK (hbox);have n3_:=AK ((by rw[hg];exact(below_size (by repeat (first|(with_reducible first|exact HBW.out|apply below_alloc|apply pw_below_drewN|apply below_drew1)|exact HBW.out))):w.heap.size≤gb103));have n4_:=AK ((Nat.le_trans HW0.out (by rw[hg];exact(below_size (by repeat (first|(with_reducible first|exact HBW.out|apply below_alloc|apply pw_below_drewN|apply below_drew1)|exact HBW.out))):w.heap.size≤gb103):w0.heap.size≤gb103));clear HBW;clear HB;have HBW:=n0_;have HB:=n1_;have BK103:=n2_;have GW103:=n3_;have GE103:=n4_;clear n0_ n1_ n2_ n3_ n4_;clear hb hbox hg))
    go_ret
    exact⟨_,rfl,(show IsS121 w0 _ gb103 l0 0 from⟨_,_,by(with_reducible repeat (first|refine blk_drewN ?_ _|refine blk_drew ?_|refine blk_alloc ?_ _));exact BK103.out,GE103.out,HR0.out⟩),zB,by repeat (first|(with_reducible first|exact HBW.out|apply below_alloc|apply pw_below_drewN|apply below_drew1|refine below_set ?_ GW103.out)|exact HBW.out)⟩
def spec_l1Rd_pick.j0:Nat→Int→Bool→List Int→Int→Option (Int × Int)
  | 0,_,_,_,_=>none
  | k+1,x1,x24,x1000,x1001=>if x24=true then(some (0,x1001))else(if(wrap64 (x1001 - 1))<(x1000.length:Int)then(if 0≤(wrap64 (x1001 - 1))then(if x1=0 then(none)else(some (Int.tmod (wrap64 (rd x1000 (wrap64 (x1001 - 1)))) x1,x1001)))else(none))else(if(x1000.length:Int)=0 then(none)else(if 0≤(Int.tmod (wrap64 (x1001 - 1)) (x1000.length:Int))then(if(Int.tmod (wrap64 (x1001 - 1)) (x1000.length:Int))<(x1000.length:Int)then(if 0≤(Int.tmod (wrap64 ((wrap64 ((wrap64 (x1001 - 1))*7))+3)) (x1000.length:Int))then(if(Int.tmod (wrap64 ((wrap64 ((wrap64 (x1001 - 1))*7))+3)) (x1000.length:Int))<(x1000.length:Int)then(if x1=0 then(none)else(some (Int.tmod (Go.bits .xor .i64 (wrap64 ((wrap64 ((wrap64 ((wrap64 ((wrap64 (rd x1000 (Int.tmod (wrap64 (x1001 - 1)) (x1000.length:Int))))*131))+(wrap64 ((wrap64 (rd x1000 (Int.tmod (wrap64 ((wrap64 ((wrap64 (x1001 - 1))*7))+3)) (x1000.length:Int))))*1117))))+(wrap64 ((wrap64 (x1001 - 1))*29))))+(wrap64 ((wrap64 (Int.tdiv (wrap64 (x1001 - 1)) (x1000.length:Int)))*53)))) (wrap64 (Int.tdiv (wrap64 ((wrap64 ((wrap64 ((wrap64 ((wrap64 (rd x1000 (Int.tmod (wrap64 (x1001 - 1)) (x1000.length:Int))))*131))+(wrap64 ((wrap64 (rd x1000 (Int.tmod (wrap64 ((wrap64 ((wrap64 (x1001 - 1))*7))+3)) (x1000.length:Int))))*1117))))+(wrap64 ((wrap64 (x1001 - 1))*29))))+(wrap64 ((wrap64 (Int.tdiv (wrap64 (x1001 - 1)) (x1000.length:Int)))*53)))) 64))) x1,x1001)))else(none))else(none))else(none))else(none))))
def spec_l1Rd_pick.f (k:Nat) (s0_0:List Int) (s0_1:Int) (a1:Int):Option (Int × Int):=if a1<1 then(spec_l1Rd_pick.j0 k a1 true s0_0 (wrap64 (s0_1+1)))else(spec_l1Rd_pick.j0 k a1 ((s0_0.length:Int) == 0) s0_0 (wrap64 (s0_1+1)))
set_option maxHeartbeats 8000000 in
set_option maxRecDepth 100000 in
theorem spec_l1Rd_pick.calls (k:Nat) (g:Nat) (s0_0:List Int) (s0_1:Int) (a1:Int) (r1:Int) (r2:Int) (w0 w:World) (hI:IsS121 w0 w g s0_0 s0_1) (hB:Below w0.heap.size w0 w) (h:spec_l1Rd_pick.f k s0_0 s0_1 a1=some (r1,r2)) :
    Calls Tryd.prog 16 #[.pointer (some ⟨g,0,none⟩),.int .i64 a1] w fun e w'=>e=.returned (.int .i64 r1)∧IsS121 w0 w' g s0_0 r2∧Below w0.heap.size w0 w'∧KeepBut w w' g none:=by
  have HI0:=AK hI
  have HK:=AK (KeepBut.refl w g none)
  have HL:=AK hB.size
  clear hI
  have HW0:=AK hB.size
  have HB:=AK hB
  clear hB
  have H:(if a1<1 then(spec_l1Rd_pick.j0 k a1 true s0_0 (wrap64 (s0_1+1)))else(spec_l1Rd_pick.j0 k a1 ((s0_0.length:Int) == 0) s0_0 (wrap64 (s0_1+1))))=some (r1,r2):=h
  clear h
  have HC3:=AK H
  clear H
  obtain⟨ASz4_0,cSz4_0,HGz4,hgz4,HSz4_0⟩:=HI0.out
  have hcz4_0:=cellS121_0 HGz4
  have hcz4_1:=cellS121_1 HGz4
  have hfz4_1:=bfz HGz4 1
  clear HGz4 hgz4
  go_enter Tryd.func16,Tryd.ntmps16
  go_upto_region 2 with(fail)
  repeat (go_quiet (fail);go_upto_region 2 with(fail))
  go_cut [24] (fun v24 wc=>∃(kq:Nat) (x24_2:Bool),v24=.bool x24_2∧Aside0 (spec_l1Rd_pick.j0 kq a1 x24_2 s0_0 (wrap64 (s0_1+1))=some (r1,r2))∧Aside0 (kq≤k)∧Aside0 (IsS121 w0 wc g s0_0 (wrap64 (s0_1+1)))∧Aside0 (KeepBut w wc g none)∧Aside0 (Below w0.heap.size w0 wc))
  case first=>
    have H:=HC3.out
    clear HC3
    by_cases c5:a1<1
    · rw[if_pos c5]at H
      have c5b0:decide (a1<1)=true:=deT c5
      clear c5
      (first|rw[c5b0]|(simp only[i64_w,i32_w];rw[c5b0])|skip)
      have H':=AK H
      clear H
      go_wp2
      repeat (go_quiet (fail);try go_wp2)
      go_meet
      case rel=>exact⟨_,(true),(by first|rfl|(simp;done)|(simp[*];done)),H',⟨by first|omega|exact Nat.le_refl _⟩,⟨by repeat (first|(with_reducible first|exact HI0.out|apply IsS121.alloc|apply IsS121.drewN|apply IsS121.drew|apply IsS121.set_1)|exact HI0.out)⟩,⟨by repeat (first|(with_reducible first|exact HK.out|apply KeepBut.set_|apply keep_drewN|apply keep_drew|apply keep_alloc)|exact HK.out)⟩,⟨by repeat (first|(with_reducible first|exact HB.out|apply below_alloc|apply pw_below_drewN|apply below_drew1|refine below_set ?_ (IsS121.ge HI0.out))|exact HB.out)⟩⟩
    · rw[if_neg c5]at H
      have c5b0:decide (a1<1)=false:=deF c5
      clear c5
      (first|rw[c5b0]|(simp only[i64_w,i32_w];rw[c5b0])|skip)
      have H':=AK H
      clear H
      obtain⟨ASz6_0,cSz6_0,HGz6,hgz6,HSz6_0⟩:=HI0.out
      have hcz6_0:=cellS121_0 HGz6
      have hcz6_1:=cellS121_1 HGz6
      have hfz6_1:=bfz HGz6 1
      clear HGz6 hgz6
      go_wp2
      repeat (go_quiet (fail);try go_wp2)
      go_meet
      case rel=>exact⟨_,(((s0_0.length:Int) == 0)),(by first|rfl|(simp;done)|(simp[*];done)),H',⟨by first|omega|exact Nat.le_refl _⟩,⟨by repeat (first|(with_reducible first|exact HI0.out|apply IsS121.alloc|apply IsS121.drewN|apply IsS121.drew|apply IsS121.set_1)|exact HI0.out)⟩,⟨by repeat (first|(with_reducible first|exact HK.out|apply KeepBut.set_|apply keep_drewN|apply keep_drew|apply keep_alloc)|exact HK.out)⟩,⟨by repeat (first|(with_reducible first|exact HB.out|apply below_alloc|apply pw_below_drewN|apply below_drew1|refine below_set ?_ (IsS121.ge HI0.out))|exact HB.out)⟩⟩
  case rest=>
    clear HC3
    try clear p2
    try clear c5
    try clear c5b0
    try clear c6
    try clear p6
    try clear hcz4_0
    try clear hcz4_1
    try clear hcz6_0
    try clear hcz6_1
    try clear hfz4_1
    try clear hfz6_1
    obtain⟨kq,x24_2,rfl,HA,HJ2,HI0,HK,HB⟩:=hcut
    cases kq with
    | zero=>exact absurd HA.out (by simp[spec_l1Rd_pick.j0])
    | succ kj2=>
      have H:=HA.out
      clear HA
      simp only[spec_l1Rd_pick.j0]at H
      by_cases c7:x24_2=true
      · subst c7
        have H1:(some (0,(wrap64 (s0_1+1))))=some (r1,r2):=by rw[if_pos rfl]at H;exact H
        clear H
        have H:=H1
        clear H1
        simp only[Option.some.injEq,Prod.mk.injEq]at H
        obtain⟨rfl,rfl⟩:=H
        go_wp2
        repeat (go_quiet (fail);try go_wp2)
        go_ret
        exact⟨by first|rfl|(simp[errW_none,errW_some]<;>rfl)|(simp[*,errW_none,errW_some]<;>rfl),by repeat (first|(with_reducible first|exact HI0.out|apply IsS121.alloc|apply IsS121.drewN|apply IsS121.drew|apply IsS121.set_1)|exact HI0.out),by repeat (first|(with_reducible first|exact HB.out|apply below_alloc|apply pw_below_drewN|apply below_drew1|refine below_set ?_ (IsS121.ge HI0.out))|exact HB.out),by repeat (first|(with_reducible first|exact HK.out|apply KeepBut.set_|apply keep_drewN|apply keep_drew|apply keep_alloc)|exact HK.out)⟩
      · replace c7:=Bool.eq_false_iff.mpr c7
        subst c7
        have H1:(if(wrap64 ((wrap64 (s0_1+1)) - 1))<(s0_0.length:Int)then(if 0≤(wrap64 ((wrap64 (s0_1+1)) - 1))then(if a1=0 then(none)else(some (Int.tmod (wrap64 (rd s0_0 (wrap64 ((wrap64 (s0_1+1)) - 1)))) a1,(wrap64 (s0_1+1)))))else(none))else(if(s0_0.length:Int)=0 then(none)else(if 0≤(Int.tmod (wrap64 ((wrap64 (s0_1+1)) - 1)) (s0_0.length:Int))then(if(Int.tmod (wrap64 ((wrap64 (s0_1+1)) - 1)) (s0_0.length:Int))<(s0_0.length:Int)then(if 0≤(Int.tmod (wrap64 ((wrap64 ((wrap64 ((wrap64 (s0_1+1)) - 1))*7))+3)) (s0_0.length:Int))then(if(Int.tmod (wrap64 ((wrap64 ((wrap64 ((wrap64 (s0_1+1)) - 1))*7))+3)) (s0_0.length:Int))<(s0_0.length:Int)then(if a1=0 then(none)else(some (Int.tmod (Go.bits .xor .i64 (wrap64 ((wrap64 ((wrap64 ((wrap64 ((wrap64 (rd s0_0 (Int.tmod (wrap64 ((wrap64 (s0_1+1)) - 1)) (s0_0.length:Int))))*131))+(wrap64 ((wrap64 (rd s0_0 (Int.tmod (wrap64 ((wrap64 ((wrap64 ((wrap64 (s0_1+1)) - 1))*7))+3)) (s0_0.length:Int))))*1117))))+(wrap64 ((wrap64 ((wrap64 (s0_1+1)) - 1))*29))))+(wrap64 ((wrap64 (Int.tdiv (wrap64 ((wrap64 (s0_1+1)) - 1)) (s0_0.length:Int)))*53)))) (wrap64 (Int.tdiv (wrap64 ((wrap64 ((wrap64 ((wrap64 ((wrap64 (rd s0_0 (Int.tmod (wrap64 ((wrap64 (s0_1+1)) - 1)) (s0_0.length:Int))))*131))+(wrap64 ((wrap64 (rd s0_0 (Int.tmod (wrap64 ((wrap64 ((wrap64 ((wrap64 (s0_1+1)) - 1))*7))+3)) (s0_0.length:Int))))*1117))))+(wrap64 ((wrap64 ((wrap64 (s0_1+1)) - 1))*29))))+(wrap64 ((wrap64 (Int.tdiv (wrap64 ((wrap64 (s0_1+1)) - 1)) (s0_0.length:Int)))*53)))) 64))) a1,(wrap64 (s0_1+1)))))else(none))else(none))else(none))else(none))))=some (r1,r2):=by rw[if_neg (show ¬ (false=true)by decide)]at H;exact H
        clear H
        have H:=H1
        clear H1
        by_cases c8:(wrap64 ((wrap64 (s0_1+1)) - 1))<(s0_0.length:Int)
        · rw[if_pos c8]at H
          have c8b0:decide ((wrap64 ((wrap64 (s0_1+1)) - 1))<(s0_0.length:Int))=true:=deT c8
          clear c8
          obtain⟨ji9,hji9⟩:∃j_:Int,(wrap64 ((wrap64 (s0_1+1)) - 1))=j_:=⟨_,rfl⟩
          replace H:(if 0≤(ji9)then(if a1=0 then(none)else(some (Int.tmod (wrap64 (rd s0_0 (ji9))) a1,(wrap64 (s0_1+1)))))else(none))=some (r1,r2):=by first|(rw[hji9]at H;exact H)|(simp only[hji9]at H ⊢;exact H)
          (try rw[hji9]at c8b0)
          have hji9w:(IntKind.i64.wrap ((wrap64 (s0_1+1)) - 1))=ji9:=(i64_w _).trans hji9
          by_cases c10:0≤(ji9)
          · rw[if_pos c10]at H
            have c10b0:decide (0≤(ji9))=true:=deT c10
            clear c10
            by_cases c11:a1=0
            · rw[if_pos c11]at H
              exact absurd H (by simp)
            · rw[if_neg c11]at H
              have c11b0:(a1 == 0)=false:=beq_eq_false_iff_ne.mpr c11
              have c11b1:(a1 != 0)=true:=bne_iff_ne.mpr c11
              simp only[Option.some.injEq,Prod.mk.injEq]at H
              obtain⟨rfl,rfl⟩:=H
              obtain⟨ASz12_0,cSz12_0,HGz12,hgz12,HSz12_0⟩:=HI0.out
              have hcz12_0:=cellS121_0 HGz12
              have hcz12_1:=cellS121_1 HGz12
              have hfz12_1:=bfz HGz12 1
              clear HGz12 hgz12
              have p104:0≤((ji9):Int):=of_decide_eq_true zA
              have q104:(ji9)<(s0_0.length:Int):=of_decide_eq_true zA
              obtain⟨ad104,e104,hx104_0⟩:=Kd.at_int HSz12_0 (ji9) p104 q104
              cases e104
              replace hx104_0:=pcb HB.out hx104_0
              replace p104:=eq_true p104
              replace q104:=eq_true q104
              go_wp2
              repeat (go_quiet (fail);try go_wp2)
              go_ret
              exact⟨by first|rfl|(simp[errW_none,errW_some]<;>rfl)|(simp only[←hji9];first|rfl|(simp[errW_none,errW_some]<;>rfl))|(simp[*,errW_none,errW_some]<;>rfl),by repeat (first|(with_reducible first|exact HI0.out|apply IsS121.alloc|apply IsS121.drewN|apply IsS121.drew|apply IsS121.set_1)|exact HI0.out),by repeat (first|(with_reducible first|exact HB.out|apply below_alloc|apply pw_below_drewN|apply below_drew1|refine below_set ?_ (IsS121.ge HI0.out))|exact HB.out),by repeat (first|(with_reducible first|exact HK.out|apply KeepBut.set_|apply keep_drewN|apply keep_drew|apply keep_alloc)|exact HK.out)⟩
          · rw[if_neg c10]at H
            exact absurd H (by simp)
        · rw[if_neg c8]at H
          have c8b0:decide ((wrap64 ((wrap64 (s0_1+1)) - 1))<(s0_0.length:Int))=false:=deF c8
          clear c8
          by_cases c13:(s0_0.length:Int)=0
          · rw[if_pos c13]at H
            exact absurd H (by simp)
          · rw[if_neg c13]at H
            have c13b0:((s0_0.length:Int) == 0)=false:=beq_eq_false_iff_ne.mpr c13
            have c13b1:((s0_0.length:Int) != 0)=true:=bne_iff_ne.mpr c13
            have c13b2:¬ (s0_0=[]):=fun h_=>c13 (by rw[h_];rfl)
            obtain⟨ji14,hji14⟩:∃j_:Int,(Int.tmod (wrap64 ((wrap64 (s0_1+1)) - 1)) (s0_0.length:Int))=j_:=⟨_,rfl⟩
            replace H:(if 0≤(ji14)then(if(ji14)<(s0_0.length:Int)then(if 0≤(Int.tmod (wrap64 ((wrap64 ((wrap64 ((wrap64 (s0_1+1)) - 1))*7))+3)) (s0_0.length:Int))then(if(Int.tmod (wrap64 ((wrap64 ((wrap64 ((wrap64 (s0_1+1)) - 1))*7))+3)) (s0_0.length:Int))<(s0_0.length:Int)then(if a1=0 then(none)else(some (Int.tmod (Go.bits .xor .i64 (wrap64 ((wrap64 ((wrap64 ((wrap64 ((wrap64 (rd s0_0 (ji14)))*131))+(wrap64 ((wrap64 (rd s0_0 (Int.tmod (wrap64 ((wrap64 ((wrap64 ((wrap64 (s0_1+1)) - 1))*7))+3)) (s0_0.length:Int))))*1117))))+(wrap64 ((wrap64 ((wrap64 (s0_1+1)) - 1))*29))))+(wrap64 ((wrap64 (Int.tdiv (wrap64 ((wrap64 (s0_1+1)) - 1)) (s0_0.length:Int)))*53)))) (wrap64 (Int.tdiv (wrap64 ((wrap64 ((wrap64 ((wrap64 ((wrap64 (rd s0_0 (ji14)))*131))+(wrap64 ((wrap64 (rd s0_0 (Int.tmod (wrap64 ((wrap64 ((wrap64 ((wrap64 (s0_1+1)) - 1))*7))+3)) (s0_0.length:Int))))*1117))))+(wrap64 ((wrap64 ((wrap64 (s0_1+1)) - 1))*29))))+(wrap64 ((wrap64 (Int.tdiv (wrap64 ((wrap64 (s0_1+1)) - 1)) (s0_0.length:Int)))*53)))) 64))) a1,(wrap64 (s0_1+1)))))else(none))else(none))else(none))else(none))=some (r1,r2):=by first|(rw[hji14]at H;exact H)|(simp only[hji14]at H ⊢;exact H)
            by_cases c15:0≤(ji14)
            · rw[if_pos c15]at H
              have c15b0:decide (0≤(ji14))=true:=deT c15
              clear c15
              by_cases c16:(ji14)<(s0_0.length:Int)
              · rw[if_pos c16]at H
                have c16b0:decide ((ji14)<(s0_0.length:Int))=true:=deT c16
                clear c16
                obtain⟨ji17,hji17⟩:∃j_:Int,(Int.tmod (wrap64 ((wrap64 ((wrap64 ((wrap64 (s0_1+1)) - 1))*7))+3)) (s0_0.length:Int))=j_:=⟨_,rfl⟩
                replace H:(if 0≤(ji17)then(if(ji17)<(s0_0.length:Int)then(if a1=0 then(none)else(some (Int.tmod (Go.bits .xor .i64 (wrap64 ((wrap64 ((wrap64 ((wrap64 ((wrap64 (rd s0_0 (ji14)))*131))+(wrap64 ((wrap64 (rd s0_0 (ji17)))*1117))))+(wrap64 ((wrap64 ((wrap64 (s0_1+1)) - 1))*29))))+(wrap64 ((wrap64 (Int.tdiv (wrap64 ((wrap64 (s0_1+1)) - 1)) (s0_0.length:Int)))*53)))) (wrap64 (Int.tdiv (wrap64 ((wrap64 ((wrap64 ((wrap64 ((wrap64 (rd s0_0 (ji14)))*131))+(wrap64 ((wrap64 (rd s0_0 (ji17)))*1117))))+(wrap64 ((wrap64 ((wrap64 (s0_1+1)) - 1))*29))))+(wrap64 ((wrap64 (Int.tdiv (wrap64 ((wrap64 (s0_1+1)) - 1)) (s0_0.length:Int)))*53)))) 64))) a1,(wrap64 (s0_1+1)))))else(none))else(none))=some (r1,r2):=by first|(rw[hji17]at H;exact H)|(simp only[hji17]at H ⊢;exact H)
                by_cases c18:0≤(ji17)
                · rw[if_pos c18]at H
                  have c18b0:decide (0≤(ji17))=true:=deT c18
                  clear c18
                  by_cases c19:(ji17)<(s0_0.length:Int)
                  · rw[if_pos c19]at H
                    have c19b0:decide ((ji17)<(s0_0.length:Int))=true:=deT c19
                    clear c19
                    by_cases c20:a1=0
                    · rw[if_pos c20]at H
                      exact absurd H (by simp)
                    · rw[if_neg c20]at H
                      have c20b0:(a1 == 0)=false:=beq_eq_false_iff_ne.mpr c20
                      have c20b1:(a1 != 0)=true:=bne_iff_ne.mpr c20
                      simp only[Option.some.injEq,Prod.mk.injEq]at H
                      obtain⟨rfl,rfl⟩:=H
                      obtain⟨ASz21_0,cSz21_0,HGz21,hgz21,HSz21_0⟩:=HI0.out
                      have hcz21_0:=cellS121_0 HGz21
                      have hcz21_1:=cellS121_1 HGz21
                      have hfz21_1:=bfz HGz21 1
                      clear HGz21 hgz21
                      have p105:0≤((ji14):Int):=of_decide_eq_true zA
                      have q105:(ji14)<(s0_0.length:Int):=of_decide_eq_true zA
                      obtain⟨ad105,e105,hx105_0⟩:=Kd.at_int HSz21_0 (ji14) p105 q105
                      cases e105
                      replace hx105_0:=pcb HB.out hx105_0
                      replace p105:=eq_true p105
                      replace q105:=eq_true q105
                      have p106:0≤((ji17):Int):=of_decide_eq_true zA
                      have q106:(ji17)<(s0_0.length:Int):=of_decide_eq_true zA
                      obtain⟨ad106,e106,hx106_0⟩:=Kd.at_int HSz21_0 (ji17) p106 q106
                      obtain rfl:ad105=ad106:=(by injection e106)
                      replace hx106_0:=pcb HB.out hx106_0
                      replace p106:=eq_true p106
                      replace q106:=eq_true q106
                      go_wp2
                      repeat (go_quiet (fail);try go_wp2)
                      go_ret
                      exact⟨by first|rfl|(simp[errW_none,errW_some]<;>rfl)|(simp only[←hji14,←hji17];first|rfl|(simp[errW_none,errW_some]<;>rfl))|(simp[*,errW_none,errW_some]<;>rfl),by repeat (first|(with_reducible first|exact HI0.out|apply IsS121.alloc|apply IsS121.drewN|apply IsS121.drew|apply IsS121.set_1)|exact HI0.out),by repeat (first|(with_reducible first|exact HB.out|apply below_alloc|apply pw_below_drewN|apply below_drew1|refine below_set ?_ (IsS121.ge HI0.out))|exact HB.out),by repeat (first|(with_reducible first|exact HK.out|apply KeepBut.set_|apply keep_drewN|apply keep_drew|apply keep_alloc)|exact HK.out)⟩
                  · rw[if_neg c19]at H
                    exact absurd H (by simp)
                · rw[if_neg c18]at H
                  exact absurd H (by simp)
              · rw[if_neg c16]at H
                exact absurd H (by simp)
            · rw[if_neg c15]at H
              exact absurd H (by simp)
def spec_l1Rd_of.f (k:Nat) (s0_0:List Int) (s0_1:Int) (l1:List ByteArray):Option (ByteArray × Int):=(spec_l1Rd_pick.f k s0_0 s0_1 (l1.length:Int)).bind fun bt226=>(if 0≤bt226.1 then(if bt226.1<(l1.length:Int)then(some (rdOf ByteArray.empty l1 bt226.1,bt226.2))else(none))else(none))
set_option maxHeartbeats 8000000 in
set_option maxRecDepth 100000 in
theorem spec_l1Rd_of.calls (k:Nat) (g:Nat) (s0_0:List Int) (s0_1:Int) (A1:Option Addr) (c1:Nat) (l1:List ByteArray) (r1:ByteArray) (r2:Int) (w0 w:World) (hI:IsS121 w0 w g s0_0 s0_1) (hB:Below w0.heap.size w0 w) (hr1:Kd.C Kd.string w A1 l1.length l1) (hc1:l1.length≤c1) (hf1:∀ad,A1=some ad→0<l1.length→ad.block≠g) (h:spec_l1Rd_of.f k s0_0 s0_1 l1=some (r1,r2)) :
    Calls Tryd.prog 17 #[.pointer (some ⟨g,0,none⟩),.slice A1 l1.length c1] w fun e w'=>e=.returned (.string r1)∧IsS121 w0 w' g s0_0 r2∧Below w0.heap.size w0 w'∧KeepBut w w' g none:=by
  have HR1:=AK hr1
  have HC1:=AK hc1
  clear hr1 hc1
  have HI0:=AK hI
  have HK:=AK (KeepBut.refl w g none)
  have HL:=AK hB.size
  clear hI
  have HW0:=AK hB.size
  have HB:=AK hB
  clear hB
  have H:((spec_l1Rd_pick.f k s0_0 s0_1 (l1.length:Int)).bind fun bt226=>(if 0≤bt226.1 then(if bt226.1<(l1.length:Int)then(some (rdOf ByteArray.empty l1 bt226.1,bt226.2))else(none))else(none)))=some (r1,r2):=h
  clear h
  replace H:=Option.bind_eq_some_iff.mp H
  obtain⟨⟨t226,t227⟩,A30,H⟩:=H
  replace H:(if 0≤t226 then(if t226<(l1.length:Int)then(some (rdOf ByteArray.empty l1 t226,t227))else(none))else(none))=some (r1,r2):=H
  have A3:=AK A30
  clear A30
  by_cases c4:0≤t226
  · rw[if_pos c4]at H
    have c4b0:decide (0≤t226)=true:=deT c4
    clear c4
    by_cases c5:t226<(l1.length:Int)
    · rw[if_pos c5]at H
      have c5b0:decide (t226<(l1.length:Int))=true:=deT c5
      clear c5
      simp only[Option.some.injEq,Prod.mk.injEq]at H
      obtain⟨rfl,rfl⟩:=H
      go_enter Tryd.func17,Tryd.ntmps17
      go_wp2_with (first|((with_reducible refine gate_callee (f:=16) rfl ?_);refine goesL_ (some 9) rfl rfl Tryd.func16 (by kernel_rfl) rfl #[.pointer (some ⟨g,0,none⟩),.int .i64 (l1.length:Int)] rfl zI ?_;(with_reducible refine(spec_l1Rd_pick.calls k g s0_0 s0_1 (l1.length:Int) t226 t227 w0 _ ?side1 ?side2 A3.out).mono ?_);(case side1=>repeat (first|(with_reducible first|exact HI0.out|apply IsS121.alloc|apply IsS121.drewN|apply IsS121.drew|apply IsS121.set_1)|exact HI0.out));(case side2=>repeat (first|(with_reducible first|exact HB.out|apply below_alloc|apply pw_below_drewN|apply below_drew1|refine below_set ?_ (IsS121.ge HI0.out))|exact HB.out));rintro e w6 ⟨rfl,hi,hb,hk⟩;refine⟨_,rfl,?_⟩;have n0_:=AK (KeepBut.trans (by repeat (first|(with_reducible first|exact HK.out|apply KeepBut.set_|apply keep_drewN|apply keep_drew|apply keep_alloc)|exact HK.out)) hk (.inl rfl));have n1_:=AK (hb);have n2_:=AK (hi);clear HK;clear HB;clear HI0;have HK:=n0_;have HB:=n1_;have HI0:=n2_;clear n0_ n1_ n2_;(try clear hb);(try clear hb2);(try clear hk);(try clear hi);have p228:0≤(t226:Int):=of_decide_eq_true zA;have q228:t226<(l1.length:Int):=of_decide_eq_true zA;obtain⟨ad228,e228,hx228_0⟩:=Kd.at_string HR1.out t226 p228 q228;cases e228;replace hx228_0:=keep_cell HK.out hx228_0 (by first|(rw[add_block];exact hf1 _ rfl (by omega))|exact hf1 _ rfl (by omega)|exact hf1 ad228 rfl (by omega));replace p228:=eq_true p228;replace q228:=eq_true q228))
      go_ret
      exact⟨by first|rfl|(simp[errW_none,errW_some]<;>rfl)|(simp[*,errW_none,errW_some]<;>rfl),by repeat (first|(with_reducible first|exact HI0.out|apply IsS121.alloc|apply IsS121.drewN|apply IsS121.drew|apply IsS121.set_1)|exact HI0.out),by repeat (first|(with_reducible first|exact HB.out|apply below_alloc|apply pw_below_drewN|apply below_drew1|refine below_set ?_ (IsS121.ge HI0.out))|exact HB.out),by repeat (first|(with_reducible first|exact HK.out|apply KeepBut.set_|apply keep_drewN|apply keep_drew|apply keep_alloc)|exact HK.out)⟩
    · rw[if_neg c5]at H
      exact absurd H (by simp)
  · rw[if_neg c4]at H
    exact absurd H (by simp)
end Go.Proofs.YtigjhfijkdlldaaDoor.Q
end
section
namespace Go.Proofs.YtigjhfijkdlldaaDoor.H
open Go.RowKit Go.Proofs.YtigjhfijkdlldaaDoorW.PrintWords Go.Proofs.YtigjhfijkdlldaaDoorW.PrintLast Go.Proofs.YtigjhfijkdlldaaDoorW.PrintMore Go.Proofs.YtigjhfijkdlldaaDoor.Q
set_option linter.unusedVariables false
set_option linter.unusedSimpArgs false
theorem xor_range (a b:Int) (ha:0≤a) (ha2:a<2 ^ 62) (hb:0≤b) (hb2:b<2 ^ 62):0≤Go.bits .xor .i64 a b:=by
  obtain⟨m,rfl⟩:=Int.eq_ofNat_of_zero_le ha
  obtain⟨n,rfl⟩:=Int.eq_ofNat_of_zero_le hb
  have hm:m<2 ^ 62:=by omega
  have hn:n<2 ^ 62:=by omega
  have h1:m % 2 ^ 64=m:=Nat.mod_eq_of_lt (by omega)
  have h2:n % 2 ^ 64=n:=Nat.mod_eq_of_lt (by omega)
  have h3:=Nat.xor_lt_two_pow hm hn
  have h4:Go.bits .xor .i64 m n=IntKind.i64.wrap ((m ^^^ n:Nat):Int):=by
    show IntKind.i64.wrap ((BitVec.ofInt 64 (m:Int) ^^^ BitVec.ofInt 64 (n:Int)).toNat:Int)=_
    rw[BitVec.ofInt_natCast,BitVec.ofInt_natCast,BitVec.toNat_xor,BitVec.toNat_ofNat,BitVec.toNat_ofNat,h1,h2]
  rw[h4,IntKind.wrap_i64]
  omega
theorem tmod_range {a n:Int} (ha:0≤a) (hn:1≤n):0≤Int.tmod a n∧Int.tmod a n<n:=⟨Int.tmod_nonneg _ ha,Int.tmod_lt_of_pos _ (by omega)⟩
theorem wrap_in {x:Int} (h0:-9223372036854775808≤x) (h1:x<9223372036854775808):wrap64 x=x:=by unfold wrap64;omega
theorem pick_some {bs:List Int} {p n:Int} (hb:∀b∈bs,0≤b∧b<256) (h0:0≤p) (h1:p≤1000000):∃r,spec_l1Rd_pick.f 1 bs p n=some (r,p+1)∧0≤r∧(1≤n→r<n)∧(n<1→r=0):=by
  have e1:wrap64 (p+1)=p+1:=wrap_in (by omega) (by omega)
  have e2:wrap64 (p+1 - 1)=p:=by rw[show p+1 - 1=p by omega];exact wrap_in (by omega) (by omega)
  unfold spec_l1Rd_pick.f
  rw[e1]
  by_cases c:n<1
  · rw[if_pos c]
    exact⟨0,rfl,by omega,by omega,fun _=>rfl⟩
  rw[if_neg c]
  cases bs with
  | nil=>exact⟨0,rfl,by omega,by omega,fun _=>rfl⟩
  | cons b0 bs0=>
    obtain⟨bs,ebs⟩:∃l,l=b0 :: bs0:=⟨_,rfl⟩
    have hl:1≤bs.length:=by rw[ebs];simp
    rw[←ebs]at hb ⊢
    have hz:((bs.length:Int) == 0)=false:=by rw[beq_eq_false_iff_ne];omega
    have hr:∀i:Int,0≤i→i<bs.length→0≤rd bs i∧rd bs i<256:=fun i h2 h3=>hb _ (getD_mem bs 0 i h2 h3)
    simp only[hz,spec_l1Rd_pick.j0,e2]
    rw[if_neg (by decide)]
    by_cases d:p<(bs.length:Int)
    · have h3:=hr p h0 d
      rw[if_pos d,if_pos h0,if_neg (by omega),wrap_in (by omega) (by omega)]
      have h4:=tmod_range h3.1 (show 1≤n by omega)
      exact⟨_,rfl,h4.1,fun _=>h4.2,fun h=>absurd h c⟩
    · have e7:wrap64 (p*7)=p*7:=wrap_in (by omega) (by omega)
      have e8:wrap64 (p*7+3)=p*7+3:=wrap_in (by omega) (by omega)
      have i1:=tmod_range h0 (show 1≤(bs.length:Int)by omega)
      have i2:=tmod_range (show 0≤p*7+3 by omega) (show 1≤(bs.length:Int)by omega)
      rw[if_neg d,if_neg (by omega),if_pos i1.1,if_pos i1.2,e7,e8,if_pos i2.1,if_pos i2.2,if_neg (by omega)]
      have h3:=hr _ i1.1 i1.2
      have h4:=hr _ i2.1 i2.2
      obtain⟨x,hx⟩:∃x,x=rd bs (Int.tmod p bs.length):=⟨_,rfl⟩
      obtain⟨y,hy⟩:∃y,y=rd bs (Int.tmod (p*7+3) bs.length):=⟨_,rfl⟩
      obtain⟨z,hz2⟩:∃z,z=Int.tdiv p bs.length:=⟨_,rfl⟩
      have hz0:0≤z:=by rw[hz2];exact Int.tdiv_nonneg h0 (by omega)
      have hz1:z≤p:=by rw[hz2,Int.tdiv_eq_ediv_of_nonneg h0];exact Int.ediv_le_self _ h0
      rw[←hx]at h3 ⊢
      rw[←hy]at h4 ⊢
      rw[←hz2]
      have w1:wrap64 x=x:=wrap_in (by omega) (by omega)
      have w2:wrap64 y=y:=wrap_in (by omega) (by omega)
      have w3:wrap64 (x*131)=x*131:=wrap_in (by omega) (by omega)
      have w4:wrap64 (y*1117)=y*1117:=wrap_in (by omega) (by omega)
      have w5:wrap64 (x*131+y*1117)=x*131+y*1117:=wrap_in (by omega) (by omega)
      have w6:wrap64 (p*29)=p*29:=wrap_in (by omega) (by omega)
      have w7:wrap64 (x*131+y*1117+p*29)=x*131+y*1117+p*29:=wrap_in (by omega) (by omega)
      have w8:wrap64 z=z:=wrap_in (by omega) (by omega)
      have w9:wrap64 (z*53)=z*53:=wrap_in (by omega) (by omega)
      have w10:wrap64 (x*131+y*1117+p*29+z*53)=x*131+y*1117+p*29+z*53:=wrap_in (by omega) (by omega)
      rw[w1,w2,w3,w4,w5,w6,w7,w8,w9,w10]
      obtain⟨s,hs⟩:∃s,s=x*131+y*1117+p*29+z*53:=⟨_,rfl⟩
      rw[←hs]
      have hs0:0≤s∧s<2 ^ 62:=by rw[hs];constructor<;>omega
      have hd0:0≤Int.tdiv s 64:=Int.tdiv_nonneg hs0.1 (by omega)
      have hd1:Int.tdiv s 64≤s:=by rw[Int.tdiv_eq_ediv_of_nonneg hs0.1];exact Int.ediv_le_self _ hs0.1
      rw[wrap_in (x:=Int.tdiv s 64) (by omega) (by omega)]
      have hx0:=xor_range s (Int.tdiv s 64) hs0.1 hs0.2 hd0 (by omega)
      have h5:=tmod_range hx0 (show 1≤n by omega)
      exact⟨_,rfl,h5.1,fun _=>h5.2,fun h=>absurd h c⟩
structure Rdr (v w:World) (g:Nat) (P:Int):Prop where
  ex:∃bs p,IsS121 v w g bs p∧(0≤p∧p≤P)∧∀b∈bs,0≤b∧b<256
section
variable {v w w1:World} {g:Nat} {P:Int}
theorem Rdr.below (h:Rdr v w g P) (hb:Below w.heap.size w w1):Rdr v w1 g P:=by
  obtain⟨bs,p,hi,h2⟩:=h.ex;exact⟨bs,p,hi.below hb,h2⟩
theorem Rdr.far (h:Rdr v w g P) {a:Addr} (hne:g≠a.block) (u:Value):Rdr v (w.setCell a u) g P:=by
  obtain⟨bs,p,hi,h2⟩:=h.ex;exact⟨bs,p,hi.far hne u,h2⟩
theorem Rdr.grown {row:Option Nat} (h:Rdr v w g P) (hg:w.grownBy w1 row) (hne:some g≠row):Rdr v w1 g P:=by
  obtain⟨bs,p,hi,h2⟩:=h.ex;exact⟨bs,p,hi.grown hg hne,h2⟩
theorem Rdr.lt (h:Rdr v w g P):g<w.heap.size:=by obtain⟨bs,p,hi,h2⟩:=h.ex;exact hi.lt
theorem Rdr.ge (h:Rdr v w g P):v.heap.size≤g:=by obtain⟨bs,p,hi,h2⟩:=h.ex;exact hi.ge
theorem Rdr.ne {k t:Nat} {cs:Array Value} (h:Rdr v w g P) (hb:w.heap[k]?=some (.cells cs t (0,0))) (ht:t≠57):g≠k:=by
  obtain⟨bs,p,hi,h2⟩:=h.ex;exact hi.ne_blk hb ht
theorem Rdr.ne_own {α:Type} {d:Kd α} {e base:Nat} {ok:Nat→Prop} {u:Value} {xs:List α} (h:Rdr v w g P) (ho:d.R e w base ok u xs) (ht:e≠57):some g≠u.ownBlock:=by
  obtain⟨bs,p,hi,h2⟩:=h.ex;exact hi.own_ne ho ht
theorem Rdr.R {α:Type} {d:Kd α} {e base:Nat} {ok:Nat→Prop} {u:Value} {xs:List α} (h:Rdr v w g P) (hk:KeepBut w w1 g none) (ho:d.R e w base ok u xs) (ht:∀q,q∈e :: d.E→q≠57):d.R e w1 base ok u xs:=by
  obtain⟨bs,p,hi,h2⟩:=h.ex
  exact Kd.R_mono (Kd.R_keep (hi.apart ho ht) hk (fun k hk=>hk.2)) (fun k hk=>hk.1)
theorem Rdr.S {α:Type} {d:Kd α} {e base:Nat} {ok:Nat→Prop} {u:Value} {xs:List α} (h:Rdr v w g P) (hk:KeepBut w w1 g none) (ho:d.S e w base ok u xs) (ht:∀q,q∈e :: d.E→q≠57):d.S e w1 base ok u xs:=by
  obtain⟨bs,p,hi,h2⟩:=h.ex
  exact Kd.S_mono (Kd.S_keep (hi.apartS ho ht) hk (fun k hk=>hk.2)) (fun k hk=>hk.1)
theorem Rdr.blk {k t:Nat} {cs:Array Value} (h:Rdr v w g P) (hk:KeepBut w w1 g none) (hb:w.heap[k]?=some (.cells cs t (0,0))) (ht:t≠57):w1.heap[k]?=some (.cells cs t (0,0)):=
  hk.blk hb (fun e=>h.ne hb ht e.symm) (by simp)
theorem Rdr.own (h:Rdr v w g P) (hk:KeepBut w w1 g none) {base:Nat} {A0 A1 A2 A3:Option Addr} {c0 c1 c2 c3:Nat} {l0:List S38} {l1:List Int} {l2 l3:List S60} (ho:OwnH w base A0 c0 A1 c1 A2 c2 A3 c3 l0 l1 l2 l3):OwnH w1 base A0 c0 A1 c1 A2 c2 A3 c3 l0 l1 l2 l3:=
  ⟨h.S hk ho.s0 (k38_ap 57 (by decide) (by decide)),h.R hk ho.s1 (int_ap 57 (by decide)),h.R hk ho.s2 (k60_ap 57 (by decide)),h.R hk ho.s3 (k60_ap 57 (by decide))⟩
end
theorem pick_c {v w:World} {g:Nat} {P:Int} (n:Int) (hR:Rdr v w g P) (hB:Below v.heap.size v w) (hP:P≤1000000) :
    Calls Tryd.prog 16 #[.pointer (some ⟨g,0,none⟩),.int .i64 n] w fun e w'=>∃k:Int,e=.returned (.int .i64 k)∧(0≤k∧(1≤n→k<n)∧(n<1→k=0))∧Rdr v w' g (P+1)∧Below v.heap.size v w'∧KeepBut w w' g none:=by
  obtain⟨bs,p,hi,hp,hb⟩:=hR.ex
  obtain⟨r,hr,h1,h2,h3⟩:=pick_some (n:=n) hb hp.1 (by omega)
  refine(spec_l1Rd_pick.calls 1 g bs p n r (p+1) v w hi hB hr).mono ?_
  rintro e w' ⟨rfl,hi2,hb2,hk⟩
  exact⟨r,rfl,⟨h1,h2,h3⟩,⟨bs,p+1,hi2,⟨by omega,by omega⟩,hb⟩,hb2,hk⟩
theorem of_c {v w:World} {g:Nat} {P:Int} {A:Option Addr} {c:Nat} {ts:List ByteArray} (hR:Rdr v w g P) (hB:Below v.heap.size v w) (hP:P≤1000000) (hr:Kd.C Kd.string w A ts.length ts) (hc:ts.length≤c) (hf:∀ad,A=some ad→0<ts.length→ad.block≠g) (hn:1≤ts.length) :
    Calls Tryd.prog 17 #[.pointer (some ⟨g,0,none⟩),.slice A ts.length c] w fun e w'=>∃t:ByteArray,e=.returned (.string t)∧t∈ts∧Rdr v w' g (P+1)∧Below v.heap.size v w'∧KeepBut w w' g none:=by
  obtain⟨bs,p,hi,hp,hb⟩:=hR.ex
  obtain⟨r,hr2,h1,h2,h3⟩:=pick_some (n:=(ts.length:Int)) hb hp.1 (by omega)
  have h4:=h2 (by omega)
  have hf2:spec_l1Rd_of.f 1 bs p ts=some (rdOf ByteArray.empty ts r,p+1):=by
    unfold spec_l1Rd_of.f
    rw[hr2]
    show (if 0≤r then(if r<(ts.length:Int)then(some (rdOf ByteArray.empty ts r,p+1))else none)else none)=_
    rw[if_pos h1,if_pos h4]
  refine(spec_l1Rd_of.calls 1 g bs p A c ts _ (p+1) v w hi hB hr hc hf hf2).mono ?_
  rintro e w' ⟨rfl,hi2,hb2,hk⟩
  exact⟨_,rfl,getD_mem ts _ r h1 h4,⟨bs,p+1,hi2,⟨by omega,by omega⟩,hb⟩,hb2,hk⟩
theorem open_c {w:World} {A:Option Addr} {c:Nat} {code:List Int} (hr:Kd.C (Kd.int .u8) w A code.length code) (hc:code.length≤c) (hb:∀b∈code,0≤b∧b<256) :
    Calls Tryd.prog 15 #[.slice A code.length c] w fun e w'=>∃g:Nat,e=.returned (.pointer (some ⟨g,0,none⟩))∧Rdr w w' g 0∧Below w.heap.size w w':=by
  have hf:∃bs,spec_l1Open.f code=some (bs,0)∧∀b∈bs,0≤b∧b<256:=by
    unfold spec_l1Open.f
    by_cases d:(code.length:Int) > 2000
    · rw[if_pos d,if_pos (by omega)]
      exact⟨_,rfl,fun b h=>hb b (List.mem_of_mem_take h)⟩
    · rw[if_neg d]
      exact⟨_,rfl,hb⟩
  obtain⟨bs,hf,hb2⟩:=hf
  refine(spec_l1Open.calls A c code bs 0 w w (Below.refl _ _) hr hc hf).mono ?_
  rintro e w' ⟨g,rfl,hi,hb3,hb4⟩
  exact⟨g,rfl,⟨bs,0,hi,⟨by omega,by omega⟩,hb2⟩,hb4⟩
end Go.Proofs.YtigjhfijkdlldaaDoor.H
end
section
namespace Go.Proofs.YtigjhfijkdlldaaDoor.H
open Go.RowKit Go.Proofs.YtigjhfijkdlldaaDoorW.PrintWords Go.Proofs.YtigjhfijkdlldaaDoorW.PrintLast Go.Proofs.YtigjhfijkdlldaaDoorW.PrintMore Go.Proofs.YtigjhfijkdlldaaDoor.Q
set_option linter.unusedVariables false
set_option linter.unusedSimpArgs false
set_option maxHeartbeats 4000000 in
theorem l1Many_c {w:World} {s:ByteArray} {n:Int} (h0:0≤n) (h1:n≤10000) (h2:s.size≤10):Calls Tryd.prog 18 #[.string s,.int .i64 n] w fun e w'=>∃t:ByteArray,e=.returned (.string t)∧t.size≤100000∧w'=w:=by
  have HN:=AK (And.intro h0 (And.intro h1 h2))
  clear h0 h1 h2
  go_enter Tryd.func18,Tryd.ntmps18
  go_wp2_with fail
  go_loopg [0,1,5] n.toNat (fun kq v0 v1 v5 w'=>∃(o u:ByteArray) (j:Int),v0=.string u∧v1=.int .i64 j∧v5=.string o∧w'=w∧Aside0 (0≤j∧j≤kq∧j≤10000)∧Aside0 ((o.size:Int)+j*u.size≤100000∧(u.size:Int)≤200000))
  case atStart=>exact⟨ByteArray.empty,s,n,rfl,rfl,rfl,rfl,⟨by have:=HN.out;omega,by have:=HN.out;omega,by have:=HN.out;omega⟩,⟨by have:=HN.out;have e:n*(s.size:Int)≤10000*10:=Int.mul_le_mul (by omega) (by omega) (by omega) (by omega);show (0:Int)+_≤_;omega,by have:=HN.out;omega⟩⟩
  case round=>
    obtain⟨o,u,j,rfl,rfl,rfl,rfl,HJ,HS⟩:=hrel
    by_cases c:0<j
    · obtain⟨k1,rfl⟩:∃k1,gk=k1+1:=⟨gk - 1,by have:=HJ.out;omega⟩
      have c9:decide (0<j)=true:=deT c
      have c8:decide (j > 0)=true:=deT c
      have HU:=AK (show (u.size:Int)≤100000∧(o.size:Int)≤100000 from by
        have h1:=HS.out.1
        have h2:(0:Int)≤(j - 1)*u.size:=Int.mul_nonneg (by omega) (by omega)
        rw[Int.sub_mul,Int.one_mul]at h2
        omega)
      obtain⟨b,hb⟩:∃b,(j.tmod 2 == 1)=b:=⟨_,rfl⟩
      have HB:=AK (show (j % 2 == 1)=b from by rw[←hb,Int.tmod_eq_emod_of_nonneg (by omega)])
      have hu:=HU.out
      have a0:=eq_true (show o.size+u.size≤9223372036854775807 by omega)
      have a2:=eq_false (show ¬ 9223372036854775807<o.size+u.size by omega)
      have b0:=eq_true (show u.size+u.size≤9223372036854775807 by omega)
      have b2:=eq_false (show ¬ 9223372036854775807<u.size+u.size by omega)
      clear hu c
      cases b
      · have e2:j=2*(j / 2)+0:=by have:=HB.out;simp at this;omega
        have hq:(o.size:Int)+0+(j / 2)*((u.size:Int)+u.size)≤100000:=by
          have h1:=HS.out.1
          have h2:j*(u.size:Int)=(j / 2)*((u.size:Int)+u.size)+0:=by
            conv=>lhs;rw[e2]
            rw[Int.add_mul,Int.mul_assoc,Int.mul_add,Int.two_mul,←Int.mul_add]
            omega
          omega
        have HQ:=AK hq
        clear hq e2
        go_wp2
        go_roundg k1
        case measure=>(have:=HJ.out;omega)
        case rel=>
          rw[show wrap64 (j.tdiv 2)=j / 2 by rw[Int.tdiv_eq_ediv_of_nonneg (by have:=HJ.out;omega)];unfold wrap64;have:=HJ.out;omega]
          exact⟨o,u++u,j / 2,rfl,rfl,rfl,rfl,⟨by have:=HJ.out;omega,by have:=HJ.out;omega,by have:=HJ.out;omega⟩,⟨by have:=HQ.out;rw[ByteArray.size_append];rw[show ((u.size+u.size:Nat):Int)=(u.size:Int)+u.size from rfl];rw[Int.add_zero]at this;exact this,by rw[ByteArray.size_append];have:=HU.out;omega⟩⟩
      · have e2:j=2*(j / 2)+1:=by have:=HB.out;simp at this;omega
        have hq:(o.size:Int)+u.size+(j / 2)*((u.size:Int)+u.size)≤100000:=by
          have h1:=HS.out.1
          have h2:j*(u.size:Int)=(j / 2)*((u.size:Int)+u.size)+u.size:=by
            conv=>lhs;rw[e2]
            rw[Int.add_mul,Int.mul_assoc,Int.mul_add,Int.two_mul,←Int.mul_add]
            omega
          omega
        have HQ:=AK hq
        clear hq e2
        go_wp2
        go_roundg k1
        case measure=>(have:=HJ.out;omega)
        case rel=>
          rw[show wrap64 (j.tdiv 2)=j / 2 by rw[Int.tdiv_eq_ediv_of_nonneg (by have:=HJ.out;omega)];unfold wrap64;have:=HJ.out;omega]
          exact⟨o++u,u++u,j / 2,rfl,rfl,rfl,rfl,⟨by have:=HJ.out;omega,by have:=HJ.out;omega,by have:=HJ.out;omega⟩,⟨by have:=HQ.out;rw[ByteArray.size_append,ByteArray.size_append];rw[show ((o.size+u.size:Nat):Int)=(o.size:Int)+u.size from rfl,show ((u.size+u.size:Nat):Int)=(u.size:Int)+u.size from rfl];exact this,by rw[ByteArray.size_append];have:=HU.out;omega⟩⟩
    · have c9:decide (0<j)=false:=deF c
      have c8:decide (j > 0)=false:=deF c
      have HO:=AK (show o.size≤100000 from by
        have h1:=HS.out.1
        have h2:(0:Int)≤j*u.size:=Int.mul_nonneg (by have:=HJ.out;omega) (by omega)
        omega)
      clear c
      go_wp2
      go_ret
      exact⟨o,rfl,HO.out,rfl⟩
end Go.Proofs.YtigjhfijkdlldaaDoor.H
end
