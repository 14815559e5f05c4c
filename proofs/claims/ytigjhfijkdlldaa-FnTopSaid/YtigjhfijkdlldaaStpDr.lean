import Derived.Test.YtigjhfijkdlldaaStpYeq
namespace Go.Proofs.Ytigjhfijkdlldaa.Q
open Go.RowKit Go.Proofs.YtigjhfijkdlldaaW.PrintWords Go.Proofs.YtigjhfijkdlldaaW.PrintLast Go.Proofs.YtigjhfijkdlldaaW.PrintMore
attribute [local go_sem] max2_int min2_int max_two min_two max_three min_three max_four min_four
set_option linter.unusedVariables false
set_option linter.unusedSimpArgs false
def spec_l1Open.f (l0:List Int):Option (List Int × Int):=if(l0.length:Int) > 2000 then(if 2000≤(l0.length:Int)then(some (l0.take 2000,0))else(none))else(some (l0,0))
set_option maxHeartbeats 8000000 in
set_option maxRecDepth 100000 in
theorem spec_l1Open.calls (A0:Option Addr) (c0:Nat) (l0:List Int) (r1:List Int) (r2:Int) (w0 w:World) (hB:Below w0.heap.size w0 w) (hr0:Kd.C (Kd.int .u8) w0 A0 l0.length l0) (hc0:l0.length≤c0) (h:spec_l1Open.f l0=some (r1,r2)) :
    Calls Try.prog 60 #[.slice A0 l0.length c0] w fun e w'=>∃g_:Nat,e=.returned (.pointer (some ⟨g_,0,none⟩))∧IsS121 w0 w' g_ r1 r2∧Below w0.heap.size w0 w'∧Below w.heap.size w w':=by
  have hu121:=Try.underlying121
  have HR0:=AK hr0
  have HC0:=AK hc0
  clear hr0 hc0
  have HBW:=AK (Below.refl w.heap.size w)
  have HW0:=AK hB.size
  have HB:=AK hB
  clear hB
  have H:(if(l0.length:Int) > 2000 then(if 2000≤(l0.length:Int)then(some (l0.take 2000,0))else(none))else(some (l0,0)))=some (r1,r2):=h
  clear h
  by_cases c2:(l0.length:Int) > 2000
  · rw[if_pos c2]at H
    have c2b0:decide (2000<(l0.length:Int))=true:=deT c2
    have c2b1:decide (2000<l0.length)=true:=deT (by omega)
    clear c2
    by_cases c3:2000≤(l0.length:Int)
    · rw[if_pos c3]at H
      have c3b0:=eq_true c3
      have c3b1:decide (2000≤(l0.length:Int))=true:=deT c3
      clear c3
      simp only[Option.some.injEq,Prod.mk.injEq]at H
      obtain⟨rfl,rfl⟩:=H
      obtain⟨i04,hi04,_,hsz4,_⟩:=info_parts info5
      obtain⟨hcut4,hA4,hC4⟩:=print_take_of (P:=Try.prog) (Value.int .u8) 0 23 5 .i64 Try.underlying23 hi04 hsz4 A0 c0 l0 2000 (by omega) (of_decide_eq_true zA) HC0.out
      have HR101:=AK (Kd.C_of_reads (h1:=fun _=>rfl) (hA4 _ (Kd.reads_of_C HR0.out)))
      have HC101:=AK hC4
      clear hA4 hC4 hi04 hsz4
      go_enter Try.func60,Try.ntmps60
      go_wp2_with (first|((with_reducible refine gate_dst (N:=10) rfl ?_);refine box_event ?hg (N:=10) ?hd (cs:=#[.slice A0 (l0.take 2000).length c0,.int .i64 0]) (t:=121) ?hr ?_;(case hd=>rfl);(case hg=>rfl);(case hr=>first|(go_simp;done)|(go_simp;rfl));intro gb102 hg w5 hbox hb;have n0_:=AK (bst HBW.out hb);have n1_:=AK (bst zB hb);have n2_:=AK (hbox);have n3_:=AK ((by rw[hg];exact(below_size (by repeat (first|(with_reducible first|exact HBW.out|apply below_alloc|apply pw_below_drewN|apply below_drew1)|exact HBW.out))):w.heap.size≤gb102));have n4_:=AK ((Nat.le_trans HW0.out (by rw[hg];exact(below_size (by repeat (first|(with_reducible first|exact HBW.out|apply below_alloc|apply pw_below_drewN|apply below_drew1)|exact HBW.out))):w.heap.size≤gb102):w0.heap.size≤gb102));clear HBW;clear HB;have HBW:=n0_;have HB:=n1_;have BK102:=n2_;have GW102:=n3_;have GE102:=n4_;clear n0_ n1_ n2_ n3_ n4_;clear hb hbox hg))
      go_ret
      exact⟨_,rfl,(show IsS121 w0 _ gb102 (l0.take 2000) 0 from⟨_,_,by(with_reducible repeat (first|refine blk_drewN ?_ _|refine blk_drew ?_|refine blk_alloc ?_ _));exact BK102.out,GE102.out,HR101.out⟩),zB,by repeat (first|(with_reducible first|exact HBW.out|apply below_alloc|apply pw_below_drewN|apply below_drew1|refine below_set ?_ GW102.out)|exact HBW.out)⟩
    · rw[if_neg c3]at H
      exact absurd H (by simp)
  · rw[if_neg c2]at H
    have c2b0:decide (2000<(l0.length:Int))=false:=deF c2
    have c2b1:decide (2000<l0.length)=false:=deF (by omega)
    clear c2
    simp only[Option.some.injEq,Prod.mk.injEq]at H
    obtain⟨rfl,rfl⟩:=H
    go_enter Try.func60,Try.ntmps60
    go_wp2_with (first|((with_reducible refine gate_dst (N:=10) rfl ?_);refine box_event ?hg (N:=10) ?hd (cs:=#[.slice A0 l0.length c0,.int .i64 0]) (t:=121) ?hr ?_;(case hd=>rfl);(case hg=>rfl);(case hr=>first|(go_simp;done)|(go_simp;rfl));intro gb103 hg w6 hbox hb;have n0_:=AK (bst HBW.out hb);have n1_:=AK (bst zB hb);have n2_:=AK (hbox);have n3_:=AK ((by rw[hg];exact(below_size (by repeat (first|(with_reducible first|exact HBW.out|apply below_alloc|apply pw_below_drewN|apply below_drew1)|exact HBW.out))):w.heap.size≤gb103));have n4_:=AK ((Nat.le_trans HW0.out (by rw[hg];exact(below_size (by repeat (first|(with_reducible first|exact HBW.out|apply below_alloc|apply pw_below_drewN|apply below_drew1)|exact HBW.out))):w.heap.size≤gb103):w0.heap.size≤gb103));clear HBW;clear HB;have HBW:=n0_;have HB:=n1_;have BK103:=n2_;have GW103:=n3_;have GE103:=n4_;clear n0_ n1_ n2_ n3_ n4_;clear hb hbox hg))
    go_ret
    exact⟨_,rfl,(show IsS121 w0 _ gb103 l0 0 from⟨_,_,by(with_reducible repeat (first|refine blk_drewN ?_ _|refine blk_drew ?_|refine blk_alloc ?_ _));exact BK103.out,GE103.out,HR0.out⟩),zB,by repeat (first|(with_reducible first|exact HBW.out|apply below_alloc|apply pw_below_drewN|apply below_drew1|refine below_set ?_ GW103.out)|exact HBW.out)⟩
def spec_l1Rd_pick.j0:Nat→Int→Bool→List Int→Int→Option (Int × Int)
  | 0,_,_,_,_=>none
  | k+1,x1,x24,x1000,x1001=>if x24=true then(some (0,x1001))else(if(wrap64 (x1001 - 1))<(x1000.length:Int)then(if 0≤(wrap64 (x1001 - 1))then(if x1=0 then(none)else(some (Int.tmod (wrap64 (rd x1000 (wrap64 (x1001 - 1)))) x1,x1001)))else(none))else(if(x1000.length:Int)=0 then(none)else(if 0≤(Int.tmod (wrap64 (x1001 - 1)) (x1000.length:Int))then(if(Int.tmod (wrap64 (x1001 - 1)) (x1000.length:Int))<(x1000.length:Int)then(if 0≤(Int.tmod (wrap64 ((wrap64 ((wrap64 (x1001 - 1))*7))+3)) (x1000.length:Int))then(if(Int.tmod (wrap64 ((wrap64 ((wrap64 (x1001 - 1))*7))+3)) (x1000.length:Int))<(x1000.length:Int)then(if x1=0 then(none)else(some (Int.tmod (Go.bits .xor .i64 (wrap64 ((wrap64 ((wrap64 ((wrap64 ((wrap64 (rd x1000 (Int.tmod (wrap64 (x1001 - 1)) (x1000.length:Int))))*131))+(wrap64 ((wrap64 (rd x1000 (Int.tmod (wrap64 ((wrap64 ((wrap64 (x1001 - 1))*7))+3)) (x1000.length:Int))))*1117))))+(wrap64 ((wrap64 (x1001 - 1))*29))))+(wrap64 ((wrap64 (Int.tdiv (wrap64 (x1001 - 1)) (x1000.length:Int)))*53)))) (wrap64 (Int.tdiv (wrap64 ((wrap64 ((wrap64 ((wrap64 ((wrap64 (rd x1000 (Int.tmod (wrap64 (x1001 - 1)) (x1000.length:Int))))*131))+(wrap64 ((wrap64 (rd x1000 (Int.tmod (wrap64 ((wrap64 ((wrap64 (x1001 - 1))*7))+3)) (x1000.length:Int))))*1117))))+(wrap64 ((wrap64 (x1001 - 1))*29))))+(wrap64 ((wrap64 (Int.tdiv (wrap64 (x1001 - 1)) (x1000.length:Int)))*53)))) 64))) x1,x1001)))else(none))else(none))else(none))else(none))))
def spec_l1Rd_pick.f (k:Nat) (s0_0:List Int) (s0_1:Int) (a1:Int):Option (Int × Int):=if a1<1 then(spec_l1Rd_pick.j0 k a1 true s0_0 (wrap64 (s0_1+1)))else(spec_l1Rd_pick.j0 k a1 ((s0_0.length:Int) == 0) s0_0 (wrap64 (s0_1+1)))
set_option maxHeartbeats 8000000 in
set_option maxRecDepth 100000 in
theorem spec_l1Rd_pick.calls (k:Nat) (g:Nat) (s0_0:List Int) (s0_1:Int) (a1:Int) (r1:Int) (r2:Int) (w0 w:World) (hI:IsS121 w0 w g s0_0 s0_1) (hB:Below w0.heap.size w0 w) (h:spec_l1Rd_pick.f k s0_0 s0_1 a1=some (r1,r2)) :
    Calls Try.prog 63 #[.pointer (some ⟨g,0,none⟩),.int .i64 a1] w fun e w'=>e=.returned (.int .i64 r1)∧IsS121 w0 w' g s0_0 r2∧Below w0.heap.size w0 w'∧KeepBut w w' g none:=by
  have HI0:=AK hI
  have HK:=AK (KeepBut.refl w g none)
  have HL:=AK hB.size
  clear hI
  have HW0:=AK hB.size
  have HB:=AK hB
  clear hB
  have H:(if a1<1 then(spec_l1Rd_pick.j0 k a1 true s0_0 (wrap64 (s0_1+1)))else(spec_l1Rd_pick.j0 k a1 ((s0_0.length:Int) == 0) s0_0 (wrap64 (s0_1+1))))=some (r1,r2):=h
  clear h
  have HC3:=AK H
  clear H
  obtain⟨ASz4_0,cSz4_0,HGz4,hgz4,HSz4_0⟩:=HI0.out
  have hcz4_0:=cellS121_0 HGz4
  have hcz4_1:=cellS121_1 HGz4
  have hfz4_1:=bfz HGz4 1
  clear HGz4 hgz4
  go_enter Try.func63,Try.ntmps63
  go_upto_region 2 with(fail)
  repeat (go_quiet (fail);go_upto_region 2 with(fail))
  go_cut [24] (fun v24 wc=>∃(kq:Nat) (x24_2:Bool),v24=.bool x24_2∧Aside0 (spec_l1Rd_pick.j0 kq a1 x24_2 s0_0 (wrap64 (s0_1+1))=some (r1,r2))∧Aside0 (kq≤k)∧Aside0 (IsS121 w0 wc g s0_0 (wrap64 (s0_1+1)))∧Aside0 (KeepBut w wc g none)∧Aside0 (Below w0.heap.size w0 wc))
  case first=>
    have H:=HC3.out
    clear HC3
    by_cases c5:a1<1
    · rw[if_pos c5]at H
      have c5b0:decide (a1<1)=true:=deT c5
      clear c5
      (first|rw[c5b0]|(simp only[i64_w,i32_w];rw[c5b0])|skip)
      have H':=AK H
      clear H
      go_wp2
      repeat (go_quiet (fail);try go_wp2)
      go_meet
      case rel=>exact⟨_,(true),(by first|rfl|(simp;done)|(simp[*];done)),H',⟨by first|omega|exact Nat.le_refl _⟩,⟨by repeat (first|(with_reducible first|exact HI0.out|apply IsS121.alloc|apply IsS121.drewN|apply IsS121.drew|apply IsS121.set_1)|exact HI0.out)⟩,⟨by repeat (first|(with_reducible first|exact HK.out|apply KeepBut.set_|apply keep_drewN|apply keep_drew|apply keep_alloc)|exact HK.out)⟩,⟨by repeat (first|(with_reducible first|exact HB.out|apply below_alloc|apply pw_below_drewN|apply below_drew1|refine below_set ?_ (IsS121.ge HI0.out))|exact HB.out)⟩⟩
    · rw[if_neg c5]at H
      have c5b0:decide (a1<1)=false:=deF c5
      clear c5
      (first|rw[c5b0]|(simp only[i64_w,i32_w];rw[c5b0])|skip)
      have H':=AK H
      clear H
      obtain⟨ASz6_0,cSz6_0,HGz6,hgz6,HSz6_0⟩:=HI0.out
      have hcz6_0:=cellS121_0 HGz6
      have hcz6_1:=cellS121_1 HGz6
      have hfz6_1:=bfz HGz6 1
      clear HGz6 hgz6
      go_wp2
      repeat (go_quiet (fail);try go_wp2)
      go_meet
      case rel=>exact⟨_,(((s0_0.length:Int) == 0)),(by first|rfl|(simp;done)|(simp[*];done)),H',⟨by first|omega|exact Nat.le_refl _⟩,⟨by repeat (first|(with_reducible first|exact HI0.out|apply IsS121.alloc|apply IsS121.drewN|apply IsS121.drew|apply IsS121.set_1)|exact HI0.out)⟩,⟨by repeat (first|(with_reducible first|exact HK.out|apply KeepBut.set_|apply keep_drewN|apply keep_drew|apply keep_alloc)|exact HK.out)⟩,⟨by repeat (first|(with_reducible first|exact HB.out|apply below_alloc|apply pw_below_drewN|apply below_drew1|refine below_set ?_ (IsS121.ge HI0.out))|exact HB.out)⟩⟩
  case rest=>
    clear HC3
    try clear p2
    try clear c5
    try clear c5b0
    try clear c6
    try clear p6
    try clear hcz4_0
    try clear hcz4_1
    try clear hcz6_0
    try clear hcz6_1
    try clear hfz4_1
    try clear hfz6_1
    obtain⟨kq,x24_2,rfl,HA,HJ2,HI0,HK,HB⟩:=hcut
    cases kq with
    | zero=>exact absurd HA.out (by simp[spec_l1Rd_pick.j0])
    | succ kj2=>
      have H:=HA.out
      clear HA
      simp only[spec_l1Rd_pick.j0]at H
      by_cases c7:x24_2=true
      · subst c7
        have H1:(some (0,(wrap64 (s0_1+1))))=some (r1,r2):=by rw[if_pos rfl]at H;exact H
        clear H
        have H:=H1
        clear H1
        simp only[Option.some.injEq,Prod.mk.injEq]at H
        obtain⟨rfl,rfl⟩:=H
        go_wp2
        repeat (go_quiet (fail);try go_wp2)
        go_ret
        exact⟨by first|rfl|(simp[errW_none,errW_some]<;>rfl)|(simp[*,errW_none,errW_some]<;>rfl),by repeat (first|(with_reducible first|exact HI0.out|apply IsS121.alloc|apply IsS121.drewN|apply IsS121.drew|apply IsS121.set_1)|exact HI0.out),by repeat (first|(with_reducible first|exact HB.out|apply below_alloc|apply pw_below_drewN|apply below_drew1|refine below_set ?_ (IsS121.ge HI0.out))|exact HB.out),by repeat (first|(with_reducible first|exact HK.out|apply KeepBut.set_|apply keep_drewN|apply keep_drew|apply keep_alloc)|exact HK.out)⟩
      · replace c7:=Bool.eq_false_iff.mpr c7
        subst c7
        have H1:(if(wrap64 ((wrap64 (s0_1+1)) - 1))<(s0_0.length:Int)then(if 0≤(wrap64 ((wrap64 (s0_1+1)) - 1))then(if a1=0 then(none)else(some (Int.tmod (wrap64 (rd s0_0 (wrap64 ((wrap64 (s0_1+1)) - 1)))) a1,(wrap64 (s0_1+1)))))else(none))else(if(s0_0.length:Int)=0 then(none)else(if 0≤(Int.tmod (wrap64 ((wrap64 (s0_1+1)) - 1)) (s0_0.length:Int))then(if(Int.tmod (wrap64 ((wrap64 (s0_1+1)) - 1)) (s0_0.length:Int))<(s0_0.length:Int)then(if 0≤(Int.tmod (wrap64 ((wrap64 ((wrap64 ((wrap64 (s0_1+1)) - 1))*7))+3)) (s0_0.length:Int))then(if(Int.tmod (wrap64 ((wrap64 ((wrap64 ((wrap64 (s0_1+1)) - 1))*7))+3)) (s0_0.length:Int))<(s0_0.length:Int)then(if a1=0 then(none)else(some (Int.tmod (Go.bits .xor .i64 (wrap64 ((wrap64 ((wrap64 ((wrap64 ((wrap64 (rd s0_0 (Int.tmod (wrap64 ((wrap64 (s0_1+1)) - 1)) (s0_0.length:Int))))*131))+(wrap64 ((wrap64 (rd s0_0 (Int.tmod (wrap64 ((wrap64 ((wrap64 ((wrap64 (s0_1+1)) - 1))*7))+3)) (s0_0.length:Int))))*1117))))+(wrap64 ((wrap64 ((wrap64 (s0_1+1)) - 1))*29))))+(wrap64 ((wrap64 (Int.tdiv (wrap64 ((wrap64 (s0_1+1)) - 1)) (s0_0.length:Int)))*53)))) (wrap64 (Int.tdiv (wrap64 ((wrap64 ((wrap64 ((wrap64 ((wrap64 (rd s0_0 (Int.tmod (wrap64 ((wrap64 (s0_1+1)) - 1)) (s0_0.length:Int))))*131))+(wrap64 ((wrap64 (rd s0_0 (Int.tmod (wrap64 ((wrap64 ((wrap64 ((wrap64 (s0_1+1)) - 1))*7))+3)) (s0_0.length:Int))))*1117))))+(wrap64 ((wrap64 ((wrap64 (s0_1+1)) - 1))*29))))+(wrap64 ((wrap64 (Int.tdiv (wrap64 ((wrap64 (s0_1+1)) - 1)) (s0_0.length:Int)))*53)))) 64))) a1,(wrap64 (s0_1+1)))))else(none))else(none))else(none))else(none))))=some (r1,r2):=by rw[if_neg (show ¬ (false=true)by decide)]at H;exact H
        clear H
        have H:=H1
        clear H1
        by_cases c8:(wrap64 ((wrap64 (s0_1+1)) - 1))<(s0_0.length:Int)
        · rw[if_pos c8]at H
          have c8b0:decide ((wrap64 ((wrap64 (s0_1+1)) - 1))<(s0_0.length:Int))=true:=deT c8
          clear c8
          obtain⟨ji9,hji9⟩:∃j_:Int,(wrap64 ((wrap64 (s0_1+1)) - 1))=j_:=⟨_,rfl⟩
          replace H:(if 0≤(ji9)then(if a1=0 then(none)else(some (Int.tmod (wrap64 (rd s0_0 (ji9))) a1,(wrap64 (s0_1+1)))))else(none))=some (r1,r2):=by first|(rw[hji9]at H;exact H)|(simp only[hji9]at H ⊢;exact H)
          (try rw[hji9]at c8b0)
          have hji9w:(IntKind.i64.wrap ((wrap64 (s0_1+1)) - 1))=ji9:=(i64_w _).trans hji9
          by_cases c10:0≤(ji9)
          · rw[if_pos c10]at H
            have c10b0:decide (0≤(ji9))=true:=deT c10
            clear c10
            by_cases c11:a1=0
            · rw[if_pos c11]at H
              exact absurd H (by simp)
            · rw[if_neg c11]at H
              have c11b0:(a1 == 0)=false:=beq_eq_false_iff_ne.mpr c11
              have c11b1:(a1 != 0)=true:=bne_iff_ne.mpr c11
              simp only[Option.some.injEq,Prod.mk.injEq]at H
              obtain⟨rfl,rfl⟩:=H
              obtain⟨ASz12_0,cSz12_0,HGz12,hgz12,HSz12_0⟩:=HI0.out
              have hcz12_0:=cellS121_0 HGz12
              have hcz12_1:=cellS121_1 HGz12
              have hfz12_1:=bfz HGz12 1
              clear HGz12 hgz12
              have p104:0≤((ji9):Int):=of_decide_eq_true zA
              have q104:(ji9)<(s0_0.length:Int):=of_decide_eq_true zA
              obtain⟨ad104,e104,hx104_0⟩:=Kd.at_int HSz12_0 (ji9) p104 q104
              cases e104
              replace hx104_0:=pcb HB.out hx104_0
              replace p104:=eq_true p104
              replace q104:=eq_true q104
              go_wp2
              repeat (go_quiet (fail);try go_wp2)
              go_ret
              exact⟨by first|rfl|(simp[errW_none,errW_some]<;>rfl)|(simp only[←hji9];first|rfl|(simp[errW_none,errW_some]<;>rfl))|(simp[*,errW_none,errW_some]<;>rfl),by repeat (first|(with_reducible first|exact HI0.out|apply IsS121.alloc|apply IsS121.drewN|apply IsS121.drew|apply IsS121.set_1)|exact HI0.out),by repeat (first|(with_reducible first|exact HB.out|apply below_alloc|apply pw_below_drewN|apply below_drew1|refine below_set ?_ (IsS121.ge HI0.out))|exact HB.out),by repeat (first|(with_reducible first|exact HK.out|apply KeepBut.set_|apply keep_drewN|apply keep_drew|apply keep_alloc)|exact HK.out)⟩
          · rw[if_neg c10]at H
            exact absurd H (by simp)
        · rw[if_neg c8]at H
          have c8b0:decide ((wrap64 ((wrap64 (s0_1+1)) - 1))<(s0_0.length:Int))=false:=deF c8
          clear c8
          by_cases c13:(s0_0.length:Int)=0
          · rw[if_pos c13]at H
            exact absurd H (by simp)
          · rw[if_neg c13]at H
            have c13b0:((s0_0.length:Int) == 0)=false:=beq_eq_false_iff_ne.mpr c13
            have c13b1:((s0_0.length:Int) != 0)=true:=bne_iff_ne.mpr c13
            have c13b2:¬ (s0_0=[]):=fun h_=>c13 (by rw[h_];rfl)
            obtain⟨ji14,hji14⟩:∃j_:Int,(Int.tmod (wrap64 ((wrap64 (s0_1+1)) - 1)) (s0_0.length:Int))=j_:=⟨_,rfl⟩
            replace H:(if 0≤(ji14)then(if(ji14)<(s0_0.length:Int)then(if 0≤(Int.tmod (wrap64 ((wrap64 ((wrap64 ((wrap64 (s0_1+1)) - 1))*7))+3)) (s0_0.length:Int))then(if(Int.tmod (wrap64 ((wrap64 ((wrap64 ((wrap64 (s0_1+1)) - 1))*7))+3)) (s0_0.length:Int))<(s0_0.length:Int)then(if a1=0 then(none)else(some (Int.tmod (Go.bits .xor .i64 (wrap64 ((wrap64 ((wrap64 ((wrap64 ((wrap64 (rd s0_0 (ji14)))*131))+(wrap64 ((wrap64 (rd s0_0 (Int.tmod (wrap64 ((wrap64 ((wrap64 ((wrap64 (s0_1+1)) - 1))*7))+3)) (s0_0.length:Int))))*1117))))+(wrap64 ((wrap64 ((wrap64 (s0_1+1)) - 1))*29))))+(wrap64 ((wrap64 (Int.tdiv (wrap64 ((wrap64 (s0_1+1)) - 1)) (s0_0.length:Int)))*53)))) (wrap64 (Int.tdiv (wrap64 ((wrap64 ((wrap64 ((wrap64 ((wrap64 (rd s0_0 (ji14)))*131))+(wrap64 ((wrap64 (rd s0_0 (Int.tmod (wrap64 ((wrap64 ((wrap64 ((wrap64 (s0_1+1)) - 1))*7))+3)) (s0_0.length:Int))))*1117))))+(wrap64 ((wrap64 ((wrap64 (s0_1+1)) - 1))*29))))+(wrap64 ((wrap64 (Int.tdiv (wrap64 ((wrap64 (s0_1+1)) - 1)) (s0_0.length:Int)))*53)))) 64))) a1,(wrap64 (s0_1+1)))))else(none))else(none))else(none))else(none))=some (r1,r2):=by first|(rw[hji14]at H;exact H)|(simp only[hji14]at H ⊢;exact H)
            by_cases c15:0≤(ji14)
            · rw[if_pos c15]at H
              have c15b0:decide (0≤(ji14))=true:=deT c15
              clear c15
              by_cases c16:(ji14)<(s0_0.length:Int)
              · rw[if_pos c16]at H
                have c16b0:decide ((ji14)<(s0_0.length:Int))=true:=deT c16
                clear c16
                obtain⟨ji17,hji17⟩:∃j_:Int,(Int.tmod (wrap64 ((wrap64 ((wrap64 ((wrap64 (s0_1+1)) - 1))*7))+3)) (s0_0.length:Int))=j_:=⟨_,rfl⟩
                replace H:(if 0≤(ji17)then(if(ji17)<(s0_0.length:Int)then(if a1=0 then(none)else(some (Int.tmod (Go.bits .xor .i64 (wrap64 ((wrap64 ((wrap64 ((wrap64 ((wrap64 (rd s0_0 (ji14)))*131))+(wrap64 ((wrap64 (rd s0_0 (ji17)))*1117))))+(wrap64 ((wrap64 ((wrap64 (s0_1+1)) - 1))*29))))+(wrap64 ((wrap64 (Int.tdiv (wrap64 ((wrap64 (s0_1+1)) - 1)) (s0_0.length:Int)))*53)))) (wrap64 (Int.tdiv (wrap64 ((wrap64 ((wrap64 ((wrap64 ((wrap64 (rd s0_0 (ji14)))*131))+(wrap64 ((wrap64 (rd s0_0 (ji17)))*1117))))+(wrap64 ((wrap64 ((wrap64 (s0_1+1)) - 1))*29))))+(wrap64 ((wrap64 (Int.tdiv (wrap64 ((wrap64 (s0_1+1)) - 1)) (s0_0.length:Int)))*53)))) 64))) a1,(wrap64 (s0_1+1)))))else(none))else(none))=some (r1,r2):=by first|(rw[hji17]at H;exact H)|(simp only[hji17]at H ⊢;exact H)
                by_cases c18:0≤(ji17)
                · rw[if_pos c18]at H
                  have c18b0:decide (0≤(ji17))=true:=deT c18
                  clear c18
                  by_cases c19:(ji17)<(s0_0.length:Int)
                  · rw[if_pos c19]at H
                    have c19b0:decide ((ji17)<(s0_0.length:Int))=true:=deT c19
                    clear c19
                    by_cases c20:a1=0
                    · rw[if_pos c20]at H
                      exact absurd H (by simp)
                    · rw[if_neg c20]at H
                      have c20b0:(a1 == 0)=false:=beq_eq_false_iff_ne.mpr c20
                      have c20b1:(a1 != 0)=true:=bne_iff_ne.mpr c20
                      simp only[Option.some.injEq,Prod.mk.injEq]at H
                      obtain⟨rfl,rfl⟩:=H
                      obtain⟨ASz21_0,cSz21_0,HGz21,hgz21,HSz21_0⟩:=HI0.out
                      have hcz21_0:=cellS121_0 HGz21
                      have hcz21_1:=cellS121_1 HGz21
                      have hfz21_1:=bfz HGz21 1
                      clear HGz21 hgz21
                      have p105:0≤((ji14):Int):=of_decide_eq_true zA
                      have q105:(ji14)<(s0_0.length:Int):=of_decide_eq_true zA
                      obtain⟨ad105,e105,hx105_0⟩:=Kd.at_int HSz21_0 (ji14) p105 q105
                      cases e105
                      replace hx105_0:=pcb HB.out hx105_0
                      replace p105:=eq_true p105
                      replace q105:=eq_true q105
                      have p106:0≤((ji17):Int):=of_decide_eq_true zA
                      have q106:(ji17)<(s0_0.length:Int):=of_decide_eq_true zA
                      obtain⟨ad106,e106,hx106_0⟩:=Kd.at_int HSz21_0 (ji17) p106 q106
                      obtain rfl:ad105=ad106:=(by injection e106)
                      replace hx106_0:=pcb HB.out hx106_0
                      replace p106:=eq_true p106
                      replace q106:=eq_true q106
                      go_wp2
                      repeat (go_quiet (fail);try go_wp2)
                      go_ret
                      exact⟨by first|rfl|(simp[errW_none,errW_some]<;>rfl)|(simp only[←hji14,←hji17];first|rfl|(simp[errW_none,errW_some]<;>rfl))|(simp[*,errW_none,errW_some]<;>rfl),by repeat (first|(with_reducible first|exact HI0.out|apply IsS121.alloc|apply IsS121.drewN|apply IsS121.drew|apply IsS121.set_1)|exact HI0.out),by repeat (first|(with_reducible first|exact HB.out|apply below_alloc|apply pw_below_drewN|apply below_drew1|refine below_set ?_ (IsS121.ge HI0.out))|exact HB.out),by repeat (first|(with_reducible first|exact HK.out|apply KeepBut.set_|apply keep_drewN|apply keep_drew|apply keep_alloc)|exact HK.out)⟩
                  · rw[if_neg c19]at H
                    exact absurd H (by simp)
                · rw[if_neg c18]at H
                  exact absurd H (by simp)
              · rw[if_neg c16]at H
                exact absurd H (by simp)
            · rw[if_neg c15]at H
              exact absurd H (by simp)
def spec_l5Base.l0:Nat→Int→List Int→Int→List Int→Option ((List (S38)) × List Int × (List (S60)) × (List (S60)) × Int)
  | 0,_,_,_,_=>none
  | k+1,x4,x1000,x1001,x109001=>if x4 > 0 then(if x109001.length<17592186044416 then(spec_l5Base.l0 k (wrap64 (x4 - 1)) x1000 x1001 (x109001++[(-1)]))else(none))else(some (([]:List (S38)),x109001,([]:List (S60)),([]:List (S60)),x1001))
def spec_l5Base.f (k:Nat) (s0_0:List Int) (s0_1:Int):Option ((List (S38)) × List Int × (List (S60)) × (List (S60)) × Int):=(spec_l1Rd_pick.f k s0_0 s0_1 4).bind fun bt109=>(spec_l5Base.l0 k (wrap64 (3+bt109.1)) s0_0 bt109.2 ([]:List Int))
set_option maxHeartbeats 8000000 in
set_option maxRecDepth 100000 in
theorem spec_l5Base.calls (k:Nat) (g:Nat) (s0_0:List Int) (s0_1:Int) (r1:List (S38)) (r2:List Int) (r3:List (S60)) (r4:List (S60)) (r5:Int) (w0 w:World) (hI:IsS121 w0 w g s0_0 s0_1) (hB:Below w0.heap.size w0 w) (h:spec_l5Base.f k s0_0 s0_1=some (r1,r2,r3,r4,r5)) :
    Calls Try.prog 61 #[.pointer (some ⟨g,0,none⟩)] w fun e w'=>∃v0_ v1_ v2_ v3_:Value,e=.returned (.agg #[v0_,v1_,v2_,v3_])∧Kd.S k38 38 w' w.heap.size (fun k_=>some k_≠(v1_:Value).ownBlock) v0_ r1∧Kd.R (Kd.int .i64) 3 w' w.heap.size (fun _=>True) v1_ r2∧Kd.R k60 60 w' w.heap.size (fun k_=>some k_≠(v3_:Value).ownBlock) v2_ r3∧Kd.R k60 60 w' w.heap.size (fun k_=>some k_≠(v2_:Value).ownBlock) v3_ r4∧IsS121 w0 w' g s0_0 r5∧Below w0.heap.size w0 w'∧KeepBut w w' g none:=by
  have hu28:=Try.underlying28
  have HI0:=AK hI
  have HK:=AK (KeepBut.refl w g none)
  have HL:=AK hB.size
  clear hI
  have HW0:=AK hB.size
  have HB:=AK hB
  clear hB
  have H:((spec_l1Rd_pick.f k s0_0 s0_1 4).bind fun bt109=>(spec_l5Base.l0 k (wrap64 (3+bt109.1)) s0_0 bt109.2 ([]:List Int)))=some (r1,r2,r3,r4,r5):=h
  clear h
  replace H:=Option.bind_eq_some_iff.mp H
  obtain⟨⟨t109,t110⟩,A20,H⟩:=H
  replace H:(spec_l5Base.l0 k (wrap64 (3+t109)) s0_0 t110 ([]:List Int))=some (r1,r2,r3,r4,r5):=H
  have A2:=AK A20
  clear A20
  have H':=AK H
  clear H
  go_enter Try.func61,Try.ntmps61
  go_wp2_with (first|((with_reducible refine gate_dst (N:=2) rfl ?_);refine box_event ?hg (N:=2) ?hd (cs:=#[.slice none 0 0,.slice none 0 0,.slice none 0 0,.slice none 0 0]) (t:=28) ?hr ?_;(case hd=>rfl);(case hg=>rfl);(case hr=>first|(go_simp;done)|(go_simp;rfl));intro gb107 hg w3 hbox hb;have n0_:=AK (IsS121.below (by repeat (first|(with_reducible first|exact HI0.out|apply IsS121.alloc|apply IsS121.drewN|apply IsS121.drew|apply IsS121.set_1)|exact HI0.out)) hb);have n1_:=AK (KeepBut.trans (by repeat (first|(with_reducible first|exact HK.out|apply KeepBut.set_|apply keep_drewN|apply keep_drew|apply keep_alloc)|exact HK.out)) (KeepBut.of_below hb g none) (.inl rfl));have n2_:=AK (bst (by repeat (first|(with_reducible first|exact HB.out|apply below_alloc|apply pw_below_drewN|apply below_drew1|refine below_set ?_ (IsS121.ge HI0.out))|exact HB.out)) hb);have n3_:=AK (hbox);have n4_:=AK ((by rw[hg];exact(keep_size (w:=w) (g:=g) (row:=none) (by repeat (first|(with_reducible first|exact HK.out|apply KeepBut.set_|apply keep_drewN|apply keep_drew|apply keep_alloc)|exact HK.out))):w.heap.size≤gb107));have n5_:=AK ((Nat.le_trans HW0.out (by rw[hg];exact(keep_size (w:=w) (g:=g) (row:=none) (by repeat (first|(with_reducible first|exact HK.out|apply KeepBut.set_|apply keep_drewN|apply keep_drew|apply keep_alloc)|exact HK.out))):w.heap.size≤gb107):w0.heap.size≤gb107));have n6_:=AK ((by rw[hg];exact Nat.ne_of_lt (IsS121.lt (show IsS121 w0 _ g s0_0 s0_1 from by repeat (first|(with_reducible first|exact HI0.out|apply IsS121.alloc|apply IsS121.drewN|apply IsS121.drew|apply IsS121.set_1)|exact HI0.out))):g≠gb107));have n7_:=AK ((by rw[hg];exact Nat.ne_of_gt (IsS121.lt (show IsS121 w0 _ g s0_0 s0_1 from by repeat (first|(with_reducible first|exact HI0.out|apply IsS121.alloc|apply IsS121.drewN|apply IsS121.drew|apply IsS121.set_1)|exact HI0.out))):gb107≠g));clear HI0;clear HK;clear HB;have HI0:=n0_;have HK:=n1_;have HB:=n2_;have BK107:=n3_;have GW107:=n4_;have GE107:=n5_;have NB0_107:=n6_;have NB107_0:=n7_;clear n0_ n1_ n2_ n3_ n4_ n5_ n6_ n7_;clear hb hbox hg)|((with_reducible refine gate_dst (N:=3) rfl ?_);refine box_event ?hg (N:=3) ?hd (cs:=#[.slice none 0 0,.slice none 0 0,.slice none 0 0,.slice none 0 0]) (t:=28) ?hr ?_;(case hd=>rfl);(case hg=>rfl);(case hr=>first|(go_simp;done)|(go_simp;rfl));intro gb108 hg w4 hbox hb;have n0_:=AK (IsS121.below (by repeat (first|(with_reducible first|exact HI0.out|apply IsS121.alloc|apply IsS121.drewN|apply IsS121.drew|apply IsS121.set_1|refine IsS121.far ?_ NB0_107.out _)|exact HI0.out)) hb);have n1_:=AK (bbl (zK BK107) hb);have n2_:=AK (KeepBut.trans (by repeat (first|(with_reducible first|exact HK.out|apply KeepBut.set_|apply keep_drewN|apply keep_drew|apply keep_alloc|refine keep_far ?_ GW107.out _)|exact HK.out)) (KeepBut.of_below hb g none) (.inl rfl));have n3_:=AK (bst (by repeat (first|(with_reducible first|exact HB.out|apply below_alloc|apply pw_below_drewN|apply below_drew1|refine below_set ?_ (IsS121.ge HI0.out)|refine below_set ?_ GE107.out)|exact HB.out)) hb);have n4_:=AK (hbox);have n5_:=AK ((by rw[hg];exact(keep_size (w:=w) (g:=g) (row:=none) (by repeat (first|(with_reducible first|exact HK.out|apply KeepBut.set_|apply keep_drewN|apply keep_drew|apply keep_alloc|refine keep_far ?_ GW107.out _)|exact HK.out))):w.heap.size≤gb108));have n6_:=AK ((Nat.le_trans HW0.out (by rw[hg];exact(keep_size (w:=w) (g:=g) (row:=none) (by repeat (first|(with_reducible first|exact HK.out|apply KeepBut.set_|apply keep_drewN|apply keep_drew|apply keep_alloc|refine keep_far ?_ GW107.out _)|exact HK.out))):w.heap.size≤gb108):w0.heap.size≤gb108));have n7_:=AK (zN hg BK107);have n8_:=AK (zM hg BK107);have n9_:=AK ((by rw[hg];exact Nat.ne_of_lt (IsS121.lt (show IsS121 w0 _ g s0_0 s0_1 from by repeat (first|(with_reducible first|exact HI0.out|apply IsS121.alloc|apply IsS121.drewN|apply IsS121.drew|apply IsS121.set_1|refine IsS121.far ?_ NB0_107.out _)|exact HI0.out))):g≠gb108));have n10_:=AK ((by rw[hg];exact Nat.ne_of_gt (IsS121.lt (show IsS121 w0 _ g s0_0 s0_1 from by repeat (first|(with_reducible first|exact HI0.out|apply IsS121.alloc|apply IsS121.drewN|apply IsS121.drew|apply IsS121.set_1|refine IsS121.far ?_ NB0_107.out _)|exact HI0.out))):gb108≠g));clear HI0;clear BK107;clear HK;clear HB;have HI0:=n0_;have BK107:=n1_;have HK:=n2_;have HB:=n3_;have BK108:=n4_;have GW108:=n5_;have GE108:=n6_;have NB107_108:=n7_;have NB108_107:=n8_;have NB0_108:=n9_;have NB108_0:=n10_;clear n0_ n1_ n2_ n3_ n4_ n5_ n6_ n7_ n8_ n9_ n10_;clear hb hbox hg;have hnb5:=NB108_107.out;have hnc5:=NB107_108.out;have hnb6:=NB108_0.out;have hnc6:=NB0_108.out;have hcz7_0:w4.cell? ⟨gb108,0,none⟩=some (.slice none 0 0):=(bcl BK108.out 0).trans rfl;have hcz7_1:w4.cell? ⟨gb108,1,none⟩=some (.slice none 0 0):=(bcl BK108.out 1).trans rfl;have hcz7_2:w4.cell? ⟨gb108,2,none⟩=some (.slice none 0 0):=(bcl BK108.out 2).trans rfl;have hcz7_3:w4.cell? ⟨gb108,3,none⟩=some (.slice none 0 0):=(bcl BK108.out 3).trans rfl;have hfz7_0:=bfz BK108.out 0;have hfz7_1:=bfz BK108.out 1;have hfz7_2:=bfz BK108.out 2;have hfz7_3:=bfz BK108.out 3)|((with_reducible refine gate_callee (f:=63) rfl ?_);refine goesL_ (some 7) rfl rfl Try.func63 (by kernel_rfl) rfl #[.pointer (some ⟨g,0,none⟩),.int .i64 4] rfl zI ?_;(with_reducible refine(spec_l1Rd_pick.calls k g s0_0 s0_1 4 t109 t110 w0 _ ?side1 ?side2 A2.out).mono ?_);(case side1=>repeat (first|(with_reducible first|exact HI0.out|apply IsS121.alloc|apply IsS121.drewN|apply IsS121.drew|apply IsS121.set_1|refine IsS121.far ?_ NB0_107.out _|refine IsS121.far ?_ NB0_108.out _)|exact HI0.out));(case side2=>repeat (first|(with_reducible first|exact HB.out|apply below_alloc|apply pw_below_drewN|apply below_drew1|refine below_set ?_ (IsS121.ge HI0.out)|refine below_set ?_ GE107.out|refine below_set ?_ GE108.out)|exact HB.out));rintro e w8 ⟨rfl,hi,hb,hk⟩;refine⟨_,rfl,?_⟩;have n0_:=AK (KeepBut.blk hk (g':=gb107) (o:=.cells #[.slice none 0 0,.slice none 0 0,.slice none 0 0,.slice none 0 0] 28 (0,0)) (by(with_reducible repeat (first|refine blk_drewN ?_ _|refine blk_drew ?_|refine blk_alloc ?_ _));refine blk_far ?_ NB107_108.out _;(with_reducible repeat (first|refine blk_drewN ?_ _|refine blk_drew ?_|refine blk_alloc ?_ _));refine blk_far ?_ NB107_108.out _;(with_reducible repeat (first|refine blk_drewN ?_ _|refine blk_drew ?_|refine blk_alloc ?_ _));refine blk_far ?_ NB107_108.out _;(with_reducible repeat (first|refine blk_drewN ?_ _|refine blk_drew ?_|refine blk_alloc ?_ _));refine blk_far ?_ NB107_108.out _;(with_reducible repeat (first|refine blk_drewN ?_ _|refine blk_drew ?_|refine blk_alloc ?_ _));exact BK107.out) NB107_0.out (by simp));have n1_:=AK (KeepBut.blk hk (g':=gb108) (o:=.cells #[.slice none 0 0,.slice none 0 0,.slice none 0 0,.slice none 0 0] 28 (0,0)) (by(with_reducible repeat (first|refine blk_drewN ?_ _|refine blk_drew ?_|refine blk_alloc ?_ _));refine blk_put (cs:=#[.slice none 0 0,.slice none 0 0,.slice none 0 0,.slice none 0 0]) ?_ 3 _ rfl;(with_reducible repeat (first|refine blk_drewN ?_ _|refine blk_drew ?_|refine blk_alloc ?_ _));refine blk_put (cs:=#[.slice none 0 0,.slice none 0 0,.slice none 0 0,.slice none 0 0]) ?_ 2 _ rfl;(with_reducible repeat (first|refine blk_drewN ?_ _|refine blk_drew ?_|refine blk_alloc ?_ _));refine blk_put (cs:=#[.slice none 0 0,.slice none 0 0,.slice none 0 0,.slice none 0 0]) ?_ 1 _ rfl;(with_reducible repeat (first|refine blk_drewN ?_ _|refine blk_drew ?_|refine blk_alloc ?_ _));refine blk_put (cs:=#[.slice none 0 0,.slice none 0 0,.slice none 0 0,.slice none 0 0]) ?_ 0 _ rfl;(with_reducible repeat (first|refine blk_drewN ?_ _|refine blk_drew ?_|refine blk_alloc ?_ _));exact BK108.out) NB108_0.out (by simp));have n2_:=AK (KeepBut.trans (by repeat (first|(with_reducible first|exact HK.out|apply KeepBut.set_|apply keep_drewN|apply keep_drew|apply keep_alloc|refine keep_far ?_ GW107.out _|refine keep_far ?_ GW108.out _)|exact HK.out)) hk (.inl rfl));have n3_:=AK (hb);have n4_:=AK (hi);clear BK107;clear BK108;clear HK;clear HB;clear HI0;have BK107:=n0_;have BK108:=n1_;have HK:=n2_;have HB:=n3_;have HI0:=n4_;clear n0_ n1_ n2_ n3_ n4_;(try clear hb);(try clear hb2);(try clear hk);(try clear hi)))
  go_loopg [4] k (fun kq v4 w'=>∃(x4_1:Int) (x109001_1:List Int) (u109001:Value),v4=.int .i64 x4_1∧Aside0 (spec_l5Base.l0 kq x4_1 s0_0 t110 x109001_1=some (r1,r2,r3,r4,r5))∧Aside0 (kq≤k)∧Aside0 (Kd.R (Kd.int .i64) 3 w' w.heap.size (fun _=>True) u109001 x109001_1)∧Aside0 (w'.heap[gb107]?=some (.cells #[(.slice none 0 0),(.slice none 0 0),(.slice none 0 0),(.slice none 0 0)] 28 (0,0)))∧Aside0 (w'.heap[gb108]?=some (.cells #[(.slice none 0 0),u109001,(.slice none 0 0),(.slice none 0 0)] 28 (0,0)))∧Aside0 (IsS121 w0 w' g s0_0 t110)∧Aside0 (KeepBut w w' g none)∧Aside0 (Below w0.heap.size w0 w'))
  case atStart=>exact⟨(wrap64 (3+t109)),(([]:List Int)),(.slice none 0 0),(by first|rfl|(simp;done)|(simp[*];done)),H',⟨Nat.le_refl _⟩,⟨by first|exact Kd.R_nil _ _ _ _ _|exact Kd.N_nil _ _ _ _ _|exact Kd.V_nil _ _ _ _ _|exact Kd.Q_nil _ _ _ _ _|exact Kd.S_nil _ _ _ _ _⟩,⟨by(with_reducible repeat (first|refine blk_drewN ?_ _|refine blk_drew ?_|refine blk_alloc ?_ _));exact BK107.out⟩,⟨by(with_reducible repeat (first|refine blk_drewN ?_ _|refine blk_drew ?_|refine blk_alloc ?_ _));exact BK108.out⟩,⟨by repeat (first|(with_reducible first|exact HI0.out|apply IsS121.alloc|apply IsS121.drewN|apply IsS121.drew|apply IsS121.set_1|refine IsS121.far ?_ NB0_107.out _|refine IsS121.far ?_ NB0_108.out _)|exact HI0.out)⟩,⟨by repeat (first|(with_reducible first|exact HK.out|apply KeepBut.set_|apply keep_drewN|apply keep_drew|apply keep_alloc|refine keep_far ?_ GW107.out _|refine keep_far ?_ GW108.out _)|exact HK.out)⟩,⟨by repeat (first|(with_reducible first|exact HB.out|apply below_alloc|apply pw_below_drewN|apply below_drew1|refine below_set ?_ (IsS121.ge HI0.out)|refine below_set ?_ GE107.out|refine below_set ?_ GE108.out)|exact HB.out)⟩⟩
  case round=>
    clear H'
    try clear p2
    try clear c5
    try clear c6
    try clear p6
    try clear hcz7_0
    try clear hcz7_1
    try clear hcz7_2
    try clear hcz7_3
    try clear hfz7_0
    try clear hfz7_1
    try clear hfz7_2
    try clear hfz7_3
    obtain⟨x4_1,x109001_1,u109001,rfl,HA,HK1,HO_109001,BK107,BK108,HI0,HK,HB⟩:=hrel
    cases gk with
    | zero=>exact absurd HA.out (by simp[spec_l5Base.l0])
    | succ k1=>
      have H:=HA.out
      clear HA
      simp only[spec_l5Base.l0]at H
      by_cases c9:x4_1 > 0
      · rw[if_pos c9]at H
        have c9b0:decide (0<x4_1)=true:=deT c9
        clear c9
        by_cases c10:x109001_1.length<17592186044416
        · rw[if_pos c10]at H
          have LMc10:=AK c10
          clear c10
          obtain⟨y111,hy111⟩:∃y_:List Int,y_=(x109001_1++[(-1)]):=⟨_,rfl⟩
          replace H:(spec_l5Base.l0 k1 (wrap64 (x4_1 - 1)) s0_0 t110 y111)=some (r1,r2,r3,r4,r5):=by first|(rw[hy111];with_reducible exact H)|(have H2_:=(Option.bind_some _ _).symm.trans H;rw[hy111];with_reducible exact H2_)|(have H2_:=(Option.bind_some _ _).symm.trans H;with_reducible exact H2_)|with_reducible exact H|(rw[hy111];exact H)|exact H
          have Ny111:=AK hy111
          clear hy111
          have H':=AK H
          clear H
          have hnb11:=NB108_107.out
          have hnc11:=NB107_108.out
          have hnb12:=NB108_0.out
          have hnc12:=NB0_108.out
          have hcz13_0:wr.cell? ⟨gb108,0,none⟩=some (.slice none 0 0):=(bcl BK108.out 0).trans rfl
          have hcz13_1:wr.cell? ⟨gb108,1,none⟩=some (u109001):=(bcl BK108.out 1).trans rfl
          have hcz13_2:wr.cell? ⟨gb108,2,none⟩=some (.slice none 0 0):=(bcl BK108.out 2).trans rfl
          have hcz13_3:wr.cell? ⟨gb108,3,none⟩=some (.slice none 0 0):=(bcl BK108.out 3).trans rfl
          have hfz13_0:=bfz BK108.out 0
          have hfz13_1:=bfz BK108.out 1
          have hfz13_2:=bfz BK108.out 2
          have hfz13_3:=bfz BK108.out 3
          go_wp2_with (first|((with_reducible refine gate_builtin (b:=.append) (xs:=#[.tmp 14,.tmp 15]) rfl ?_);at_builtin;refine Kd.R_append (Kd.int .i64) w.heap.size rfl (.tmp 14) (.tmp 15) 25 3 (.int .i64 0) 8 rfl Try.underlying25 info3 rfl (by decide) (by omega) u109001 x109001_1 (-1) [.int .i64 (-1)] (fun _=>True) (fun _=>False) rfl rfl ?aP (fun _ hk=>hk.elim) ?aF ?aO (Below.refl _ _) ?aS ?aL ?_;(case aP=>exact rfl);(case aF=>exact(fun _ _=>trivial));(case aO=>exact(by(with_reducible repeat (first|apply Kd.R_alloc|apply Kd.R_drewN|apply Kd.R_drew));exact HO_109001.out));(case aS=>exact(keep_size (w:=w) (g:=g) (row:=none) (by repeat (first|(with_reducible first|exact HK.out|apply KeepBut.set_|apply keep_drewN|apply keep_drew|apply keep_alloc|refine keep_far ?_ GW107.out _|refine keep_far ?_ GW108.out _)|exact HK.out))));(case aL=>have:=LMc10.out;omega);intro v112 w14 ho hb hg hat;rw[←Ny111.out]at ho;have n0_:=AK (blk_grown (zK BK107) hg (Kd.R_ne HO_109001.out BK107.out (by decide)));have n1_:=AK (blk_grown (zK BK108) hg (Kd.R_ne HO_109001.out BK108.out (by decide)));have n2_:=AK (IsS121.grown (by repeat (first|(with_reducible first|exact HI0.out|apply IsS121.alloc|apply IsS121.drewN|apply IsS121.drew|apply IsS121.set_1|refine IsS121.far ?_ NB0_107.out _|refine IsS121.far ?_ NB0_108.out _)|exact HI0.out)) hg (IsS121.own_ne HI0.out HO_109001.out (by decide)));have n3_:=AK (below_weaken (by repeat (first|(with_reducible first|exact HB.out|apply below_alloc|apply pw_below_drewN|apply below_drew1|refine below_set ?_ (IsS121.ge HI0.out)|refine below_set ?_ GE107.out|refine below_set ?_ GE108.out)|exact HB.out)) HL.out hb);have n4_:=AK (KeepBut.trans (by repeat (first|(with_reducible first|exact HK.out|apply KeepBut.set_|apply keep_drewN|apply keep_drew|apply keep_alloc|refine keep_far ?_ GW107.out _|refine keep_far ?_ GW108.out _)|exact HK.out)) (KeepBut.of_grown hg g) (Kd.R_base2 HO_109001.out));have n5_:=AK (ho);clear BK107;clear BK108;clear HI0;clear HB;clear HK;clear HO_109001;have BK107:=n0_;have BK108:=n1_;have HI0:=n2_;have HB:=n3_;have HK:=n4_;have HO113:=n5_;clear n0_ n1_ n2_ n3_ n4_ n5_;clear ho hb hg hat;obtain⟨Ao15,co15,eo15⟩:=Kd.R_slice HO113.out;subst eo15;have hcz16_0:w14.cell? ⟨gb108,0,none⟩=some (.slice none 0 0):=(bcl BK108.out 0).trans rfl;have hcz16_1:w14.cell? ⟨gb108,1,none⟩=some (u109001):=(bcl BK108.out 1).trans rfl;have hcz16_2:w14.cell? ⟨gb108,2,none⟩=some (.slice none 0 0):=(bcl BK108.out 2).trans rfl;have hcz16_3:w14.cell? ⟨gb108,3,none⟩=some (.slice none 0 0):=(bcl BK108.out 3).trans rfl;have hfz16_0:=bfz BK108.out 0;have hfz16_1:=bfz BK108.out 1;have hfz16_2:=bfz BK108.out 2;have hfz16_3:=bfz BK108.out 3))
          go_roundg k1
          case measure=>have:=HK1.out;omega
          case rel=>exact⟨(wrap64 (x4_1 - 1)),(y111),(.slice Ao15 y111.length co15),(by first|rfl|(simp;done)|(simp[*];done)),H',⟨by have:=HK1.out;omega⟩,⟨by(with_reducible repeat (first|apply Kd.R_alloc|apply Kd.R_drewN|apply Kd.R_drew));exact Kd.R_mono (Kd.R_far (p:=⟨gb108,1,none⟩) (Kd.R_types HO113.out BK108.out (by decide)) (fun _ hk=>hk.2) (.slice Ao15 y111.length co15)) (fun _ hk=>trivial)⟩,⟨by(with_reducible repeat (first|refine blk_drewN ?_ _|refine blk_drew ?_|refine blk_alloc ?_ _));refine blk_far ?_ NB107_108.out _;(with_reducible repeat (first|refine blk_drewN ?_ _|refine blk_drew ?_|refine blk_alloc ?_ _));exact BK107.out⟩,⟨by(with_reducible repeat (first|refine blk_drewN ?_ _|refine blk_drew ?_|refine blk_alloc ?_ _));refine blk_put (cs:=#[.slice none 0 0,u109001,.slice none 0 0,.slice none 0 0]) ?_ 1 _ rfl;(with_reducible repeat (first|refine blk_drewN ?_ _|refine blk_drew ?_|refine blk_alloc ?_ _));exact BK108.out⟩,⟨by repeat (first|(with_reducible first|exact HI0.out|apply IsS121.alloc|apply IsS121.drewN|apply IsS121.drew|apply IsS121.set_1|refine IsS121.far ?_ NB0_107.out _|refine IsS121.far ?_ NB0_108.out _)|exact HI0.out)⟩,⟨by repeat (first|(with_reducible first|exact HK.out|apply KeepBut.set_|apply keep_drewN|apply keep_drew|apply keep_alloc|refine keep_far ?_ GW107.out _|refine keep_far ?_ GW108.out _)|exact HK.out)⟩,⟨by repeat (first|(with_reducible first|exact HB.out|apply below_alloc|apply pw_below_drewN|apply below_drew1|refine below_set ?_ (IsS121.ge HI0.out)|refine below_set ?_ GE107.out|refine below_set ?_ GE108.out)|exact HB.out)⟩⟩
        · rw[if_neg c10]at H
          exact absurd H (by simp)
      · rw[if_neg c9]at H
        have c9b0:decide (0<x4_1)=false:=deF c9
        clear c9
        simp only[Option.some.injEq,Prod.mk.injEq]at H
        obtain⟨rfl,rfl,rfl,rfl,rfl⟩:=H
        have hnb17:=NB108_107.out
        have hnc17:=NB107_108.out
        have hnb18:=NB108_0.out
        have hnc18:=NB0_108.out
        have hcz19_0:wr.cell? ⟨gb108,0,none⟩=some (.slice none 0 0):=(bcl BK108.out 0).trans rfl
        have hcz19_1:wr.cell? ⟨gb108,1,none⟩=some (u109001):=(bcl BK108.out 1).trans rfl
        have hcz19_2:wr.cell? ⟨gb108,2,none⟩=some (.slice none 0 0):=(bcl BK108.out 2).trans rfl
        have hcz19_3:wr.cell? ⟨gb108,3,none⟩=some (.slice none 0 0):=(bcl BK108.out 3).trans rfl
        have hfz19_0:=bfz BK108.out 0
        have hfz19_1:=bfz BK108.out 1
        have hfz19_2:=bfz BK108.out 2
        have hfz19_3:=bfz BK108.out 3
        have hnb20:=NB107_0.out
        have hnc20:=NB0_107.out
        have hcz21_0:wr.cell? ⟨gb107,0,none⟩=some (.slice none 0 0):=(bcl BK107.out 0).trans rfl
        have hcz21_1:wr.cell? ⟨gb107,1,none⟩=some (.slice none 0 0):=(bcl BK107.out 1).trans rfl
        have hcz21_2:wr.cell? ⟨gb107,2,none⟩=some (.slice none 0 0):=(bcl BK107.out 2).trans rfl
        have hcz21_3:wr.cell? ⟨gb107,3,none⟩=some (.slice none 0 0):=(bcl BK107.out 3).trans rfl
        have hfz21_0:=bfz BK107.out 0
        have hfz21_1:=bfz BK107.out 1
        have hfz21_2:=bfz BK107.out 2
        have hfz21_3:=bfz BK107.out 3
        obtain⟨Ao22,co22,eo22⟩:=Kd.R_slice HO_109001.out
        subst eo22
        go_wp2
        refine bodyPost_ret (results_cell_row rfl _ _ gb107 28 #[.slice none 0 0,.slice Ao22 x109001_1.length co22,.slice none 0 0,.slice none 0 0] (0,0) _ rfl (by(with_reducible repeat (first|refine blk_drewN ?_ _|refine blk_drew ?_|refine blk_alloc ?_ _));refine blk_put (cs:=#[.slice none 0 0,.slice Ao22 x109001_1.length co22,.slice none 0 0,.slice none 0 0]) ?_ 3 _ rfl;(with_reducible repeat (first|refine blk_drewN ?_ _|refine blk_drew ?_|refine blk_alloc ?_ _));refine blk_put (cs:=#[.slice none 0 0,.slice Ao22 x109001_1.length co22,.slice none 0 0,.slice none 0 0]) ?_ 2 _ rfl;(with_reducible repeat (first|refine blk_drewN ?_ _|refine blk_drew ?_|refine blk_alloc ?_ _));refine blk_put (cs:=#[.slice none 0 0,.slice none 0 0,.slice none 0 0,.slice none 0 0]) ?_ 1 _ rfl;(with_reducible repeat (first|refine blk_drewN ?_ _|refine blk_drew ?_|refine blk_alloc ?_ _));refine blk_put (cs:=#[.slice none 0 0,.slice none 0 0,.slice none 0 0,.slice none 0 0]) ?_ 0 _ rfl;(with_reducible repeat (first|refine blk_drewN ?_ _|refine blk_drew ?_|refine blk_alloc ?_ _));exact BK107.out) Try.underlying28 rfl (by kernel_rfl)) rfl ?_
        exact⟨_,_,_,_,by first|rfl|(simp[errW_none,errW_some]<;>rfl)|(simp[*,errW_none,errW_some]<;>rfl),by first|exact Kd.S_nil _ _ _ _ _|exact Kd.N_nil _ _ _ _ _|exact Kd.V_nil _ _ _ _ _|exact Kd.Q_nil _ _ _ _ _|exact Kd.R_nil _ _ _ _ _,by(with_reducible repeat (first|apply Kd.R_alloc|apply Kd.R_drewN|apply Kd.R_drew));exact Kd.R_mono (Kd.R_far (p:=⟨gb107,3,none⟩) (Kd.R_far (p:=⟨gb107,2,none⟩) (Kd.R_far (p:=⟨gb107,1,none⟩) (Kd.R_far (p:=⟨gb107,0,none⟩) (Kd.R_types HO_109001.out BK107.out (by decide)) (fun _ hk=>hk.2) (.slice none 0 0)) (fun _ hk=>hk.2) (.slice Ao22 x109001_1.length co22)) (fun _ hk=>hk.2) (.slice none 0 0)) (fun _ hk=>hk.2) (.slice none 0 0)) (fun _ hk=>trivial),by first|exact Kd.R_nil _ _ _ _ _|exact Kd.N_nil _ _ _ _ _|exact Kd.V_nil _ _ _ _ _|exact Kd.Q_nil _ _ _ _ _|exact Kd.S_nil _ _ _ _ _,by first|exact Kd.R_nil _ _ _ _ _|exact Kd.N_nil _ _ _ _ _|exact Kd.V_nil _ _ _ _ _|exact Kd.Q_nil _ _ _ _ _|exact Kd.S_nil _ _ _ _ _,by repeat (first|(with_reducible first|exact HI0.out|apply IsS121.alloc|apply IsS121.drewN|apply IsS121.drew|apply IsS121.set_1|refine IsS121.far ?_ NB0_107.out _|refine IsS121.far ?_ NB0_108.out _)|exact HI0.out),by repeat (first|(with_reducible first|exact HB.out|apply below_alloc|apply pw_below_drewN|apply below_drew1|refine below_set ?_ (IsS121.ge HI0.out)|refine below_set ?_ GE107.out|refine below_set ?_ GE108.out)|exact HB.out),by repeat (first|(with_reducible first|exact HK.out|apply KeepBut.set_|apply keep_drewN|apply keep_drew|apply keep_alloc|refine keep_far ?_ GW107.out _|refine keep_far ?_ GW108.out _)|exact HK.out)⟩
def spec_l1Rd_of.f (k:Nat) (s0_0:List Int) (s0_1:Int) (l1:List ByteArray):Option (ByteArray × Int):=(spec_l1Rd_pick.f k s0_0 s0_1 (l1.length:Int)).bind fun bt226=>(if 0≤bt226.1 then(if bt226.1<(l1.length:Int)then(some (rdOf ByteArray.empty l1 bt226.1,bt226.2))else(none))else(none))
set_option maxHeartbeats 8000000 in
set_option maxRecDepth 100000 in
theorem spec_l1Rd_of.calls (k:Nat) (g:Nat) (s0_0:List Int) (s0_1:Int) (A1:Option Addr) (c1:Nat) (l1:List ByteArray) (r1:ByteArray) (r2:Int) (w0 w:World) (hI:IsS121 w0 w g s0_0 s0_1) (hB:Below w0.heap.size w0 w) (hr1:Kd.C Kd.string w A1 l1.length l1) (hc1:l1.length≤c1) (hf1:∀ad,A1=some ad→0<l1.length→ad.block≠g) (h:spec_l1Rd_of.f k s0_0 s0_1 l1=some (r1,r2)) :
    Calls Try.prog 121 #[.pointer (some ⟨g,0,none⟩),.slice A1 l1.length c1] w fun e w'=>e=.returned (.string r1)∧IsS121 w0 w' g s0_0 r2∧Below w0.heap.size w0 w'∧KeepBut w w' g none:=by
  have HR1:=AK hr1
  have HC1:=AK hc1
  clear hr1 hc1
  have HI0:=AK hI
  have HK:=AK (KeepBut.refl w g none)
  have HL:=AK hB.size
  clear hI
  have HW0:=AK hB.size
  have HB:=AK hB
  clear hB
  have H:((spec_l1Rd_pick.f k s0_0 s0_1 (l1.length:Int)).bind fun bt226=>(if 0≤bt226.1 then(if bt226.1<(l1.length:Int)then(some (rdOf ByteArray.empty l1 bt226.1,bt226.2))else(none))else(none)))=some (r1,r2):=h
  clear h
  replace H:=Option.bind_eq_some_iff.mp H
  obtain⟨⟨t226,t227⟩,A30,H⟩:=H
  replace H:(if 0≤t226 then(if t226<(l1.length:Int)then(some (rdOf ByteArray.empty l1 t226,t227))else(none))else(none))=some (r1,r2):=H
  have A3:=AK A30
  clear A30
  by_cases c4:0≤t226
  · rw[if_pos c4]at H
    have c4b0:decide (0≤t226)=true:=deT c4
    clear c4
    by_cases c5:t226<(l1.length:Int)
    · rw[if_pos c5]at H
      have c5b0:decide (t226<(l1.length:Int))=true:=deT c5
      clear c5
      simp only[Option.some.injEq,Prod.mk.injEq]at H
      obtain⟨rfl,rfl⟩:=H
      go_enter Try.func121,Try.ntmps121
      go_wp2_with (first|((with_reducible refine gate_callee (f:=63) rfl ?_);refine goesL_ (some 9) rfl rfl Try.func63 (by kernel_rfl) rfl #[.pointer (some ⟨g,0,none⟩),.int .i64 (l1.length:Int)] rfl zI ?_;(with_reducible refine(spec_l1Rd_pick.calls k g s0_0 s0_1 (l1.length:Int) t226 t227 w0 _ ?side1 ?side2 A3.out).mono ?_);(case side1=>repeat (first|(with_reducible first|exact HI0.out|apply IsS121.alloc|apply IsS121.drewN|apply IsS121.drew|apply IsS121.set_1)|exact HI0.out));(case side2=>repeat (first|(with_reducible first|exact HB.out|apply below_alloc|apply pw_below_drewN|apply below_drew1|refine below_set ?_ (IsS121.ge HI0.out))|exact HB.out));rintro e w6 ⟨rfl,hi,hb,hk⟩;refine⟨_,rfl,?_⟩;have n0_:=AK (KeepBut.trans (by repeat (first|(with_reducible first|exact HK.out|apply KeepBut.set_|apply keep_drewN|apply keep_drew|apply keep_alloc)|exact HK.out)) hk (.inl rfl));have n1_:=AK (hb);have n2_:=AK (hi);clear HK;clear HB;clear HI0;have HK:=n0_;have HB:=n1_;have HI0:=n2_;clear n0_ n1_ n2_;(try clear hb);(try clear hb2);(try clear hk);(try clear hi);have p228:0≤(t226:Int):=of_decide_eq_true zA;have q228:t226<(l1.length:Int):=of_decide_eq_true zA;obtain⟨ad228,e228,hx228_0⟩:=Kd.at_string HR1.out t226 p228 q228;cases e228;replace hx228_0:=keep_cell HK.out hx228_0 (by first|(rw[add_block];exact hf1 _ rfl (by omega))|exact hf1 _ rfl (by omega)|exact hf1 ad228 rfl (by omega));replace p228:=eq_true p228;replace q228:=eq_true q228))
      go_ret
      exact⟨by first|rfl|(simp[errW_none,errW_some]<;>rfl)|(simp[*,errW_none,errW_some]<;>rfl),by repeat (first|(with_reducible first|exact HI0.out|apply IsS121.alloc|apply IsS121.drewN|apply IsS121.drew|apply IsS121.set_1)|exact HI0.out),by repeat (first|(with_reducible first|exact HB.out|apply below_alloc|apply pw_below_drewN|apply below_drew1|refine below_set ?_ (IsS121.ge HI0.out))|exact HB.out),by repeat (first|(with_reducible first|exact HK.out|apply KeepBut.set_|apply keep_drewN|apply keep_drew|apply keep_alloc)|exact HK.out)⟩
    · rw[if_neg c5]at H
      exact absurd H (by simp)
  · rw[if_neg c4]at H
    exact absurd H (by simp)
end Go.Proofs.Ytigjhfijkdlldaa.Q
