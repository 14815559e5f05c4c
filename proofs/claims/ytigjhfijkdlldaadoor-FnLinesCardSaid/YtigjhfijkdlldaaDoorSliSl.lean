import Derived.Test.YtigjhfijkdlldaaDoorSliSq
namespace Go.Proofs.YtigjhfijkdlldaaDoor.H
open Go.RowKit Go.Proofs.YtigjhfijkdlldaaDoorW.PrintWords Go.Proofs.YtigjhfijkdlldaaDoorW.PrintLast Go.Proofs.YtigjhfijkdlldaaDoorW.PrintMore Go.Proofs.YtigjhfijkdlldaaDoor.Q
set_option linter.unusedVariables false
set_option linter.unusedSimpArgs false
section
theorem ml7_tab:rtab .any (opsOf Tryd.f14 7)=(true,[([],[]),([0],[0]),([],[]),([2],[2]),([3],[3]),([4],[4]),([1,5],[1,5]),([6,1,0,1,2,3,4,5,6],[6])]):=by kernel_rfl
theorem ml7_bits:waitsOk [([],[]),([0],[0]),([],[]),([2],[2]),([3],[3]),([4],[4]),([1,5],[1,5]),([6,1,0,1,2,3,4,5,6],[6])] [0,1,0,4,12,28,63,127]=true:=by kernel_rfl
theorem ml14_tab:rtab .any (opsOf Tryd.f14 14)=(true,[([],[]),([0],[0]),([],[]),([1,2],[1,2]),([3,1,0,1,2,3],[3])]):=by kernel_rfl
theorem ml14_bits:waitsOk [([],[]),([0],[0]),([],[]),([1,2],[1,2]),([3,1,0,1,2,3],[3])] [0,1,0,7,15]=true:=by kernel_rfl
theorem ml13_tab:rtab .any (opsOf Tryd.f14 13)=(true,[([],[]),([0],[0]),([],[]),([],[]),([2,3],[2,3]),([4],[4]),([1,5,4],[1,5]),([0,1,2,3,4,5,6],[]),([7,6,6,0,1,2,3,4,5,6],[6,7])]):=by kernel_rfl
theorem ml13_bits:waitsOk [([],[]),([0],[0]),([],[]),([],[]),([2,3],[2,3]),([4],[4]),([1,5,4],[1,5]),([0,1,2,3,4,5,6],[]),([7,6,6,0,1,2,3,4,5,6],[6,7])] [0,1,0,0,12,28,63,127,255]=true:=by kernel_rfl
set_option maxHeartbeats 40000000 in
set_option maxRecDepth 100000 in
theorem memLine_c {w:World} {base:Nat} {m:Int} {A0 A1 A2 A3:Option Addr} {c0 c1 c2 c3:Nat} {h:Hp} {l:ByteArray} (hO:OwnX w base A0 c0 A1 c1 A2 c2 A3 c3 h) (hbs:base≤w.heap.size) (hm:w.cell? ⟨0,0,none⟩=some (.int .i64 m)) (hk:h.ok=true) (hl:l.size≤1048576) (R:Hp) (s:ByteArray) (hR:(R,s)=lineB h l) :
    Calls Tryd.prog 14 #[.agg #[.slice A0 h.o.length c0,.slice A1 h.r.length c1,.slice A2 h.w.length c2,.slice A3 h.d.length c3],.string l] w fun en w'=>∃(B0:Option Addr) (d0:Nat) (B1:Option Addr) (d1:Nat) (B2:Option Addr) (d2:Nat) (B3:Option Addr) (d3:Nat),en=.returned (.tuple #[.agg #[.slice B0 R.o.length d0,.slice B1 R.r.length d1,.slice B2 R.w.length d2,.slice B3 R.d.length d3],.string s])∧OwnX w' base B0 d0 B1 d1 B2 d2 B3 d3 R∧Below w.heap.size w w':=by
  have HO:=AK hO
  have HBS:=AK hbs
  have HMX:=AK hm
  have HK:=AK hk
  have HLS:=AK hl
  have HRS:=AK hR
  clear hO hbs hm hk hl hR
  have hmf:∀(fn:Fn) (first cap:Array Value) (w:World),(Instr.makeFunc fn first cap).run Tryd.prog w=.ok (.func fn first cap) w:=fun _ _ _ _=>rfl
  have HB2:=AK (show Below w.heap.size w ((w.alloc (.cells #[.slice A0 h.o.length c0,.slice A1 h.r.length c1,.slice A2 h.w.length c2,.slice A3 h.d.length c3] 33 (0,0))).alloc (.cells #[.slice none 0 0,.slice none 0 0,.slice none 0 0,.slice none 0 0] 33 (0,0)))from below_alloc (below_alloc (Below.refl _ _) _) _)
  have HX0:=AK (show (World.heap ((w.alloc (.cells #[.slice A0 h.o.length c0,.slice A1 h.r.length c1,.slice A2 h.w.length c2,.slice A3 h.d.length c3] 33 (0,0))).alloc (.cells #[.slice none 0 0,.slice none 0 0,.slice none 0 0,.slice none 0 0] 33 (0,0))))[w.heap.size]?=some (.cells #[.slice A0 h.o.length c0,.slice A1 h.r.length c1,.slice A2 h.w.length c2,.slice A3 h.d.length c3] 33 (0,0))∧(World.heap ((w.alloc (.cells #[.slice A0 h.o.length c0,.slice A1 h.r.length c1,.slice A2 h.w.length c2,.slice A3 h.d.length c3] 33 (0,0))).alloc (.cells #[.slice none 0 0,.slice none 0 0,.slice none 0 0,.slice none 0 0] 33 (0,0))))[w.heap.size+1]?=some (.cells #[.slice none 0 0,.slice none 0 0,.slice none 0 0,.slice none 0 0] 33 (0,0))from⟨blk_alloc (blk_new w _) _,blk_new1 w _ _⟩)
  go_enter Tryd.func14,Tryd.ntmps14
  go_wp2_with fail
  refine(split32_c HLS.out (pcb HB2.out HMX.out)).mono ?_
  rintro en w2 ⟨ad,rfl,hR,hb⟩
  obtain⟨ws,eW⟩:∃L,L=cutB 32 l:=⟨_,rfl⟩
  rw[←eW]at hR ⊢
  have EW:=AK eW
  have HW2:=AK hR
  have HBB:=AK hb
  clear hR hb eW
  go_upto_block 0 with fail
  have E0:=AK (show LB w w.heap.size (w.heap.size+1) w2.heap.size (w2.heap.size+1) ad ws.length #[.slice A0 h.o.length c0,.slice A1 h.r.length c1,.slice A2 h.w.length c2,.slice A3 h.d.length c3] ws #[.int .i64 0,.int .i64 0,.int .i64 0,.int .i64 0,.int .i64 0,.string ⟨#[]⟩,.slice none 0 0] ((w2.alloc (.cells #[.slice (some ad) ws.length ws.length] 27 (0,0))).alloc (.cells #[.int .i64 0,.int .i64 0,.int .i64 0,.int .i64 0,.int .i64 0,.string ⟨#[]⟩,.slice none 0 0] 37 (0,0)))from
    ⟨below_alloc (below_alloc (bst HB2.out HBB.out) _) _,blk_alloc (blk_alloc (bbl HX0.out.1 HBB.out) _) _,blk_alloc (blk_alloc (bbl HX0.out.2 HBB.out) _) _,blk_alloc (blk_new w2 _) _,blk_new1 w2 _ _,Kd.R_alloc (Kd.R_alloc (Kd.R_lower HW2.out HB2.out.size) _) _,by omega,by have:=HBB.out.size;have:=HB2.out.size;omega⟩)
  have HN:=AK (show 1≤ws.length∧ws.length≤1048577 from by rw[EW.out];exact⟨cutB_pos _ _,by have:=cutB_most 32 l;have:=HLS.out;omega⟩)
  have HWZ:=AK (show ∀p∈ws,p.size≤1048576 from fun p hp=>by rw[EW.out]at hp;have:=cutB_size 32 l p hp;have:=HLS.out;omega)
  clear HW2 HB2 HBB HX0
  generalize ((w2.alloc (.cells #[.slice (some ad) ws.length ws.length] 27 (0,0))).alloc (.cells #[.int .i64 0,.int .i64 0,.int .i64 0,.int .i64 0,.int .i64 0,.string ⟨#[]⟩,.slice none 0 0] 37 (0,0)))=w3 at E0 ⊢
  generalize w2.heap.size=n3 at E0 ⊢
  obtain⟨u0,hu0⟩:∃u,u=ws.getD 0 ByteArray.empty:=⟨_,rfl⟩
  have HU0:=AK (show tw ws=u0.toList by rw[hu0];rfl)
  have y0:=E0.out.at0 (by have:=HN.out;omega)
  have ys:=E0.out.slot
  rw[←hu0]at y0
  have HU:=AK hu0
  clear hu0
  have k0:=eq_true (show (0:Int)<(ws.length:Int)by have:=HN.out;omega)
  have k0b:=eq_true (show 0<ws.length by have:=HN.out;omega)
  go_cut [] (fun wc=>∃(e:S40) (F:Option Addr) (f:Nat),Aside0 (eventB ws=some e)∧Aside0 (LB w w.heap.size (w.heap.size+1) n3 (n3+1) ad ws.length #[.slice A0 h.o.length c0,.slice A1 h.r.length c1,.slice A2 h.w.length c2,.slice A3 h.d.length c3] ws #[.int .i64 e.f0,.int .i64 e.f1,.int .i64 e.f2,.int .i64 e.f3,.int .i64 e.f4.f0,.string e.f4.f1,.slice F e.f4.f2.length f] wc)∧Aside0 (Kd.R (Kd.int .i64) 3 wc w.heap.size (fun _=>True) (.slice F e.f4.f2.length f) e.f4.f2))
  case first=>
    obtain⟨b_data,h_data⟩:∃b,b=((u0.toList == [100,97,116,97]) && (ws.length == 3)):=⟨_,rfl⟩
    have B_data:=AK h_data
    clear h_data
    go_upto_region 6 with fail
    go_cut [19] (fun v9 wc=>v9=.bool b_data∧wc=w3)
    case first=>
      focus
        obtain⟨bn,n1⟩:∃b,((ws.length:Int) == 3)=b:=⟨_,rfl⟩
        have hbb:(ws.length == 3)=bn:=by rw[←n1,Bool.eq_iff_iff,beq_iff_eq,beq_iff_eq];omega
        by_cases hX:u0.toList=[100,97,116,97]
        · have t1:(u0.toList == [100,97,116,97])=true:=by rw[hX];rfl
          have e:b_data=bn:=by rw[B_data.out,t1,hbb,Bool.true_and]
          clear hX hbb
          subst e
          go_wp2
          go_meet
          case rel=>exact⟨rfl,rfl⟩
        · have t1:(u0.toList == [100,97,116,97])=false:=beq_eq_false_iff_ne.2 hX
          have e:b_data=false:=by rw[B_data.out,t1];rfl
          clear hX hbb n1
          subst e
          go_wp2
          go_meet
          case rel=>exact⟨rfl,rfl⟩
    case rest=>
      obtain⟨rfl,hw_⟩:=hcut
      rw[hw_]
      clear hw_ wc
      cases b_data
      case true=>
        focus
          have hX:u0.toList=[100,97,116,97]:=by have:=B_data.out;simp at this;exact this.1
          have hn:ws.length=3:=by have:=B_data.out;simp at this;exact this.2
          clear y0 k0 k0b
          obtain⟨e1,he1⟩:∃z,z=dg ws 1:=⟨_,rfl⟩
          have HX1:=AK he1
          clear he1
          obtain⟨u2,hu2⟩:∃u,u=ws.getD 2 ByteArray.empty:=⟨_,rfl⟩
          have HU2:=AK hu2
          have HEV:=AK (show eventB ws=some ⟨1,e1,0,0,⟨1,u2,[]⟩⟩by
            rw[ev_data (HU0.out.trans hX),if_pos (beq_iff_eq.2 hn),HX1.out,hu2])
          have HN2:=AK hn
          clear hX hn hu2
          go_upto_region 7 with fail
          clear ys
          replace E0:=AK (E0.out.below (below_drew1 (Below.refl _ _)))
          have k2:=eq_true (show (2:Int)<(ws.length:Int)by have:=HN2.out;omega)
          refine start_ (n:=8) (S:=(fun w'=>w'.cell? ⟨n3,0,none⟩=some (.slice (some ad) ws.length ws.length)∧w'.cell? ⟨ad.block,ad.off+2,none⟩=some (.string u2))) (ds:=[7]) #[fF,fF,fF,fF,fF,fF,fF,fF] (by kernel_rfl) rfl rfl ⟨E0.out.slot,show _=some (Value.string u2)from by rw[HU2.out];exact E0.out.atk 2 (by have:=HN2.out;omega) (by omega)⟩ (fun hHeld=>?_);refine with_tabW ml7_tab ml7_bits (fun HT_ HW_=>?_)
          generalize World.drew w3=vv at E0 hHeld ⊢
          refine pU HT_ 0 (some 28) (bM 8 1) ?_
          refine tU HT_ HW_ 2 (some 30) (bM 8 5) hHeld rfl (by refine Or.inl ⟨by rfl,?_⟩;rintro w' ⟨s0,s1⟩;go_simp;with_reducible rfl) ?_
          refine pU HT_ 3 (some 31) (bM 8 13) ?_
          refine tU HT_ HW_ 4 (some 32) (bM 8 29) hHeld rfl (by refine Or.inl ⟨by rfl,?_⟩;rintro w' ⟨s0,s1⟩;go_simp;with_reducible rfl) ?_
          refine pU HT_ 5 (some 33) (bM 8 61) ?_
          refine one_ (i:=1) (N:=some 29) (bM 8 63) rfl rfl (one_of HT_.out (by kernel_rfl)) (by decide) (fun K_ hK=>?_)
          refine cgoes_ Tryd.func26 (by kernel_rfl) rfl #[.int .i64 1,.pointer (some ⟨n3,0,none⟩)] (by rfl) rfl rfl rfl (by(try simp only[List.map_toArray,List.map_cons,List.map_nil,List.append_toArray,List.cons_append,List.nil_append]);first|done|rfl) ?_
          refine(E0.out.dig1 (by have:=HN2.out;omega)).mono ?_
          rintro en vx ⟨rfl,hw_⟩
          rw[hw_,←HX1.out]
          clear hw_ vx
          refine⟨_,rfl,?_⟩
          refine hK.out _ _ ⟨E0.out.slot,show _=some (Value.string u2)from by rw[HU2.out];exact E0.out.atk 2 (by have:=HN2.out;omega) (by omega)⟩ (fun hHeld=>?_)
          clear hK K_
          refine nO (some 29) ?_
          refine pU HT_ 6 (some 34) (bM 8 127) ?_
          refine last_ (i:=7) (N:=none) #[tT,tT,tT,tT,tT,tT,tT,tT] rfl rfl (one_of HT_.out (by kernel_rfl)) (by decide) (fun K_ hK=>?_)
          obtain⟨p0,p1,p2,p3,p4,p5,p6⟩:=box7 E0.out.x4
          have q0:=bfz E0.out.x4 0
          have q1:=bfz E0.out.x4 1
          have q2:=bfz E0.out.x4 2
          have q3:=bfz E0.out.x4 3
          have q4:=bfz E0.out.x4 4
          have q5:=bfz E0.out.x4 5
          have q6:=bfz E0.out.x4 6
          refine skip_ (w1:=?_) (by rfl) rfl ?_ ?_
          rotate_left
          · go_simp
            rfl
          clear p0 p1 p2 p3 p4 p5 p6 q0 q1 q2 q3 q4 q5 q6
          refine hK.out _ _ ?_
          clear hK K_
          refine done_ (done_of HT_.out (by kernel_rfl)) ?_
          clear HT_ HW_ hHeld
          clear k2
          go_wp2
          go_meet
          case rel=>exact⟨⟨1,e1,0,0,⟨1,u2,[]⟩⟩,none,0,HEV,⟨E0.out.set7 rfl⟩,⟨set7_R (Kd.R_nil _ _ _ _ _) E0.out.x4 (int_ap 37 (by decide))⟩⟩
      obtain⟨b_cell,h_cell⟩:∃b,b=((u0.toList == [99,101,108,108]) && decide (2≤ws.length)):=⟨_,rfl⟩
      have B_cell:=AK h_cell
      clear h_cell
      go_upto_region 8 with fail
      go_cut [35] (fun v9 wc=>v9=.bool b_cell∧wc=w3)
      case first=>
        focus
          obtain⟨bn,n1⟩:∃b,decide ((2:Int)≤(ws.length:Int))=b:=⟨_,rfl⟩
          have hbb:decide (2≤ws.length)=bn:=by rw[←n1];exact decide_eq_decide.2 (by omega)
          by_cases hX:u0.toList=[99,101,108,108]
          · have t1:(u0.toList == [99,101,108,108])=true:=by rw[hX];rfl
            have e:b_cell=bn:=by rw[B_cell.out,t1,hbb,Bool.true_and]
            clear hX hbb
            subst e
            go_wp2
            go_meet
            case rel=>exact⟨rfl,rfl⟩
          · have t1:(u0.toList == [99,101,108,108])=false:=beq_eq_false_iff_ne.2 hX
            have e:b_cell=false:=by rw[B_cell.out,t1];rfl
            clear hX hbb n1
            subst e
            go_wp2
            go_meet
            case rel=>exact⟨rfl,rfl⟩
      case rest=>
        obtain⟨rfl,hw_⟩:=hcut
        rw[hw_]
        clear hw_ wc
        cases b_cell
        case true=>
          focus
            have hX:u0.toList=[99,101,108,108]:=by have:=B_cell.out;simp at this;exact this.1
            have hn:2≤ws.length:=by have:=B_cell.out;simp at this;exact this.2
            clear y0 k0 k0b
            obtain⟨e1,he1⟩:∃z,z=dg ws 1:=⟨_,rfl⟩
            have HX1:=AK he1
            clear he1
            have HEV:=AK (show eventB ws=some ⟨1,e1,0,0,⟨2,⟨#[]⟩,(ws.drop 2).map digitB⟩⟩by
              rw[ev_cell (HU0.out.trans hX),if_pos (deT hn),HX1.out])
            have HN2:=AK hn
            clear hX hn ys
            go_upto_region 10 with fail
            have H5:=AK (blk_new w3 (.cells #[.int .i64 2,.string ⟨#[]⟩,.slice none 0 0] 35 (0,0)))
            have G5:=AK (show w.heap.size≤w3.heap.size from E0.out.b.size)
            replace E0:=AK (E0.out.below (below_alloc (Below.refl _ _) (.cells #[.int .i64 2,.string ⟨#[]⟩,.slice none 0 0] 35 (0,0))))
            generalize w3.alloc (.cells #[.int .i64 2,.string ⟨#[]⟩,.slice none 0 0] 35 (0,0))=w5 at E0 H5 ⊢
            generalize w3.heap.size=n5 at H5 G5 ⊢
            go_wp2_with fail
            go_loopg [11] (ws.length - 2) (fun kq v11 w'=>∃(m:List Int) (M:Option Addr) (cm:Nat) (i:Int),v11=.int .i64 i∧Aside0 (2≤i∧i+kq=ws.length)∧Aside0 (m=((ws.drop 2).take (i - 2).toNat).map digitB)∧Aside0 (LB w w.heap.size (w.heap.size+1) n3 (n3+1) ad ws.length #[.slice A0 h.o.length c0,.slice A1 h.r.length c1,.slice A2 h.w.length c2,.slice A3 h.d.length c3] ws #[.int .i64 0,.int .i64 0,.int .i64 0,.int .i64 0,.int .i64 0,.string ⟨#[]⟩,.slice none 0 0] w')∧Aside0 (w'.heap[n5]?=some (.cells #[.int .i64 2,.string ⟨#[]⟩,.slice M m.length cm] 35 (0,0)))∧Aside0 (Kd.R (Kd.int .i64) 3 w' w.heap.size (fun _=>True) (.slice M m.length cm) m))
            case atStart=>exact⟨[],none,0,2,rfl,⟨by omega,by have:=HN2.out;omega⟩,⟨by simp⟩,E0,H5,⟨Kd.R_nil _ _ _ _ _⟩⟩
            case round=>
              clear E0 H5
              obtain⟨m,M,cm,i,rfl,HI,HM,E0,H5,HR⟩:=hrel
              cases gk with
              | zero=>
                focus
                  have c9:decide (i<(ws.length:Int))=false:=deF (by have:=HI.out;omega)
                  have e:(ws.drop 2).map digitB=m:=by
                    rw[HM.out,List.take_of_length_le]
                    rw[List.length_drop];have:=HI.out;omega
                  have HEV2:=HEV.out
                  rw[e]at HEV2
                  replace HEV:=AK HEV2
                  clear e HEV2
                  go_upto_region 14 with fail
                  clear c9
                  replace E0:=AK (E0.out.below (below_drew1 (Below.refl _ _)))
                  replace HR:=AK (Kd.R_below HR.out (below_drew1 (Below.refl _ _)))
                  replace H5:=AK (bbl H5.out (below_drew1 (Below.refl _ _)))
                  refine start_ (n:=5) (S:=(fun w'=>w'.cell? ⟨n5,0,none⟩=some (.int .i64 2)∧w'.cell? ⟨n5,1,none⟩=some (.string ⟨#[]⟩)∧w'.cell? ⟨n5,2,none⟩=some (.slice M m.length cm))) (ds:=[4]) #[fF,fF,fF,fF,fF] (by kernel_rfl) rfl rfl ⟨(bcl H5.out 0).trans rfl,(bcl H5.out 1).trans rfl,(bcl H5.out 2).trans rfl⟩ (fun hHeld=>?_);refine with_tabW ml14_tab ml14_bits (fun HT_ HW_=>?_)
                  generalize World.drew wr=vv at E0 HR H5 hHeld ⊢
                  refine pU HT_ 0 (some 58) (bM 5 1) ?_
                  refine tU HT_ HW_ 2 (some 60) (bM 5 5) hHeld rfl (by refine Or.inl ⟨by rfl,?_⟩;rintro w' ⟨s0,s1,s2⟩;go_simp;with_reducible rfl) ?_
                  refine one_ (i:=1) (N:=some 59) (bM 5 7) rfl rfl (one_of HT_.out (by kernel_rfl)) (by decide) (fun K_ hK=>?_)
                  refine cgoes_ Tryd.func26 (by kernel_rfl) rfl #[.int .i64 1,.pointer (some ⟨n3,0,none⟩)] (by rfl) rfl rfl rfl (by(try simp only[List.map_toArray,List.map_cons,List.map_nil,List.append_toArray,List.cons_append,List.nil_append]);first|done|rfl) ?_
                  refine(E0.out.dig1 (by have:=HN2.out;omega)).mono ?_
                  rintro en vx ⟨rfl,hw_⟩
                  rw[hw_,←HX1.out]
                  clear hw_ vx
                  refine⟨_,rfl,?_⟩
                  refine hK.out _ _ ⟨(bcl H5.out 0).trans rfl,(bcl H5.out 1).trans rfl,(bcl H5.out 2).trans rfl⟩ (fun hHeld=>?_)
                  clear hK K_
                  refine nO (some 59) ?_
                  refine pU HT_ 3 (some 61) (bM 5 15) ?_
                  refine last_ (i:=4) (N:=none) #[tT,tT,tT,tT,tT] rfl rfl (one_of HT_.out (by kernel_rfl)) (by decide) (fun K_ hK=>?_)
                  obtain⟨p0,p1,p2,p3,p4,p5,p6⟩:=box7 E0.out.x4
                  have q0:=bfz E0.out.x4 0
                  have q1:=bfz E0.out.x4 1
                  have q2:=bfz E0.out.x4 2
                  have q3:=bfz E0.out.x4 3
                  have q4:=bfz E0.out.x4 4
                  have q5:=bfz E0.out.x4 5
                  have q6:=bfz E0.out.x4 6
                  refine skip_ (w1:=?_) (by rfl) rfl ?_ ?_
                  rotate_left
                  · go_simp
                    rfl
                  clear p0 p1 p2 p3 p4 p5 p6 q0 q1 q2 q3 q4 q5 q6
                  refine hK.out _ _ ?_
                  clear hK K_
                  refine done_ (done_of HT_.out (by kernel_rfl)) ?_
                  clear HT_ HW_ hHeld
                  go_wp2
                  go_meet
                  case rel=>exact⟨⟨1,e1,0,0,⟨2,⟨#[]⟩,m⟩⟩,M,cm,HEV,⟨E0.out.set7 rfl⟩,⟨set7_R HR.out E0.out.x4 (int_ap 37 (by decide))⟩⟩
              | succ g1=>
                focus
                  have c9:decide (i<(ws.length:Int))=true:=deT (by have:=HI.out;omega)
                  obtain⟨dd,hdd⟩:∃z,z=dg ws i.toNat:=⟨_,rfl⟩
                  have HDD:=AK hdd
                  obtain⟨m2,em2⟩:∃l,l=m++[dd]:=⟨_,rfl⟩
                  have EM:=AK em2
                  have HM2:=AK (show m2=((ws.drop 2).take (i+1 - 2).toNat).map digitB from by
                    rw[em2,HM.out,show (i+1 - 2).toNat=(i - 2).toNat+1 by have:=HI.out;omega,List.take_add_one,List.getElem?_drop,show 2+(i - 2).toNat=i.toNat by have:=HI.out;omega,List.getElem?_eq_getElem (show i.toNat<ws.length by have:=HI.out;omega),List.map_append,hdd]
                    unfold dg
                    rw[List.getD_eq_getElem?_getD,List.getElem?_eq_getElem (show i.toNat<ws.length by have:=HI.out;omega)]
                    rfl)
                  have HML:=AK (show m.length≤1048577 from by
                    rw[HM.out,List.length_map,List.length_take,List.length_drop];have:=HN.out;omega)
                  clear hdd em2
                  go_upto_region 13 with fail
                  clear c9
                  replace E0:=AK (E0.out.below (below_drew1 (Below.refl _ _)))
                  replace HR:=AK (Kd.R_below HR.out (below_drew1 (Below.refl _ _)))
                  replace H5:=AK (bbl H5.out (below_drew1 (Below.refl _ _)))
                  refine start_ (n:=9) (S:=(fun w'=>w'.cell? ⟨n5,2,none⟩=some (.slice M m.length cm))) (ds:=[8]) #[fF,fF,fF,fF,fF,fF,fF,fF,fF] (by kernel_rfl) rfl rfl ((bcl H5.out 2).trans rfl) (fun hHeld=>?_);refine with_tabW ml13_tab ml13_bits (fun HT_ HW_=>?_)
                  generalize World.drew wr=vv at E0 HR H5 hHeld ⊢
                  refine pU HT_ 0 (some 50) (bM 9 1) ?_
                  refine tU HT_ HW_ 1 (some 51) (bM 9 3) hHeld rfl (by refine Or.inl ⟨by rfl,?_⟩;rintro w' s0;go_simp;with_reducible rfl) ?_
                  refine pU HT_ 2 (some 52) (bM 9 7) ?_
                  refine pU HT_ 3 (some 53) (bM 9 15) ?_
                  refine one_ (i:=4) (N:=some 54) (bM 9 31) rfl rfl (one_of HT_.out (by kernel_rfl)) (by decide) (fun K_ hK=>?_)
                  refine cgoes_ Tryd.func26 (by kernel_rfl) rfl #[.int .i64 i,.pointer (some ⟨n3,0,none⟩)] (by rfl) rfl rfl rfl (by(try simp only[List.map_toArray,List.map_cons,List.map_nil,List.append_toArray,List.cons_append,List.nil_append]);first|done|rfl) ?_
                  refine(E0.out.dig (i:=i) (by have:=HI.out;omega) (by have:=HI.out;omega)).mono ?_
                  rintro en vx ⟨rfl,hw_⟩
                  rw[hw_,←HDD.out]
                  clear hw_ vx
                  refine⟨_,rfl,?_⟩
                  refine hK.out _ _ ((bcl H5.out 2).trans rfl) (fun hHeld=>?_)
                  clear hK K_
                  refine nO (some 54) ?_
                  refine one_ (i:=5) (N:=some 55) (bM 9 63) rfl rfl (one_of HT_.out (by kernel_rfl)) (by decide) (fun K_ hK=>?_)
                  refine value_ (v:=.slice (some ⟨vv.heap.size,0,none⟩) 1 1) (w1:=vv.alloc (.cells #[.int .i64 dd] 3 (0,0))) (by rfl) rfl ?hr ?_;(case hr=>first|(go_simp;done)|(go_simp;rfl))
                  have E1:=AK (E0.out.below (below_alloc (Below.refl _ _) (.cells #[.int .i64 dd] 3 (0,0))))
                  have H6:=AK (blk_alloc H5.out (.cells #[.int .i64 dd] 3 (0,0)))
                  refine hK.out _ _ ((bcl H6.out 2).trans rfl) (fun hHeld=>?_)
                  clear hK K_
                  refine nO (some 55) ?_
                  refine one_ (i:=6) (N:=some 56) (bM 9 127) rfl rfl (one_of HT_.out (by kernel_rfl)) (by decide) (fun K_ hK=>?_)
                  refine Kd.R_append_step (Kd.int .i64) (w0:=w) (W:=vv) w.heap.size (by rfl) (.tmp 51) (.tmp 55) 29 3 (.int .i64 0) 8 rfl Tryd.underlying29 info3 rfl (by decide) (by omega) (.slice M m.length cm) m dd [.int .i64 dd] (fun _=>True) (fun _=>False) rfl rfl ?aP (fun _ hk=>hk.elim) (fun _ _=>trivial) ?aO ?aB ?aS ?aL ?_;(case aP=>exact rfl);(case aO=>exact HR.out);(case aB=>exact E0.out.b);(case aS=>exact E0.out.b.size);(case aL=>have:=HML.out;omega)
                  intro v91 vw ho hb hg hat
                  have E2:=AK (E0.out.grown HR.out hg hb)
                  have H7:=AK (blk_grown H5.out hg (Kd.R_ne HR.out H5.out (by decide)))
                  rw[←EM.out]at ho
                  obtain⟨M2,cm2,ee⟩:=Kd.R_slice ho
                  subst ee
                  have HR2:=AK ho
                  clear ho hb hg hat
                  refine hK.out _ _ ((bcl H7.out 2).trans rfl) (fun hHeld=>?_)
                  clear hK K_
                  refine nO (some 56) ?_
                  refine pU HT_ 7 (some 57) (bM 9 255) ?_
                  refine last_ (i:=8) (N:=none) #[tT,tT,tT,tT,tT,tT,tT,tT,tT] rfl rfl (one_of HT_.out (by kernel_rfl)) (by decide) (fun K_ hK=>?_)
                  have hx:=(show vw.cell? ⟨n5,2,none⟩=some (.slice M m.length cm)from(bcl H7.out 2).trans rfl)
                  have hf:=bfz H7.out 2
                  refine skip_ (w1:=?_) (by rfl) rfl ?_ ?_
                  rotate_left
                  · go_simp
                    rfl
                  clear hx hf
                  refine hK.out _ _ ?_
                  clear hK K_
                  refine done_ (done_of HT_.out (by kernel_rfl)) ?_
                  clear HT_ HW_ hHeld
                  go_wp2
                  go_roundg g1
                  case measure=>omega
                  case rel=>
                    rw[wr_in2 (x:=i+1) (by have:=HI.out;omega) (by have:=HI.out;have:=HN.out;omega)]
                    exact⟨m2,M2,cm2,i+1,rfl,⟨by have:=HI.out;omega,by have:=HI.out;omega⟩,HM2,⟨E2.out.setc H7.out G5.out 2 (.slice M2 m2.length cm2)⟩,⟨blk_set H7.out 2 (.slice M2 m2.length cm2)⟩,⟨Kd.R_set HR2.out H7.out (int_ap 35 (by decide)) 2 _⟩⟩
        obtain⟨b_weak,h_weak⟩:∃b,b=((u0.toList == [119,101,97,107]) && (ws.length == 4)):=⟨_,rfl⟩
        have B_weak:=AK h_weak
        clear h_weak
        go_upto_region 15 with fail
        go_cut [62] (fun v9 wc=>v9=.bool b_weak∧wc=w3)
        case first=>
          focus
            obtain⟨bn,n1⟩:∃b,((ws.length:Int) == 4)=b:=⟨_,rfl⟩
            have hbb:(ws.length == 4)=bn:=by rw[←n1,Bool.eq_iff_iff,beq_iff_eq,beq_iff_eq];omega
            by_cases hX:u0.toList=[119,101,97,107]
            · have t1:(u0.toList == [119,101,97,107])=true:=by rw[hX];rfl
              have e:b_weak=bn:=by rw[B_weak.out,t1,hbb,Bool.true_and]
              clear hX hbb
              subst e
              go_wp2
              go_meet
              case rel=>exact⟨rfl,rfl⟩
            · have t1:(u0.toList == [119,101,97,107])=false:=beq_eq_false_iff_ne.2 hX
              have e:b_weak=false:=by rw[B_weak.out,t1];rfl
              clear hX hbb n1
              subst e
              go_wp2
              go_meet
              case rel=>exact⟨rfl,rfl⟩
        case rest=>
          obtain⟨rfl,hw_⟩:=hcut
          rw[hw_]
          clear hw_ wc
          cases b_weak
          case true=>
            focus
              have hX:u0.toList=[119,101,97,107]:=by have:=B_weak.out;simp at this;exact this.1
              have hn:ws.length=4:=by have:=B_weak.out;simp at this;exact this.2
              clear y0 k0 k0b
              clear ys
              obtain⟨e1,he1⟩:∃z,z=dg ws 1:=⟨_,rfl⟩
              have HX1:=AK he1
              clear he1
              obtain⟨e2,he2⟩:∃z,z=dg ws 2:=⟨_,rfl⟩
              have HX2:=AK he2
              clear he2
              obtain⟨e3,he3⟩:∃z,z=dg ws 3:=⟨_,rfl⟩
              have HX3:=AK he3
              clear he3
              have HEV:=AK (show eventB ws=some ⟨1,e1,0,0,⟨3,⟨#[]⟩,[e2,e3]⟩⟩by
                rw[ev_weak (HU0.out.trans hX),if_pos (beq_iff_eq.2 hn),HX1.out,HX2.out,HX3.out]
                rcases ws with _|⟨x0,_|⟨x1,_|⟨x2,_|⟨x3,_|⟨x4,xs⟩⟩⟩⟩⟩
                · cases hn
                · cases hn
                · cases hn
                · cases hn
                · rfl
                · simp at hn)
              have HN2:=AK hn
              clear hX hn
              go_wp2_with fail
              refine(E0.out.dig1 (by have:=HN2.out;omega)).mono ?_
              rintro en vx ⟨rfl,hw_⟩
              rw[hw_,←HX1.out]
              clear hw_ vx
              go_wp2_with fail
              refine(E0.out.dig2 (by have:=HN2.out;omega)).mono ?_
              rintro en vx ⟨rfl,hw_⟩
              rw[hw_,←HX2.out]
              clear hw_ vx
              go_wp2_with fail
              refine(E0.out.dig3 (by have:=HN2.out;omega)).mono ?_
              rintro en vx ⟨rfl,hw_⟩
              rw[hw_,←HX3.out]
              clear hw_ vx
              go_wp2_with ((with_reducible refine gate_dst (N:=77) rfl ?_);refine Kd.R_lit (Kd.int .i64) (w0:=w) w.heap.size 3 ?hg (N:=77) ?hd (xs:=([e2,e3]:List Int)) (inner:=[.int .i64 e2,.int .i64 e3]) (ok:=fun _=>True) (okp:=fun _=>True) ?hr ?hp (fun _ hk=>hk) trivial E0.out.b E0.out.b.size (by simp) ?_;(case hd=>rfl);(case hg=>rfl);(case hr=>first|(go_simp;done)|(go_simp;rfl));(case hp=>exact(Reps.one (show Kd.M (Kd.int .i64) _ _ _ e2 [.int .i64 e2]from rfl) (Reps.one (show Kd.M (Kd.int .i64) _ _ _ e3 [.int .i64 e3]from rfl) (Reps.none _ _))));intro v77 w5 hr hb hg hn;obtain⟨F1,f1,hv⟩:=Kd.R_slice hr;subst hv;have HRR:=AK hr;have E1:=AK (show LB w w.heap.size (w.heap.size+1) n3 (n3+1) ad ws.length #[.slice A0 h.o.length c0,.slice A1 h.r.length c1,.slice A2 h.w.length c2,.slice A3 h.d.length c3] ws #[.int .i64 0,.int .i64 0,.int .i64 0,.int .i64 0,.int .i64 0,.string ⟨#[]⟩,.slice none 0 0] w5 from⟨hb,blk_grown E0.out.x0 hg (by simp),blk_grown E0.out.x1 hg (by simp),blk_grown E0.out.x3 hg (by simp),blk_grown E0.out.x4 hg (by simp),Kd.R_move (Kd.R_bound E0.out.ww) (fun k hk=>hg.block k hk.2.2.1 (by simp)) |> (Kd.R_mono · (fun _ _=>trivial)),E0.out.g1,E0.out.g4⟩);obtain⟨p0,p1,p2,p3,p4,p5,p6⟩:=box7 E1.out.x4;have q0:=bfz E1.out.x4 0;have q1:=bfz E1.out.x4 1;have q2:=bfz E1.out.x4 2;have q3:=bfz E1.out.x4 3;have q4:=bfz E1.out.x4 4;have q5:=bfz E1.out.x4 5;have q6:=bfz E1.out.x4 6;clear hr hb hg hn)
              go_meet
              case rel=>exact⟨⟨1,e1,0,0,⟨3,⟨#[]⟩,[e2,e3]⟩⟩,F1,f1,HEV,⟨E1.out.set7 rfl⟩,⟨set7_R HRR.out E1.out.x4 (int_ap 37 (by decide))⟩⟩
          refine ‹∀(a:Act) (w:World),Code.wp Tryd.prog (codeAt Tryd.f14 [true,true,true,true,true,false,true,true,true,true,true,true]) _ a w→_› _ _ (mem_tail HO HBS HK HRS EW HN HWZ HU0 HU E0 B_data B_cell B_weak ?_)
          intros
          rename_i h1 h2 h3
          conv=>arg 1;zeta
          go_wp2
          go_meet
          case rel=>exact⟨_,_,_,h1,h2,h3⟩
  case rest=>
    clear y0 k0 k0b ys E0
    obtain⟨e,F,f,HEV,E0,HF⟩:=hcut
    have hbd:=ev_bounds HEV.out
    have HEB := AK (show e.f4.f2.length ≤ 1048576 ∧ (e.f4.f1.size : Int) ≤ 4611686018427387903 from ⟨by
        have h1:=hbd.1
        have h2:=HN.out
        omega,by
        rcases hbd.2 with h1|h1
        · rw[h1];decide
        · rw[h1]
          by_cases c:2<ws.length
          · have:=HWZ.out (ws.getD 2 ByteArray.empty) (getD_mem ws ByteArray.empty 2 (by omega) (by omega));omega
          · rw[List.getD_eq_getElem?_getD,List.getElem?_eq_none (by omega)];decide⟩)
    have HS2:=AK (show (R,s)=stepB h e from by rw[HRS.out];unfold lineB;rw[←EW.out,HEV.out])
    have HFH:=AK (OkH.fine (show OkH h.o h.r h.w h.d from ok_parts HK.out))
    clear hbd
    obtain⟨p0,p1,p2,p3⟩:=box4d E0.out.x0
    obtain⟨q0,q1,q2,q3,q4,q5,q6⟩:=box7 E0.out.x4
    go_wp2_with fail
    clear p0 p1 p2 p3 q0 q1 q2 q3 q4 q5 q6
    refine(MemStep_calls wc wc _ _ _ _ _ _ _ _ h e F f (Below.refl _ _) (OwnX.below HO.out E0.out.b).reads HFH.out (Kd.R_reads' HF.out).2.2 (Kd.R_reads' HF.out).2.1 HEB.out.1 HEB.out.2 R s HS2.out).mono ?_
    rintro en w10 ⟨D0,t0,D1,t1,D2,t2,D3,t3,rfl,hO,hb⟩
    have HSZ:=AK E0.out.b.size
    have E1:=AK (E0.out.below hb)
    have O2:=AK hO
    clear hO hb
    obtain⟨z0,z1,z2,z3⟩:=box4d E1.out.x1
    have f0:=bfz E1.out.x1 0
    have f1:=bfz E1.out.x1 1
    have f2:=bfz E1.out.x1 2
    have f3:=bfz E1.out.x1 3
    go_wp2
    clear z0 z1 z2 z3 f0 f1 f2 f3
    refine bodyPost_ret (results_ct rfl _ _ (w.heap.size+1) 33 #[.slice D0 R.o.length t0,.slice D1 R.r.length t1,.slice D2 R.w.length t2,.slice D3 R.d.length t3] (0,0) _ rfl (set4_blk E1.out.x1) Tryd.underlying33 rfl (by kernel_rfl)) rfl ?_
    exact⟨D0,t0,D1,t1,D2,t2,D3,t3,rfl,OwnX.set4 (OwnX.lower O2.out (by have:=HSZ.out;have:=HBS.out;omega)) E1.out.x1,set4_below E1.out.b (by omega)⟩
end
section
set_option maxHeartbeats 40000000 in
set_option maxRecDepth 100000 in
theorem implSession_c {w:World} {text:ByteArray} {m:Int} (hs:text.size≤1048576) (hm:w.cell? ⟨0,0,none⟩=some (.int .i64 m)):Calls Tryd.prog 6 #[.string text] w fun e w'=>e=.returned (.string (sessionB text))∧Below w.heap.size w w':=by
  have HS:=AK hs
  have HMX:=AK hm
  obtain⟨r,hr⟩:∃r,r=sessionB text:=⟨_,rfl⟩
  have ER:=AK hr
  rw[←hr]
  clear hs hr hm
  go_enter Tryd.func6,Tryd.ntmps6
  go_wp2_with fail
  refine(split10_c HS.out HMX.out).mono ?_
  rintro en w1 ⟨ad,rfl,hR,hb⟩
  obtain⟨L,eL⟩:∃L,L=cutB 10 text:=⟨_,rfl⟩
  rw[←eL]at hR ⊢
  have EL:=AK eL
  have HB:=AK hb
  have HR:=AK (Kd.R_reads' hR).2
  have HL:=AK (show 1≤L.length∧L.length≤1048577 from by rw[eL];exact⟨cutB_pos _ _,by have:=cutB_most 10 text;have:=HS.out;omega⟩)
  replace HMX:=AK (pcb hb HMX.out)
  clear hR hb eL
  obtain⟨n1,hn1⟩:∃n,wrap64 ((L.length:Int) - 1)=n:=⟨_,rfl⟩
  have HN1:=AK (show n1=L.length - 1 from by rw[←hn1,wr_in (by have:=HL.out;omega) (by have:=HL.out;omega)])
  obtain⟨u,hu⟩:∃u,u=L.getD (L.length - 1) ByteArray.empty:=⟨_,rfl⟩
  have HU:=AK hu
  have y0:=str_at HR.out.2 n1.toNat (by have:=HN1.out;have:=HL.out;omega)
  rw[show n1.toNat=L.length - 1 by have:=HN1.out;have:=HL.out;omega,←hu]at y0
  replace y0:w1.cell? (ad.add n1.toNat)=some (.string u):=by rw[show n1.toNat=L.length - 1 by have:=HN1.out;have:=HL.out;omega];exact y0
  have k0:=eq_true (show 0≤n1 by have:=HN1.out;have:=HL.out;omega)
  have k1:=eq_true (show n1<(L.length:Int)by have:=HN1.out;have:=HL.out;omega)
  obtain⟨bl,hbl⟩:∃b,(u.toList == ([]:List UInt8))=b:=⟨_,rfl⟩
  have HBL:=AK hbl
  obtain⟨M,hM⟩:∃m,m=linesB text:=⟨_,rfl⟩
  have EM:=AK hM
  clear hu hM
  go_upto_if 17 with fail
  clear hbl y0
  go_cut [3] (fun v3 wc=>v3=.slice (some ad) M.length L.length∧wc=w1)
  case first=>
    cases bl
    · have e:M=L:=by rw[EM.out,EL.out];exact lines_all (by rw[←EL.out,←HU.out];have:=HBL.out;simpa using this)
      subst e
      go_wp2
      go_meet
      case rel=>exact⟨rfl,rfl⟩
    · have e:M=L.take (L.length - 1):=by rw[EM.out,EL.out];exact lines_last (by rw[←EL.out,←HU.out];have:=HBL.out;simpa using this)
      have hcut:=cut27_to (K:=some ad) (n:=L.length) (c:=L.length) (k:=M.length) (j:=n1) (by have:=HN1.out;have:=HL.out;omega) (by have:=HN1.out;omega) (Nat.le_refl _) (by rw[e,List.length_take];have:=HN1.out;have:=HL.out;omega)
      clear e
      go_wp2
      go_meet
      case rel=>exact⟨rfl,rfl⟩
  case rest=>
  obtain⟨rfl,rfl⟩:=hcut
  clear hn1 k0 k1
  have HM:=AK (show Kd.C Kd.string wc (some ad) M.length M from by
    have h1:=HR.out.2
    cases bl
    · have e:M=L:=by rw[EM.out,EL.out];exact lines_all (by rw[←EL.out,←HU.out];have:=HBL.out;simpa using this)
      rw[e];exact h1
    · have e:M=L.take (L.length - 1):=by rw[EM.out,EL.out];exact lines_last (by rw[←EL.out,←HU.out];have:=HBL.out;simpa using this)
      have h2:=Kd.C_take (m:=L.length - 1) h1 (by omega)
      rw[e];exact h2)
  have HMS:=AK (show ∀l∈M,l.size≤1048576 from fun l hl=>by have:=lines_mem (text:=text) l (by rw[←EM.out];exact hl);have:=HS.out;omega)
  clear HR HU HBL HN1 EL
  by_cases c1:6000<text.size
  · have f0:=eq_true (show (6000:Int)<(text.size:Int)by omega)
    have f1:decide ((6000:Int)<(text.size:Int))=true:=deT (by omega)
    have f2:decide (6000<text.size)=true:=deT c1
    have f3:=eq_true c1
    have e:r=sLong:=by rw[ER.out];unfold sessionB;rw[if_pos (.inl c1)]
    subst e
    clear c1
    go_wp2
    go_ret
    exact⟨rfl,HB.out⟩
  have f0:=eq_false (show ¬ (6000:Int)<(text.size:Int)by omega)
  have f1:decide ((6000:Int)<(text.size:Int))=false:=deF (by omega)
  have f2:decide (6000<text.size)=false:=deF c1
  have f3:=eq_false c1
  by_cases c2:200<M.length
  · have g0:=eq_true (show (200:Int)<(M.length:Int)by omega)
    have g1:decide ((200:Int)<(M.length:Int))=true:=deT (by omega)
    have g2:decide (200<M.length)=true:=deT c2
    have g3:=eq_true c2
    have e:r=sLong:=by rw[ER.out];unfold sessionB;rw[if_pos (.inr (by rw[←EM.out];exact c2))]
    subst e
    clear c1 c2
    go_wp2
    go_ret
    exact⟨rfl,HB.out⟩
  have g0:=eq_false (show ¬ (200:Int)<(M.length:Int)by omega)
  have g1:decide ((200:Int)<(M.length:Int))=false:=deF (by omega)
  have g2:decide (200<M.length)=false:=deF c2
  have g3:=eq_false c2
  have HRR:=AK (show sessB h0 (M.drop (0:Int).toNat) ByteArray.empty=r from by
    rw[ER.out];unfold sessionB;rw[if_neg (by rw[←EM.out];omega),←EM.out];rfl)
  have HC2:=AK (show M.length≤200 by omega)
  clear c1 c2
  go_upto_region 6 with fail
  clear f0 f1 f2 f3 g0 g1 g2 g3
  go_upto_region 7 with((with_reducible refine gate_dst (N:=31) rfl ?_);refine Kd.R_lit (Kd.int .i64) (w0:=wc) wc.heap.size 3 ?hg (N:=31) ?hd (xs:=([-1,-1,-1,-1,-1,-1,-1,-1]:List Int)) (inner:=[.int .i64 (-1),.int .i64 (-1),.int .i64 (-1),.int .i64 (-1),.int .i64 (-1),.int .i64 (-1),.int .i64 (-1),.int .i64 (-1)]) (ok:=fun _=>True) (okp:=fun _=>True) ?hr ?hp (fun _ hk=>hk) trivial (Below.refl _ _) (Nat.le_refl _) (by simp) ?_;(case hd=>rfl);(case hg=>rfl);(case hr=>first|(go_simp;done)|(go_simp;rfl));(case hp=>exact(Reps.one (show Kd.M (Kd.int .i64) _ _ _ (-1) [.int .i64 (-1)]from rfl) (Reps.one (show Kd.M (Kd.int .i64) _ _ _ (-1) [.int .i64 (-1)]from rfl) (Reps.one (show Kd.M (Kd.int .i64) _ _ _ (-1) [.int .i64 (-1)]from rfl) (Reps.one (show Kd.M (Kd.int .i64) _ _ _ (-1) [.int .i64 (-1)]from rfl) (Reps.one (show Kd.M (Kd.int .i64) _ _ _ (-1) [.int .i64 (-1)]from rfl) (Reps.one (show Kd.M (Kd.int .i64) _ _ _ (-1) [.int .i64 (-1)]from rfl) (Reps.one (show Kd.M (Kd.int .i64) _ _ _ (-1) [.int .i64 (-1)]from rfl) (Reps.one (show Kd.M (Kd.int .i64) _ _ _ (-1) [.int .i64 (-1)]from rfl) (Reps.none _ _))))))))));intro v34 w5 hr hb hg hn;obtain⟨B1,d1,hv⟩:=Kd.R_slice hr;subst hv;have O:=AK (show OwnX w5 wc.heap.size none 0 B1 d1 none 0 none 0 h0 from⟨⟨0,Kd.S_nil _ _ _ _ _,hr,Kd.R_nil _ _ _ _ _,Kd.R_nil _ _ _ _ _⟩,Nat.le_refl _⟩);have HBW:=AK hb;clear hr hb hg hn)
  have HNN:=AK (show wc.heap.size≤w5.heap.size from HBW.out.size)
  have HX:=AK (blk_new w5 (.cells #[.slice none 0 0,.slice B1 8 d1,.slice none 0 0,.slice none 0 0] 33 (0,0)))
  replace O:=AK (O.out.below (below_alloc (Below.refl _ _) (.cells #[.slice none 0 0,.slice B1 8 d1,.slice none 0 0,.slice none 0 0] 33 (0,0))))
  replace HBW:=AK (below_alloc HBW.out (.cells #[.slice none 0 0,.slice B1 8 d1,.slice none 0 0,.slice none 0 0] 33 (0,0)))
  generalize w5.alloc (.cells #[.slice none 0 0,.slice B1 8 d1,.slice none 0 0,.slice none 0 0] 33 (0,0))=w6 at HX O HBW ⊢
  generalize w5.heap.size=n at HX HNN ⊢
  go_wp2_with fail
  go_loopg [5,35] M.length (fun kq v5 v35 w'=>∃(h:Hp) (B0:Option Addr) (d0:Nat) (B1:Option Addr) (d1:Nat) (B2:Option Addr) (d2:Nat) (B3:Option Addr) (d3:Nat) (ot:ByteArray) (i:Int),v5=.string ot∧v35=.int .i64 i∧Aside0 (0≤i∧i+kq=M.length)∧Aside0 (h.ok=true∧(ot.size:Int)≤14*i)∧Aside0 (sessB h (M.drop i.toNat) ot=r)∧Aside0 (Below wc.heap.size wc w')∧Aside0 (w'.heap[n]?=some (.cells #[.slice B0 h.o.length d0,.slice B1 h.r.length d1,.slice B2 h.w.length d2,.slice B3 h.d.length d3] 33 (0,0)))∧Aside0 (OwnX w' wc.heap.size B0 d0 B1 d1 B2 d2 B3 d3 h))
  case atStart=>exact⟨h0,none,0,B1,d1,none,0,none,0,ByteArray.empty,0,rfl,rfl,⟨by omega,by omega⟩,⟨h0_ok,by decide⟩,HRR,HBW,HX,O⟩
  case round=>
    clear HX O HBW HRR
    obtain⟨h,B0,d0,B1,d1,B2,d2,B3,d3,ot,i,rfl,rfl,HI,HK,HT,HBW,HX,O⟩:=hrel
    cases gk with
    | zero=>
      have c9:decide (i<(M.length:Int))=false:=deF (by have:=HI.out;omega)
      have e:ot=r:=by
        have h1:=HT.out
        rw[List.drop_eq_nil_of_le (by have:=HI.out;omega)]at h1
        exact h1
      subst e
      go_wp2
      go_ret
      exact⟨rfl,bst HB.out HBW.out⟩
    | succ g1=>
      have c9:decide (i<(M.length:Int))=true:=deT (by have:=HI.out;omega)
      have hi0:=eq_true (show 0≤i by have:=HI.out;omega)
      have hi1:=eq_true (show i<(M.length:Int)by have:=HI.out;omega)
      obtain⟨l,hl⟩:∃l,l=M.getD i.toNat ByteArray.empty:=⟨_,rfl⟩
      have HLL:=AK hl
      have HLS:=AK (show l.size≤1048576 from by rw[hl];exact HMS.out _ (getD_mem M ByteArray.empty i (by have:=HI.out;omega) (by have:=HI.out;omega)))
      have y0:=str_at (Kd.C_below HM.out HBW.out) i.toNat (by have:=HI.out;omega)
      rw[←hl]at y0
      have HST:=AK (sess_step (h:=h) (l:=l) (M:=M) (out:=ot) (r:=r) (i:=i) (by have:=HI.out;omega) (by have:=HI.out;omega) hl HT.out)
      have HLK:=AK (line_ok HK.out.1 l)
      have HLZ:=AK (line_size HK.out.1 l)
      obtain⟨R,s,hRS⟩:∃R s,(R,s)=lineB h l:=⟨_,_,rfl⟩
      have HRS:=AK hRS
      rw[show (lineB h l).1=R from(congrArg Prod.fst hRS).symm,show (lineB h l).2=s from(congrArg Prod.snd hRS).symm]at HST
      rw[show (lineB h l).1=R from(congrArg Prod.fst hRS).symm]at HLK
      rw[show (lineB h l).2=s from(congrArg Prod.snd hRS).symm]at HLZ
      clear hl hRS
      obtain⟨p0,p1,p2,p3⟩:=box4d HX.out
      go_wp2_with fail
      clear c9 hi0 hi1 y0 p0 p1 p2 p3
      refine(memLine_c O.out HBW.out.size (pcb HBW.out HMX.out) HK.out.1 HLS.out R s HRS.out).mono ?_
      rintro en w7 ⟨D0,t0,D1,t1,D2,t2,D3,t3,rfl,hO,hb⟩
      have O2:=AK hO
      replace HBW:=AK (bst HBW.out hb)
      replace HX:=AK (bbl HX.out hb)
      clear hO hb O
      obtain⟨p0,p1,p2,p3⟩:=box4d HX.out
      have f0:=bfz HX.out 0
      have f1:=bfz HX.out 1
      have f2:=bfz HX.out 2
      have f3:=bfz HX.out 3
      go_upto_region 13 with fail
      clear p0 p1 p2 p3 f0 f1 f2 f3
      have N1:=AK (show (set4 w7 n (.slice D0 R.o.length t0) (.slice D1 R.r.length t1) (.slice D2 R.w.length t2) (.slice D3 R.d.length t3)).heap[n]?=some (.cells #[.slice D0 R.o.length t0,.slice D1 R.r.length t1,.slice D2 R.w.length t2,.slice D3 R.d.length t3] 33 (0,0))from set4_blk HX.out)
      have N2:=AK (show OwnX (set4 w7 n (.slice D0 R.o.length t0) (.slice D1 R.r.length t1) (.slice D2 R.w.length t2) (.slice D3 R.d.length t3)) wc.heap.size D0 t0 D1 t1 D2 t2 D3 t3 R from OwnX.set4 O2.out HX.out)
      have N3:=AK (show Below wc.heap.size wc (set4 w7 n (.slice D0 R.o.length t0) (.slice D1 R.r.length t1) (.slice D2 R.w.length t2) (.slice D3 R.d.length t3))from set4_below HBW.out HNN.out)
      clear HX O2 HBW
      generalize hws:set4 w7 n (.slice D0 R.o.length t0) (.slice D1 R.r.length t1) (.slice D2 R.w.length t2) (.slice D3 R.d.length t3)=w12 at N1 N2 N3
      have hws2:((((w7.setCell ⟨n,0,none⟩ (.slice D0 R.o.length t0)).setCell ⟨n,1,none⟩ (.slice D1 R.r.length t1)).setCell ⟨n,2,none⟩ (.slice D2 R.w.length t2)).setCell ⟨n,3,none⟩ (.slice D3 R.d.length t3))=w12:=hws
      rw[hws2]
      clear hws hws2
      have z0:=HK.out.2
      have z1:=HI.out
      have z2:=HC2.out
      have z3:=HLZ.out
      have a0:=eq_true (show s.size+1≤9223372036854775807 by omega)
      have a1:decide (s.size+1≤9223372036854775807)=true:=deT (by omega)
      have a2:=eq_false (show ¬ 9223372036854775807<s.size+1 by omega)
      have b0:=eq_true (show ot.size+(s.size+1)≤9223372036854775807 by omega)
      have b1:decide (ot.size+(s.size+1)≤9223372036854775807)=true:=deT (by omega)
      have b2:=eq_false (show ¬ 9223372036854775807<ot.size+(s.size+1)by omega)
      clear z0 z1 z2 z3
      go_wp2
      go_roundg g1
      case measure=>omega
      case rel=>
        rw[wr_in (x:=i+1) (by have:=HI.out;omega) (by have:=HI.out;have:=HC2.out;omega)]
        have e3:ot++(s++(⟨#[10]⟩:ByteArray))=ot++(s++sNl):=rfl
        rw[e3]
        exact⟨R,D0,t0,D1,t1,D2,t2,D3,t3,ot++(s++sNl),i+1,rfl,rfl,⟨by have:=HI.out;omega,by have:=HI.out;omega⟩,⟨HLK.out,by have:=HK.out.2;have:=HLZ.out;rw[ByteArray.size_append,ByteArray.size_append];show ((ot.size+(s.size+1):Nat):Int)≤_;omega⟩,HST,N3,N1,N2⟩
end
section
set_option maxHeartbeats 4000000 in
set_option maxRecDepth 100000 in
theorem FnExactMemSession_walk {w:World} {text:ByteArray} {m:Int} (hm:w.cell? ⟨0,0,none⟩=some (.int .i64 m)):Calls Tryd.prog 3 #[.string text] w fun e w'=>e=.returned (.bool true)∧Below w.heap.size w w':=by
  have HMX:=AK hm
  clear hm
  by_cases c1:1048576<text.size
  · have f0:=eq_true (show (1048576:Int)<(text.size:Int)by omega)
    have f1:decide ((1048576:Int)<(text.size:Int))=true:=deT (by omega)
    have f2:decide (1048576<text.size)=true:=deT c1
    have f3:=eq_true c1
    clear c1
    go_enter Tryd.func3,Tryd.ntmps3
    go_wp2
    go_ret
    exact⟨rfl,Below.refl _ _⟩
  have f0:=eq_false (show ¬ (1048576:Int)<(text.size:Int)by omega)
  have f1:decide ((1048576:Int)<(text.size:Int))=false:=deF (by omega)
  have f2:decide (1048576<text.size)=false:=deF c1
  have f3:=eq_false c1
  have HS:=AK (show text.size≤1048576 by omega)
  clear c1
  obtain⟨r,hr⟩:∃r,sessionB text=r:=⟨_,rfl⟩
  have HR:=AK hr
  clear hr
  go_enter Tryd.func3,Tryd.ntmps3
  go_wp2_with fail
  clear f0 f1 f2 f3
  refine(specSession_c HS.out).mono ?_
  rintro en w1 ⟨rfl,hb⟩
  have HB:=AK hb
  replace HMX:=AK (pcb hb HMX.out)
  clear hb
  rw[HR.out]
  go_wp2_with fail
  refine(implSession_c HS.out HMX.out).mono ?_
  rintro en w2 ⟨rfl,hb⟩
  replace HB:=AK (bst HB.out hb)
  clear hb
  rw[HR.out]
  have t1:(r.toList == r.toList)=true:=beq_self_eq_true _
  have t2:(r.toList != r.toList)=false:=by simp
  go_wp2
  go_ret
  exact⟨rfl,HB.out⟩
end
end Go.Proofs.YtigjhfijkdlldaaDoor.H
