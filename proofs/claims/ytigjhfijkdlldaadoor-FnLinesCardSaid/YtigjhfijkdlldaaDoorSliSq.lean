import Derived.Test.YtigjhfijkdlldaaDoorSliSi
namespace Go.Proofs.YtigjhfijkdlldaaDoor.H
open Go.RowKit Go.Proofs.YtigjhfijkdlldaaDoorW.PrintWords Go.Proofs.YtigjhfijkdlldaaDoorW.PrintLast Go.Proofs.YtigjhfijkdlldaaDoorW.PrintMore Go.Proofs.YtigjhfijkdlldaaDoor.Q
set_option linter.unusedVariables false
set_option linter.unusedSimpArgs false
def codeIn:Code→List Bool→Code
  | .seq a b,true :: l=>codeIn b l
  | .seq a b,false :: l=>codeIn a l
  | .cond _ a b,true :: l=>codeIn b l
  | .cond _ a b,false :: l=>codeIn a l
  | .block _ c,_ :: l=>codeIn c l
  | c,_=>c
def codeAt (f:Func) (l:List Bool):Code:=codeIn (f.body.getD .ret) l
theorem ml32_tab:rtab .any (opsOf Tryd.f14 32)=(true,[([],[]),([],[]),([1],[1]),([2],[2]),([3,2],[3]),([4],[4]),([],[]),([6],[6]),([7],[7]),([8,4],[8]),([5,9],[5,9]),([0,9,0],[0]),([10,11,0,1,2,3,4,5,6,7,8,9,10,11],[10])]):=by kernel_rfl
theorem ml32_bits:waitsOk [([],[]),([],[]),([1],[1]),([2],[2]),([3,2],[3]),([4],[4]),([],[]),([6],[6]),([7],[7]),([8,4],[8]),([5,9],[5,9]),([0,9,0],[0]),([10,11,0,1,2,3,4,5,6,7,8,9,10,11],[10])] [0,0,2,6,14,30,0,64,192,478,1022,991,4095]=true:=by kernel_rfl
set_option maxHeartbeats 40000000 in
set_option maxRecDepth 100000 in
theorem mem_tail {w w3:World} {base n3:Nat} {ad:Addr} {A0 A1 A2 A3:Option Addr} {c0 c1 c2 c3:Nat} {h:Hp} {l:ByteArray} {R:Hp} {s:ByteArray} {ws:List ByteArray} {u0:ByteArray} {u5 u10 u11 u12 u13 u14 u15 u16 u17 u18 u19 u20 u21 u22 u23 u24 u25 u26 u27 u28 u29 u30 u31 u32 u33 u34 u35 u36 u37 u38 u39 u40 u41 u42 u43 u44 u45 u46 u47 u48 u49 u50 u51 u52 u53 u54 u55 u56 u57 u58 u59 u60 u61 u63 u64 u65 u66 u67 u68 u69 u70 u71 u72 u73 u74 u75 u76 u77 u78 u79 u80 u81 u82 u83 u84 u85 u86 u87 u88 u89 u90 u91 u92 u93 u94 u95 u96 u97 u98 u99 u100 u101 u102 u103 u104 u105 u106 u107 u108 u109 u110 u111 u112 u113 u114 u115 u116 u117 u118 u119 u120 u121 u122 u123 u124 u125 u126 u127 u128 u129 u130 u131 u132 u133 u134 u135 u136 u137 u138 u139 u140 u141 u142 u143 u144 u145 u146 u147 u148 u149 u150 u151 u152 u153 u154 u155 u156 u157 u158 u159 u160 u161 u162 u163 u164 u165 u166 u167 u168 u169 u170 u171 u172 u173 u174 u175 u176 u177 u178 u179 u180 u181 u182 u183 u184 u185 u186 u187:Value} {KK:Act→World→Prop} (HO:Aside0 (OwnX w base A0 c0 A1 c1 A2 c2 A3 c3 h)) (HBS:Aside0 (base≤w.heap.size)) (HK:Aside0 (h.ok=true)) (HRS:Aside0 ((R,s)=lineB h l)) (EW:Aside0 (ws=cutB 32 l)) (HN:Aside0 (1≤ws.length∧ws.length≤1048577)) (HWZ:Aside0 (∀p∈ws,p.size≤1048576)) (HU0:Aside0 (tw ws=u0.toList)) (HU:Aside0 (u0=ws.getD 0 ByteArray.empty)) (E0:Aside0 (LB w w.heap.size (w.heap.size+1) n3 (n3+1) ad ws.length #[.slice A0 h.o.length c0,.slice A1 h.r.length c1,.slice A2 h.w.length c2,.slice A3 h.d.length c3] ws #[.int .i64 0,.int .i64 0,.int .i64 0,.int .i64 0,.int .i64 0,.string ⟨#[]⟩,.slice none 0 0] w3)) (B_data:Aside0 (false=((u0.toList == [100,97,116,97]) && (ws.length == 3)))) (B_cell:Aside0 (false=((u0.toList == [99,101,108,108]) && decide (2≤ws.length)))) (B_weak:Aside0 (false=((u0.toList == [119,101,97,107]) && (ws.length == 4))))
    (hK:∀{e:S40} {F:Option Addr} {f:Nat} {wc:World} {x5 x10 x11 x12 x13 x14 x15 x16 x17 x18 x19 x20 x21 x22 x23 x24 x25 x26 x27 x28 x29 x30 x31 x32 x33 x34 x35 x36 x37 x38 x39 x40 x41 x42 x43 x44 x45 x46 x47 x48 x49 x50 x51 x52 x53 x54 x55 x56 x57 x58 x59 x60 x61 x62 x63 x64 x65 x66 x67 x68 x69 x70 x71 x72 x73 x74 x75 x76 x77 x78 x79 x80 x81 x82 x83 x84 x85 x86 x87 x88 x89 x90 x91 x92 x93 x94 x95 x96 x97 x98 x99 x100 x101 x102 x103 x104 x105 x106 x107 x108 x109 x110 x111 x112 x113 x114 x115 x116 x117 x118 x119 x120 x121 x122 x123 x124 x125 x126 x127 x128 x129 x130 x131 x132 x133 x134 x135 x136 x137 x138 x139 x140 x141 x142 x143 x144 x145 x146 x147 x148 x149 x150 x151 x152 x153 x154 x155 x156 x157 x158 x159 x160 x161 x162 x163 x164 x165 x166 x167 x168 x169 x170 x171 x172 x173 x174 x175 x176 x177 x178 x179 x180 x181 x182 x183 x184 x185 x186 x187:Value},Aside0 (eventB ws=some e)→Aside0 (LB w w.heap.size (w.heap.size+1) n3 (n3+1) ad ws.length #[.slice A0 h.o.length c0,.slice A1 h.r.length c1,.slice A2 h.w.length c2,.slice A3 h.d.length c3] ws #[.int .i64 e.f0,.int .i64 e.f1,.int .i64 e.f2,.int .i64 e.f3,.int .i64 e.f4.f0,.string e.f4.f1,.slice F e.f4.f2.length f] wc)→Aside0 (Kd.R (Kd.int .i64) 3 wc w.heap.size (fun _=>True) (.slice F e.f4.f2.length f) e.f4.f2)→KK { tmps:=#[.agg #[.slice A0 h.o.length c0,.slice A1 h.r.length c1,.slice A2 h.w.length c2,.slice A3 h.d.length c3],.string l,.pointer (some ⟨w.heap.size,0,none⟩),undef,.pointer (some ⟨w.heap.size+1,0,none⟩),x5,.pointer (some ⟨n3,0,none⟩),.func (.func 26) #[] #[.pointer (some ⟨n3,0,none⟩)],.int .i64 ws.length,.pointer (some ⟨n3+1,0,none⟩),x10,x11,x12,x13,x14,x15,x16,x17,x18,x19,x20,x21,x22,x23,x24,x25,x26,x27,x28,x29,x30,x31,x32,x33,x34,x35,x36,x37,x38,x39,x40,x41,x42,x43,x44,x45,x46,x47,x48,x49,x50,x51,x52,x53,x54,x55,x56,x57,x58,x59,x60,x61,x62,x63,x64,x65,x66,x67,x68,x69,x70,x71,x72,x73,x74,x75,x76,x77,x78,x79,x80,x81,x82,x83,x84,x85,x86,x87,x88,x89,x90,x91,x92,x93,x94,x95,x96,x97,x98,x99,x100,x101,x102,x103,x104,x105,x106,x107,x108,x109,x110,x111,x112,x113,x114,x115,x116,x117,x118,x119,x120,x121,x122,x123,x124,x125,x126,x127,x128,x129,x130,x131,x132,x133,x134,x135,x136,x137,x138,x139,x140,x141,x142,x143,x144,x145,x146,x147,x148,x149,x150,x151,x152,x153,x154,x155,x156,x157,x158,x159,x160,x161,x162,x163,x164,x165,x166,x167,x168,x169,x170,x171,x172,x173,x174,x175,x176,x177,x178,x179,x180,x181,x182,x183,x184,x185,x186,x187],defers:=[] } wc) :
    Code.wp Tryd.prog (codeAt Tryd.f14 [true,true,true,true,true,false,true,true,true,true,true,true]) (Exit.inBlock 0 (Exit.then KK (bodyPost Tryd.prog Tryd.f14 (fun en w'=>∃(B0:Option Addr) (d0:Nat) (B1:Option Addr) (d1:Nat) (B2:Option Addr) (d2:Nat) (B3:Option Addr) (d3:Nat),en=.returned (.tuple #[.agg #[.slice B0 R.o.length d0,.slice B1 R.r.length d1,.slice B2 R.w.length d2,.slice B3 R.d.length d3],.string s])∧OwnX w' base B0 d0 B1 d1 B2 d2 B3 d3 R∧Below w.heap.size w w')))) { tmps:=#[.agg #[.slice A0 h.o.length c0,.slice A1 h.r.length c1,.slice A2 h.w.length c2,.slice A3 h.d.length c3],.string l,.pointer (some ⟨w.heap.size,0,none⟩),undef,.pointer (some ⟨w.heap.size+1,0,none⟩),u5,.pointer (some ⟨n3,0,none⟩),.func (.func 26) #[] #[.pointer (some ⟨n3,0,none⟩)],.int .i64 ws.length,.pointer (some ⟨n3+1,0,none⟩),u10,u11,u12,u13,u14,u15,u16,u17,u18,u19,u20,u21,u22,u23,u24,u25,u26,u27,u28,u29,u30,u31,u32,u33,u34,u35,u36,u37,u38,u39,u40,u41,u42,u43,u44,u45,u46,u47,u48,u49,u50,u51,u52,u53,u54,u55,u56,u57,u58,u59,u60,u61,.bool false,u63,u64,u65,u66,u67,u68,u69,u70,u71,u72,u73,u74,u75,u76,u77,u78,u79,u80,u81,u82,u83,u84,u85,u86,u87,u88,u89,u90,u91,u92,u93,u94,u95,u96,u97,u98,u99,u100,u101,u102,u103,u104,u105,u106,u107,u108,u109,u110,u111,u112,u113,u114,u115,u116,u117,u118,u119,u120,u121,u122,u123,u124,u125,u126,u127,u128,u129,u130,u131,u132,u133,u134,u135,u136,u137,u138,u139,u140,u141,u142,u143,u144,u145,u146,u147,u148,u149,u150,u151,u152,u153,u154,u155,u156,u157,u158,u159,u160,u161,u162,u163,u164,u165,u166,u167,u168,u169,u170,u171,u172,u173,u174,u175,u176,u177,u178,u179,u180,u181,u182,u183,u184,u185,u186,u187],defers:=[] } w3:=by
  conv=>arg 2;whnf
  conv=>arg 4;zeta
  have y0:=E0.out.at0 (by have:=HN.out;omega)
  have ys:=E0.out.slot
  rw[←HU.out]at y0
  have k0:=eq_true (show (0:Int)<(ws.length:Int)by have:=HN.out;omega)
  have k0b:=eq_true (show 0<ws.length by have:=HN.out;omega)
  obtain⟨b_guardian,h_guardian⟩:∃b,b=((u0.toList == [103,117,97,114,100,105,97,110]) && (ws.length == 2)):=⟨_,rfl⟩
  have B_guardian:=AK h_guardian
  clear h_guardian
  go_upto_region 17 with fail
  go_cut [80] (fun v9 wc=>v9=.bool b_guardian∧wc=w3)
  case first=>
    focus
      obtain⟨bn,n1⟩:∃b,((ws.length:Int) == 2)=b:=⟨_,rfl⟩
      have hbb:(ws.length == 2)=bn:=by rw[←n1,Bool.eq_iff_iff,beq_iff_eq,beq_iff_eq];omega
      by_cases hX:u0.toList=[103,117,97,114,100,105,97,110]
      · have t1:(u0.toList == [103,117,97,114,100,105,97,110])=true:=by rw[hX];rfl
        have e:b_guardian=bn:=by rw[B_guardian.out,t1,hbb,Bool.true_and]
        clear hX hbb
        subst e
        go_wp2
        go_meet
        case rel=>exact⟨rfl,rfl⟩
      · have t1:(u0.toList == [103,117,97,114,100,105,97,110])=false:=beq_eq_false_iff_ne.2 hX
        have e:b_guardian=false:=by rw[B_guardian.out,t1];rfl
        clear hX hbb n1
        subst e
        go_wp2
        go_meet
        case rel=>exact⟨rfl,rfl⟩
  case rest=>
    obtain⟨rfl,hw_⟩:=hcut
    rw[hw_]
    clear hw_ wc
    cases b_guardian
    case true=>
      focus
        have hX:u0.toList=[103,117,97,114,100,105,97,110]:=by have:=B_guardian.out;simp at this;exact this.1
        have hn:ws.length=2:=by have:=B_guardian.out;simp at this;exact this.2
        clear y0 k0 k0b
        clear ys
        obtain⟨e1,he1⟩:∃z,z=dg ws 1:=⟨_,rfl⟩
        have HX1:=AK he1
        clear he1
        have HEV:=AK (show eventB ws=some ⟨1,e1,0,0,⟨4,⟨#[]⟩,[]⟩⟩by
          rw[ev_guardian (HU0.out.trans hX),if_pos (beq_iff_eq.2 hn),HX1.out,List.drop_eq_nil_of_le (show ws.length≤2 by omega)];rfl)
        have HN2:=AK hn
        clear hX hn
        go_wp2_with fail
        refine(E0.out.dig1 (by have:=HN2.out;omega)).mono ?_
        rintro en vx ⟨rfl,hw_⟩
        rw[hw_,←HX1.out]
        clear hw_ vx
        obtain⟨p0,p1,p2,p3,p4,p5,p6⟩:=box7 E0.out.x4
        have q0:=bfz E0.out.x4 0
        have q1:=bfz E0.out.x4 1
        have q2:=bfz E0.out.x4 2
        have q3:=bfz E0.out.x4 3
        have q4:=bfz E0.out.x4 4
        have q5:=bfz E0.out.x4 5
        have q6:=bfz E0.out.x4 6
        go_wp2
        exact hK (e:=⟨1,e1,0,0,⟨4,⟨#[]⟩,[]⟩⟩) (F:=none) (f:=0) HEV ⟨E0.out.set7 rfl⟩ ⟨set7_R (Kd.R_nil _ _ _ _ _) E0.out.x4 (int_ap 37 (by decide))⟩
    obtain⟨b_take,h_take⟩:∃b,b=((u0.toList == [116,97,107,101]) && (ws.length == 4)):=⟨_,rfl⟩
    have B_take:=AK h_take
    clear h_take
    go_upto_region 19 with fail
    go_cut [93] (fun v9 wc=>v9=.bool b_take∧wc=w3)
    case first=>
      focus
        obtain⟨bn,n1⟩:∃b,((ws.length:Int) == 4)=b:=⟨_,rfl⟩
        have hbb:(ws.length == 4)=bn:=by rw[←n1,Bool.eq_iff_iff,beq_iff_eq,beq_iff_eq];omega
        by_cases hX:u0.toList=[116,97,107,101]
        · have t1:(u0.toList == [116,97,107,101])=true:=by rw[hX];rfl
          have e:b_take=bn:=by rw[B_take.out,t1,hbb,Bool.true_and]
          clear hX hbb
          subst e
          go_wp2
          go_meet
          case rel=>exact⟨rfl,rfl⟩
        · have t1:(u0.toList == [116,97,107,101])=false:=beq_eq_false_iff_ne.2 hX
          have e:b_take=false:=by rw[B_take.out,t1];rfl
          clear hX hbb n1
          subst e
          go_wp2
          go_meet
          case rel=>exact⟨rfl,rfl⟩
    case rest=>
      obtain⟨rfl,hw_⟩:=hcut
      rw[hw_]
      clear hw_ wc
      cases b_take
      case true=>
        focus
          have hX:u0.toList=[116,97,107,101]:=by have:=B_take.out;simp at this;exact this.1
          have hn:ws.length=4:=by have:=B_take.out;simp at this;exact this.2
          clear y0 k0 k0b
          clear ys
          obtain⟨e1,he1⟩:∃z,z=dg ws 1:=⟨_,rfl⟩
          have HX1:=AK he1
          clear he1
          obtain⟨e2,he2⟩:∃z,z=dg ws 2:=⟨_,rfl⟩
          have HX2:=AK he2
          clear he2
          obtain⟨e3,he3⟩:∃z,z=dg ws 3:=⟨_,rfl⟩
          have HX3:=AK he3
          clear he3
          have HEV:=AK (show eventB ws=some ⟨2,e1,e2,e3,⟨0,⟨#[]⟩,[]⟩⟩by
            rw[ev_take (HU0.out.trans hX),if_pos (beq_iff_eq.2 hn),HX1.out,HX2.out,HX3.out])
          have HN2:=AK hn
          clear hX hn
          go_wp2_with fail
          refine(E0.out.dig1 (by have:=HN2.out;omega)).mono ?_
          rintro en vx ⟨rfl,hw_⟩
          rw[hw_,←HX1.out]
          clear hw_ vx
          go_wp2_with fail
          refine(E0.out.dig2 (by have:=HN2.out;omega)).mono ?_
          rintro en vx ⟨rfl,hw_⟩
          rw[hw_,←HX2.out]
          clear hw_ vx
          go_wp2_with fail
          refine(E0.out.dig3 (by have:=HN2.out;omega)).mono ?_
          rintro en vx ⟨rfl,hw_⟩
          rw[hw_,←HX3.out]
          clear hw_ vx
          obtain⟨p0,p1,p2,p3,p4,p5,p6⟩:=box7 E0.out.x4
          have q0:=bfz E0.out.x4 0
          have q1:=bfz E0.out.x4 1
          have q2:=bfz E0.out.x4 2
          have q3:=bfz E0.out.x4 3
          have q4:=bfz E0.out.x4 4
          have q5:=bfz E0.out.x4 5
          have q6:=bfz E0.out.x4 6
          go_wp2
          exact hK (e:=⟨2,e1,e2,e3,⟨0,⟨#[]⟩,[]⟩⟩) (F:=none) (f:=0) HEV ⟨E0.out.set7 rfl⟩ ⟨set7_R (Kd.R_nil _ _ _ _ _) E0.out.x4 (int_ap 37 (by decide))⟩
      obtain⟨b_set,h_set⟩:∃b,b=((u0.toList == [115,101,116]) && (ws.length == 4)):=⟨_,rfl⟩
      have B_set:=AK h_set
      clear h_set
      go_upto_region 21 with fail
      go_cut [109] (fun v9 wc=>v9=.bool b_set∧wc=w3)
      case first=>
        focus
          obtain⟨bn,n1⟩:∃b,((ws.length:Int) == 4)=b:=⟨_,rfl⟩
          have hbb:(ws.length == 4)=bn:=by rw[←n1,Bool.eq_iff_iff,beq_iff_eq,beq_iff_eq];omega
          by_cases hX:u0.toList=[115,101,116]
          · have t1:(u0.toList == [115,101,116])=true:=by rw[hX];rfl
            have e:b_set=bn:=by rw[B_set.out,t1,hbb,Bool.true_and]
            clear hX hbb
            subst e
            go_wp2
            go_meet
            case rel=>exact⟨rfl,rfl⟩
          · have t1:(u0.toList == [115,101,116])=false:=beq_eq_false_iff_ne.2 hX
            have e:b_set=false:=by rw[B_set.out,t1];rfl
            clear hX hbb n1
            subst e
            go_wp2
            go_meet
            case rel=>exact⟨rfl,rfl⟩
      case rest=>
        obtain⟨rfl,hw_⟩:=hcut
        rw[hw_]
        clear hw_ wc
        cases b_set
        case true=>
          focus
            have hX:u0.toList=[115,101,116]:=by have:=B_set.out;simp at this;exact this.1
            have hn:ws.length=4:=by have:=B_set.out;simp at this;exact this.2
            clear y0 k0 k0b
            clear ys
            obtain⟨e1,he1⟩:∃z,z=dg ws 1:=⟨_,rfl⟩
            have HX1:=AK he1
            clear he1
            obtain⟨e2,he2⟩:∃z,z=dg ws 2:=⟨_,rfl⟩
            have HX2:=AK he2
            clear he2
            obtain⟨e3,he3⟩:∃z,z=dg ws 3:=⟨_,rfl⟩
            have HX3:=AK he3
            clear he3
            have HEV:=AK (show eventB ws=some ⟨3,e1,e3,e2,⟨0,⟨#[]⟩,[]⟩⟩by
              rw[ev_set (HU0.out.trans hX),if_pos (beq_iff_eq.2 hn),HX1.out,HX2.out,HX3.out])
            have HN2:=AK hn
            clear hX hn
            go_wp2_with fail
            refine(E0.out.dig1 (by have:=HN2.out;omega)).mono ?_
            rintro en vx ⟨rfl,hw_⟩
            rw[hw_,←HX1.out]
            clear hw_ vx
            go_wp2_with fail
            refine(E0.out.dig2 (by have:=HN2.out;omega)).mono ?_
            rintro en vx ⟨rfl,hw_⟩
            rw[hw_,←HX2.out]
            clear hw_ vx
            go_wp2_with fail
            refine(E0.out.dig3 (by have:=HN2.out;omega)).mono ?_
            rintro en vx ⟨rfl,hw_⟩
            rw[hw_,←HX3.out]
            clear hw_ vx
            obtain⟨p0,p1,p2,p3,p4,p5,p6⟩:=box7 E0.out.x4
            have q0:=bfz E0.out.x4 0
            have q1:=bfz E0.out.x4 1
            have q2:=bfz E0.out.x4 2
            have q3:=bfz E0.out.x4 3
            have q4:=bfz E0.out.x4 4
            have q5:=bfz E0.out.x4 5
            have q6:=bfz E0.out.x4 6
            go_wp2
            exact hK (e:=⟨3,e1,e3,e2,⟨0,⟨#[]⟩,[]⟩⟩) (F:=none) (f:=0) HEV ⟨E0.out.set7 rfl⟩ ⟨set7_R (Kd.R_nil _ _ _ _ _) E0.out.x4 (int_ap 37 (by decide))⟩
        obtain⟨b_forget,h_forget⟩:∃b,b=((u0.toList == [102,111,114,103,101,116]) && (ws.length == 2)):=⟨_,rfl⟩
        have B_forget:=AK h_forget
        clear h_forget
        go_upto_region 23 with fail
        go_cut [125] (fun v9 wc=>v9=.bool b_forget∧wc=w3)
        case first=>
          focus
            obtain⟨bn,n1⟩:∃b,((ws.length:Int) == 2)=b:=⟨_,rfl⟩
            have hbb:(ws.length == 2)=bn:=by rw[←n1,Bool.eq_iff_iff,beq_iff_eq,beq_iff_eq];omega
            by_cases hX:u0.toList=[102,111,114,103,101,116]
            · have t1:(u0.toList == [102,111,114,103,101,116])=true:=by rw[hX];rfl
              have e:b_forget=bn:=by rw[B_forget.out,t1,hbb,Bool.true_and]
              clear hX hbb
              subst e
              go_wp2
              go_meet
              case rel=>exact⟨rfl,rfl⟩
            · have t1:(u0.toList == [102,111,114,103,101,116])=false:=beq_eq_false_iff_ne.2 hX
              have e:b_forget=false:=by rw[B_forget.out,t1];rfl
              clear hX hbb n1
              subst e
              go_wp2
              go_meet
              case rel=>exact⟨rfl,rfl⟩
        case rest=>
          obtain⟨rfl,hw_⟩:=hcut
          rw[hw_]
          clear hw_ wc
          cases b_forget
          case true=>
            focus
              have hX:u0.toList=[102,111,114,103,101,116]:=by have:=B_forget.out;simp at this;exact this.1
              have hn:ws.length=2:=by have:=B_forget.out;simp at this;exact this.2
              clear y0 k0 k0b
              clear ys
              obtain⟨e1,he1⟩:∃z,z=dg ws 1:=⟨_,rfl⟩
              have HX1:=AK he1
              clear he1
              have HEV:=AK (show eventB ws=some ⟨4,e1,0,0,⟨0,⟨#[]⟩,[]⟩⟩by
                rw[ev_forget (HU0.out.trans hX),if_pos (beq_iff_eq.2 hn),HX1.out])
              have HN2:=AK hn
              clear hX hn
              go_wp2_with fail
              refine(E0.out.dig1 (by have:=HN2.out;omega)).mono ?_
              rintro en vx ⟨rfl,hw_⟩
              rw[hw_,←HX1.out]
              clear hw_ vx
              obtain⟨p0,p1,p2,p3,p4,p5,p6⟩:=box7 E0.out.x4
              have q0:=bfz E0.out.x4 0
              have q1:=bfz E0.out.x4 1
              have q2:=bfz E0.out.x4 2
              have q3:=bfz E0.out.x4 3
              have q4:=bfz E0.out.x4 4
              have q5:=bfz E0.out.x4 5
              have q6:=bfz E0.out.x4 6
              go_wp2
              exact hK (e:=⟨4,e1,0,0,⟨0,⟨#[]⟩,[]⟩⟩) (F:=none) (f:=0) HEV ⟨E0.out.set7 rfl⟩ ⟨set7_R (Kd.R_nil _ _ _ _ _) E0.out.x4 (int_ap 37 (by decide))⟩
          obtain⟨b_watch,h_watch⟩:∃b,b=((u0.toList == [119,97,116,99,104]) && (ws.length == 3)):=⟨_,rfl⟩
          have B_watch:=AK h_watch
          clear h_watch
          go_upto_region 25 with fail
          go_cut [137] (fun v9 wc=>v9=.bool b_watch∧wc=w3)
          case first=>
            focus
              obtain⟨bn,n1⟩:∃b,((ws.length:Int) == 3)=b:=⟨_,rfl⟩
              have hbb:(ws.length == 3)=bn:=by rw[←n1,Bool.eq_iff_iff,beq_iff_eq,beq_iff_eq];omega
              by_cases hX:u0.toList=[119,97,116,99,104]
              · have t1:(u0.toList == [119,97,116,99,104])=true:=by rw[hX];rfl
                have e:b_watch=bn:=by rw[B_watch.out,t1,hbb,Bool.true_and]
                clear hX hbb
                subst e
                go_wp2
                go_meet
                case rel=>exact⟨rfl,rfl⟩
              · have t1:(u0.toList == [119,97,116,99,104])=false:=beq_eq_false_iff_ne.2 hX
                have e:b_watch=false:=by rw[B_watch.out,t1];rfl
                clear hX hbb n1
                subst e
                go_wp2
                go_meet
                case rel=>exact⟨rfl,rfl⟩
          case rest=>
            obtain⟨rfl,hw_⟩:=hcut
            rw[hw_]
            clear hw_ wc
            cases b_watch
            case true=>
              focus
                have hX:u0.toList=[119,97,116,99,104]:=by have:=B_watch.out;simp at this;exact this.1
                have hn:ws.length=3:=by have:=B_watch.out;simp at this;exact this.2
                clear y0 k0 k0b
                clear ys
                obtain⟨e1,he1⟩:∃z,z=dg ws 1:=⟨_,rfl⟩
                have HX1:=AK he1
                clear he1
                obtain⟨e2,he2⟩:∃z,z=dg ws 2:=⟨_,rfl⟩
                have HX2:=AK he2
                clear he2
                have HEV:=AK (show eventB ws=some ⟨5,e1,e2,0,⟨0,⟨#[]⟩,[]⟩⟩by
                  rw[ev_watch (HU0.out.trans hX),if_pos (beq_iff_eq.2 hn),HX1.out,HX2.out])
                have HN2:=AK hn
                clear hX hn
                go_wp2_with fail
                refine(E0.out.dig1 (by have:=HN2.out;omega)).mono ?_
                rintro en vx ⟨rfl,hw_⟩
                rw[hw_,←HX1.out]
                clear hw_ vx
                go_wp2_with fail
                refine(E0.out.dig2 (by have:=HN2.out;omega)).mono ?_
                rintro en vx ⟨rfl,hw_⟩
                rw[hw_,←HX2.out]
                clear hw_ vx
                obtain⟨p0,p1,p2,p3,p4,p5,p6⟩:=box7 E0.out.x4
                have q0:=bfz E0.out.x4 0
                have q1:=bfz E0.out.x4 1
                have q2:=bfz E0.out.x4 2
                have q3:=bfz E0.out.x4 3
                have q4:=bfz E0.out.x4 4
                have q5:=bfz E0.out.x4 5
                have q6:=bfz E0.out.x4 6
                go_wp2
                exact hK (e:=⟨5,e1,e2,0,⟨0,⟨#[]⟩,[]⟩⟩) (F:=none) (f:=0) HEV ⟨E0.out.set7 rfl⟩ ⟨set7_R (Kd.R_nil _ _ _ _ _) E0.out.x4 (int_ap 37 (by decide))⟩
            obtain⟨b_ask,h_ask⟩:∃b,b=((u0.toList == [97,115,107]) && (ws.length == 3)):=⟨_,rfl⟩
            have B_ask:=AK h_ask
            clear h_ask
            go_upto_region 27 with fail
            go_cut [151] (fun v9 wc=>v9=.bool b_ask∧wc=w3)
            case first=>
              focus
                obtain⟨bn,n1⟩:∃b,((ws.length:Int) == 3)=b:=⟨_,rfl⟩
                have hbb:(ws.length == 3)=bn:=by rw[←n1,Bool.eq_iff_iff,beq_iff_eq,beq_iff_eq];omega
                by_cases hX:u0.toList=[97,115,107]
                · have t1:(u0.toList == [97,115,107])=true:=by rw[hX];rfl
                  have e:b_ask=bn:=by rw[B_ask.out,t1,hbb,Bool.true_and]
                  clear hX hbb
                  subst e
                  go_wp2
                  go_meet
                  case rel=>exact⟨rfl,rfl⟩
                · have t1:(u0.toList == [97,115,107])=false:=beq_eq_false_iff_ne.2 hX
                  have e:b_ask=false:=by rw[B_ask.out,t1];rfl
                  clear hX hbb n1
                  subst e
                  go_wp2
                  go_meet
                  case rel=>exact⟨rfl,rfl⟩
            case rest=>
              obtain⟨rfl,hw_⟩:=hcut
              rw[hw_]
              clear hw_ wc
              cases b_ask
              case true=>
                focus
                  have hX:u0.toList=[97,115,107]:=by have:=B_ask.out;simp at this;exact this.1
                  have hn:ws.length=3:=by have:=B_ask.out;simp at this;exact this.2
                  clear y0 k0 k0b
                  clear ys
                  obtain⟨e1,he1⟩:∃z,z=dg ws 1:=⟨_,rfl⟩
                  have HX1:=AK he1
                  clear he1
                  obtain⟨e2,he2⟩:∃z,z=dg ws 2:=⟨_,rfl⟩
                  have HX2:=AK he2
                  clear he2
                  have HEV:=AK (show eventB ws=some ⟨6,e1,e2,0,⟨0,⟨#[]⟩,[]⟩⟩by
                    rw[ev_ask (HU0.out.trans hX),if_pos (beq_iff_eq.2 hn),HX1.out,HX2.out])
                  have HN2:=AK hn
                  clear hX hn
                  go_wp2_with fail
                  refine(E0.out.dig1 (by have:=HN2.out;omega)).mono ?_
                  rintro en vx ⟨rfl,hw_⟩
                  rw[hw_,←HX1.out]
                  clear hw_ vx
                  go_wp2_with fail
                  refine(E0.out.dig2 (by have:=HN2.out;omega)).mono ?_
                  rintro en vx ⟨rfl,hw_⟩
                  rw[hw_,←HX2.out]
                  clear hw_ vx
                  obtain⟨p0,p1,p2,p3,p4,p5,p6⟩:=box7 E0.out.x4
                  have q0:=bfz E0.out.x4 0
                  have q1:=bfz E0.out.x4 1
                  have q2:=bfz E0.out.x4 2
                  have q3:=bfz E0.out.x4 3
                  have q4:=bfz E0.out.x4 4
                  have q5:=bfz E0.out.x4 5
                  have q6:=bfz E0.out.x4 6
                  go_wp2
                  exact hK (e:=⟨6,e1,e2,0,⟨0,⟨#[]⟩,[]⟩⟩) (F:=none) (f:=0) HEV ⟨E0.out.set7 rfl⟩ ⟨set7_R (Kd.R_nil _ _ _ _ _) E0.out.x4 (int_ap 37 (by decide))⟩
              clear y0 k0 k0b ys
              obtain⟨b_collect,h_collect⟩:∃b,b=((u0.toList == [99,111,108,108,101,99,116]) && (ws.length == 1)):=⟨_,rfl⟩
              have B_collect:=AK h_collect
              have tc:(l.toList == [99,111,108,108,101,99,116])=b_collect:=by rw[h_collect,one_word (by decide) l,←EW.out,HU0.out]
              clear h_collect
              cases b_collect
              case true=>
                focus
                  have hX:u0.toList=[99,111,108,108,101,99,116]:=by have:=B_collect.out;simp at this;exact this.1
                  have hn:ws.length=1:=by have:=B_collect.out;simp at this;exact this.2
                  have HEV:=AK (show eventB ws=some ⟨7,0,0,0,⟨0,⟨#[]⟩,[]⟩⟩from by rw[ev_collect (HU0.out.trans hX),if_pos (beq_iff_eq.2 hn)])
                  clear hX hn
                  obtain⟨p0,p1,p2,p3,p4,p5,p6⟩:=box7 E0.out.x4
                  have q0:=bfz E0.out.x4 0
                  have q1:=bfz E0.out.x4 1
                  have q2:=bfz E0.out.x4 2
                  have q3:=bfz E0.out.x4 3
                  have q4:=bfz E0.out.x4 4
                  have q5:=bfz E0.out.x4 5
                  have q6:=bfz E0.out.x4 6
                  go_wp2
                  exact hK (e:=⟨7,0,0,0,⟨0,⟨#[]⟩,[]⟩⟩) (F:=none) (f:=0) HEV ⟨E0.out.set7 rfl⟩ ⟨set7_R (Kd.R_nil _ _ _ _ _) E0.out.x4 (int_ap 37 (by decide))⟩
              skip
              obtain⟨b_size,h_size⟩:∃b,b=((u0.toList == [115,105,122,101]) && (ws.length == 1)):=⟨_,rfl⟩
              have B_size:=AK h_size
              have td:(l.toList == [115,105,122,101])=b_size:=by rw[h_size,one_word (by decide) l,←EW.out,HU0.out]
              clear h_size
              cases b_size
              case true=>
                focus
                  have hnone:eventB ws=none:=ev_none (by rw[HU0.out];exact B_data.out.symm) (by rw[HU0.out];exact B_cell.out.symm) (by rw[HU0.out];exact B_weak.out.symm) (by rw[HU0.out];exact B_guardian.out.symm) (by rw[HU0.out];exact B_take.out.symm) (by rw[HU0.out];exact B_set.out.symm) (by rw[HU0.out];exact B_forget.out.symm) (by rw[HU0.out];exact B_watch.out.symm) (by rw[HU0.out];exact B_ask.out.symm) (by rw[HU0.out];exact B_collect.out.symm)
                  have hlb:(R,s)=if(u0.toList == [115,105,122,101]) && (ws.length == 1)then(h,(decB (reachL h.o h.r h.d).length++sOf)++decB h.o.length)else(h,sBad):=by rw[HRS.out];unfold lineB;rw[←EW.out,hnone,HU0.out]
                  rw[←B_size.out]at hlb
                  clear hnone B_data B_cell B_weak B_guardian B_take B_set B_forget B_watch B_ask B_collect B_size
                  rw[if_pos rfl]at hlb
                  have e1:R=h:=congrArg Prod.fst hlb
                  have e2:s=(decB (reachL h.o h.r h.d).length++sOf)++decB h.o.length:=congrArg Prod.snd hlb
                  clear hlb
                  subst e1
                  have HKO:=AK (show OkH R.o R.r R.w R.d from ok_parts HK.out)
                  obtain⟨x,ex⟩:∃x,x=reachA R.o R.r R.w R.d:=⟨_,rfl⟩
                  have EX:=AK ex
                  have ex2:x=reachL R.o R.r R.d:=by rw[ex];unfold reachA;exact if_pos HK.out
                  have HXL:=AK (show x.length≤60 from by
                    have h1:=nodup_len _ _ (reach_good HKO.out)
                    have h2:=HKO.out.n
                    rw[ex2];omega)
                  obtain⟨x1,ex1⟩:∃y,y=decB x.length:=⟨_,rfl⟩
                  obtain⟨x2,exx2⟩:∃y,y=decB R.o.length:=⟨_,rfl⟩
                  have EX1:=AK ex1
                  have EX2:=AK exx2
                  have ES:=AK (show s=(x1++sOf)++x2 from by rw[e2,ex1,exx2,ex2])
                  have z3:x1.size≤2:=by rw[ex1];exact decB_size _
                  have z4:x2.size≤2:=by rw[exx2];exact decB_size _
                  have a0:=eq_true (show x1.size+4≤9223372036854775807 by omega)
                  have a1:decide (x1.size+4≤9223372036854775807)=true:=deT (by omega)
                  have a2:=eq_false (show ¬ 9223372036854775807<x1.size+4 by omega)
                  have b0:=eq_true (show x1.size+4+x2.size≤9223372036854775807 by omega)
                  have b1:decide (x1.size+4+x2.size≤9223372036854775807)=true:=deT (by omega)
                  have b2:=eq_false (show ¬ 9223372036854775807<x1.size+4+x2.size by omega)
                  clear z3 z4 e2 ex ex1 exx2 ex2
                  go_upto_region 32 with fail
                  clear tc td
                  replace E0:=AK (E0.out.below (below_drew1 (Below.refl _ _)))
                  refine start_ (n:=13) (S:=(fun w'=>w'.cell? ⟨w.heap.size,0,none⟩=some (.slice A0 R.o.length c0)∧w'.cell? ⟨w.heap.size,1,none⟩=some (.slice A1 R.r.length c1)∧w'.cell? ⟨w.heap.size,2,none⟩=some (.slice A2 R.w.length c2)∧w'.cell? ⟨w.heap.size,3,none⟩=some (.slice A3 R.d.length c3))) (ds:=[11]) #[fF,fF,fF,fF,fF,fF,fF,fF,fF,fF,fF,fF,fF] (by kernel_rfl) rfl rfl (box4d E0.out.x0) (fun hHeld=>?_);refine with_tabW ml32_tab ml32_bits (fun HT_ HW_=>?_)
                  generalize World.drew w3=vv0 at E0 hHeld ⊢
                  refine tU HT_ HW_ 0 (some 172) (bM 13 1) hHeld rfl (by refine Or.inl ⟨by rfl,?_⟩;rintro w' ⟨s0,s1,s2,s3⟩;go_simp;with_reducible rfl) ?_
                  refine tU HT_ HW_ 1 (some 173) (bM 13 3) hHeld rfl (by refine Or.inl ⟨by rfl,?_⟩;rintro w' ⟨s0,s1,s2,s3⟩;go_simp;with_reducible rfl) ?_
                  refine pU HT_ 6 (some 178) (bM 13 67) ?_
                  refine tU HT_ HW_ 7 (some 179) (bM 13 195) hHeld rfl (by refine Or.inl ⟨by rfl,?_⟩;rintro w' ⟨s0,s1,s2,s3⟩;go_simp;with_reducible rfl) ?_
                  refine pU HT_ 8 (some 180) (bM 13 451) ?_
                  refine one_ (i:=2) (N:=some 174) (bM 13 455) rfl rfl (one_of HT_.out (by kernel_rfl)) (by decide) (fun K_ hK=>?_)
                  refine goes_ Tryd.func28 (by kernel_rfl) rfl #[.agg #[.slice A0 R.o.length c0,.slice A1 R.r.length c1,.slice A2 R.w.length c2,.slice A3 R.d.length c3]] (by rfl) rfl rfl zI ?_
                  refine(MemReach_calls _ _ _ _ _ _ _ _ _ _ _ _ _ (OwnX.below HO.out E0.out.b).reads (by have:=(OkH.fine HKO.out).w;omega) (OkH.fine HKO.out).f).mono ?_
                  rintro en vv ⟨v,rfl,hr,hb⟩
                  rw[←EX.out]at hr
                  obtain⟨X,xc,ee⟩:=Kd.R_slice hr
                  subst ee
                  refine⟨_,rfl,?_⟩
                  clear hr
                  replace E0:=AK (E0.out.below hb)
                  clear hb
                  refine hK.out _ _ (box4d E0.out.x0) (fun hHeld=>?_)
                  clear hK K_
                  refine nO (some 174) ?_
                  refine pU HT_ 3 (some 175) (bM 13 463) ?_
                  refine one_ (i:=4) (N:=some 176) (bM 13 479) rfl rfl (one_of HT_.out (by kernel_rfl)) (by decide) (fun K_ hK=>?_)
                  refine goes_ Tryd.func27 (by kernel_rfl) rfl #[.int .i64 ((x.length:Nat):Int)] (by rfl) rfl rfl zI ?_
                  refine(itoa_c (n:=x.length) (by have:=HXL.out;omega)).mono ?_
                  rintro en vx ⟨rfl,hw_⟩
                  rw[hw_,←EX1.out]
                  clear hw_ vx
                  refine⟨_,rfl,?_⟩
                  refine hK.out _ _ (box4d E0.out.x0) (fun hHeld=>?_)
                  clear hK K_
                  refine nO (some 176) ?_
                  refine pU HT_ 5 (some 177) (bM 13 511) ?_
                  refine one_ (i:=9) (N:=some 181) (bM 13 1023) rfl rfl (one_of HT_.out (by kernel_rfl)) (by decide) (fun K_ hK=>?_)
                  refine goes_ Tryd.func27 (by kernel_rfl) rfl #[.int .i64 ((R.o.length:Nat):Int)] (by rfl) rfl rfl zI ?_
                  refine(itoa_c (n:=R.o.length) (by have:=HKO.out.n;omega)).mono ?_
                  rintro en vx ⟨rfl,hw_⟩
                  rw[hw_,←EX2.out]
                  clear hw_ vx
                  refine⟨_,rfl,?_⟩
                  refine hK.out _ _ (box4d E0.out.x0) (fun hHeld=>?_)
                  clear hK K_
                  refine nO (some 181) ?_
                  refine pU HT_ 10 (some 182) (bM 13 2047) ?_
                  refine last_ (i:=11) (N:=none) #[tT,tT,tT,tT,tT,tT,tT,tT,tT,tT,tT,tT,fF] rfl rfl (one_of HT_.out (by kernel_rfl)) (by decide) (fun K_ hK=>?_)
                  obtain⟨z0,z1,z2,z3⟩:=box4d E0.out.x1
                  have f0:=bfz E0.out.x1 0
                  have f1:=bfz E0.out.x1 1
                  have f2:=bfz E0.out.x1 2
                  have f3:=bfz E0.out.x1 3
                  refine skip_ (w1:=?_) (by rfl) rfl ?_ ?_
                  rotate_left
                  · go_simp
                    rfl
                  clear z0 z1 z2 z3 f0 f1 f2 f3
                  refine hK.out _ _ ?_
                  clear hK K_
                  refine pU HT_ 12 (some 5) (bM 13 8191) ?_
                  refine done_ (done_of HT_.out (by kernel_rfl)) ?_
                  clear HT_ HW_ hHeld
                  clear a0 a1 a2 b0 b1 b2
                  go_wp2
                  have e3:(x1++(⟨#[32,111,102,32]⟩:ByteArray))++x2=s:=by rw[ES.out];rfl
                  rw[e3]
                  clear e3
                  refine bodyPost_ret (results_ct rfl _ _ (w.heap.size+1) 33 #[.slice A0 R.o.length c0,.slice A1 R.r.length c1,.slice A2 R.w.length c2,.slice A3 R.d.length c3] (0,0) _ rfl (set4_blk E0.out.x1) Tryd.underlying33 rfl (by kernel_rfl)) rfl ?_
                  exact⟨A0,c0,A1,c1,A2,c2,A3,c3,rfl,OwnX.set4 (OwnX.below HO.out E0.out.b) E0.out.x1,set4_below E0.out.b (by omega)⟩
              focus
                have hnone:eventB ws=none:=ev_none (by rw[HU0.out];exact B_data.out.symm) (by rw[HU0.out];exact B_cell.out.symm) (by rw[HU0.out];exact B_weak.out.symm) (by rw[HU0.out];exact B_guardian.out.symm) (by rw[HU0.out];exact B_take.out.symm) (by rw[HU0.out];exact B_set.out.symm) (by rw[HU0.out];exact B_forget.out.symm) (by rw[HU0.out];exact B_watch.out.symm) (by rw[HU0.out];exact B_ask.out.symm) (by rw[HU0.out];exact B_collect.out.symm)
                have hlb:(R,s)=if(u0.toList == [115,105,122,101]) && (ws.length == 1)then(h,(decB (reachL h.o h.r h.d).length++sOf)++decB h.o.length)else(h,sBad):=by rw[HRS.out];unfold lineB;rw[←EW.out,hnone,HU0.out]
                rw[←B_size.out]at hlb
                clear hnone B_data B_cell B_weak B_guardian B_take B_set B_forget B_watch B_ask B_collect B_size
                rw[if_neg (by decide)]at hlb
                have e1:R=h:=congrArg Prod.fst hlb
                have e2:s=sBad:=congrArg Prod.snd hlb
                clear hlb
                subst e1 e2
                obtain⟨p0,p1,p2,p3⟩:=box4d E0.out.x0
                obtain⟨z0,z1,z2,z3⟩:=box4d E0.out.x1
                have f0:=bfz E0.out.x1 0
                have f1:=bfz E0.out.x1 1
                have f2:=bfz E0.out.x1 2
                have f3:=bfz E0.out.x1 3
                go_wp2
                clear p0 p1 p2 p3 z0 z1 z2 z3 f0 f1 f2 f3
                refine bodyPost_ret (results_ct rfl _ _ (w.heap.size+1) 33 #[.slice A0 R.o.length c0,.slice A1 R.r.length c1,.slice A2 R.w.length c2,.slice A3 R.d.length c3] (0,0) _ rfl (set4_blk E0.out.x1) Tryd.underlying33 rfl (by kernel_rfl)) rfl ?_
                exact⟨A0,c0,A1,c1,A2,c2,A3,c3,rfl,OwnX.set4 (OwnX.below HO.out E0.out.b) E0.out.x1,set4_below E0.out.b (by omega)⟩
end Go.Proofs.YtigjhfijkdlldaaDoor.H
