import Derived.Test.YtigjhfijkdlldaaStpDe
import Derived.Test.YtigjhfijkdlldaaStpPz
namespace Go.Proofs.Ytigjhfijkdlldaa.H
open Go.RowKit Go.Proofs.YtigjhfijkdlldaaW.PrintWords Go.Proofs.YtigjhfijkdlldaaW.PrintLast Go.Proofs.YtigjhfijkdlldaaW.PrintMore Go.Proofs.Ytigjhfijkdlldaa.Q
set_option linter.unusedVariables false
set_option linter.unusedSimpArgs false
section
section
variable {v w:World} {g lo:Nat} {P:Int} {A0 A1 A2 A3:Option Addr} {c0 c1 c2 c3:Nat} {G:Hp}
set_option maxHeartbeats 4000000 in
set_option maxRecDepth 100000 in
theorem draw48 {plain:Bool} {n8:Nat} {e:S40} {F:Option Addr} {f:Nat} {wc:World} {u3 u5 u9 u10 u11 u12 u13 u14 u15 u16 u17 u18 u19 u20 u21 u22 u23 u24 u25 u26 u27 u28 u29 u30 u31 u32 u33 u34 u35 u36 u37 u38 u39 u40 u41 u42 u43 u44 u45 u46 u47 u48 u49 u50 u51 u52 u53 u54 u55 u56 u57 u58 u59 u60 u61 u62 u63 u64 u65 u66 u67 u68 u69 u70 u71 u72 u73 u74 u75 u76 u77 u78 u79 u80 u81 u82 u83 u84 u85 u86 u87 u88 u89 u90 u91 u92 u93 u94 u95 u96 u97 u98 u99 u100 u101 u102 u103 u104 u105 u106 u107 u108 u109 u110 u111 u112 u113 u114 u115 u116 u117 u118 u119 u120 u121 u122 u123 u124 u125 u126 u127 u128 u129 u130 u131 u132 u133 u134 u135 u136 u137 u138 u139 u140 u141 u142 u143 u144 u145 u146 u147 u148 u149 u150 u151 u152 u153 u154 u155 u156 u157 u158 u159 u160 u161 u162 u163 u164 u165 u166 u167 u168 u169 u170 u171 u172 u173 u174 u175 u176 u177 u178 u179 u180 u181 u182 u183 u184 u185 u186 u187 u188 u189 u190 u191 u192 u193 u194 u195 u196 u197 u198 u199 u200 u201 u202 u203 u204 u205 u206 u207 u208 u209 u210 u211 u212 u213 u214:Value} (HP:Aside0 (P≤900000)) (HE:Aside0 (e.f4.f2.length≤3∧TxA e.f4.f1)) (D:Aside0 (DW v w g n8 (P+8) #[.slice A0 G.o.length c0,.slice A1 G.r.length c1,.slice A2 G.w.length c2,.slice A3 G.d.length c3] (evC e F f) F f e.f4.f2 wc)) :
    Code.wp Try.prog (codeAt Try.f102 [true,true,true,true]) (bodyPost Try.prog Try.f102 (fun en w'=>∃(e:S40) (F:Option Addr) (f:Nat),en=.returned (.agg (evC e F f))∧e.f4.f2.length≤8∧TxA e.f4.f1∧(plain=true→e.f4.f0<3)∧Kd.R (Kd.int .i64) 3 w' w.heap.size (fun _=>True) (.slice F e.f4.f2.length f) e.f4.f2∧Rdr v w' g (P+20)∧Below v.heap.size v w'∧KeepBut w w' g none)) { tmps:=#[.pointer (some ⟨g,0,none⟩),.agg #[.slice A0 G.o.length c0,.slice A1 G.r.length c1,.slice A2 G.w.length c2,.slice A3 G.d.length c3],.bool plain,u3,.pointer (some ⟨w.heap.size,0,none⟩),u5,.pointer (some ⟨w.heap.size+1,0,none⟩),.int .i64 G.r.length,.pointer (some ⟨n8,0,none⟩),u9,u10,u11,u12,u13,u14,u15,u16,u17,u18,u19,u20,u21,u22,u23,u24,u25,u26,u27,u28,u29,u30,u31,u32,u33,u34,u35,u36,u37,u38,u39,u40,u41,u42,u43,u44,u45,u46,u47,u48,u49,u50,u51,u52,u53,u54,u55,u56,u57,u58,u59,u60,u61,u62,u63,u64,u65,u66,u67,u68,u69,u70,u71,u72,u73,u74,u75,u76,u77,u78,u79,u80,u81,u82,u83,u84,u85,u86,u87,u88,u89,u90,u91,u92,u93,u94,u95,u96,u97,u98,u99,u100,u101,u102,u103,u104,u105,u106,u107,u108,u109,u110,u111,u112,u113,u114,u115,u116,u117,u118,u119,u120,u121,u122,u123,u124,u125,u126,u127,u128,u129,u130,u131,u132,u133,u134,u135,u136,u137,u138,u139,u140,u141,u142,u143,u144,u145,u146,u147,u148,u149,u150,u151,u152,u153,u154,u155,u156,u157,u158,u159,u160,u161,u162,u163,u164,u165,u166,u167,u168,u169,u170,u171,u172,u173,u174,u175,u176,u177,u178,u179,u180,u181,u182,u183,u184,u185,u186,u187,u188,u189,u190,u191,u192,u193,u194,u195,u196,u197,u198,u199,u200,u201,u202,u203,u204,u205,u206,u207,u208,u209,u210,u211,u212,u213,u214],defers:=[] } wc:=by
  conv=>arg 2;whnf
  conv=>arg 4;zeta
  go_upto_region 48 with fail
  go_cut [2,159] (fun v2 v159 wd=>∃b:Bool,v2=.bool plain∧v159=.bool b∧Aside0 (b=false→plain=true→e.f4.f0<3)∧wd=wc)
  case first=>
    obtain⟨q0,q1,q2,q3,q4,q5,q6⟩:=box7 (show wc.heap[n8]?=some (.cells #[.int .i64 e.f0,.int .i64 e.f1,.int .i64 e.f2,.int .i64 e.f3,.int .i64 e.f4.f0,.string e.f4.f1,.slice F e.f4.f2.length f] 40 (0,0))from D.out.eb)
    obtain⟨z0,z1,z2,z3,z4,z5,z6⟩:=frz7 D.out.eb
    obtain⟨b1,hb1⟩:∃b,decide (5≤e.f0)=b:=⟨_,rfl⟩
    obtain⟨b2,hb2⟩:∃b,decide (3≤e.f4.f0)=b:=⟨_,rfl⟩
    have HB2:=AK (show b2=false→e.f4.f0<3 from fun h=>by rw[h,decide_eq_false_iff_not]at hb2;omega)
    cases plain
    · go_wp2
      go_meet
      case rel=>exact⟨_,rfl,rfl,⟨fun _ h=>by cases h⟩,rfl⟩
    · cases b1
      · cases b2
        all_goals
          go_wp2
          go_meet
          case rel=>exact⟨_,rfl,rfl,⟨fun h _=>by have h2:=HB2.out;first|exact h2 rfl|exact h2 trivial|cases h⟩,rfl⟩
      · go_wp2
        go_meet
        case rel=>exact⟨_,rfl,rfl,⟨fun h=>by cases h⟩,rfl⟩
  case rest=>
    rename_i wc0
    obtain⟨b,rfl,rfl,HPL,hw⟩:=hcut
    subst hw
    go_upto_if 159 with fail
    go_cut [] (fun wd=>∃(e:S40) (F:Option Addr) (f:Nat),Aside0 ((e.f4.f2.length≤3∧TxA e.f4.f1)∧(plain=true→e.f4.f0<3))∧Aside0 (DW v w g n8 (P+8) #[.slice A0 G.o.length c0,.slice A1 G.r.length c1,.slice A2 G.w.length c2,.slice A3 G.d.length c3] (evC e F f) F f e.f4.f2 wd))
    case first=>
      cases b
      · go_wp2
        go_meet
        case rel=>exact⟨e,F,f,⟨HE.out,by have h2:=HPL.out;first|exact h2 rfl|exact h2 trivial⟩,D⟩
      · skip
        obtain⟨q0,q1,q2,q3,q4,q5,q6⟩:=box7 (show wc.heap[n8]?=some (.cells #[.int .i64 e.f0,.int .i64 e.f1,.int .i64 e.f2,.int .i64 e.f3,.int .i64 e.f4.f0,.string e.f4.f1,.slice F e.f4.f2.length f] 40 (0,0))from D.out.eb)
        obtain⟨z0,z1,z2,z3,z4,z5,z6⟩:=frz7 D.out.eb
        go_wp2
        go_meet
        case rel=>exact⟨⟨4,e.f1,0,0,⟨0,⟨#[]⟩,[]⟩⟩,none,0,⟨⟨by simp,tx_0⟩,fun _=>by show (0:Int)<3;omega⟩,⟨(DW.set (DW.set (DW.set (DW.set (DW.set (DW.set (DW.set (DW.none D.out) 0 (.int .i64 4) _ rfl) 1 (.int .i64 e.f1) _ rfl) 2 (.int .i64 0) _ rfl) 3 (.int .i64 0) _ rfl) 4 (.int .i64 0) _ rfl) 5 (.string ⟨#[]⟩) _ rfl) 6 (.slice none 0 0) (evC ⟨4,e.f1,0,0,⟨0,⟨#[]⟩,[]⟩⟩ none 0) rfl)⟩⟩
    case rest=>
      clear HE D HPL
      obtain⟨e,F,f,HE,D⟩:=hcut
      exact ‹∀(a:Act) (w:World),Code.wp Try.prog (codeAt Try.f102 [true,true,true,true,true]) _ a w→_› _ _ (draw50 HP HE D)
end
end
section
theorem dr26_tab:rtab .any (opsOf Try.f102 26)=(true,[([],[]),([0],[0]),([1],[1]),([],[]),([],[]),([3,4],[3,4]),([5],[5]),([2,6,5],[2,6]),([0,1,2,3,4,5,6,7],[]),([8,0,1,2,3,4,5,6,7],[8]),([9,7,7,0,1,2,3,4,5,6,7],[7,9])]):=by kernel_rfl
theorem dr26_bits:waitsOk [([],[]),([0],[0]),([1],[1]),([],[]),([],[]),([3,4],[3,4]),([5],[5]),([2,6,5],[2,6]),([0,1,2,3,4,5,6,7],[]),([8,0,1,2,3,4,5,6,7],[8]),([9,7,7,0,1,2,3,4,5,6,7],[7,9])] [0,1,3,0,0,24,56,127,255,511,1023]=true:=by kernel_rfl
section
variable {v w:World} {g lo:Nat} {P:Int} {A0 A1 A2 A3:Option Addr} {c0 c1 c2 c3:Nat} {G:Hp}
set_option maxHeartbeats 4000000 in
set_option maxRecDepth 100000 in
theorem l5Draw_c (hR:Rdr v w g P) (hB:Below v.heap.size v w) (hP:P≤900000) (hO:OwnG w lo A0 c0 A1 c1 A2 c2 A3 c3 G) (hr:G.r.length≤1000) (hi:∀p∈G.r,p<G.o.length) (plain:Bool) :
    Calls Try.prog 102 #[.pointer (some ⟨g,0,none⟩),.agg #[.slice A0 G.o.length c0,.slice A1 G.r.length c1,.slice A2 G.w.length c2,.slice A3 G.d.length c3],.bool plain] w fun en w'=>∃(e:S40) (F:Option Addr) (f:Nat),en=.returned (.agg (evC e F f))∧e.f4.f2.length≤8∧TxA e.f4.f1∧(plain=true→e.f4.f0<3)∧Kd.R (Kd.int .i64) 3 w' w.heap.size (fun _=>True) (.slice F e.f4.f2.length f) e.f4.f2∧Rdr v w' g (P+20)∧Below v.heap.size v w'∧KeepBut w w' g none:=by
  have HO:=AK (And.intro hO (And.intro hr hi))
  have HR0:=AK hR
  have D:=AK (show DB v w g P #[.slice A0 G.o.length c0,.slice A1 G.r.length c1,.slice A2 G.w.length c2,.slice A3 G.d.length c3] ((w.alloc (.cells #[.slice A0 G.o.length c0,.slice A1 G.r.length c1,.slice A2 G.w.length c2,.slice A3 G.d.length c3] 28 (0,0))).alloc (.cells #[.int .i64 0,.int .i64 0,.int .i64 0,.int .i64 0,.int .i64 0,.string ⟨#[]⟩,.slice none 0 0] 40 (0,0)))from DB.start hR hB)
  have HP:=AK hP
  clear hO hr hi hR hB hP
  go_enter Try.func102,Try.ntmps102
  go_upto_region 1 with fail
  generalize ((w.alloc (.cells #[.slice A0 G.o.length c0,.slice A1 G.r.length c1,.slice A2 G.w.length c2,.slice A3 G.d.length c3] 28 (0,0))).alloc (.cells #[.int .i64 0,.int .i64 0,.int .i64 0,.int .i64 0,.int .i64 0,.string ⟨#[]⟩,.slice none 0 0] 40 (0,0)))=w1 at D ⊢
  obtain⟨p0,p1,p2,p3⟩:=box4 D.out.hb
  go_wp2_with fail
  clear p0 p1 p2 p3
  refine(pick_c (P:=P) (G.r.length:Int) (D.out.r) D.out.b (by have:=HP.out;omega)).mono ?_
  rintro en w2 ⟨f1,rfl,hf1,hr,hb,hk⟩
  replace D:=AK (D.out.pick hr hb hk)
  clear hr hb hk
  have Hf1:=AK hf1
  clear hf1
  go_wp2_with fail
  refine(pick_c (P:=P+1) (G.r.length:Int) (D.out.r) D.out.b (by have:=HP.out;omega)).mono ?_
  rintro en w3 ⟨f2,rfl,hf2,hr,hb,hk⟩
  replace D:=AK (D.out.pick hr hb hk)
  clear hr hb hk
  have Hf2:=AK hf2
  clear hf2
  go_wp2_with fail
  refine(pick_c (P:=P+1+1) 3 (D.out.r) D.out.b (by have:=HP.out;omega)).mono ?_
  rintro en w4 ⟨f3,rfl,hf3,hr,hb,hk⟩
  replace D:=AK (D.out.pick hr hb hk)
  clear hr hb hk
  have Hf3:=AK hf3
  clear hf3
  go_wp2_with fail
  have D2:=AK (DW.new D.out #[.int .i64 0,.int .i64 f1,.int .i64 f2,.int .i64 f3,.int .i64 0,.string ⟨#[]⟩,.slice none 0 0])
  clear D
  generalize hn8:w4.heap.size=n8 at D2 ⊢
  generalize w4.alloc (.cells #[.int .i64 0,.int .i64 f1,.int .i64 f2,.int .i64 f3,.int .i64 0,.string ⟨#[]⟩,.slice none 0 0] 40 (0,0))=w5 at D2 ⊢
  clear hn8
  have D:=D2
  clear D2
  refine(pick_c (P:=P+1+1+1) 16 D.out.d.r D.out.d.b (by have:=HP.out;omega)).mono ?_
  rintro en w6 ⟨k,rfl,hk,hr,hb,hk⟩
  replace D:=AK (D.out.pick hr hb hk)
  clear hr hb hk
  have Hk:=AK hk
  clear hk
  go_upto_block 0 with fail
  have DD:=AK (show DW v w g n8 (P+4) #[.slice A0 G.o.length c0,.slice A1 G.r.length c1,.slice A2 G.w.length c2,.slice A3 G.d.length c3] (evC ⟨0,f1,f2,f3,⟨0,⟨#[]⟩,[]⟩⟩ none 0) none 0 [] w6 from D.out.more (by omega))
  clear D
  have D:=DD
  clear DD
  go_cut [] (fun wc=>∃(e:S40) (F:Option Addr) (f:Nat),Aside0 (e.f4.f2.length≤3∧TxA e.f4.f1)∧Aside0 (DW v w g n8 (P+8) #[.slice A0 G.o.length c0,.slice A1 G.r.length c1,.slice A2 G.w.length c2,.slice A3 G.d.length c3] (evC e F f) F f e.f4.f2 wc))
  case first=>
    have hk:=Hk.out
    have HPQ:=AK (show P+4≤P+8 by omega)
    rcases(show (k=0∨k=1∨k=2)∨(k=3∨k=4∨k=5∨k=6)∨(k=7∨k=8)∨k=9∨(k=10∨k=11)∨k=12∨k=13∨k=14∨k=15 by omega)with h|h|h|h|h|h|h|h|h
    all_goals clear hk
    · rcases h with rfl|rfl|rfl
      all_goals
        obtain⟨q0,q1,q2,q3,q4,q5,q6⟩:=box7 D.out.eb
        obtain⟨z0,z1,z2,z3,z4,z5,z6⟩:=frz7 D.out.eb
        go_upto_region 16 with fail
        have D2:=AK (DW.set D.out 0 (.int .i64 1) (evC ⟨1,f1,f2,f3,⟨0,⟨#[]⟩,[]⟩⟩ none 0) rfl)
        clear q0 q1 q2 q3 q4 q5 q6 z0 z1 z2 z3 z4 z5 z6
        clear D
        generalize w6.setCell ⟨n8,0,none⟩ (.int .i64 1)=w7 at D2 ⊢
        have D:=D2
        clear D2
        go_wp2_with ((with_reducible refine gate_dst (N:=63) rfl ?_);refine Kd.R_lit Kd.string (w0:=w7) w7.heap.size 9 ?hg (N:=63) ?hd (xs:=([⟨#[97]⟩,⟨#[98]⟩,⟨#[99,49]⟩,⟨#[100,100]⟩]:List ByteArray)) (inner:=[.string ⟨#[97]⟩,.string ⟨#[98]⟩,.string ⟨#[99,49]⟩,.string ⟨#[100,100]⟩]) (ok:=fun k=>k≠g) (okp:=fun _=>False) ?hr ?hp (fun _ hk=>hk.elim) ?hf (Below.refl _ _) (Nat.le_refl _) (by simp) ?_;(case hd=>rfl);(case hg=>rfl);(case hr=>first|(go_simp;done)|(go_simp;rfl));(case hp=>exact(Reps.one (show Kd.M Kd.string _ _ _ (⟨#[97]⟩:ByteArray) [.string ⟨#[97]⟩]from rfl) (Reps.one (show Kd.M Kd.string _ _ _ (⟨#[98]⟩:ByteArray) [.string ⟨#[98]⟩]from rfl) (Reps.one (show Kd.M Kd.string _ _ _ (⟨#[99,49]⟩:ByteArray) [.string ⟨#[99,49]⟩]from rfl) (Reps.one (show Kd.M Kd.string _ _ _ (⟨#[100,100]⟩:ByteArray) [.string ⟨#[100,100]⟩]from rfl) (Reps.none _ _))))));(case hf=>have:=D.out.d.r.lt;omega);intro v63 w8 hs hb hg hn;obtain⟨S,cS,hv⟩:=Kd.R_slice hs;subst hv;have D2:=AK (D.out.below hb);have HS:=AK hs;clear hb hg hn hs)
        refine(of_c (P:=P+4) (ts:=[⟨#[97]⟩,⟨#[98]⟩,⟨#[99,49]⟩,⟨#[100,100]⟩]) D2.out.d.r D2.out.d.b (by have:=HP.out;omega) (Kd.R_reads' HS.out).2.2 (Kd.R_reads' HS.out).2.1 (fun ad e _=>HS.out.1 ad.block (by rw[e];rfl)) (by simp)).mono ?_
        rintro en w9 ⟨t,rfl,ht,hr,hb,hk⟩
        have D3:=AK (D2.out.pick hr hb hk)
        have HT:=AK (tx_a t ht)
        clear hr hb hk ht D D2 HS
        have D:=D3
        clear D3
        obtain⟨q0,q1,q2,q3,q4,q5,q6⟩:=box7 D.out.eb
        obtain⟨z0,z1,z2,z3,z4,z5,z6⟩:=frz7 D.out.eb
        go_wp2
        go_meet
        case rel=>exact⟨⟨1,f1,f2,f3,⟨1,t,[]⟩⟩,none,0,⟨(by simp),HT.out⟩,⟨((DW.set (DW.set (DW.set D.out 4 (.int .i64 1) _ rfl) 5 (.string t) _ rfl) 6 (.slice none 0 0) (evC ⟨1,f1,f2,f3,⟨1,t,[]⟩⟩ none 0) rfl)).more (by omega)⟩⟩
    · rcases h with rfl|rfl|rfl|rfl
      all_goals
        obtain⟨q0,q1,q2,q3,q4,q5,q6⟩:=box7 D.out.eb
        obtain⟨z0,z1,z2,z3,z4,z5,z6⟩:=frz7 D.out.eb
        go_wp2_with fail
        have D2:=AK (DW.set (DW.set (DW.set (DW.set D.out 0 (.int .i64 1) _ rfl) 4 (.int .i64 2) _ rfl) 5 (.string ⟨#[]⟩) _ rfl) 6 (.slice none 0 0) (evC ⟨1,f1,f2,f3,⟨2,⟨#[]⟩,[]⟩⟩ none 0) rfl)
        clear q0 q1 q2 q3 q4 q5 q6 z0 z1 z2 z3 z4 z5 z6
        clear D
        generalize ((((w6.setCell ⟨n8,0,none⟩ (.int .i64 1)).setCell ⟨n8,4,none⟩ (.int .i64 2)).setCell ⟨n8,5,none⟩ (.string ⟨#[]⟩)).setCell ⟨n8,6,none⟩ (.slice none 0 0))=w7 at D2 ⊢
        have D:=D2
        clear D2
        refine(pick_c (P:=P+4) 4 D.out.d.r D.out.d.b (by have:=HP.out;omega)).mono ?_
        rintro en w8 ⟨m,rfl,hm,hr,hb,hk⟩
        replace D:=AK (D.out.pick hr hb hk)
        clear hr hb hk
        have Hm:=AK hm
        clear hm
        go_wp2_with fail
        go_loopg [9] m.toNat (fun kq v9 w'=>∃(i:Int) (x:List Int) (F:Option Addr) (f:Nat),v9=.int .i64 i∧Aside0 (i=kq∧x.length+kq=m.toNat)∧Aside0 (DW v w g n8 (P+5+(x.length:Int)) #[.slice A0 G.o.length c0,.slice A1 G.r.length c1,.slice A2 G.w.length c2,.slice A3 G.d.length c3] (evC ⟨1,f1,f2,f3,⟨2,⟨#[]⟩,x⟩⟩ F f) F f x w'))
        case atStart=>exact⟨m,[],none,0,rfl,⟨by have:=Hm.out;omega,by simp⟩,⟨D.out.more (by simp;omega)⟩⟩
        case round=>
          clear D
          obtain⟨i,x,F,f,rfl,HI,D⟩:=hrel
          cases gk with
          | zero=>
            have c9:decide (0<i)=false:=deF (by have:=HI.out;omega)
            go_wp2
            go_meet
            case rel=>exact⟨⟨1,f1,f2,f3,⟨2,⟨#[]⟩,x⟩⟩,F,f,⟨by show x.length≤3;have:=HI.out;have:=Hm.out;omega,tx_0⟩,⟨D.out.more (by have:=HI.out;have:=Hm.out;omega)⟩⟩
          | succ k1=>
            have c9:decide (0<i)=true:=deT (by have:=HI.out;omega)
            go_wp2_with fail
            clear c9
            replace D:=AK D.out.drew
            refine start_ (n:=11) (S:=(fun w'=>w'.cell? ⟨n8,6,none⟩=some (.slice F x.length f))) (ds:=[10]) #[fF,fF,fF,fF,fF,fF,fF,fF,fF,fF,fF] (by kernel_rfl) rfl rfl (box7 D.out.eb).2.2.2.2.2.2 (fun hHeld=>?_);refine with_tabW dr26_tab dr26_bits (fun HT_ HW_=>?_)
            generalize wr.drew=v5 at D hHeld ⊢
            refine pU HT_ 0 (some 81) (bM 11 1) ?_
            refine pU HT_ 1 (some 82) (bM 11 3) ?_
            refine tU HT_ HW_ 2 (some 83) (bM 11 7) hHeld rfl (by refine Or.inl ⟨by rfl,?_⟩;rintro w' s0;go_simp;with_reducible rfl) ?_
            refine pU HT_ 3 (some 84) (bM 11 15) ?_
            refine pU HT_ 4 (some 85) (bM 11 31) ?_
            refine one_ (i:=5) (N:=some 86) (bM 11 63) rfl rfl (one_of HT_.out (by kernel_rfl)) (by decide) (fun K_ hK=>?_)
            refine goes_ Try.func63 (by kernel_rfl) rfl #[.pointer (some ⟨g,0,none⟩),.int .i64 G.r.length] (by rfl) rfl rfl zI ?_
            refine(pick_c (P:=P+5+(x.length:Int)) (G.r.length:Int) D.out.d.r D.out.d.b (by have:=HP.out;have:=HI.out;have:=Hm.out;omega)).mono ?_
            rintro en v6 ⟨q,rfl,_,hr,hb,hk⟩
            refine⟨_,rfl,?_⟩
            replace D:=AK (D.out.pick hr hb hk)
            clear hr hb hk
            obtain⟨x2,ex2⟩:∃x2,x2=x++[q]:=⟨_,rfl⟩
            have EX2:=AK ex2
            clear ex2
            refine hK.out _ _ (box7 D.out.eb).2.2.2.2.2.2 (fun hHeld=>?_)
            clear hK K_
            refine nO (some 86) ?_
            refine one_ (i:=6) (N:=some 87) (bM 11 127) rfl rfl (one_of HT_.out (by kernel_rfl)) (by decide) (fun K_ hK=>?_)
            refine value_ (v:=.slice (some ⟨v6.heap.size,0,none⟩) 1 1) (w1:=v6.alloc (.cells #[.int .i64 q] 3 (0,0))) (by rfl) rfl ?hr ?_;(case hr=>first|(go_simp;done)|(go_simp;rfl))
            refine hK.out _ _ (box7 (blk_alloc D.out.eb _)).2.2.2.2.2.2 (fun hHeld=>?_)
            clear hK K_
            refine nO (some 87) ?_
            refine one_ (i:=7) (N:=some 88) (bM 11 255) rfl rfl (one_of HT_.out (by kernel_rfl)) (by decide) (fun K_ hK=>?_)
            refine Kd.R_append_step (Kd.int .i64) (w0:=v6) (W:=v6) w.heap.size (by rfl) (.tmp 83) (.tmp 87) 25 3 (.int .i64 0) 8 rfl Try.underlying25 info3 rfl (by decide) (by omega) (.slice F x.length f) x q [.int .i64 q] (fun _=>True) (fun _=>False) rfl rfl ?aP (fun _ hk=>hk.elim) (fun _ _=>trivial) ?aO (Below.refl _ _) ?aS ?aL ?_;(case aP=>exact rfl);(case aO=>exact D.out.eo);(case aS=>exact D.out.d.k.1);(case aL=>have:=HI.out;have:=Hm.out;omega)
            intro v66 w5 ho hb hg hat
            rw[←EX2.out]at ho
            obtain⟨F2,f2_,ee⟩:=Kd.R_slice ho
            subst ee
            replace D:=AK (D.out.grown hg ho)
            clear ho hb hg hat
            refine hK.out _ _ (box7 D.out.eb).2.2.2.2.2.2 (fun hHeld=>?_)
            clear hK K_
            refine nO (some 88) ?_
            refine pU HT_ 8 (some 89) (bM 11 511) ?_
            refine pU HT_ 9 (some 90) (bM 11 1023) ?_
            refine last_ (i:=10) (N:=none) #[tT,tT,tT,tT,tT,tT,tT,tT,tT,tT,tT] rfl rfl (one_of HT_.out (by kernel_rfl)) (by decide) (fun K_ hK=>?_)
            have hx:=(box7 D.out.eb).2.2.2.2.2.2
            have hf:=bfz D.out.eb 6
            have N0:=AK (DW.set D.out 6 (.slice F2 x2.length f2_) (evC ⟨1,f1,f2,f3,⟨2,⟨#[]⟩,x2⟩⟩ F2 f2_) rfl)
            refine skip_ (w1:=?_) (by rfl) rfl ?_ ?_
            rotate_left
            · go_simp
              rfl
            clear hx hf
            refine hK.out _ _ ?_
            clear hK K_
            refine done_ (done_of HT_.out (by kernel_rfl)) ?_
            clear HT_ HW_ hHeld
            go_wp2
            go_roundg k1
            case measure=>omega
            case rel=>
              have h1:=HI.out
              have h2:=Hm.out
              have hl:x2.length=x.length+1:=by rw[EX2.out];simp
              rw[wrap_in (x:=i - 1) (by omega) (by omega)]
              exact⟨i - 1,x2,F2,f2_,rfl,⟨by omega,by omega⟩,⟨N0.out.more (by rw[hl];omega)⟩⟩
    · rcases h with rfl|rfl
      all_goals
        obtain⟨q0,q1,q2,q3,q4,q5,q6⟩:=box7 D.out.eb
        obtain⟨z0,z1,z2,z3,z4,z5,z6⟩:=frz7 D.out.eb
        go_wp2
        go_meet
        case rel=>exact⟨⟨2,f1,f2,f3,⟨0,⟨#[]⟩,[]⟩⟩,none,0,⟨(by simp),tx_0⟩,⟨((DW.set D.out 0 (.int .i64 2) (evC ⟨2,f1,f2,f3,⟨0,⟨#[]⟩,[]⟩⟩ none 0) rfl)).more (by omega)⟩⟩
    · subst h
      all_goals
        obtain⟨q0,q1,q2,q3,q4,q5,q6⟩:=box7 D.out.eb
        obtain⟨z0,z1,z2,z3,z4,z5,z6⟩:=frz7 D.out.eb
        go_wp2
        go_meet
        case rel=>exact⟨⟨3,f1,f2,f3,⟨0,⟨#[]⟩,[]⟩⟩,none,0,⟨(by simp),tx_0⟩,⟨((DW.set D.out 0 (.int .i64 3) (evC ⟨3,f1,f2,f3,⟨0,⟨#[]⟩,[]⟩⟩ none 0) rfl)).more (by omega)⟩⟩
    · rcases h with rfl|rfl
      all_goals
        obtain⟨q0,q1,q2,q3,q4,q5,q6⟩:=box7 D.out.eb
        obtain⟨z0,z1,z2,z3,z4,z5,z6⟩:=frz7 D.out.eb
        go_wp2
        go_meet
        case rel=>exact⟨⟨4,f1,f2,f3,⟨0,⟨#[]⟩,[]⟩⟩,none,0,⟨(by simp),tx_0⟩,⟨((DW.set D.out 0 (.int .i64 4) (evC ⟨4,f1,f2,f3,⟨0,⟨#[]⟩,[]⟩⟩ none 0) rfl)).more (by omega)⟩⟩
    · subst h
      obtain⟨q0,q1,q2,q3,q4,q5,q6⟩:=box7 D.out.eb
      obtain⟨z0,z1,z2,z3,z4,z5,z6⟩:=frz7 D.out.eb
      go_wp2_with fail
      have D2:=AK (DW.set D.out 0 (.int .i64 1) (evC ⟨1,f1,f2,f3,⟨0,⟨#[]⟩,[]⟩⟩ none 0) rfl)
      clear q0 q1 q2 q3 q4 q5 q6 z0 z1 z2 z3 z4 z5 z6
      clear D
      generalize w6.setCell ⟨n8,0,none⟩ (.int .i64 1)=w7 at D2 ⊢
      have D:=D2
      clear D2
      refine(pick_c (P:=P+4) (G.r.length:Int) D.out.d.r D.out.d.b (by have:=HP.out;omega)).mono ?_
      rintro en w8 ⟨a,rfl,ha,hr,hb,hk⟩
      replace D:=AK (D.out.pick hr hb hk)
      clear hr hb hk
      have Ha:=AK ha
      clear ha
      go_wp2_with fail
      refine(pick_c (P:=P+4+1) (G.r.length:Int) D.out.d.r D.out.d.b (by have:=HP.out;omega)).mono ?_
      rintro en w9 ⟨b,rfl,hb,hr,hb,hk⟩
      replace D:=AK (D.out.pick hr hb hk)
      clear hr hb hk
      have Hb:=AK hb
      clear hb
      go_wp2_with ((with_reducible refine gate_dst (N:=111) rfl ?_);refine Kd.R_lit (Kd.int .i64) (w0:=w9) w.heap.size 3 ?hg (N:=111) ?hd (xs:=([a,b]:List Int)) (inner:=[.int .i64 a,.int .i64 b]) (ok:=fun _=>True) (okp:=fun _=>False) ?hr ?hp (fun _ hk=>hk.elim) trivial (Below.refl _ _) ?hz (by simp) ?_;(case hd=>rfl);(case hg=>rfl);(case hr=>first|(go_simp;done)|(go_simp;rfl));(case hp=>exact(Reps.one (show Kd.M (Kd.int .i64) _ _ _ a [.int .i64 a]from rfl) (Reps.one (show Kd.M (Kd.int .i64) _ _ _ b [.int .i64 b]from rfl) (Reps.none _ _))));(case hz=>exact D.out.d.k.1);intro v63 w10 hs hb hg hn;obtain⟨F,f,hv⟩:=Kd.R_slice hs;subst hv;have D2:=AK ((D.out.below (gb_none hg)).row hs);clear hb hg hn hs;obtain⟨q0,q1,q2,q3,q4,q5,q6⟩:=box7 D2.out.eb;obtain⟨z0,z1,z2,z3,z4,z5,z6⟩:=frz7 D2.out.eb)
      clear D
      have D:=D2
      go_meet
      case rel=>exact⟨⟨1,f1,f2,f3,⟨3,⟨#[]⟩,[a,b]⟩⟩,F,f,⟨(by simp),tx_0⟩,⟨((DW.set (DW.set (DW.set D.out 4 (.int .i64 3) _ rfl) 5 (.string ⟨#[]⟩) _ rfl) 6 (.slice F 2 f) (evC ⟨1,f1,f2,f3,⟨3,⟨#[]⟩,[a,b]⟩⟩ F f) rfl)).more (by omega)⟩⟩
    · subst h
      obtain⟨q0,q1,q2,q3,q4,q5,q6⟩:=box7 D.out.eb
      obtain⟨z0,z1,z2,z3,z4,z5,z6⟩:=frz7 D.out.eb
      go_wp2
      go_meet
      case rel=>exact⟨⟨1,f1,f2,f3,⟨4,⟨#[]⟩,[]⟩⟩,none,0,⟨(by simp),tx_0⟩,⟨((DW.set (DW.set (DW.set (DW.set D.out 0 (.int .i64 1) _ rfl) 4 (.int .i64 4) _ rfl) 5 (.string ⟨#[]⟩) _ rfl) 6 (.slice none 0 0) (evC ⟨1,f1,f2,f3,⟨4,⟨#[]⟩,[]⟩⟩ none 0) rfl)).more (by omega)⟩⟩
    · subst h
      have D2:=AK (DW.set D.out 0 (.int .i64 5) (evC ⟨5,f1,f2,f3,⟨0,⟨#[]⟩,[]⟩⟩ none 0) rfl)
      obtain⟨q0,q1,q2,q3,q4,q5,q6⟩:=box7 D.out.eb
      obtain⟨z0,z1,z2,z3,z4,z5,z6⟩:=frz7 D.out.eb
      go_wp2_with fail
      clear q0 q1 q2 q3 q4 q5 q6 z0 z1 z2 z3 z4 z5 z6
      clear D
      generalize w6.setCell ⟨n8,0,none⟩ (.int .i64 5)=w7 at D2 ⊢
      go_loopg [10] G.r.length (fun kq vi w'=>∃(i y:Int),vi=.int .i64 i∧Aside0 (0≤i∧i+kq=G.r.length)∧Aside0 (DW v w g n8 (P+4) #[.slice A0 G.o.length c0,.slice A1 G.r.length c1,.slice A2 G.w.length c2,.slice A3 G.d.length c3] (evC ⟨5,y,f2,f3,⟨0,⟨#[]⟩,[]⟩⟩ none 0) none 0 [] w'))
      case atStart=>exact⟨0,f1,rfl,⟨by omega,by omega⟩,D2⟩
      case round=>
        clear D2
        obtain⟨i,y,rfl,HI,D⟩:=hrel
        obtain⟨p0,p1,p2,p3⟩:=box4 D.out.d.hb
        cases gk with
        | zero=>
          have c9:decide (i<(G.r.length:Int))=false:=deF (by have:=HI.out;omega)
          go_wp2
          go_meet
          case rel=>exact⟨⟨5,y,f2,f3,⟨0,⟨#[]⟩,[]⟩⟩,none,0,⟨by simp,tx_0⟩,⟨D.out.more (by omega)⟩⟩
        | succ k1=>
          have c9:decide (i<(G.r.length:Int))=true:=deT (by have:=HI.out;omega)
          have hi0:=eq_true (show 0≤i by have:=HI.out;omega)
          have hi1:=eq_true (show i<(G.r.length:Int)by have:=HI.out;omega)
          have HOW:=AK (HR0.out.own D.out.d.k HO.out.1).reads
          obtain⟨ad,e1,hq⟩:=Kd.at_int HOW.out.r1 i (by have:=HI.out;omega) (by have:=HI.out;omega)
          subst e1
          have hqr:=HO.out.2.2 _ (getD_mem G.r 0 i (by have:=HI.out;omega) (by have:=HI.out;omega))
          rw[show G.r.getD i.toNat 0=rd G.r i from rfl]at hqr
          obtain⟨q,eq⟩:∃q,q=rd G.r i:=⟨_,rfl⟩
          rw[←eq]at hq hqr
          clear eq
          by_cases n0:0≤q
          · have n1:decide (0≤q)=true:=deT n0
            have j0:=eq_true n0
            have j1:=eq_true hqr
            obtain⟨ao,B,cb,e2,x0,_,_,_,_⟩:=at_T38 HOW.out.r0 q n0 hqr
            subst e2
            obtain⟨bk,hbk⟩:∃b,((rd_T38 G.o q).f0 == 4)=b:=⟨_,rfl⟩
            generalize (rd_T38 G.o q).f0=kd at x0 hbk
            clear n0 hqr
            cases bk
            · skip
              go_wp2_with fail
              go_quiet (fail)
              go_wp2
              go_roundg k1
              case measure=>omega
              case rel=>
                rw[wrap_succ i (by have:=HI.out;omega) (by have:=HI.out;have:=HO.out.2.1;omega)]
                exact⟨i+1,y,rfl,⟨by have:=HI.out;omega,by have:=HI.out;omega⟩,⟨D.out.below (pw_below_drewN (Below.refl _ _) _)⟩⟩
            · skip
              obtain⟨q0,q1,q2,q3,q4,q5,q6⟩:=box7 D.out.eb
              obtain⟨z0,z1,z2,z3,z4,z5,z6⟩:=frz7 D.out.eb
              go_wp2_with fail
              go_quiet (fail)
              go_wp2
              go_roundg k1
              case measure=>omega
              case rel=>
                rw[wrap_succ i (by have:=HI.out;omega) (by have:=HI.out;have:=HO.out.2.1;omega)]
                exact⟨i+1,i,rfl,⟨by have:=HI.out;omega,by have:=HI.out;omega⟩,⟨DW.set (D.out.below (pw_below_drewN (Below.refl _ _) _)) 1 (.int .i64 i) (evC ⟨5,i,f2,f3,⟨0,⟨#[]⟩,[]⟩⟩ none 0) rfl⟩⟩
          · have n1:decide (0≤q)=false:=deF n0
            clear n0 hqr
            go_wp2_with fail
            go_quiet (fail)
            go_wp2
            go_roundg k1
            case measure=>omega
            case rel=>
              rw[wrap_succ i (by have:=HI.out;omega) (by have:=HI.out;have:=HO.out.2.1;omega)]
              exact⟨i+1,y,rfl,⟨by have:=HI.out;omega,by have:=HI.out;omega⟩,⟨D.out.below (pw_below_drewN (Below.refl _ _) _)⟩⟩
    · subst h
      have D2:=AK (DW.set D.out 0 (.int .i64 6) (evC ⟨6,f1,f2,f3,⟨0,⟨#[]⟩,[]⟩⟩ none 0) rfl)
      obtain⟨q0,q1,q2,q3,q4,q5,q6⟩:=box7 D.out.eb
      obtain⟨z0,z1,z2,z3,z4,z5,z6⟩:=frz7 D.out.eb
      go_wp2_with fail
      clear q0 q1 q2 q3 q4 q5 q6 z0 z1 z2 z3 z4 z5 z6
      clear D
      generalize w6.setCell ⟨n8,0,none⟩ (.int .i64 6)=w7 at D2 ⊢
      go_loopg [11] G.r.length (fun kq vi w'=>∃(i y:Int),vi=.int .i64 i∧Aside0 (0≤i∧i+kq=G.r.length)∧Aside0 (DW v w g n8 (P+4) #[.slice A0 G.o.length c0,.slice A1 G.r.length c1,.slice A2 G.w.length c2,.slice A3 G.d.length c3] (evC ⟨6,f1,y,f3,⟨0,⟨#[]⟩,[]⟩⟩ none 0) none 0 [] w'))
      case atStart=>exact⟨0,f2,rfl,⟨by omega,by omega⟩,D2⟩
      case round=>
        clear D2
        obtain⟨i,y,rfl,HI,D⟩:=hrel
        obtain⟨p0,p1,p2,p3⟩:=box4 D.out.d.hb
        cases gk with
        | zero=>
          have c9:decide (i<(G.r.length:Int))=false:=deF (by have:=HI.out;omega)
          go_wp2_with fail
          clear p0 p1 p2 p3
          refine(pick_c (P:=P+4) 3 D.out.d.r D.out.d.b (by have:=HP.out;omega)).mono ?_
          rintro en w8 ⟨z,rfl,hz,hr,hb,hk⟩
          replace D:=AK (D.out.pick hr hb hk)
          clear hr hb hk
          have Hz:=AK hz
          clear hz
          obtain⟨bz,hbz⟩:∃b,decide (0<z)=b:=⟨_,rfl⟩
          cases bz
          · skip
            go_wp2
            go_meet
            case rel=>exact⟨⟨6,f1,y,f3,⟨0,⟨#[]⟩,[]⟩⟩,none,0,⟨(by simp),tx_0⟩,⟨(D.out).more (by omega)⟩⟩
          · skip
            obtain⟨q0,q1,q2,q3,q4,q5,q6⟩:=box7 D.out.eb
            obtain⟨z0,z1,z2,z3,z4,z5,z6⟩:=frz7 D.out.eb
            go_wp2
            go_meet
            case rel=>exact⟨⟨7,f1,y,f3,⟨0,⟨#[]⟩,[]⟩⟩,none,0,⟨(by simp),tx_0⟩,⟨((DW.set D.out 0 (.int .i64 7) (evC ⟨7,f1,y,f3,⟨0,⟨#[]⟩,[]⟩⟩ none 0) rfl)).more (by omega)⟩⟩
        | succ k1=>
          have c9:decide (i<(G.r.length:Int))=true:=deT (by have:=HI.out;omega)
          have hi0:=eq_true (show 0≤i by have:=HI.out;omega)
          have hi1:=eq_true (show i<(G.r.length:Int)by have:=HI.out;omega)
          have HOW:=AK (HR0.out.own D.out.d.k HO.out.1).reads
          obtain⟨ad,e1,hq⟩:=Kd.at_int HOW.out.r1 i (by have:=HI.out;omega) (by have:=HI.out;omega)
          subst e1
          have hqr:=HO.out.2.2 _ (getD_mem G.r 0 i (by have:=HI.out;omega) (by have:=HI.out;omega))
          rw[show G.r.getD i.toNat 0=rd G.r i from rfl]at hqr
          obtain⟨q,eq⟩:∃q,q=rd G.r i:=⟨_,rfl⟩
          rw[←eq]at hq hqr
          clear eq
          by_cases n0:0≤q
          · have n1:decide (0≤q)=true:=deT n0
            have j0:=eq_true n0
            have j1:=eq_true hqr
            obtain⟨ao,B,cb,e2,x0,_,_,_,_⟩:=at_T38 HOW.out.r0 q n0 hqr
            subst e2
            obtain⟨bk,hbk⟩:∃b,((rd_T38 G.o q).f0 == 4)=b:=⟨_,rfl⟩
            generalize (rd_T38 G.o q).f0=kd at x0 hbk
            clear n0 hqr
            cases bk
            · skip
              go_wp2_with fail
              go_quiet (fail)
              go_wp2
              go_roundg k1
              case measure=>omega
              case rel=>
                rw[wrap_succ i (by have:=HI.out;omega) (by have:=HI.out;have:=HO.out.2.1;omega)]
                exact⟨i+1,y,rfl,⟨by have:=HI.out;omega,by have:=HI.out;omega⟩,⟨D.out.below (pw_below_drewN (Below.refl _ _) _)⟩⟩
            · skip
              obtain⟨q0,q1,q2,q3,q4,q5,q6⟩:=box7 D.out.eb
              obtain⟨z0,z1,z2,z3,z4,z5,z6⟩:=frz7 D.out.eb
              go_wp2_with fail
              go_quiet (fail)
              go_wp2
              go_roundg k1
              case measure=>omega
              case rel=>
                rw[wrap_succ i (by have:=HI.out;omega) (by have:=HI.out;have:=HO.out.2.1;omega)]
                exact⟨i+1,i,rfl,⟨by have:=HI.out;omega,by have:=HI.out;omega⟩,⟨DW.set (D.out.below (pw_below_drewN (Below.refl _ _) _)) 2 (.int .i64 i) (evC ⟨6,f1,i,f3,⟨0,⟨#[]⟩,[]⟩⟩ none 0) rfl⟩⟩
          · have n1:decide (0≤q)=false:=deF n0
            clear n0 hqr
            go_wp2_with fail
            go_quiet (fail)
            go_wp2
            go_roundg k1
            case measure=>omega
            case rel=>
              rw[wrap_succ i (by have:=HI.out;omega) (by have:=HI.out;have:=HO.out.2.1;omega)]
              exact⟨i+1,y,rfl,⟨by have:=HI.out;omega,by have:=HI.out;omega⟩,⟨D.out.below (pw_below_drewN (Below.refl _ _) _)⟩⟩
  case rest=>
    clear D
    obtain⟨e,F,f,HE,D⟩:=hcut
    exact ‹∀(a:Act) (w:World),Code.wp Try.prog (codeAt Try.f102 [true,true,true,true]) _ a w→_› _ _ (draw48 HP HE D)
end
end
section
section
variable {l0:List S38} {l1:List Int} {l2 l3:List S60}
theorem OkH.b (h:OkH l0 l1 l2 l3):okB l0 l1 l2 l3=true:=by
  unfold okB
  simp only[Bool.and_eq_true,decide_eq_true_eq,List.all_eq_true]
  exact⟨⟨⟨⟨⟨⟨h.n,h.r⟩,h.w⟩,h.o⟩,fun p hp=>by have:=h.rs p hp;unfold inB;simp;omega⟩,h.ws⟩,h.ds⟩
theorem obB_mk {n m:Int} {x y:S38} (h:obB n x=true) (e0:y.f0=x.f0) (e1:y.f1=x.f1) (e2:y.f2.length=x.f2.length) (hr:∀p∈y.f2,-1≤p∧p<m):obB m y=true:=by
  unfold obB at h ⊢
  rw[Bool.and_eq_true]at h ⊢
  refine⟨?_,List.all_eq_true.2 fun p hp=>?_⟩
  · have:=h.1
    unfold shB at this ⊢
    rw[e0,e1,e2];exact this
  · have:=hr p hp
    unfold inB;simp;omega
theorem obB_mono {n m:Int} {x:S38} (h:obB n x=true) (hn:n≤m):obB m x=true:=
  obB_mk h rfl rfl rfl (fun p hp=>by have:=(ob_parts h).1 p hp;omega)
theorem wtB_mk {m0:List S38} {x y:S60} (h0:0≤x.f0∧x.f0<m0.length) (hk:(rd_T38 m0 x.f0).f0=4) (h1:0≤x.f1∧x.f1<m0.length):wtB m0 x=true:=by
  unfold wtB
  simp only[Bool.and_eq_true,decide_eq_true_eq]
  exact⟨⟨⟨⟨h0.1,h0.2⟩,hk⟩,h1.1⟩,h1.2⟩
theorem OkH.setR (h:OkH l0 l1 l2 l3) (i:Nat) {p:Int} (hp:-1≤p∧p<l0.length):OkH l0 (l1.set i p) l2 l3:=
  ⟨h.n,by rw[List.length_set];exact h.r,h.w,h.o,fun q hq=>(List.mem_or_eq_of_mem_set hq).elim (fun hq=>h.rs q hq) (fun e=>e ▸ hp),h.ws,h.ds⟩
theorem rd_T38_app (l:List S38) (m:List S38) (p:Int) (h0:0≤p) (h1:p<l.length):rd_T38 (l++m) p=rd_T38 l p:=by
  unfold rd_T38
  rw[List.getD_eq_getElem?_getD,List.getD_eq_getElem?_getD,List.getElem?_append_left (by omega)]
theorem rd_T38_end (l:List S38) (o:S38) (p:Int) (h:p=l.length):rd_T38 (l++[o]) p=o:=by
  subst h
  unfold rd_T38
  rw[List.getD_eq_getElem?_getD,Int.toNat_natCast];simp
theorem rd_T38_set (l:List S38) (k p:Int) (o:S38) (hk:0≤k) (h0:0≤p) (h1:p<l.length):rd_T38 (l.set k.toNat o) p=if p=k then o else rd_T38 l p:=by
  unfold rd_T38
  rw[List.getD_eq_getElem?_getD,List.getD_eq_getElem?_getD,List.getElem?_set]
  by_cases c:p=k
  · subst c;rw[if_pos rfl,if_pos (by omega),if_pos rfl];rfl
  · rw[if_neg (by omega),if_neg c]
theorem OkH.pushO (h:OkH l0 l1 l2 l3) {o:S38} (ho:obB l0.length o=true) (hn:¬ 60≤l0.length) (i:Nat):OkH (l0++[o]) (l1.set i l0.length) l2 l3:=by
  have hl:((l0++[o]).length:Int)=l0.length+1:=by simp
  have hw:∀x:S60,wtB l0 x=true→wtB (l0++[o]) x=true:=fun x hx=>by
    obtain⟨a,b,c,d,e⟩:=wt_parts hx
    exact wtB_mk (y:=x) ⟨a,by omega⟩ (by rw[rd_T38_app _ _ _ a b];exact c) ⟨d,by omega⟩
  refine⟨by simp;omega,by rw[List.length_set];exact h.r,h.w,fun x hx=>?_,fun q hq=>?_,fun x hx=>hw x (h.ws x hx),fun x hx=>hw x (h.ds x hx)⟩
  · rw[hl]
    rcases List.mem_append.1 hx with hx|hx
    · exact obB_mono (h.o x hx) (by omega)
    · rw[List.mem_singleton.1 hx];exact obB_mono ho (by omega)
  · rw[hl]
    rcases List.mem_or_eq_of_mem_set hq with hq|rfl
    · have:=h.rs q hq;omega
    · omega
theorem OkH.setRef (h:OkH l0 l1 l2 l3) {k:Int} (hk0:0≤k) (hk1:k<l0.length) (a:Int) {p:Int} (hp:-1≤p∧p<l0.length):OkH (l0.set k.toNat (putRef (rd_T38 l0 k) a p)) l1 l2 l3:=by
  have hw:∀x:S60,wtB l0 x=true→wtB (l0.set k.toNat (putRef (rd_T38 l0 k) a p)) x=true:=fun x hx=>by
    obtain⟨b,c,d,e,f⟩:=wt_parts hx
    refine wtB_mk (y:=x) ⟨b,by rw[List.length_set];exact c⟩ ?_ ⟨e,by rw[List.length_set];exact f⟩
    rw[rd_T38_set _ _ _ _ hk0 b c]
    split
    · rename_i e;rw[←e];exact d
    · exact d
  refine⟨by rw[List.length_set];exact h.n,h.r,h.w,fun x hx=>?_,fun q hq=>by rw[List.length_set];exact h.rs q hq,fun x hx=>hw x (h.ws x hx),fun x hx=>hw x (h.ds x hx)⟩
  rw[List.length_set]
  rcases List.mem_or_eq_of_mem_set hx with hx|rfl
  · exact h.o x hx
  · refine obB_mk (ob_at h hk0 hk1) rfl rfl (List.length_set ..) (fun q hq=>?_)
    rcases List.mem_or_eq_of_mem_set hq with hq|rfl
    · exact(ob_parts (ob_at h hk0 hk1)).1 q hq
    · exact hp
theorem askD_sub (g:Int):∀(l:List S60) (y:Int × List S60),askD g l=some y→(∃z∈l,y.1=z.f1∧z.f0=g)∧(∀z∈y.2,z∈l)∧y.2.length+1=l.length:=by
  intro l
  induction l with
  | nil=>intro y h;cases h
  | cons x l ih=>
    intro y h
    simp only[askD]at h
    split at h
    · rename_i c
      injection h with h
      subst h
      exact⟨⟨x,List.mem_cons_self ..,rfl,c⟩,fun z hz=>List.mem_cons_of_mem _ hz,by simp⟩
    · cases e:askD g l with
      | none=>rw[e]at h;cases h
      | some u=>
        rw[e]at h
        injection h with h
        subst h
        obtain⟨⟨z,hz,e1,e2⟩,h2,h3⟩:=ih u e
        refine⟨⟨z,List.mem_cons_of_mem _ hz,e1,e2⟩,fun z hz=>?_,by simp only[List.length_cons];omega⟩
        rcases List.mem_cons.1 hz with rfl|hz
        · exact List.mem_cons_self ..
        · exact List.mem_cons_of_mem _ (h2 z hz)
theorem askD_none (g:Int) (l:List S60) (z:S60) (h:askD g l=none) (hz:z.f0≠g):askD g (l++[z])=none:=by
  induction l with
  | nil=>simp[askD,hz]
  | cons x l ih=>
    simp only[askD,List.cons_append]at h ⊢
    by_cases c:x.f0=g
    · rw[if_pos c]at h;cases h
    · rw[if_neg c]at h ⊢
      rw[ih (by simpa using h)];rfl
theorem askD_at (g:Int) (l m:List S60) (z:S60) (h:askD g l=none) (hz:z.f0=g):askD g (l++z :: m)=some (z.f1,l++m):=by
  induction l with
  | nil=>simp[askD,hz]
  | cons x l ih=>
    simp only[askD,List.cons_append]at h ⊢
    by_cases c:x.f0=g
    · rw[if_pos c]at h;cases h
    · rw[if_neg c]at h ⊢
      rw[ih (by simpa using h)];rfl
theorem rd_T38_map (f:Int→S38) (x:List Int) (i:Int) (h0:0≤i) (h1:i<x.length):rd_T38 (x.map f) i=f (rd x i):=by
  unfold rd_T38 rd
  rw[List.getD_eq_getElem?_getD,List.getD_eq_getElem?_getD,List.getElem?_map,List.getElem?_eq_getElem (show i.toNat<x.length by omega)]
  rfl
theorem wh_range (x:List Int) (p:Int):-1≤wh x p∧wh x p<x.length:=by
  unfold wh
  have:=idxL_range x p
  split<;>omega
theorem OkH.move (h:OkH l0 l1 l2 l3) {x:List Int} (hg:GoodL l0.length x):OkH (moveL l0 l1 l2 l3 x).o (moveL l0 l1 l2 l3 x).r (moveL l0 l1 l2 l3 x).w (moveL l0 l1 l2 l3 x).d:=by
  have hl:=nodup_len _ _ hg
  have hm:((x.map fun p=>objOf x (rd_T38 l0 p)).length:Int)=x.length:=by rw[List.length_map]
  have hw:∀(l:List S60),(∀z∈l,wtB l0 z=true)→∀z∈movedW x l,wtB (x.map fun p=>objOf x (rd_T38 l0 p)) z=true:=fun l hl z hz=>by
    obtain⟨u,hu,rfl⟩:=List.mem_map.1 hz
    obtain⟨h1,h2⟩:=List.mem_filter.1 hu
    rw[Bool.and_eq_true,decide_eq_true_eq,decide_eq_true_eq]at h2
    have r0:=idxL_range x u.f0
    have r1:=idxL_range x u.f1
    refine wtB_mk (y:=u) ⟨h2.1,by rw[hm];exact r0.2⟩ ?_ ⟨h2.2,by rw[hm];exact r1.2⟩
    have e:=(idxL_get ((idxL_nonneg x u.f0).1 h2.1)).2.2
    show (rd_T38 (x.map _) (idxL x u.f0)).f0=4
    rw[rd_T38_map _ _ _ h2.1 r0.2,e]
    exact(wt_parts (hl u h1)).2.2.1
  refine⟨?_,?_,?_,fun z hz=>?_,fun q hq=>?_,hw _ h.ws,hw _ h.ds⟩
  · show (x.map _).length≤60
    rw[List.length_map];have:=h.n;omega
  · show (l1.map _).length≤8
    rw[List.length_map];exact h.r
  · show (movedW x l2).length+(movedW x l3).length≤20
    have h1:(movedW x l2).length≤l2.length:=by unfold movedW;rw[List.length_map];exact List.length_filter_le ..
    have h2:(movedW x l3).length≤l3.length:=by unfold movedW;rw[List.length_map];exact List.length_filter_le ..
    have:=h.w
    omega
  · show obB ((x.map _).length:Int) z=true
    rw[hm]
    obtain⟨p,hp,rfl⟩:=List.mem_map.1 hz
    have hp2:=hg.2 p hp
    refine obB_mk (ob_at h hp2.1 hp2.2) rfl rfl (List.length_map ..) (fun q hq=>?_)
    obtain⟨r,_,rfl⟩:=List.mem_map.1 hq
    exact wh_range x r
  · show -1≤q∧q<((x.map _).length:Int)
    rw[hm]
    obtain⟨r,_,rfl⟩:=List.mem_map.1 hq
    exact wh_range x r
end
theorem collect_ok (h:Hp):(collectB h).1.ok=true:=by
  unfold collectB
  by_cases c:h.ok=true
  · rw[if_pos c]
    have hk2:=tell_ok (h.w.length+1) (ok_parts c)
    exact(OkH.move hk2 (reach_good hk2)).b
  · rw[if_neg c];rfl
theorem part_range {h:Hp} (hk:OkH h.o h.r h.w h.d) (p a:Int) (hp:¬ partL h.o h.r p a<0):(0≤partL h.o h.r p a∧partL h.o h.r p a<h.o.length)∧0≤a∧a<(rd_T38 h.o (partL h.o h.r p a)).f2.length:=by
  have hr:=known_range hk p
  have e:partL h.o h.r p a=knownL h.r p∧0≤a∧a<(rd_T38 h.o (knownL h.r p)).f2.length:=by
    unfold partL at hp ⊢
    split
    · rename_i c;rw[if_pos c]at hp;exact absurd (by decide) hp
    · rename_i c;rw[if_neg c]at hp
      split
      · rename_i d;exact⟨rfl,d⟩
      · rename_i d;rw[if_neg d]at hp;exact absurd (by decide) hp
  rw[e.1]at hp ⊢
  exact⟨⟨by omega,hr.2⟩,e.2⟩
theorem ask_ok {h:Hp} (hk:OkH h.o h.r h.w h.d) (g:Int):(-1≤askP g h.d∧askP g h.d<h.o.length)∧(askL g h.d).length≤h.d.length∧∀z∈askL g h.d,z∈h.d:=by
  unfold askP askL
  cases e:askD g h.d with
  | none=>exact⟨⟨by simp,by simp;omega⟩,Nat.le_refl _,fun z hz=>hz⟩
  | some y=>
    obtain⟨⟨z,hz,e1,_⟩,h2,h3⟩:=askD_sub g h.d y e
    have:=wt_parts (hk.ds z hz)
    show (-1≤y.1∧y.1<_)∧y.2.length≤_∧∀z∈y.2,_
    rw[e1]
    exact⟨⟨by omega,this.2.2.2.2⟩,by omega,h2⟩
theorem isGuard_iffP (h:Hp) (p:Int):isGuard h p=true↔0≤p∧(rd_T38 h.o p).f0=4:=by
  unfold isGuard;rw[Bool.and_eq_true,decide_eq_true_eq,decide_eq_true_eq]
theorem do_ok {h:Hp} (hk:h.ok=true) (e:S40):(doB h e).1.ok=true:=by
  have hh:OkH h.o h.r h.w h.d:=ok_parts hk
  unfold doB
  split
  · unfold makesB
    split
    · split
      · exact hk
      · exact OkH.b (hh.pushO (by assumption) (by assumption) _)
    · exact hk
  split
  · unfold takesB
    split
    · exact hk
    · rename_i c
      obtain⟨h1,h2⟩:=part_range hh _ _ c
      exact OkH.b (hh.setR _ ((ob_parts (ob_at hh h1.1 h1.2)).1 _ (getD_mem _ 0 _ h2.1 h2.2)))
  split
  · unfold setsB
    split
    · exact hk
    · rename_i c
      obtain⟨h1,h2⟩:=part_range hh _ _ c
      exact OkH.b (hh.setRef h1.1 h1.2 _ (known_range hh _))
  split
  · exact OkH.b (hh.setR _ ⟨by omega,by omega⟩)
  split
  · unfold watchesB
    split
    · rename_i c
      split
      · exact hk
      · rename_i d
        have r1:=known_range hh e.f1
        have r2:=known_range hh e.f2
        have g:=(isGuard_iffP h _).1 c.1
        refine OkH.b ⟨hh.n,hh.r,by show (h.w++[_]).length+h.d.length≤20;rw[List.length_append,List.length_singleton];omega,hh.o,hh.rs,fun z hz=>?_,hh.ds⟩
        rcases List.mem_append.1 hz with hz|hz
        · exact hh.ws z hz
        · rw[List.mem_singleton.1 hz]
          exact wtB_mk (y:=z) ⟨g.1,r1.2⟩ g.2 ⟨c.2,r2.2⟩
    · exact hk
  split
  · unfold asksB
    split
    · obtain⟨h1,h2,h3⟩:=ask_ok hh (knownL h.r e.f2)
      have:=hh.setR e.f1.toNat h1
      exact OkH.b ⟨this.n,this.r,by have:=hh.w;show h.w.length+(askL (knownL h.r e.f2) h.d).length≤20;omega,this.o,this.rs,this.ws,fun z hz=>hh.ds z (h3 z hz)⟩
    · exact hk
  split
  · exact collect_ok h
  · exact hk
theorem step_ok (h:Hp) (e:S40):(stepB h e).1.ok=true:=by
  unfold stepB
  by_cases c:h.ok=true
  · rw[if_pos c]
    split
    · exact do_ok c e
    · exact c
  · rw[if_neg c];rfl
end
end Go.Proofs.Ytigjhfijkdlldaa.H
