import Derived.Shelf.Strconv.Itoa3
import Derived.Shelf.Strings.Split
import Derived.Shelf.Vars
import Derived.Test.YtigjhfijkdlldaaDoorProg
import Derived.Test.YtigjhfijkdlldaaDoorSliSg
section
namespace Go.Proofs
open Go.Shelf
def Tryd.lays171_ren:Go.Shelf.Ren:=⟨fun|171=>27|243=>45|246=>60|283=>76|284=>77|285=>78|286=>79|129=>86|317=>85|318=>87|319=>88|320=>89|337=>90|338=>91|n=>n,fun|3=>3|9=>9|2=>2|4=>4|171=>88|0=>0|53=>89|37=>24|5=>5|173=>92|212=>103|51=>99|20=>20|213=>104|46=>87|232=>107|233=>108|n=>n,fun|17=>3|18=>4|19=>5|n=>n⟩
theorem Tryd.lays171:Go.Proofs.Lays.n171 Tryd.prog Tryd.lays171_ren:={
  mixed:=by kernel_rfl
  f129:=Tryd.func86.trans (congrArg some (by kernel_rfl))
  f171:=Tryd.func27.trans (congrArg some (by kernel_rfl))
  f243:=Tryd.func45.trans (congrArg some (by kernel_rfl))
  f246:=Tryd.func60.trans (congrArg some (by kernel_rfl))
  f283:=Tryd.func76.trans (congrArg some (by kernel_rfl))
  f284:=Tryd.func77.trans (congrArg some (by kernel_rfl))
  f285:=Tryd.func78.trans (congrArg some (by kernel_rfl))
  f286:=Tryd.func79.trans (congrArg some (by kernel_rfl))
  f317:=Tryd.func85.trans (congrArg some (by kernel_rfl))
  f318:=Tryd.func87.trans (congrArg some (by kernel_rfl))
  f319:=Tryd.func88.trans (congrArg some (by kernel_rfl))
  f320:=Tryd.func89.trans (congrArg some (by kernel_rfl))
  f337:=Tryd.func90.trans (congrArg some (by kernel_rfl))
  f338:=Tryd.func91.trans (congrArg some (by kernel_rfl))
  t0:=Tryd.underlying0
  a0:=Tryd.isAgg0
  z0:=Tryd.sizeOf0
  v0:=Tryd.zeroValue0
  t2:=Tryd.underlying2
  a2:=Tryd.isAgg2
  z2:=Tryd.sizeOf2
  v2:=Tryd.zeroValue2
  t3:=Tryd.underlying3
  a3:=Tryd.isAgg3
  z3:=Tryd.sizeOf3
  v3:=Tryd.zeroValue3
  t4:=Tryd.underlying4
  a4:=Tryd.isAgg4
  z4:=Tryd.sizeOf4
  v4:=Tryd.zeroValue4
  t5:=Tryd.underlying5
  a5:=Tryd.isAgg5
  z5:=Tryd.sizeOf5
  v5:=Tryd.zeroValue5
  t9:=Tryd.underlying9
  a9:=Tryd.isAgg9
  z9:=Tryd.sizeOf9
  v9:=Tryd.zeroValue9
  t20:=Tryd.underlying20
  a20:=Tryd.isAgg20
  z20:=Tryd.sizeOf20
  v20:=Tryd.zeroValue20
  t37:=Tryd.underlying24
  a37:=Tryd.isAgg24
  z37:=Tryd.sizeOf24
  v37:=Tryd.zeroValue24
  t46:=Tryd.underlying87
  a46:=Tryd.isAgg87
  z46:=Tryd.sizeOf87
  v46:=Tryd.zeroValue87
  t51:=Tryd.underlying99
  a51:=Tryd.isAgg99
  z51:=Tryd.sizeOf99
  v51:=Tryd.zeroValue99
  t53:=Tryd.underlying89
  a53:=Tryd.isAgg89
  z53:=Tryd.sizeOf89
  v53:=Tryd.zeroValue89
  t171:=Tryd.underlying88
  a171:=Tryd.isAgg88
  z171:=Tryd.sizeOf88
  v171:=Tryd.zeroValue88
  t173:=Tryd.underlying92
  a173:=Tryd.isAgg92
  z173:=Tryd.sizeOf92
  v173:=Tryd.zeroValue92
  t212:=Tryd.underlying103
  a212:=Tryd.isAgg103
  z212:=Tryd.sizeOf103
  v212:=Tryd.zeroValue103
  t213:=Tryd.underlying104
  a213:=Tryd.isAgg104
  z213:=Tryd.sizeOf104
  t232:=Tryd.underlying107
  a232:=Tryd.isAgg107
  z232:=Tryd.sizeOf107
  v232:=Tryd.zeroValue107
  t233:=Tryd.underlying108
  a233:=Tryd.isAgg108
  z233:=Tryd.sizeOf108
  v233:=Tryd.zeroValue108
  g17:=by kernel_rfl
  g18:=by kernel_rfl
  g19:=by kernel_rfl }
open Go.RowKit Go.Sort Go.Lib in
theorem Tryd.strconv_Itoa_small (i:Nat) (hi:i<100) (w:World) :
    Calls Tryd.prog 27 #[.int .i64 i] w fun e w'=>e=.returned (.string ⟨(Lib.decDigits i).toArray⟩)∧w'=w:=Any.strconv_Itoa_small Tryd.lays171 i hi w
def Tryd.lays146_ren:Go.Shelf.Ren:=⟨fun|146=>13|221=>25|268=>42|138=>43|143=>44|195=>56|197=>57|218=>58|219=>59|260=>71|217=>72|225=>73|224=>74|267=>75|266=>83|314=>84|n=>n,fun|9=>9|31=>27|3=>3|4=>4|0=>0|105=>75|21=>21|5=>5|46=>87|119=>95|139=>98|138=>97|146=>100|51=>99|n=>n,fun|1=>0|3=>1|4=>2|n=>n⟩
theorem Tryd.lays146:Go.Proofs.Lays.n146 Tryd.prog Tryd.lays146_ren:={
  mixed:=by kernel_rfl
  f138:=Tryd.func43.trans (congrArg some (by kernel_rfl))
  f143:=Tryd.func44.trans (congrArg some (by kernel_rfl))
  f146:=Tryd.func13.trans (congrArg some (by kernel_rfl))
  f195:=Tryd.func56.trans (congrArg some (by kernel_rfl))
  f197:=Tryd.func57.trans (congrArg some (by kernel_rfl))
  f217:=Tryd.func72.trans (congrArg some (by kernel_rfl))
  f218:=Tryd.func58.trans (congrArg some (by kernel_rfl))
  f219:=Tryd.func59.trans (congrArg some (by kernel_rfl))
  f221:=Tryd.func25.trans (congrArg some (by kernel_rfl))
  f224:=Tryd.func74.trans (congrArg some (by kernel_rfl))
  f225:=Tryd.func73.trans (congrArg some (by kernel_rfl))
  f260:=Tryd.func71.trans (congrArg some (by kernel_rfl))
  f266:=Tryd.func83.trans (congrArg some (by kernel_rfl))
  f267:=Tryd.func75.trans (congrArg some (by kernel_rfl))
  f268:=Tryd.func42.trans (congrArg some (by kernel_rfl))
  f314:=Tryd.func84.trans (congrArg some (by kernel_rfl))
  t0:=Tryd.underlying0
  a0:=Tryd.isAgg0
  z0:=Tryd.sizeOf0
  v0:=Tryd.zeroValue0
  t3:=Tryd.underlying3
  a3:=Tryd.isAgg3
  z3:=Tryd.sizeOf3
  v3:=Tryd.zeroValue3
  t4:=Tryd.underlying4
  a4:=Tryd.isAgg4
  z4:=Tryd.sizeOf4
  v4:=Tryd.zeroValue4
  t5:=Tryd.underlying5
  a5:=Tryd.isAgg5
  z5:=Tryd.sizeOf5
  v5:=Tryd.zeroValue5
  t9:=Tryd.underlying9
  a9:=Tryd.isAgg9
  z9:=Tryd.sizeOf9
  v9:=Tryd.zeroValue9
  t21:=Tryd.underlying21
  a21:=Tryd.isAgg21
  z21:=Tryd.sizeOf21
  v21:=Tryd.zeroValue21
  t31:=Tryd.underlying27
  a31:=Tryd.isAgg27
  z31:=Tryd.sizeOf27
  v31:=Tryd.zeroValue27
  t46:=Tryd.underlying87
  a46:=Tryd.isAgg87
  z46:=Tryd.sizeOf87
  v46:=Tryd.zeroValue87
  t51:=Tryd.underlying99
  a51:=Tryd.isAgg99
  z51:=Tryd.sizeOf99
  v51:=Tryd.zeroValue99
  t105:=Tryd.underlying75
  a105:=Tryd.isAgg75
  z105:=Tryd.sizeOf75
  v105:=Tryd.zeroValue75
  t119:=Tryd.underlying95
  a119:=Tryd.isAgg95
  z119:=Tryd.sizeOf95
  t138:=Tryd.underlying97
  a138:=Tryd.isAgg97
  z138:=Tryd.sizeOf97
  v138:=Tryd.zeroValue97
  t139:=Tryd.underlying98
  a139:=Tryd.isAgg98
  z139:=Tryd.sizeOf98
  v139:=Tryd.zeroValue98
  t146:=Tryd.underlying100
  a146:=Tryd.isAgg100
  z146:=Tryd.sizeOf100
  v146:=Tryd.zeroValue100
  g1:=by kernel_rfl
  g3:=by kernel_rfl
  g4:=by kernel_rfl }
open Go.RowKit Go.Lib in
theorem Tryd.strings_Split (s sep:ByteArray) (m:Int) (w:World) (hs:s.size<4294967281) (hm:w.cell? ⟨0,0,none⟩=some (.int .i64 m)) (h1:1≤sep.size) :
    Calls Tryd.prog 13 #[.string s,.string sep] w fun e w'=>
      e=.returned (.slice (some ⟨w.heap.size,0,none⟩) (Lib.countB s sep+1) (Lib.countB s sep+1))∧w'=w.alloc (.cells ((Lib.splitB sep 0 (Lib.countB s sep) s).map Value.string).toArray 9):=Any.strings_Split Tryd.lays146 (by kernel_rfl) s sep m w hs hm h1
theorem Tryd.max_cell {w:World} (h:w.ShapedOpen Tryd.prog):∃m,w.cell? ⟨0,0,none⟩=some (.int .i64 m):=
  Go.Proofs.cell_of_shapedOpen_int (zero:=#[.int .i64 0]) (t:=3) h (of_decide_eq_true (by kernel_rfl)) (by kernel_rfl) rfl (by kernel_rfl) (by kernel_rfl) Tryd.underlying3
end Go.Proofs
end
section
namespace Go.Proofs.YtigjhfijkdlldaaDoor.H
open Go.RowKit Go.Proofs.YtigjhfijkdlldaaDoorW.PrintWords Go.Proofs.YtigjhfijkdlldaaDoorW.PrintLast Go.Proofs.YtigjhfijkdlldaaDoorW.PrintMore Go.Proofs.YtigjhfijkdlldaaDoor.Q
set_option linter.unusedVariables false
set_option linter.unusedSimpArgs false
section
variable {w:World} {n m:Nat} {A0 A1 A2 A3 A6:Option Addr} {c0 c1 c2 c3 c6:Nat} {G:Hp} {e:S40}
theorem known_c {p:Int} (hb:w.heap[n]?=some (.cells (hpC A0 c0 A1 c1 A2 c2 A3 c3 G) 33 (0,0))) (h:InH w A0 c0 A1 c1 A2 c2 A3 c3 G.o G.r G.w G.d) :
    Calls Tryd.prog 65 #[.int .i64 p,.pointer (some ⟨n,0,none⟩)] w fun e w'=>e=.returned (.int .i64 (knownL G.r p))∧Drawn0 w w':=by
  obtain⟨p0,p1,p2,p3⟩:=box4 hb
  have HI:=AK h.r1
  clear h hb
  obtain⟨r,er⟩:∃r,r=knownL G.r p:=⟨_,rfl⟩
  rw[←er]
  by_cases a:p<0
  case pos=>
    have a1:decide (p<0)=true:=deT a
    have e:r=-1:=by rw[er];unfold knownL;exact if_neg (by omega)
    subst e
    clear er a p0 p2 p3
    go_enter Tryd.func65,Tryd.ntmps65
    go_wp2
    go_ret
    exact⟨rfl,Drawn0.refl _⟩
  have a1:decide (p<0)=false:=deF a
  by_cases b:p<G.r.length
  case neg=>
    have b1:decide ((G.r.length:Int)≤p)=true:=deT (by omega)
    have e:r=-1:=by rw[er];unfold knownL;exact if_neg (by omega)
    subst e
    clear er a p0 p2 p3 b
    go_enter Tryd.func65,Tryd.ntmps65
    go_wp2
    go_ret
    exact⟨rfl,Drawn0.refl _⟩
  have b1:decide ((G.r.length:Int)≤p)=false:=deF (by omega)
  obtain⟨ad,ea,hr⟩:=Kd.at_int HI.out p (by omega) (by exact b)
  subst ea
  have e:r=rd G.r p:=by rw[er];unfold knownL;exact if_pos ⟨by omega,b⟩
  rw[←e]at hr
  have h0:=eq_true (show 0≤p by omega)
  have h1:=eq_true (show p<(G.r.length:Int)from b)
  clear er e a b p0 p2 p3
  go_enter Tryd.func65,Tryd.ntmps65
  go_wp2
  go_ret
  exact⟨rfl,Drawn0.refl _⟩
theorem is_c {p:Int} (hb:w.heap[n]?=some (.cells (hpC A0 c0 A1 c1 A2 c2 A3 c3 G) 33 (0,0))) (h:InH w A0 c0 A1 c1 A2 c2 A3 c3 G.o G.r G.w G.d) (hp:p<G.o.length) :
    Calls Tryd.prog 66 #[.int .i64 p,.int .i64 4,.pointer (some ⟨n,0,none⟩)] w fun e w'=>e=.returned (.bool (isGuard G p))∧Drawn0 w w':=by
  obtain⟨p0,p1,p2,p3⟩:=box4 hb
  have HI:=AK h.r0
  clear h hb
  by_cases a:0≤p
  case neg=>
    have a1:decide (0≤p)=false:=deF a
    rw[show isGuard G p=false by unfold isGuard;rw[a1];rfl]
    clear a p1 p2 p3
    go_enter Tryd.func66,Tryd.ntmps66
    go_wp2
    go_ret
    exact⟨rfl,Drawn0.refl _⟩
  have a1:decide (0≤p)=true:=deT a
  obtain⟨ad,Af,cf,ea,ha0,_,_,_,_⟩:=at_T38 HI.out p a hp
  subst ea
  have h0:=eq_true a
  have h1:=eq_true hp
  rw[show isGuard G p=((rd_T38 G.o p).f0 == 4)by unfold isGuard;rw[a1,Bool.true_and];exact Bool.eq_iff_iff.2 (by rw[decide_eq_true_eq,beq_iff_eq])]
  obtain⟨k,ek⟩:∃k,k=(rd_T38 G.o p).f0:=⟨_,rfl⟩
  rw[←ek]at ha0 ⊢
  clear ek a hp p1 p2 p3
  go_enter Tryd.func66,Tryd.ntmps66
  go_wp2
  go_ret
  exact⟨rfl,Drawn0.refl _⟩
def partB (G:Hp) (p a:Int):Bool:=decide (0≤p) && (decide (0≤a) && decide (a<(rd_T38 G.o p).f2.length))
theorem isPart_c {p:Int} (hb:w.heap[n]?=some (.cells (hpC A0 c0 A1 c1 A2 c2 A3 c3 G) 33 (0,0))) (he:w.heap[m]?=some (.cells (evC e A6 c6) 37 (0,0))) (h:InH w A0 c0 A1 c1 A2 c2 A3 c3 G.o G.r G.w G.d) (hp:p<G.o.length) :
    Calls Tryd.prog 67 #[.int .i64 p,.pointer (some ⟨m,0,none⟩),.pointer (some ⟨n,0,none⟩)] w fun en w'=>en=.returned (.bool (partB G p e.f3))∧Drawn0 w w':=by
  obtain⟨p0,p1,p2,p3⟩:=box4 hb
  obtain⟨q0,q1,q2,q3,q4,q5,q6⟩:=ec7 he
  have HI:=AK h.r0
  clear h hb he p1 p2 p3 q0 q1 q2 q4 q5 q6
  by_cases a:0≤p
  case neg=>
    have a1:decide (0≤p)=false:=deF a
    rw[show partB G p e.f3=false by unfold partB;rw[a1];rfl]
    clear a
    go_enter Tryd.func67,Tryd.ntmps67
    go_wp2
    go_quiet (fail)
    go_wp2
    go_ret
    exact⟨rfl,Drawn0.step (Drawn0.refl _) _⟩
  have a1:decide (0≤p)=true:=deT a
  by_cases b:0≤e.f3
  case neg=>
    have b1:decide (0≤e.f3)=false:=deF b
    rw[show partB G p e.f3=false by unfold partB;rw[b1];simp]
    clear a b
    go_enter Tryd.func67,Tryd.ntmps67
    go_wp2
    go_quiet (fail)
    go_wp2
    go_ret
    exact⟨rfl,Drawn0.step (Drawn0.refl _) _⟩
  have b1:decide (0≤e.f3)=true:=deT b
  obtain⟨ad,Af,cf,ea,_,_,ha2,_,_⟩:=at_T38 HI.out p a hp
  subst ea
  have h0:=eq_true a
  have h1:=eq_true hp
  rw[show partB G p e.f3=decide (e.f3<(rd_T38 G.o p).f2.length)by unfold partB;rw[a1,b1];simp]
  obtain⟨k,ek⟩:∃k,k=(rd_T38 G.o p).f2.length:=⟨_,rfl⟩
  rw[←ek]at ha2 ⊢
  clear ek a b hp
  go_enter Tryd.func67,Tryd.ntmps67
  go_wp2
  go_quiet (fail)
  go_wp2
  go_ret
  exact⟨rfl,Drawn0.step (Drawn0.refl _) _⟩
set_option maxRecDepth 100000 in
theorem seen_c {p:Int} (h:InH w A0 c0 A1 c1 A2 c2 A3 c3 G.o G.r G.w G.d) (hp:p<G.o.length) (hl:0≤p→(rd_T38 G.o p).f2.length≤6) :
    Calls Tryd.prog 68 #[.agg #[.slice A0 G.o.length c0,.slice A1 G.r.length c1,.slice A2 G.w.length c2,.slice A3 G.d.length c3],.int .i64 p] w fun e w'=>e=.returned (.string (seesB G.o p))∧Below w.heap.size w w':=by
  have HI:=AK h.r0
  clear h
  obtain⟨r,er⟩:∃r,r=seesB G.o p:=⟨_,rfl⟩
  rw[←er]
  by_cases a:p<0
  case pos=>
    have a1:decide (p<0)=true:=deT a
    have e:r=sNone:=by rw[er];unfold seesB;exact if_pos a
    subst e
    clear er a hl hp
    go_enter Tryd.func68,Tryd.ntmps68
    go_wp2
    go_ret
    exact⟨rfl,below_alloc (Below.refl _ _) _⟩
  have a1:decide (p<0)=false:=deF a
  obtain⟨ad,Af,cf,ea,ha0,ha1,ha2,_,_⟩:=at_T38 HI.out p (by omega) hp
  subst ea
  have h0:=eq_true (show 0≤p by omega)
  have h1:=eq_true hp
  have h6:=hl (by omega)
  have es:r=if(rd_T38 G.o p).f0=1 then(rd_T38 G.o p).f1 else if(rd_T38 G.o p).f0=2 then sCell++strOfNums [48+((rd_T38 G.o p).f2.length:Int)]else if(rd_T38 G.o p).f0=3 then sWeak else sGuard:=by rw[er];unfold seesB;exact if_neg a
  obtain⟨z,ez⟩:∃z,z=rd_T38 G.o p:=⟨_,rfl⟩
  rw[←ez]at ha0 ha1 ha2 es h6
  obtain⟨k,hk⟩:∃k,k=z.f2.length:=⟨_,rfl⟩
  rw[←hk]at ha2 es h6
  clear hk
  have hb:=below_alloc (Below.refl w.heap.size w) (.cells #[.slice (some ad) G.o.length c0,.slice A1 G.r.length c1,.slice A2 G.w.length c2,.slice A3 G.d.length c3] 33 (0,0))
  have HB:=AK hb
  have HX:=AK (blk_new w (.cells #[.slice (some ad) G.o.length c0,.slice A1 G.r.length c1,.slice A2 G.w.length c2,.slice A3 G.d.length c3] 33 (0,0)))
  replace ha0:=pcb hb ha0
  replace ha1:=pcb hb ha1
  replace ha2:=pcb hb ha2
  clear ez er a hl hp HI hb
  go_enter Tryd.func68,Tryd.ntmps68
  go_upto_region 3 with fail
  generalize (w.alloc (.cells #[.slice (some ad) G.o.length c0,.slice A1 G.r.length c1,.slice A2 G.w.length c2,.slice A3 G.d.length c3] 33 (0,0)))=w1 at HB HX ha0 ha1 ha2 ⊢
  have hx:=(box4 HX.out).1
  clear HX
  by_cases k1:z.f0=1
  case pos=>
    have f1:(z.f0 == 1)=true:=beq_iff_eq.mpr k1
    rw[if_pos k1]at es
    subst es
    clear k1 h6
    go_wp2
    go_ret
    exact⟨rfl,below_alloc HB.out _⟩
  have f1:(z.f0 == 1)=false:=beq_eq_false_iff_ne.mpr k1
  rw[if_neg k1]at es
  clear k1
  by_cases k2:z.f0=2
  case pos=>
    have f2:(z.f0 == 2)=true:=beq_iff_eq.mpr k2
    rw[if_pos k2]at es
    clear k2
    have hk:k=0∨k=1∨k=2∨k=3∨k=4∨k=5∨k=6:=by omega
    clear h6
    rcases hk with rfl|rfl|rfl|rfl|rfl|rfl|rfl
    all_goals (subst es;go_wp2;go_ret;exact⟨rfl,below_alloc HB.out _⟩)
  have f2:(z.f0 == 2)=false:=beq_eq_false_iff_ne.mpr k2
  rw[if_neg k2]at es
  clear k2 h6
  by_cases k3:z.f0=3
  case pos=>
    have f3:(z.f0 == 3)=true:=beq_iff_eq.mpr k3
    rw[if_pos k3]at es
    subst es
    clear k3
    go_wp2
    go_ret
    exact⟨rfl,below_alloc HB.out _⟩
  have f3:(z.f0 == 3)=false:=beq_eq_false_iff_ne.mpr k3
  rw[if_neg k3]at es
  subst es
  clear k3
  go_wp2
  go_ret
  exact⟨rfl,below_alloc HB.out _⟩
end
end Go.Proofs.YtigjhfijkdlldaaDoor.H
end
section
namespace Go.Proofs.YtigjhfijkdlldaaDoor.H
open Go.RowKit Go.Proofs.YtigjhfijkdlldaaDoorW.PrintWords Go.Proofs.YtigjhfijkdlldaaDoorW.PrintLast Go.Proofs.YtigjhfijkdlldaaDoorW.PrintMore Go.Proofs.YtigjhfijkdlldaaDoor.Q
set_option linter.unusedVariables false
theorem cut_hm {P:Program} (t e:TypeId) (kh:IntKind) {i:TypeInfo} (ht:P.underlying t=some (.slice e)) (hi:P.info? e=some i) (A:Option Addr) (n c:Nat) (j:Int) (h0:0≤j) (hm:j≤c) :
    ∀W:World,(Instr.slice t (.slice A n c) none (some (.int kh j)) (some (.int kh j))).run P W=.ok (.slice A j.toNat j.toNat) W:=by
  intro W
  have hel:P.elem t=e:=by simp[Program.elem,ht]
  have hu:P.underlying t=some (.slice (P.elem t)):=by rw[hel];exact ht
  have ha:(A.map fun x=>x.add 0)=A:=by cases A<;>simp[Addr.add]
  rw[run_slice_hm W t A n c hu kh kh j j h0 (by omega) (by omega),hel]
  simp[sizeOf,typeInfo,hi,sliced,Result.andThen,ha]
def FullR (W:World) (A:Option Addr) (i:Nat) (xs ys:List S60) (v1:Value) (w1:World):Prop:=
  Below W.heap.size W w1∧∃B d,v1=.slice B (xs++ys).length d∧((ys=[]∧w1=W∧B=A∧d=i)∨Kd.R k60 71 w1 W.heap.size (fun _=>True) (.slice B (xs++ys).length d) (xs++ys))
section
variable {P:Program} {ops:Array Oper} {o:Oper} {a:Act} {Q:Exit→Act→World→Prop} {Kc:Act→World→Prop}
theorem app_full_step {W:World} (hw:Region.wanted o (yielded ops a.tmps)=true) (s x:Operand)
    (ho:o.op=.call { callee:=.builtin .append,args:=#[s,x],argTypes:=#[31,31] }) (ht:P.underlying 31=some (.slice 71)) (hinfo:(P.info? 71).map (fun i=>(i.zero,i.size,i.bytes))=some (some (.agg #[.int .i64 0,.int .i64 0]),2,16))
    (A:Addr) (i:Nat) (xs:List S60) (hs:a.eval s=.slice (some A) i i) (HX:Kd.C k60 W (some A) i xs) (B:Option Addr) (m c:Nat) (ys:List S60) (hx:a.eval x=.slice B m c) (HY:Kd.C k60 W B m ys) (hl:i+m≤1000)
    (h:∀v1 w1,FullR W (some A) i xs ys v1 w1→Kc (a.put o.dst v1) w1):if Region.wanted o (yielded ops a.tmps)=true then Oper.wp P o a W Kc Q else Kc (a.put o.dst undef) W:=by
  obtain⟨i0,hi,hzz⟩:=Option.map_eq_some_iff.1 hinfo
  simp only[Prod.mk.injEq]at hzz
  obtain⟨hz0,hz1,hz2⟩:=hzz
  have hxl:xs.length=i:=HX.1
  have hyl:ys.length=m:=HY.1
  have hrun:∃v1 w1,(Builtin.append_ #[31,31] o.type #[.slice (some A) i i,.slice B m c]).run P W=.ok v1 w1∧FullR W (some A) i xs ys v1 w1:=by
    by_cases h0:m=0
    · subst h0
      obtain rfl:ys=[]:=List.eq_nil_of_length_eq_zero hyl
      refine⟨.slice (some A) i i,W,?_,Below.refl _ _,some A,i,by rw[List.append_nil,hxl],.inl ⟨rfl,rfl,rfl,rfl⟩⟩
      rcases B with _|B<;>simp[Builtin.append_,run_underlying ht,sizeOf,typeInfo,hi,Builtin.lenOf,Builtin.firstCells,storeCells,loadCells,loadCellsFrom]
    · obtain⟨ad,e,_⟩:=HY.2.2 (by omega)
      subst e
      obtain⟨olds,hor,hoc⟩:=ReadsRow.inner_ HX
      obtain⟨news,hnr,hnc⟩:=ReadsRow.inner_ HY
      obtain⟨v1,w1,hr,hown,hg⟩:=run_append_arg_grows (P:=P) W 31 o.type 71 i0 _ 2 16 ht hi hz0 hz1 hz2 (by decide) (by decide) A i i olds (by rw[hor.1,hxl];rfl) hoc ad m c news (by rw[hnr.1,hyl];rfl) hnc (by omega) (by simp only[maxLen];omega) (by omega)
      have hb:Below W.heap.size W w1:=(Below.refl W.heap.size W).grown hg (Nat.le_refl _) (fun k hk=>by cases hk)
      have hR:Kd.R k60 71 w1 W.heap.size (fun _=>True) v1 (xs++ys):=⟨fun _ _=>trivial,olds++news,by rw[List.length_append,hxl,hyl];exact hown,Kd.reps_append (hor.imp_ (fun _ _ h=>h)) (hnr.imp_ (fun _ _ h=>h))⟩
      obtain⟨B',d,e⟩:=Kd.R_slice hR
      subst e
      exact⟨_,w1,hr,hb,B',d,rfl,.inr hR⟩
  obtain⟨v1,w1,hr1,hF⟩:=hrun
  rw[if_pos hw]
  unfold Oper.wp execOp
  simp only[ho,resolve,invoke,builtin,Sem.run_bind,Sem.run_pure,Result.andThen_ok,List.map_toArray,List.map_cons,List.map_nil,hs,hx,hr1]
  exact h v1 w1 hF
end
structure WKX (v:World) (n:Nat) (A0:Option Addr) (c0:Nat) (A1:Option Addr) (c1:Nat) (A2:Option Addr) (c2:Nat) (A3:Option Addr) (c3 x3:Nat) (G:Hp) (e:S40) (A6:Option Addr) (c6:Nat) (w':World):Prop where
  b:Below v.heap.size v w'
  n0:v.heap.size≤n
  h:w'.heap[n]?=some (.cells (hpC A0 c0 A1 c1 A2 c2 A3 c3 G) 33 (0,0))
  e:w'.heap[n+1]?=some (.cells (evC e A6 c6) 37 (0,0))
  o:w'.heap[n+2]?=some (.cells nilC 33 (0,0))
  ow:OwnG w' v.heap.size A0 c0 A1 c1 A2 c2 A3 x3 G
  k:G.d.length≤c3
section
variable {v w0 w w1:World} {n:Nat} {A0 A1 A2 A3 A6:Option Addr} {c0 c1 c2 c3 c6 x3:Nat} {G:Hp} {e:S40}
theorem WKX.below (h:WKX v n A0 c0 A1 c1 A2 c2 A3 c3 x3 G e A6 c6 w) (hb:Below w.heap.size w w1):WKX v n A0 c0 A1 c1 A2 c2 A3 c3 x3 G e A6 c6 w1:=
  ⟨bst h.b hb,h.n0,bbl h.h hb,bbl h.e hb,bbl h.o hb,h.ow.below hb,h.k⟩
theorem WKX.reads (h:WKX v n A0 c0 A1 c1 A2 c2 A3 c3 x3 G e A6 c6 w):InH w A0 c0 A1 c1 A2 c2 A3 c3 G.o G.r G.w G.d:=
  have r:=h.ow.reads
  ⟨r.r0,r.r1,r.r2,r.r3,r.k0,r.k1,r.k2,h.k⟩
theorem WKX.hc (h:WKX v n A0 c0 A1 c1 A2 c2 A3 c3 x3 G e A6 c6 w):w.cell? ⟨n,0,none⟩=some (.slice A0 G.o.length c0)∧w.cell? ⟨n,1,none⟩=some (.slice A1 G.r.length c1)∧w.cell? ⟨n,2,none⟩=some (.slice A2 G.w.length c2)∧w.cell? ⟨n,3,none⟩=some (.slice A3 G.d.length c3):=box4 h.h
theorem WKX.ec (h:WKX v n A0 c0 A1 c1 A2 c2 A3 c3 x3 G e A6 c6 w):w.cell? ⟨n+1,0,none⟩=some (.int .i64 e.f0)∧w.cell? ⟨n+1,1,none⟩=some (.int .i64 e.f1)∧w.cell? ⟨n+1,2,none⟩=some (.int .i64 e.f2)∧w.cell? ⟨n+1,3,none⟩=some (.int .i64 e.f3)∧w.cell? ⟨n+1,4,none⟩=some (.int .i64 e.f4.f0)∧w.cell? ⟨n+1,5,none⟩=some (.string e.f4.f1)∧w.cell? ⟨n+1,6,none⟩=some (.slice A6 e.f4.f2.length c6):=ec7 h.e
theorem WKX.oc (h:WKX v n A0 c0 A1 c1 A2 c2 A3 c3 x3 G e A6 c6 w):w.cell? ⟨n+2,0,none⟩=some (.slice none 0 0)∧w.cell? ⟨n+2,1,none⟩=some (.slice none 0 0)∧w.cell? ⟨n+2,2,none⟩=some (.slice none 0 0)∧w.cell? ⟨n+2,3,none⟩=some (.slice none 0 0):=box4 h.o
theorem WKX.of (h:WKX v n A0 c0 A1 c1 A2 c2 A3 c3 x3 G e A6 c6 w) (j:Nat):w.frozen? ⟨n+2,j,none⟩=false:=bfz h.o j
theorem WKX.fin (h:WKX v n A0 c0 A1 c1 A2 c2 A3 c3 x3 G e A6 c6 w) {p q r s:Value}:OwnG (H.set4 w (n+2) p q r s) v.heap.size A0 c0 A1 c1 A2 c2 A3 x3 G∧Below v.heap.size v (H.set4 w (n+2) p q r s)∧(H.set4 w (n+2) p q r s).heap[n+2]?=some (.cells #[p,q,r,s] 33 (0,0)):=
  ⟨h.ow.set4 h.o,set4_below h.b (by have:=h.n0;omega),set4_blk h.o⟩
theorem WK.cutD {A:Addr} (K:WK v w0 n A0 c0 A1 c1 A2 c2 (some A) c3 G e A6 c6 w) {i:Nat} {D:List S60} {B:Option Addr} {d:Nat} {xs ys:List S60} (hD:D=xs++ys) (hxs:xs=G.d.take i) (hi:i≤G.d.length) (hF:FullR w (some A) i xs ys (.slice B D.length d) w1) :
    ∃x3,WKX v n A0 c0 A1 c1 A2 c2 B d x3 ⟨G.o,G.r,G.w,D⟩ e A6 c6 (w1.setCell ⟨n,3,none⟩ (.slice B D.length d)):=by
  obtain⟨hb,B',d',e1,h2⟩:=hF
  rw[←hD]at e1 h2
  injection e1 with e1 _ e3
  subst e1 e3
  rcases h2 with⟨rfl,rfl,rfl,rfl⟩|hR
  · rw[List.append_nil]at hD
    subst hxs hD
    have hl:(G.d.take d).length=d:=by rw[List.length_take];omega
    refine⟨c3,below_set K.b K.n0,K.n0,blk_put K.h 3 _ rfl,blk_far K.e (p:=⟨n,3,none⟩) (by show n+1≠n;omega) _,blk_far K.o (p:=⟨n,3,none⟩) (by show n+2≠n;omega) _,?_,by show (G.d.take d).length≤d;omega⟩
    have s3:=Kd.R_take (m:=d) K.own.s3 hi
    exact⟨Kd.S_set K.own.s0 K.h (k38_ap 33 (by decide) (by decide)) 3 _,Kd.R_set K.own.s1 K.h (int_ap 33 (by decide)) 3 _,Kd.R_set K.own.s2 K.h (k60_ap 33 (by decide)) 3 _,by
      show Kd.R k60 71 _ _ _ (.slice _ (G.d.take d).length _) _
      rw[hl];exact Kd.R_set s3 K.h (k60_ap 33 (by decide)) 3 _⟩
  · have K2:=K.newD hb hR
    exact⟨d,K2.b,K2.n0,K2.h,K2.e,K2.o,K2.own,K2.own.reads.k3⟩
end
end Go.Proofs.YtigjhfijkdlldaaDoor.H
end
