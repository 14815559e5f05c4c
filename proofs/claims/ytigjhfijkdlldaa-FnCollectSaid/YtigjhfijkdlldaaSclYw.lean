import Derived.Test.YtigjhfijkdlldaaSclDj
import Derived.Test.YtigjhfijkdlldaaSclPt
import Derived.Test.YtigjhfijkdlldaaSclDe
section
/- The heaps that the laws draw: spec.l5Heap, l5Any, DrawMemReach, DrawMemCollect, walked. -/
namespace Go.Proofs.Ytigjhfijkdlldaa.H
open Go.RowKit Go.Proofs.YtigjhfijkdlldaaW.PrintWords Go.Proofs.YtigjhfijkdlldaaW.PrintLast Go.Proofs.YtigjhfijkdlldaaW.PrintMore Go.Proofs.Ytigjhfijkdlldaa.Q
set_option linter.unusedVariables false
set_option linter.unusedSimpArgs false
/-- A function that draws a heap: what stands when its result's box is made. -/
structure FB (v w0 : World) (g : Nat) (P : Int) (w' : World) : Prop where
  b : Below v.heap.size v w'
  r : Rdr v w' g P
  k : KeepBut w0 w' g none
  ob : w'.heap[w0.heap.size]? = some (.cells nilC 28 (0, 0))
  vl : v.heap.size ≤ w0.heap.size
section
variable {v w0 w w1 : World} {g : Nat} {P : Int}
theorem FB.start (hR : Rdr v w g P) (hB : Below v.heap.size v w) : FB v w g P (w.alloc (.cells nilC 28 (0, 0))) := by
  have hb := below_alloc (Below.refl w.heap.size w) (.cells nilC 28 (0, 0))
  exact ⟨bst hB hb, hR.below hb, KeepBut.of_below hb g none, blk_new w _, hB.size⟩
theorem FB.below (h : FB v w0 g P w) (hb : Below w.heap.size w w1) : FB v w0 g P w1 := ⟨bst h.b hb, h.r.below hb, keep_below h.k hb, bbl h.ob hb, h.vl⟩
theorem FB.pick {Q : Int} (h : FB v w0 g P w) (hr : Rdr v w1 g Q) (hb : Below v.heap.size v w1) (hk : KeepBut w w1 g none) : FB v w0 g Q w1 := ⟨hb, hr, keep_then h.k hk, h.r.blk hk h.ob (by decide), h.vl⟩
theorem FB.fin (h : FB v w0 g P w) {lo : Nat} {A0 A1 A2 A3 : Option Addr} {c0 c1 c2 c3 : Nat} {G : Hp} (O : OwnG w lo A0 c0 A1 c1 A2 c2 A3 c3 G) (hl : w0.heap.size ≤ lo) : let W := set4 w w0.heap.size (.slice A0 G.o.length c0) (.slice A1 G.r.length c1) (.slice A2 G.w.length c2) (.slice A3 G.d.length c3);
    W.heap[w0.heap.size]? = some (.cells (hpC A0 c0 A1 c1 A2 c2 A3 c3 G) 28 (0, 0)) ∧ OwnG W w0.heap.size A0 c0 A1 c1 A2 c2 A3 c3 G ∧ Rdr v W g P ∧ Below v.heap.size v W ∧ KeepBut w0 W g none := by
  intro W
  have hne : g ≠ w0.heap.size := h.r.ne h.ob (by decide)
  have hv := h.vl
  have hr : w0.heap.size ≤ w0.heap.size := Nat.le_refl _
  refine ⟨set4_blk h.ob, OwnH.set4 (O.lower2 hl) h.ob, ?_, below_set (below_set (below_set (below_set h.b hv) hv) hv) hv, ?_⟩
  · exact (((h.r.far (a := ⟨w0.heap.size, 0, none⟩) hne _).far (a := ⟨w0.heap.size, 1, none⟩) hne _).far (a := ⟨w0.heap.size, 2, none⟩) hne _).far (a := ⟨w0.heap.size, 3, none⟩) hne _
  · exact keep_far (keep_far (keep_far (keep_far h.k (p := ⟨w0.heap.size, 0, none⟩) hr _) (p := ⟨w0.heap.size, 1, none⟩) hr _) (p := ⟨w0.heap.size, 2, none⟩) hr _) (p := ⟨w0.heap.size, 3, none⟩) hr _
end
section
variable {v w : World} {g lo : Nat} {P : Int} {A0 A1 A2 A3 : Option Addr} {c0 c1 c2 c3 : Nat} {G : Hp}
set_option maxHeartbeats 2000000 in
theorem l5Heap_c (hR : Rdr v w g P) (hB : Below v.heap.size v w) (hP : P ≤ 700000) :
    Calls Try.prog 103 #[.pointer (some ⟨g, 0, none⟩)] w fun en w' => ∃ (R : Hp) (B0 : Option Addr) (d0 : Nat) (B1 : Option Addr) (d1 : Nat) (B2 : Option Addr) (d2 : Nat) (B3 : Option Addr) (d3 : Nat), en = .returned (.agg #[.slice B0 R.o.length d0, .slice B1 R.r.length d1, .slice B2 R.w.length d2, .slice B3 R.d.length d3]) ∧ (R.ok = true ∧ TxH R) ∧ OwnG w' w.heap.size B0 d0 B1 d1 B2 d2 B3 d3 R ∧ Rdr v w' g (P + 1100) ∧ Below v.heap.size v w' ∧ KeepBut w w' g none := by
  have D := AK (show FB v w g P (w.alloc (.cells #[.slice none 0 0, .slice none 0 0, .slice none 0 0, .slice none 0 0] 28 (0, 0))) from FB.start hR hB)
  have HP := AK hP
  clear hR hB hP
  go_enter Try.func103, Try.ntmps103
  go_upto_region 1 with fail
  generalize (w.alloc (.cells #[.slice none 0 0, .slice none 0 0, .slice none 0 0, .slice none 0 0] 28 (0, 0))) = w1 at D ⊢
  go_wp2_with fail
  refine (l5Base_c D.out.r D.out.b (by have := HP.out; omega)).mono ?_
  rintro en w2 ⟨m, A0, c0, A1, c1, A2, c2, A3, c3, rfl, hm, hO, hr, hb, hk⟩
  have HLO := AK (show w.heap.size ≤ w1.heap.size from D.out.k.1)
  have O := AK hO
  have HM := AK hm
  have HL2 := AK (show w1.heap.size ≤ w2.heap.size from hk.1)
  replace D := AK (D.out.pick hr hb hk)
  clear hO hr hb hk hm
  go_wp2_with fail
  refine (l5Events_c (G := baseH m) D.out.r D.out.b (by have := HP.out; omega) O.out HL2.out (base_ok m HM.out.2) (fun o ho => by cases ho) 40 (by omega) false).mono ?_
  rintro en w3 ⟨R, es, B0, d0, B1, d1, B2, d2, B3, d3, K, ck, rfl, hg, hO, _, hr, hb, hk⟩
  have HG := AK (And.intro hg.1 hg.2.1)
  replace O := AK hO
  replace D := AK (D.out.pick hr hb hk)
  clear hg hO hr hb hk HL2
  go_upto_region 2 with fail
  replace D := AK (D.out.below (below_alloc (Below.refl _ _) (.cells #[.slice B0 R.o.length d0, .slice B1 R.r.length d1, .slice B2 R.w.length d2, .slice B3 R.d.length d3] 28 (0, 0))))
  replace O := AK (O.out.below (below_alloc (Below.refl _ _) (.cells #[.slice B0 R.o.length d0, .slice B1 R.r.length d1, .slice B2 R.w.length d2, .slice B3 R.d.length d3] 28 (0, 0))))
  have HX := AK (blk_new w3 (.cells #[.slice B0 R.o.length d0, .slice B1 R.r.length d1, .slice B2 R.w.length d2, .slice B3 R.d.length d3] 28 (0, 0)))
  generalize w3.alloc (.cells #[.slice B0 R.o.length d0, .slice B1 R.r.length d1, .slice B2 R.w.length d2, .slice B3 R.d.length d3] 28 (0, 0)) = w4 at D O HX ⊢
  generalize w3.heap.size = nb at HX ⊢
  obtain ⟨p0, p1, p2, p3⟩ := box4 HX.out
  obtain ⟨z0, z1, z2, z3⟩ := box4 (show (World.heap w4)[w.heap.size]? = some (Obj.cells #[.slice none 0 0, .slice none 0 0, .slice none 0 0, .slice none 0 0] 28 (0, 0)) from D.out.ob)
  have y0 := bfz D.out.ob 0
  have y1 := bfz D.out.ob 1
  have y2 := bfz D.out.ob 2
  have y3 := bfz D.out.ob 3
  go_wp2
  obtain ⟨h1, h2, h3, h4, h5⟩ := D.out.fin O.out HLO.out
  refine bodyPost_ret (results_cell_row rfl _ _ w.heap.size 28 #[.slice B0 R.o.length d0, .slice B1 R.r.length d1, .slice B2 R.w.length d2, .slice B3 R.d.length d3] (0, 0) _ rfl h1 Try.underlying28 rfl (by kernel_rfl)) rfl ?_
  exact ⟨R, B0, d0, B1, d1, B2, d2, B3, d3, rfl, HG.out, h2, h3.more (by omega), h4, h5⟩
set_option maxHeartbeats 2000000 in
theorem l5Any_c (hR : Rdr v w g P) (hB : Below v.heap.size v w) (hP : P ≤ 600000) :
    Calls Try.prog 93 #[.pointer (some ⟨g, 0, none⟩)] w fun en w' => ∃ (R : Hp) (B0 : Option Addr) (d0 : Nat) (B1 : Option Addr) (d1 : Nat) (B2 : Option Addr) (d2 : Nat) (B3 : Option Addr) (d3 : Nat), en = .returned (.agg #[.slice B0 R.o.length d0, .slice B1 R.r.length d1, .slice B2 R.w.length d2, .slice B3 R.d.length d3]) ∧ BdH R ∧ OwnG w' w.heap.size B0 d0 B1 d1 B2 d2 B3 d3 R ∧ Rdr v w' g (P + 1200) ∧ Below v.heap.size v w' ∧ KeepBut w w' g none := by
  have D := AK (show FB v w g P (w.alloc (.cells #[.slice none 0 0, .slice none 0 0, .slice none 0 0, .slice none 0 0] 28 (0, 0))) from FB.start hR hB)
  have HP := AK hP
  clear hR hB hP
  go_enter Try.func93, Try.ntmps93
  go_upto_region 1 with fail
  generalize (w.alloc (.cells #[.slice none 0 0, .slice none 0 0, .slice none 0 0, .slice none 0 0] 28 (0, 0))) = w1 at D ⊢
  go_wp2_with fail
  refine (pick_c (P := P) 10 D.out.r D.out.b (by have := HP.out; omega)).mono ?_
  rintro en w2 ⟨k, rfl, _, hr, hb, hk⟩
  replace D := AK (D.out.pick hr hb hk)
  clear hr hb hk
  obtain ⟨bk, hbk⟩ : ∃ b, (k == 0) = b := ⟨_, rfl⟩
  cases bk
  case true =>
    go_wp2_with fail
    have HLO := AK (show w.heap.size ≤ w2.heap.size from D.out.k.1)
    refine (l5Many_c D.out.r D.out.b (by have := HP.out; omega)).mono ?_
    rintro en w3 ⟨R, B0, d0, B1, d1, B2, d2, B3, d3, rfl, hg, hO, hr, hb, hk⟩
    have HG := AK hg.1
    have O := AK hO
    replace D := AK (D.out.pick hr hb hk)
    clear hg hO hr hb hk
    obtain ⟨z0, z1, z2, z3⟩ := box4 (show (World.heap w3)[w.heap.size]? = some (Obj.cells #[.slice none 0 0, .slice none 0 0, .slice none 0 0, .slice none 0 0] 28 (0, 0)) from D.out.ob)
    have y0 := bfz D.out.ob 0
    have y1 := bfz D.out.ob 1
    have y2 := bfz D.out.ob 2
    have y3 := bfz D.out.ob 3
    go_wp2
    obtain ⟨h1, h2, h3, h4, h5⟩ := D.out.fin O.out HLO.out
    refine bodyPost_ret (results_cell_row rfl _ _ w.heap.size 28 #[.slice B0 R.o.length d0, .slice B1 R.r.length d1, .slice B2 R.w.length d2, .slice B3 R.d.length d3] (0, 0) _ rfl h1 Try.underlying28 rfl (by kernel_rfl)) rfl ?_
    exact ⟨R, B0, d0, B1, d1, B2, d2, B3, d3, rfl, HG.out, h2, h3.more (by omega), h4, h5⟩
  go_wp2_with fail
  have HLO := AK (show w.heap.size ≤ w2.heap.size from D.out.k.1)
  refine (l5Heap_c D.out.r D.out.b (by have := HP.out; omega)).mono ?_
  rintro en w3 ⟨R, B0, d0, B1, d1, B2, d2, B3, d3, rfl, hg, hO, hr, hb, hk⟩
  have HT := AK hg
  have O := AK hO
  replace D := AK (D.out.pick hr hb hk)
  clear hg hO hr hb hk
  go_upto_region 4 with fail
  replace D := AK (D.out.below (below_alloc (Below.refl _ _) (.cells #[.slice B0 R.o.length d0, .slice B1 R.r.length d1, .slice B2 R.w.length d2, .slice B3 R.d.length d3] 28 (0, 0))))
  replace O := AK (O.out.below (below_alloc (Below.refl _ _) (.cells #[.slice B0 R.o.length d0, .slice B1 R.r.length d1, .slice B2 R.w.length d2, .slice B3 R.d.length d3] 28 (0, 0))))
  have HX := AK (blk_new w3 (.cells #[.slice B0 R.o.length d0, .slice B1 R.r.length d1, .slice B2 R.w.length d2, .slice B3 R.d.length d3] 28 (0, 0)))
  generalize w3.alloc (.cells #[.slice B0 R.o.length d0, .slice B1 R.r.length d1, .slice B2 R.w.length d2, .slice B3 R.d.length d3] 28 (0, 0)) = w4 at D O HX ⊢
  generalize w3.heap.size = nb at HX ⊢
  go_wp2_with fail
  refine (pick_c (P := P + 1 + 1100) 20 D.out.r D.out.b (by have := HP.out; omega)).mono ?_
  rintro en w5 ⟨j, rfl, _, hr, hb, hk⟩
  replace O := AK (D.out.r.own hk O.out)
  replace HX := AK (D.out.r.blk hk HX.out (by decide))
  replace D := AK (D.out.pick hr hb hk)
  clear hr hb hk
  obtain ⟨p0, p1, p2, p3⟩ := box4 HX.out
  obtain ⟨bj, hbj⟩ : ∃ b, (j == 0) = b := ⟨_, rfl⟩
  cases bj
  case false =>
    have HG := AK (show BdH R from bd_ok HT.out.1 HT.out.2)
    obtain ⟨z0, z1, z2, z3⟩ := box4 (show (World.heap w5)[w.heap.size]? = some (Obj.cells #[.slice none 0 0, .slice none 0 0, .slice none 0 0, .slice none 0 0] 28 (0, 0)) from D.out.ob)
    have y0 := bfz D.out.ob 0
    have y1 := bfz D.out.ob 1
    have y2 := bfz D.out.ob 2
    have y3 := bfz D.out.ob 3
    go_wp2
    obtain ⟨h1, h2, h3, h4, h5⟩ := D.out.fin O.out HLO.out
    refine bodyPost_ret (results_cell_row rfl _ _ w.heap.size 28 #[.slice B0 R.o.length d0, .slice B1 R.r.length d1, .slice B2 R.w.length d2, .slice B3 R.d.length d3] (0, 0) _ rfl h1 Try.underlying28 rfl (by kernel_rfl)) rfl ?_
    exact ⟨R, B0, d0, B1, d1, B2, d2, B3, d3, rfl, HG.out, h2, h3.more (by omega), h4, h5⟩
  go_wp2_with fail
  clear p0 p1 p2 p3
  refine (l5Spoil_c D.out.r D.out.b (by have := HP.out; omega) O.out.reads HT.out.1 HT.out.2).mono ?_
  have HLO2 := AK (show w.heap.size ≤ w5.heap.size from D.out.k.1)
  rintro en w6 ⟨R2, Q0, t0, Q1, t1, Q2, t2, Q3, t3, rfl, hg, hO, hr, hb, hk⟩
  have HG := AK hg
  have O2 := AK hO
  replace D := AK (D.out.pick hr hb hk)
  clear hg hO hr hb hk HLO O
  have HLO := HLO2
  have O := O2
  clear HLO2 O2
  obtain ⟨z0, z1, z2, z3⟩ := box4 (show (World.heap w6)[w.heap.size]? = some (Obj.cells #[.slice none 0 0, .slice none 0 0, .slice none 0 0, .slice none 0 0] 28 (0, 0)) from D.out.ob)
  have y0 := bfz D.out.ob 0
  have y1 := bfz D.out.ob 1
  have y2 := bfz D.out.ob 2
  have y3 := bfz D.out.ob 3
  go_wp2
  obtain ⟨h1, h2, h3, h4, h5⟩ := D.out.fin O.out HLO.out
  refine bodyPost_ret (results_cell_row rfl _ _ w.heap.size 28 #[.slice Q0 R2.o.length t0, .slice Q1 R2.r.length t1, .slice Q2 R2.w.length t2, .slice Q3 R2.d.length t3] (0, 0) _ rfl h1 Try.underlying28 rfl (by kernel_rfl)) rfl ?_
  exact ⟨R2, Q0, t0, Q1, t1, Q2, t2, Q3, t3, rfl, HG.out, h2, h3.more (by omega), h4, h5⟩
set_option maxHeartbeats 2000000 in
theorem drawCollect_c {A : Option Addr} {c : Nat} {code : List Int} (hr : Kd.C (Kd.int .u8) w A code.length code) (hc : code.length ≤ c) (hb : ∀ b ∈ code, 0 ≤ b ∧ b < 256) :
    Calls Try.prog 41 #[.slice A code.length c] w fun en w' => ∃ (R : Hp) (B0 : Option Addr) (d0 : Nat) (B1 : Option Addr) (d1 : Nat) (B2 : Option Addr) (d2 : Nat) (B3 : Option Addr) (d3 : Nat), en = .returned (.agg #[.slice B0 R.o.length d0, .slice B1 R.r.length d1, .slice B2 R.w.length d2, .slice B3 R.d.length d3]) ∧ BdH R ∧ OwnG w' w.heap.size B0 d0 B1 d1 B2 d2 B3 d3 R ∧ Below w.heap.size w w' := by
  have hb1 := below_alloc (Below.refl w.heap.size w) (.cells nilC 28 (0, 0))
  have HC := AK (And.intro (Kd.C_below hr hb1) (And.intro hc hb))
  have HB := AK hb1
  have HX := AK (blk_new w (.cells nilC 28 (0, 0)))
  clear hr hc hb hb1
  go_enter Try.func41, Try.ntmps41
  go_upto_region 1 with fail
  generalize hw1 : (w.alloc (.cells #[.slice none 0 0, .slice none 0 0, .slice none 0 0, .slice none 0 0] 28 (0, 0))) = w1
  replace HB := AK (show Below w.heap.size w w1 by rw [← hw1]; exact HB.out)
  replace HX := AK (show w1.heap[w.heap.size]? = some (.cells nilC 28 (0, 0)) by rw [← hw1]; exact HX.out)
  replace HC := AK (show Kd.C (Kd.int .u8) w1 A code.length code ∧ code.length ≤ c ∧ ∀ b ∈ code, 0 ≤ b ∧ b < 256 by rw [← hw1]; exact HC.out)
  clear hw1
  go_wp2_with fail
  refine (open_c HC.out.1 HC.out.2.1 HC.out.2.2).mono ?_
  rintro en w2 ⟨g, rfl, hr, hb⟩
  have D := AK (And.intro hr hb)
  clear hr hb
  go_wp2_with fail
  refine (l5Any_c D.out.1 D.out.2 (by omega)).mono ?_
  rintro en w3 ⟨R, B0, d0, B1, d1, B2, d2, B3, d3, rfl, hg, hO, _, hb, _⟩
  have HG := AK hg
  have O := AK (hO.lower2 (show w.heap.size ≤ w2.heap.size by have := HB.out.size; have := D.out.2.size; omega))
  replace HX := AK (bbl HX.out hb)
  replace HB := AK (bst HB.out hb)
  clear hg hO hb D
  obtain ⟨z0, z1, z2, z3⟩ := box4 (show (World.heap w3)[w.heap.size]? = some (Obj.cells #[.slice none 0 0, .slice none 0 0, .slice none 0 0, .slice none 0 0] 28 (0, 0)) from HX.out)
  have y0 := bfz HX.out 0
  have y1 := bfz HX.out 1
  have y2 := bfz HX.out 2
  have y3 := bfz HX.out 3
  go_wp2
  refine bodyPost_ret (results_cell_row rfl _ _ w.heap.size 28 #[.slice B0 R.o.length d0, .slice B1 R.r.length d1, .slice B2 R.w.length d2, .slice B3 R.d.length d3] (0, 0) _ rfl (set4_blk HX.out) Try.underlying28 rfl (by kernel_rfl)) rfl ?_
  exact ⟨R, B0, d0, B1, d1, B2, d2, B3, d3, rfl, HG.out, OwnH.set4 O.out HX.out, below_set (below_set (below_set (below_set HB.out (Nat.le_refl _)) (Nat.le_refl _)) (Nat.le_refl _)) (Nat.le_refl _)⟩
end
end Go.Proofs.Ytigjhfijkdlldaa.H
end
section
/- Coming to by rounds, in plain words: what the laws' wKnown tells is what can be come to. -/
namespace Go.Proofs.Ytigjhfijkdlldaa.H
open Go.RowKit Go.Proofs.YtigjhfijkdlldaaW.PrintWords Go.Proofs.YtigjhfijkdlldaaW.PrintLast Go.Proofs.YtigjhfijkdlldaaW.PrintMore Go.Proofs.Ytigjhfijkdlldaa.Q
set_option linter.unusedVariables false
set_option linter.unusedSimpArgs false
def visitL (l0 : List S38) (l3 : List S60) (l : List Int) (i : Int) : List Int := if i ∈ l then putAll l (nextL l0 l3 i) else l
/-- The objects visited from the i-th on. -/
def sweepL (l0 : List S38) (l3 : List S60) : Nat → Int → List Int → List Int
  | 0, _, l => l
  | n + 1, i, l => sweepL l0 l3 n (i + 1) (visitL l0 l3 l i)
def fromL (l0 : List S38) (l3 : List S60) : Nat → List Int → List Int
  | 0, l => l
  | n + 1, l => fromL l0 l3 n (sweepL l0 l3 l0.length 0 l)
def knownW (l0 : List S38) (l1 : List Int) (l3 : List S60) : List Int := fromL l0 l3 (l0.length + 1) (l1.filter fun p => decide (0 ≤ p))
section
variable {l0 : List S38} {l1 : List Int} {l2 l3 : List S60}
theorem visit_prefix (l : List Int) (i : Int) : l <+: visitL l0 l3 l i := by
  unfold visitL
  split
  · exact putAll_prefix _ _
  · exact List.prefix_rfl
theorem sweep_prefix : ∀ (n : Nat) (i : Int) (l : List Int), l <+: sweepL l0 l3 n i l := by
  intro n
  induction n with
  | zero => intro i l; exact List.prefix_rfl
  | succ n ih => intro i l; exact (visit_prefix l i).trans (ih _ _)
theorem from_prefix : ∀ (n : Nat) (l : List Int), l <+: fromL l0 l3 n l := by
  intro n
  induction n with
  | zero => intro l; exact List.prefix_rfl
  | succ n ih => intro l; exact (sweep_prefix _ _ l).trans (ih _)
theorem pre_anti {l m : List Int} (h : l <+: m) (h2 : m <+: l) : l = m := h.eq_of_length (Nat.le_antisymm h.length_le h2.length_le)
theorem sweep_same : ∀ (n : Nat) (i : Int) (l : List Int), sweepL l0 l3 n i l = l → ∀ j : Int, i ≤ j → j < i + n → visitL l0 l3 l j = l := by
  intro n
  induction n with
  | zero => intro i l _ j h1 h2; omega
  | succ n ih =>
    intro i l h j h1 h2
    have e : sweepL l0 l3 n (i + 1) (visitL l0 l3 l i) = l := h
    have e2 : visitL l0 l3 l i = l := (pre_anti (visit_prefix l i) ((sweep_prefix n (i + 1) (visitL l0 l3 l i)).trans (by rw [e]; exact List.prefix_rfl))).symm
    by_cases c : j = i
    · rw [c]; exact e2
    · rw [e2] at e
      exact ih (i + 1) l e j (by omega) (by omega)
theorem putAll_same (xs : List Int) : ∀ l : List Int, (∀ q ∈ xs, 0 ≤ q → q ∈ l) → putAll l xs = l := by
  induction xs with
  | nil => intro l _; rfl
  | cons a xs ih =>
    intro l h
    have e : putL l a = l := by
      unfold putL
      by_cases c : a < 0
      · rw [if_pos c]
      · rw [if_neg c, if_pos (h a (List.mem_cons_self ..) (by omega))]
    show putAll (putL l a) xs = l
    rw [e]
    exact ih l (fun q hq => h q (List.mem_cons_of_mem _ hq))
theorem visit_closed {l : List Int} (h : Closed l0 l3 (· ∈ l)) (i : Int) : visitL l0 l3 l i = l := by
  unfold visitL
  split
  · rename_i c; exact putAll_same _ l (fun q hq h0 => h i c q hq h0)
  · rfl
theorem sweep_closed {l : List Int} (h : Closed l0 l3 (· ∈ l)) : ∀ (n : Nat) (i : Int), sweepL l0 l3 n i l = l := by
  intro n
  induction n with
  | zero => intro i; rfl
  | succ n ih => intro i; show sweepL l0 l3 n (i + 1) (visitL l0 l3 l i) = l; rw [visit_closed h]; exact ih _
theorem from_closed {l : List Int} (h : Closed l0 l3 (· ∈ l)) : ∀ n : Nat, fromL l0 l3 n l = l := by
  intro n
  induction n with
  | zero => rfl
  | succ n ih => show fromL l0 l3 n (sweepL l0 l3 l0.length 0 l) = l; rw [sweep_closed h]; exact ih
theorem same_closed {l : List Int} (hr : ∀ p ∈ l, 0 ≤ p ∧ p < l0.length) (h : sweepL l0 l3 l0.length 0 l = l) : Closed l0 l3 (· ∈ l) := by
  intro p hp q hq h0
  have hp2 := hr p hp
  have e := sweep_same _ _ _ h p hp2.1 (by omega)
  unfold visitL at e
  rw [if_pos hp] at e
  exact e ▸ (mem_putAll _ _ _).2 (.inr ⟨hq, h0⟩)
/-- What was put behind a list is good. -/
def Behind (n : Nat) (a l : List Int) : Prop := ∃ t, l = a ++ t ∧ GoodL n t
theorem behind_put {n : Nat} {a l : List Int} (h : Behind n a l) {p : Int} (hp : p < n) : Behind n a (putL l p) := by
  obtain ⟨t, rfl, hg⟩ := h
  unfold putL
  by_cases c : p < 0
  · rw [if_pos c]; exact ⟨t, rfl, hg⟩
  rw [if_neg c]
  by_cases d : p ∈ a ++ t
  · rw [if_pos d]; exact ⟨t, rfl, hg⟩
  · rw [if_neg d]
    refine ⟨t ++ [p], by rw [List.append_assoc], ?_, fun x hx => ?_⟩
    · rw [List.nodup_append]
      exact ⟨hg.1, by simp, fun x hx b hb e => d (by rw [List.mem_singleton] at hb; subst hb; exact List.mem_append_right _ (e ▸ hx))⟩
    · rcases List.mem_append.1 hx with hx | hx
      · exact hg.2 x hx
      · rw [List.mem_singleton.1 hx]; omega
theorem behind_putAll {n : Nat} {a : List Int} (xs : List Int) : ∀ {l : List Int}, Behind n a l → (∀ p ∈ xs, p < n) → Behind n a (putAll l xs) := by
  induction xs with
  | nil => intro l h _; exact h
  | cons x xs ih => intro l h hx; exact ih (behind_put h (hx x (List.mem_cons_self ..))) (fun p hp => hx p (List.mem_cons_of_mem _ hp))
theorem behind_range {n : Nat} {a l : List Int} (ha : ∀ p ∈ a, 0 ≤ p ∧ p < n) (h : Behind n a l) : ∀ p ∈ l, 0 ≤ p ∧ p < n := by
  obtain ⟨t, rfl, hg⟩ := h
  intro p hp
  rcases List.mem_append.1 hp with hp | hp
  · exact ha p hp
  · exact hg.2 p hp
theorem behind_sweep (h : OkH l0 l1 l2 l3) {a : List Int} (ha : ∀ p ∈ a, 0 ≤ p ∧ p < l0.length) : ∀ (n : Nat) (i : Int) (l : List Int), Behind l0.length a l → Behind l0.length a (sweepL l0 l3 n i l) := by
  intro n
  induction n with
  | zero => intro i l hl; exact hl
  | succ n ih =>
    intro i l hl
    refine ih _ _ ?_
    unfold visitL
    split
    · rename_i c
      have hp := behind_range ha hl i c
      exact behind_putAll _ hl (next_lt h hp.1 hp.2)
    · exact hl
theorem from_is_closed (h : OkH l0 l1 l2 l3) {a : List Int} (ha : ∀ p ∈ a, 0 ≤ p ∧ p < l0.length) : ∀ (k : Nat) (l : List Int), Behind l0.length a l → a.length + l0.length < l.length + k → Closed l0 l3 (· ∈ fromL l0 l3 k l) := by
  intro k
  induction k with
  | zero =>
    intro l hl hk
    obtain ⟨t, rfl, hg⟩ := hl
    have := nodup_len _ _ hg
    rw [List.length_append] at hk
    omega
  | succ k ih =>
    intro l hl hk
    have hs := behind_sweep h ha l0.length 0 l hl
    by_cases c : sweepL l0 l3 l0.length 0 l = l
    · have hc := same_closed (behind_range ha hl) c
      rw [from_closed hc]; exact hc
    · have hpre := sweep_prefix (l0 := l0) (l3 := l3) l0.length 0 l
      have hlen : l.length < (sweepL l0 l3 l0.length 0 l).length := by
        rcases Nat.lt_or_ge l.length (sweepL l0 l3 l0.length 0 l).length with h1 | h1
        · exact h1
        · exact absurd (hpre.eq_of_length (Nat.le_antisymm hpre.length_le h1)).symm c
      exact ih _ hs (by omega)
theorem sweep_in {S : Int → Prop} (hS : Closed l0 l3 S) : ∀ (n : Nat) (i : Int) (l : List Int), (∀ p ∈ l, S p) → ∀ p ∈ sweepL l0 l3 n i l, S p := by
  intro n
  induction n with
  | zero => intro i l h; exact h
  | succ n ih =>
    intro i l h
    refine ih _ _ (fun p hp => ?_)
    unfold visitL at hp
    split at hp
    · rename_i c
      rcases (mem_putAll _ _ _).1 hp with h1 | ⟨h1, h2⟩
      · exact h p h1
      · exact hS i (h i c) p h1 h2
    · exact h p hp
theorem from_in {S : Int → Prop} (hS : Closed l0 l3 S) : ∀ (n : Nat) (l : List Int), (∀ p ∈ l, S p) → ∀ p ∈ fromL l0 l3 n l, S p := by
  intro n
  induction n with
  | zero => intro l h; exact h
  | succ n ih => intro l h; exact ih _ (sweep_in hS _ _ _ h)
theorem roots_range (h : OkH l0 l1 l2 l3) : ∀ p ∈ l1.filter (fun p => decide (0 ≤ p)), 0 ≤ p ∧ p < l0.length := fun p hp => by
  have h1 := List.mem_filter.1 hp
  exact ⟨by simpa using h1.2, (h.rs p h1.1).2⟩
/-- What is come to by rounds is what is come to. -/
theorem known_iff (h : OkH l0 l1 l2 l3) (p : Int) : p ∈ knownW l0 l1 l3 ↔ p ∈ reachL l0 l1 l3 := by
  unfold knownW
  constructor
  · refine from_in (reach_closed h) _ _ (fun q hq => ?_) p
    have h1 := List.mem_filter.1 hq
    exact reach_root h1.1 (by simpa using h1.2)
  · refine reach_least (from_is_closed h (roots_range h) _ _ ⟨[], (List.append_nil _).symm, good_nil _⟩ (by omega)) (fun q hq h0 => ?_) p
    exact (from_prefix _ _).subset (List.mem_filter.2 ⟨hq, by simpa using h0⟩)
end
end Go.Proofs.Ytigjhfijkdlldaa.H
end
section
/- The laws' own small functions, walked. -/
namespace Go.Proofs.Ytigjhfijkdlldaa.H
open Go.RowKit Go.Proofs.YtigjhfijkdlldaaW.PrintWords Go.Proofs.YtigjhfijkdlldaaW.PrintLast Go.Proofs.YtigjhfijkdlldaaW.PrintMore Go.Proofs.Ytigjhfijkdlldaa.Q
set_option linter.unusedVariables false
set_option linter.unusedSimpArgs false
attribute [local go_sem high] eqA60
section
variable {w : World} {A B A0 A1 A2 A3 B0 B1 B2 B3 : Option Addr} {c d c0 c1 c2 c3 d0 d1 d2 d3 : Nat}
theorem wInts_q {l : List Int} (h : Kd.C (Kd.int .i64) w A l.length l) (h' : Kd.C (Kd.int .i64) w B l.length l) : Calls Try.prog 35 #[.slice A l.length c, .slice B l.length d] w fun e w' => e = .returned (.bool true) ∧ Drawn0 w w' := by
  have HH := AK (And.intro h (And.intro h' h.2.1))
  have hn : ((l.length : Int) != (l.length : Int)) = false := by simp
  clear h h'
  go_enter Try.func35, Try.ntmps35
  go_wp2
  go_loopg [5] l.length (fun kq v5 w' => ∃ i : Int, v5 = .int .i64 i ∧ Aside0 (0 ≤ i ∧ i + kq = l.length) ∧ Drawn0 w w')
  case atStart => exact ⟨0, rfl, ⟨by omega, by omega⟩, Drawn0.refl _⟩
  case round =>
    obtain ⟨i, rfl, HI, ⟨m, rfl⟩⟩ := hrel
    cases gk with
    | zero =>
      have c9 : decide (i < (l.length : Int)) = false := deF (by have := HI.out; omega)
      go_wp2
      go_ret
      exact ⟨rfl, ⟨_, rfl⟩⟩
    | succ k1 =>
      have c9 : decide (i < (l.length : Int)) = true := deT (by have := HI.out; omega)
      have hi0 := eq_true (show 0 ≤ i by have := HI.out; omega)
      have hi1 := eq_true (show i < (l.length : Int) by have := HI.out; omega)
      obtain ⟨ad, e1, hx⟩ := Kd.at_int HH.out.1 i (by have := HI.out; omega) (by have := HI.out; omega)
      obtain ⟨be, e2, hy⟩ := Kd.at_int HH.out.2.1 i (by have := HI.out; omega) (by have := HI.out; omega)
      subst e1 e2
      have hne : (rd l i != rd l i) = false := by simp
      go_wp2_with fail
      go_quiet (fail)
      go_wp2
      go_roundg k1
      case measure => omega
      case rel =>
        rw [wrap_succ i (by have := HI.out; omega) (by have := HI.out; have := HH.out.2.2; omega)]
        exact ⟨i + 1, rfl, ⟨by have := HI.out; omega, by have := HI.out; omega⟩, by repeat (first | exact Drawn0.refl _ | apply Drawn0.step)⟩
theorem wInts_n {n : Nat} {l : List Int} (h : Kd.C (Kd.int .i64) w A l.length l) (h' : Kd.C (Kd.int .i64) w B l.length l) : Calls Try.prog 35 #[.slice A l.length c, .slice B l.length d] (w.drewN n) fun e w' => e = .returned (.bool true) ∧ ∃ m, w' = w.drewN m :=
  (wInts_q (Kd.C_drewN h n) (Kd.C_drewN h' n)).mono fun e w' ⟨he, hd⟩ => ⟨he, by obtain ⟨k, rfl⟩ := hd.out; exact ⟨n + k, World.drewN_drewN _ _ _⟩⟩

theorem wWatch_q {l : List S60} (h : Kd.C k60 w A l.length l) (h' : Kd.C k60 w B l.length l) : Calls Try.prog 66 #[.slice A l.length c, .slice B l.length d] w fun e w' => e = .returned (.bool true) ∧ Drawn0 w w' := by
  have HH := AK (And.intro h (And.intro h' h.2.1))
  have hn : ((l.length : Int) != (l.length : Int)) = false := by simp
  clear h h'
  go_enter Try.func66, Try.ntmps66
  go_wp2
  go_loopg [5] l.length (fun kq v5 w' => ∃ i : Int, v5 = .int .i64 i ∧ Aside0 (0 ≤ i ∧ i + kq = l.length) ∧ Drawn0 w w')
  case atStart => exact ⟨0, rfl, ⟨by omega, by omega⟩, Drawn0.refl _⟩
  case round =>
    obtain ⟨i, rfl, HI, ⟨m, rfl⟩⟩ := hrel
    cases gk with
    | zero =>
      have c9 : decide (i < (l.length : Int)) = false := deF (by have := HI.out; omega)
      go_wp2
      go_ret
      exact ⟨rfl, ⟨_, rfl⟩⟩
    | succ k1 =>
      have c9 : decide (i < (l.length : Int)) = true := deT (by have := HI.out; omega)
      have hi0 := eq_true (show 0 ≤ i by have := HI.out; omega)
      have hi1 := eq_true (show i < (l.length : Int) by have := HI.out; omega)
      obtain ⟨ad, e1, x0, x1⟩ := at_T60 HH.out.1 i (by have := HI.out; omega) (by have := HI.out; omega)
      obtain ⟨be, e2, y0, y1⟩ := at_T60 HH.out.2.1 i (by have := HI.out; omega) (by have := HI.out; omega)
      subst e1 e2
      obtain ⟨z, ez⟩ : ∃ z, z = rd_T60 l i := ⟨_, rfl⟩
      rw [← ez] at x0 x1 y0 y1
      clear ez
      have hz0 : (z.f0 == z.f0) = true := by simp
      have hz1 : (z.f1 == z.f1) = true := by simp
      go_wp2_with fail
      go_quiet (fail)
      go_wp2
      go_roundg k1
      case measure => omega
      case rel =>
        rw [wrap_succ i (by have := HI.out; omega) (by have := HI.out; have := HH.out.2.2; omega)]
        exact ⟨i + 1, rfl, ⟨by have := HI.out; omega, by have := HI.out; omega⟩, by repeat (first | exact Drawn0.refl _ | apply Drawn0.step)⟩
theorem wHas_s {x : List Int} (h : Kd.C (Kd.int .i64) w A x.length x) (p : Int) : Calls Try.prog 37 #[.slice A x.length c, .int .i64 p] w fun e w' => e = .returned (.bool (decide (p ∈ x))) ∧ w' = w := by
  have HL := AK (C_max h)
  have HC := AK h
  obtain ⟨r, er⟩ : ∃ r, r = decide (p ∈ x) := ⟨_, rfl⟩
  have HR := AK (show r = decide (p ∈ x.drop (0 : Int).toNat) from er)
  rw [← er]
  clear h er
  go_enter Try.func37, Try.ntmps37
  go_wp2
  go_loopg [5] x.length (fun kq v5 w' => ∃ i : Int, v5 = .int .i64 i ∧ Aside0 (0 ≤ i ∧ i + kq = x.length) ∧ Aside0 (r = decide (p ∈ x.drop i.toNat)) ∧ w' = w)
  case atStart => exact ⟨0, rfl, ⟨by omega, by omega⟩, HR, rfl⟩
  case round =>
    clear HR
    obtain ⟨i, rfl, HI, HR, rfl⟩ := hrel
    cases gk with
    | zero =>
      have c9 : decide (i < (x.length : Int)) = false := deF (by have := HI.out; omega)
      have hr : r = false := by rw [HR.out, drop_end _ _ (by have := HI.out; omega)]; simp
      subst hr
      go_wp2
      go_ret
      exact ⟨rfl, rfl⟩
    | succ k1 =>
      have c9 : decide (i < (x.length : Int)) = true := deT (by have := HI.out; omega)
      have hi0 := eq_true (show 0 ≤ i by have := HI.out; omega)
      have hi1 := eq_true (show i < (x.length : Int) by have := HI.out; omega)
      obtain ⟨ad, e1, hq⟩ := Kd.at_int HC.out i (by have := HI.out; omega) (by have := HI.out; omega)
      subst e1
      have hr := HR.out
      rw [drop_cons _ 0 i (by have := HI.out; omega) (by have := HI.out; omega)] at hr
      rw [show x.getD i.toNat 0 = rd x i from rfl] at hr
      obtain ⟨q, eq⟩ : ∃ q, q = rd x i := ⟨_, rfl⟩
      rw [← eq] at hq hr
      by_cases d : q = p
      · have hr2 : r = true := by rw [hr, d]; simp
        have d1 : (q == p) = true := by simpa using d
        have HZ := AK hr2
        clear HR eq hr hr2 d
        go_wp2
        go_ret
        exact ⟨by rw [HZ.out]; rfl, rfl⟩
      · have HR2 := AK (show r = decide (p ∈ x.drop (i + 1).toNat) by
          rw [hr]
          congr 1
          rw [List.mem_cons]
          exact propext ⟨fun h => h.elim (fun e => absurd e.symm d) id, .inr⟩)
        have d1 : (q == p) = false := by simpa using d
        clear HR hr eq d
        go_wp2
        go_roundg k1
        case measure => omega
        case rel =>
          rw [wrap_succ i (by have := HI.out; omega) (by have := HI.out; have := HL.out; omega)]
          exact ⟨i + 1, rfl, ⟨by have := HI.out; omega, by have := HI.out; omega⟩, HR2, rfl⟩
set_option maxHeartbeats 2000000 in
theorem wHeap_c {l0 : List S38} {l1 : List Int} {l2 l3 : List S60} (h : InH w A0 c0 A1 c1 A2 c2 A3 c3 l0 l1 l2 l3) (h' : InH w B0 d0 B1 d1 B2 d2 B3 d3 l0 l1 l2 l3) :
    Calls Try.prog 19 #[.agg #[.slice A0 l0.length c0, .slice A1 l1.length c1, .slice A2 l2.length c2, .slice A3 l3.length c3], .agg #[.slice B0 l0.length d0, .slice B1 l1.length d1, .slice B2 l2.length d2, .slice B3 l3.length d3]] w fun e w' => e = .returned (.bool true) ∧ Below w.heap.size w w' := by
  have HB := AK (show Below w.heap.size w ((w.alloc (.cells #[.slice A0 l0.length c0, .slice A1 l1.length c1, .slice A2 l2.length c2, .slice A3 l3.length c3] 28 (0, 0))).alloc (.cells #[.slice B0 l0.length d0, .slice B1 l1.length d1, .slice B2 l2.length d2, .slice B3 l3.length d3] 28 (0, 0))) from below_alloc (below_alloc (Below.refl _ _) _) _)
  have HX := AK (show ((w.alloc (.cells #[.slice A0 l0.length c0, .slice A1 l1.length c1, .slice A2 l2.length c2, .slice A3 l3.length c3] 28 (0, 0))).alloc (.cells #[.slice B0 l0.length d0, .slice B1 l1.length d1, .slice B2 l2.length d2, .slice B3 l3.length d3] 28 (0, 0))).heap[w.heap.size]? = some (.cells #[.slice A0 l0.length c0, .slice A1 l1.length c1, .slice A2 l2.length c2, .slice A3 l3.length c3] 28 (0, 0)) from blk_alloc (blk_new w _) _)
  have HY := AK (show ((w.alloc (.cells #[.slice A0 l0.length c0, .slice A1 l1.length c1, .slice A2 l2.length c2, .slice A3 l3.length c3] 28 (0, 0))).alloc (.cells #[.slice B0 l0.length d0, .slice B1 l1.length d1, .slice B2 l2.length d2, .slice B3 l3.length d3] 28 (0, 0))).heap[w.heap.size + 1]? = some (.cells #[.slice B0 l0.length d0, .slice B1 l1.length d1, .slice B2 l2.length d2, .slice B3 l3.length d3] 28 (0, 0)) from blk_new1 w _ _)
  have HH := AK (And.intro h h')
  have hn : ((l0.length : Int) != (l0.length : Int)) = false := by simp
  clear h h'
  go_enter Try.func19, Try.ntmps19
  go_wp2_with fail
  generalize ((w.alloc (.cells #[.slice A0 l0.length c0, .slice A1 l1.length c1, .slice A2 l2.length c2, .slice A3 l3.length c3] 28 (0, 0))).alloc (.cells #[.slice B0 l0.length d0, .slice B1 l1.length d1, .slice B2 l2.length d2, .slice B3 l3.length d3] 28 (0, 0))) = w1 at HB HX HY ⊢
  refine (wInts_q (Kd.C_below HH.out.1.r1 HB.out) (Kd.C_below HH.out.2.r1 HB.out)).mono ?_
  rintro e v0 ⟨rfl, hb⟩
  replace hb : Below _ _ _ := hb.below
  replace HB := AK (bst HB.out hb)
  replace HX := AK (bbl HX.out hb)
  replace HY := AK (bbl HY.out hb)
  clear hb
  obtain ⟨p0, p1, p2, p3⟩ := box4 HX.out
  obtain ⟨q0, q1, q2, q3⟩ := box4 HY.out
  go_wp2_with fail
  clear p0 p1 p2 p3 q0 q1 q2 q3
  refine (wWatch_q (Kd.C_below HH.out.1.r2 HB.out) (Kd.C_below HH.out.2.r2 HB.out)).mono ?_
  rintro e v1 ⟨rfl, hb⟩
  replace hb : Below _ _ _ := hb.below
  replace HB := AK (bst HB.out hb)
  replace HX := AK (bbl HX.out hb)
  replace HY := AK (bbl HY.out hb)
  clear hb
  obtain ⟨p0, p1, p2, p3⟩ := box4 HX.out
  obtain ⟨q0, q1, q2, q3⟩ := box4 HY.out
  go_wp2_with fail
  clear p0 p1 p2 p3 q0 q1 q2 q3
  refine (wWatch_q (Kd.C_below HH.out.1.r3 HB.out) (Kd.C_below HH.out.2.r3 HB.out)).mono ?_
  rintro e v2 ⟨rfl, hb⟩
  replace hb : Below _ _ _ := hb.below
  replace HB := AK (bst HB.out hb)
  replace HX := AK (bbl HX.out hb)
  replace HY := AK (bbl HY.out hb)
  clear hb
  obtain ⟨p0, p1, p2, p3⟩ := box4 HX.out
  obtain ⟨q0, q1, q2, q3⟩ := box4 HY.out
  go_wp2
  clear p0 p1 p2 p3 q0 q1 q2 q3
  go_loopg [5] l0.length (fun kq v5 w' => ∃ i : Int, v5 = .int .i64 i ∧ Aside0 (0 ≤ i ∧ i + kq = l0.length) ∧ Aside0 (Below w.heap.size w w') ∧ Aside0 (w'.heap[w.heap.size]? = some (.cells #[.slice A0 l0.length c0, .slice A1 l1.length c1, .slice A2 l2.length c2, .slice A3 l3.length c3] 28 (0, 0))) ∧ Aside0 (w'.heap[w.heap.size + 1]? = some (.cells #[.slice B0 l0.length d0, .slice B1 l1.length d1, .slice B2 l2.length d2, .slice B3 l3.length d3] 28 (0, 0))))
  case atStart => exact ⟨0, rfl, ⟨by omega, by omega⟩, ⟨by repeat (first | exact HB.out | apply pw_below_drewN | apply below_drew1)⟩, ⟨HX.out⟩, ⟨HY.out⟩⟩
  case round =>
    clear HB HX HY
    obtain ⟨i, rfl, HI, HB, HX, HY⟩ := hrel
    obtain ⟨p0, p1, p2, p3⟩ := box4 HX.out
    obtain ⟨q0, q1, q2, q3⟩ := box4 HY.out
    cases gk with
    | zero =>
      have c9 : decide (i < (l0.length : Int)) = false := deF (by have := HI.out; omega)
      go_wp2
      go_ret
      exact ⟨rfl, HB.out⟩
    | succ k1 =>
      have c9 : decide (i < (l0.length : Int)) = true := deT (by have := HI.out; omega)
      have hi0 := eq_true (show 0 ≤ i by have := HI.out; omega)
      have hi1 := eq_true (show i < (l0.length : Int) by have := HI.out; omega)
      have HM := AK (C_max HH.out.1.r0)
      obtain ⟨ad, F, f, e1, x0, x1, x2, _, hx⟩ := at_T38 (Kd.C_below HH.out.1.r0 HB.out) i (by have := HI.out; omega) (by have := HI.out; omega)
      obtain ⟨be, G, g, e2, y0, y1, y2, _, hy⟩ := at_T38 (Kd.C_below HH.out.2.r0 HB.out) i (by have := HI.out; omega) (by have := HI.out; omega)
      subst e1 e2
      obtain ⟨z, ez⟩ : ∃ z, z = rd_T38 l0 i := ⟨_, rfl⟩
      rw [← ez] at x0 x1 x2 y0 y1 y2 hx hy
      have hk0 : (z.f0 != z.f0) = false := by simp
      have hs0 : (z.f1.toList != z.f1.toList) = false := by simp
      have HC := AK (And.intro hx hy)
      clear ez hx hy
      go_wp2_with fail
      go_quiet (refine wInts_n HC.out.1 HC.out.2)
      go_wp2
      go_roundg k1
      case measure => omega
      case rel =>
        rw [wrap_succ i (by have := HI.out; omega) (by have := HI.out; have := HM.out; omega)]
        exact ⟨i + 1, rfl, ⟨by have := HI.out; omega, by have := HI.out; omega⟩, ⟨by repeat (first | exact HB.out | apply pw_below_drewN | apply below_drew1)⟩, ⟨HX.out⟩, ⟨HY.out⟩⟩
end
end Go.Proofs.Ytigjhfijkdlldaa.H
end
