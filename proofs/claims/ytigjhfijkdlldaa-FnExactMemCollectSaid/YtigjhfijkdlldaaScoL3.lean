-- Made by a program of this session (wip/prt.sh, wip/fakes.py, wip/post.py) that calls the kit's print.py and packs what it wrote.
import Derived.Test.YtigjhfijkdlldaaScoT
import Derived.Test.YtigjhfijkdlldaaScoL2
namespace Go.Proofs.Ytigjhfijkdlldaa.Q
open Go.RowKit Go.Proofs.YtigjhfijkdlldaaW.PrintWords Go.Proofs.YtigjhfijkdlldaaW.PrintLast Go.Proofs.YtigjhfijkdlldaaW.PrintMore
attribute [local go_sem] max2_int min2_int max_two min_two max_three min_three max_four min_four
set_option linter.unusedVariables false
set_option linter.unusedSimpArgs false

attribute [local go_sem high] eqA60
/-! ### spec_l3Told: function 119 -/
def spec_l3Told.l0 : Nat → List Int → List (S60) → Int → List (S38) → List Int → List (S60) → List (S60) → Option ((List (S60)))
 | 0, _, _, _, _, _, _, _ => none
 | k + 1, x1, x5, x6, x1025000, x1025001, x1025002, x1025003 => if x6 < (x1025002.length : Int) then (if 0 ≤ x6 then ((spec_l2At.f k x1 ((rd_T60 x1025002 x6).f0)).bind fun t1030 => (if t1030 ≥ 0 then ((spec_l2At.f k x1 ((rd_T60 x1025002 x6).f1)).bind fun t1031 => (if t1031 < 0 then (if x5.length < 8796093022208 then (spec_l3Told.l0 k x1 (x5 ++ [(⟨(rd_T60 x1025002 x6).f0, (rd_T60 x1025002 x6).f1⟩ : S60)]) (wrap64 (x6 + 1)) x1025000 x1025001 x1025002 x1025003) else (none)) else (spec_l3Told.l0 k x1 x5 (wrap64 (x6 + 1)) x1025000 x1025001 x1025002 x1025003))) else (spec_l3Told.l0 k x1 x5 (wrap64 (x6 + 1)) x1025000 x1025001 x1025002 x1025003))) else (none)) else (some x5)
def spec_l3Told.f (k : Nat) (l0_0 : List (S38)) (l0_1 : List Int) (l0_2 : List (S60)) (l0_3 : List (S60)) (l1 : List Int) : Option ((List (S60))) := spec_l3Told.l0 k l1 (([] : List (S60))) 0 l0_0 l0_1 l0_2 l0_3
set_option maxHeartbeats 8000000 in
set_option maxRecDepth 100000 in
theorem spec_l3Told.calls (k : Nat) (A0_0 : Option Addr) (c0_0 : Nat) (l0_0 : List (S38)) (A0_1 : Option Addr) (c0_1 : Nat) (l0_1 : List Int) (A0_2 : Option Addr) (c0_2 : Nat) (l0_2 : List (S60)) (A0_3 : Option Addr) (c0_3 : Nat) (l0_3 : List (S60)) (A1 : Option Addr) (c1 : Nat) (l1 : List Int) (r : List (S60)) (w : World) (hr0_0 : Kd.C k38 w A0_0 l0_0.length l0_0) (hc0_0 : l0_0.length ≤ c0_0) (hr0_1 : Kd.C (Kd.int .i64) w A0_1 l0_1.length l0_1) (hc0_1 : l0_1.length ≤ c0_1) (hr0_2 : Kd.C k60 w A0_2 l0_2.length l0_2) (hc0_2 : l0_2.length ≤ c0_2) (hr0_3 : Kd.C k60 w A0_3 l0_3.length l0_3) (hc0_3 : l0_3.length ≤ c0_3) (hr1 : Kd.C (Kd.int .i64) w A1 l1.length l1) (hc1 : l1.length ≤ c1) (h : spec_l3Told.f k l0_0 l0_1 l0_2 l0_3 l1 = some r) :
  Calls Try.prog 119 #[.agg #[.slice A0_0 l0_0.length c0_0, .slice A0_1 l0_1.length c0_1, .slice A0_2 l0_2.length c0_2, .slice A0_3 l0_3.length c0_3], .slice A1 l1.length c1] w fun e w' => ∃ v0_ : Value, e = .returned (v0_) ∧ Kd.R k60 60 w' w.heap.size (fun _ => True) v0_ r ∧ Below w.heap.size w w' := by
 have hu28 := Try.underlying28
 have hu60 := Try.underlying60
 have HR0_0 := AK hr0_0
 have HC0_0 := AK hc0_0
 clear hr0_0 hc0_0
 have HR0_1 := AK hr0_1
 have HC0_1 := AK hc0_1
 clear hr0_1 hc0_1
 have HR0_2 := AK hr0_2
 have HC0_2 := AK hc0_2
 clear hr0_2 hc0_2
 have HR0_3 := AK hr0_3
 have HC0_3 := AK hc0_3
 clear hr0_3 hc0_3
 have HR1 := AK hr1
 have HC1 := AK hc1
 clear hr1 hc1
 have HB := AK (Below.refl w.heap.size w)
 have H : (spec_l3Told.l0 k l1 (([] : List (S60))) 0 l0_0 l0_1 l0_2 l0_3) = some r := h
 clear h
 obtain ⟨y1025, hy1025⟩ : ∃ y_ : List (S60), y_ = (([] : List (S60))) := ⟨_, rfl⟩
 replace H : (spec_l3Told.l0 k l1 y1025 0 l0_0 l0_1 l0_2 l0_3) = some r := by first | (rw [hy1025]; with_reducible exact H) | (have H2_ := (Option.bind_some _ _).symm.trans H; rw [hy1025]; with_reducible exact H2_) | (have H2_ := (Option.bind_some _ _).symm.trans H; with_reducible exact H2_) | with_reducible exact H | (rw [hy1025]; exact H) | exact H
 have Ny1025 := AK hy1025
 clear hy1025
 have H' := AK H
 clear H
 go_enter Try.func119, Try.ntmps119
 go_wp2_with (first | ((with_reducible refine gate_dst (N := 2) rfl ?_); refine box_event ?hg (N := 2) ?hd (cs := #[.slice A0_0 l0_0.length c0_0, .slice A0_1 l0_1.length c0_1, .slice A0_2 l0_2.length c0_2, .slice A0_3 l0_3.length c0_3]) (t := 28) ?hr ?_; (case hd => rfl); (case hg => rfl); (case hr => first | (go_simp; done) | (go_simp; rfl)); intro gb1024 hg w3 hbox hb; have n0_ := AK (bst zB hb); have n1_ := AK (hbox); have n2_ := AK ((zG hg : w.heap.size ≤ gb1024)); have n3_ := AK ((zG hg : w.heap.size ≤ gb1024)); clear HB; have HB := n0_; have BK1024 := n1_; have GW1024 := n2_; have GE1024 := n3_; clear n0_ n1_ n2_ n3_; clear hb hbox hg) | ((with_reducible refine gate_dst (N := 8) rfl ?_); refine Kd.R_lit k60 _ 60 ?hg (N := 8) ?hd (xs := ([] : List (S60))) (inner := []) (ok := fun _ => True) (okp := fun _ => True) ?hr ?hp (fun _ hk => hk) trivial (Below.refl _ _) (Nat.le_refl _) (by simp) ?_; (case hd => rfl); (case hg => rfl); (case hr => first | (go_simp; done) | (go_simp; rfl)); (case hp => exact (Reps.none _ _)); intro v1026 w4 ho5 hb hg_ hnew_; clear hg_ hnew_; (first | rw [← Ny1025.out] at ho5 | (simp only [Int.reduceToNat] at ho5; rw [← Ny1025.out] at ho5)); have n0_ := AK (Kd.R_lower ho5 (below_size zB)); have n1_ := AK (bbl (zK BK1024) hb); have n2_ := AK (bst zB hb); clear BK1024; clear HB; have HO1027 := n0_; have BK1024 := n1_; have HB := n2_; clear n0_ n1_ n2_; clear hb ho5))
 go_loopg [5, 6] k (fun kq v5 v6 w' => ∃ (x5_1 : List (S60)) (x6_1 : Int), v6 = .int .i64 x6_1 ∧ Aside0 (spec_l3Told.l0 kq l1 x5_1 x6_1 l0_0 l0_1 l0_2 l0_3 = some r) ∧ Aside0 (kq ≤ k) ∧ Aside0 (Kd.R k60 60 w' w.heap.size (fun _ => True) v5 x5_1) ∧ Aside0 (w'.heap[gb1024]? = some (.cells #[(.slice A0_0 l0_0.length c0_0), (.slice A0_1 l0_1.length c0_1), (.slice A0_2 l0_2.length c0_2), (.slice A0_3 l0_3.length c0_3)] 28 (0, 0))) ∧ Aside0 (Below w.heap.size w w'))
 case atStart => exact ⟨(y1025), (0), (by first | rfl | (simp; done) | (simp [*]; done)), H', ⟨Nat.le_refl _⟩, ⟨by (with_reducible repeat (first | apply Kd.R_alloc | apply Kd.R_drewN | apply Kd.R_drew)); exact HO1027.out⟩, ⟨by (with_reducible repeat (first | refine blk_drewN ?_ _ | refine blk_drew ?_ | refine blk_alloc ?_ _)); exact BK1024.out⟩, ⟨zB⟩⟩
 case round =>
  clear H'
  try clear c1
  try clear p2
  obtain ⟨x5_1, x6_1, rfl, HA, HK1, HO_5, BK1024, HB⟩ := hrel
  cases gk with
  | zero => exact absurd HA.out (by simp [spec_l3Told.l0])
  | succ k1 =>
   have H := HA.out
   clear HA
   simp only [spec_l3Told.l0] at H
   by_cases c6 : x6_1 < (l0_2.length : Int)
   ·rw [if_pos c6] at H
    have c6b0 : decide (x6_1 < (l0_2.length : Int)) = true := deT c6
    clear c6
    by_cases c7 : 0 ≤ x6_1
    ·rw [if_pos c7] at H
     have c7b0 : decide (0 ≤ x6_1) = true := deT c7
     clear c7
     replace H := Option.bind_eq_some_iff.mp H
     obtain ⟨t1030, A80, H⟩ := H
     replace H : (if t1030 ≥ 0 then ((spec_l2At.f k1 l1 ((rd_T60 l0_2 x6_1).f1)).bind fun t1031 => (if t1031 < 0 then (if x5_1.length < 8796093022208 then (spec_l3Told.l0 k1 l1 (x5_1 ++ [(⟨(rd_T60 l0_2 x6_1).f0, (rd_T60 l0_2 x6_1).f1⟩ : S60)]) (wrap64 (x6_1 + 1)) l0_0 l0_1 l0_2 l0_3) else (none)) else (spec_l3Told.l0 k1 l1 x5_1 (wrap64 (x6_1 + 1)) l0_0 l0_1 l0_2 l0_3))) else (spec_l3Told.l0 k1 l1 x5_1 (wrap64 (x6_1 + 1)) l0_0 l0_1 l0_2 l0_3)) = some r := H
     have A8 := AK A80
     clear A80
     by_cases c9 : t1030 ≥ 0
     ·rw [if_pos c9] at H
      have c9b0 : decide (0 ≤ t1030) = true := deT c9
      clear c9
      replace H := Option.bind_eq_some_iff.mp H
      obtain ⟨t1031, A100, H⟩ := H
      replace H : (if t1031 < 0 then (if x5_1.length < 8796093022208 then (spec_l3Told.l0 k1 l1 (x5_1 ++ [(⟨(rd_T60 l0_2 x6_1).f0, (rd_T60 l0_2 x6_1).f1⟩ : S60)]) (wrap64 (x6_1 + 1)) l0_0 l0_1 l0_2 l0_3) else (none)) else (spec_l3Told.l0 k1 l1 x5_1 (wrap64 (x6_1 + 1)) l0_0 l0_1 l0_2 l0_3)) = some r := H
      have A10 := AK A100
      clear A100
      by_cases c11 : t1031 < 0
      ·rw [if_pos c11] at H
       have c11b0 : decide (t1031 < 0) = true := deT c11
       clear c11
       by_cases c12 : x5_1.length < 8796093022208
       ·rw [if_pos c12] at H
        have LMc12 := AK c12
        clear c12
        obtain ⟨y1032, hy1032⟩ : ∃ y_ : List (S60), y_ = (x5_1 ++ [(⟨(rd_T60 l0_2 x6_1).f0, (rd_T60 l0_2 x6_1).f1⟩ : S60)]) := ⟨_, rfl⟩
        replace H : (spec_l3Told.l0 k1 l1 y1032 (wrap64 (x6_1 + 1)) l0_0 l0_1 l0_2 l0_3) = some r := by first | (rw [hy1032]; with_reducible exact H) | (have H2_ := (Option.bind_some _ _).symm.trans H; rw [hy1032]; with_reducible exact H2_) | (have H2_ := (Option.bind_some _ _).symm.trans H; with_reducible exact H2_) | with_reducible exact H | (rw [hy1032]; exact H) | exact H
        have Ny1032 := AK hy1032
        clear hy1032
        have H' := AK H
        clear H
        have hcz13_0 : wr.cell? ⟨gb1024, 0, none⟩ = some (.slice A0_0 l0_0.length c0_0) := (bcl BK1024.out 0).trans rfl
        have hcz13_1 : wr.cell? ⟨gb1024, 1, none⟩ = some (.slice A0_1 l0_1.length c0_1) := (bcl BK1024.out 1).trans rfl
        have hcz13_2 : wr.cell? ⟨gb1024, 2, none⟩ = some (.slice A0_2 l0_2.length c0_2) := (bcl BK1024.out 2).trans rfl
        have hcz13_3 : wr.cell? ⟨gb1024, 3, none⟩ = some (.slice A0_3 l0_3.length c0_3) := (bcl BK1024.out 3).trans rfl
        have hfz13_0 := bfz BK1024.out 0
        have hfz13_1 := bfz BK1024.out 1
        have hfz13_2 := bfz BK1024.out 2
        have hfz13_3 := bfz BK1024.out 3
        have p1028 : 0 ≤ (x6_1 : Int) := of_decide_eq_true zA
        have q1028 : x6_1 < (l0_2.length : Int) := of_decide_eq_true zA
        obtain ⟨ad1028, e1028, hx1028_0, hx1028_1⟩ := at_T60 HR0_2.out x6_1 p1028 q1028
        cases e1028
        replace hx1028_0 := (HB.out.cell (World.block_lt_of_cell? w _ hx1028_0)).trans hx1028_0
        replace hx1028_1 := (HB.out.cell (World.block_lt_of_cell? w _ hx1028_1)).trans hx1028_1
        replace p1028 := eq_true p1028
        replace q1028 := eq_true q1028
        go_wp2_with (first | ((with_reducible refine gate_dst (N := 7) rfl ?_); refine box_event ?hg (N := 7) ?hd (cs := #[.int .i64 0, .int .i64 0]) (t := 60) ?hr ?_; (case hd => rfl); (case hg => rfl); (case hr => first | (go_simp; done) | (go_simp; rfl)); intro gb1029 hg w14 hbox hb; have n0_ := AK (Kd.R_below (Kd.R_elderB (by (with_reducible repeat (first | apply Kd.R_alloc | apply Kd.R_drewN | apply Kd.R_drew)); exact HO_5.out) gb1029 (Nat.le_of_eq hg.symm)) hb); have n1_ := AK (bbl (zK BK1024) hb); have n2_ := AK (bst zB hb); have n3_ := AK (hbox); have n4_ := AK ((zG hg : w.heap.size ≤ gb1029)); have n5_ := AK ((zG hg : w.heap.size ≤ gb1029)); have n6_ := AK (zN hg BK1024); have n7_ := AK (zM hg BK1024); clear HO_5; clear BK1024; clear HB; have HO_5 := n0_; have BK1024 := n1_; have HB := n2_; have BK1029 := n3_; have GW1029 := n4_; have GE1029 := n5_; have NB1024_1029 := n6_; have NB1029_1024 := n7_; clear n0_ n1_ n2_ n3_ n4_ n5_ n6_ n7_; clear hb hbox hg; have hnb15 := NB1029_1024.out; have hnc15 := NB1024_1029.out; have hcz16_0 : w14.cell? ⟨gb1029, 0, none⟩ = some (.int .i64 0) := (bcl BK1029.out 0).trans rfl; have hcz16_1 : w14.cell? ⟨gb1029, 1, none⟩ = some (.int .i64 0) := (bcl BK1029.out 1).trans rfl; have hfz16_0 := bfz BK1029.out 0; have hfz16_1 := bfz BK1029.out 1) | ((with_reducible refine gate_callee (f := 96) rfl ?_); refine goesL_ (some 24) rfl rfl Try.func96 (by kernel_rfl) rfl #[.slice A1 l1.length c1, .int .i64 ((rd_T60 l0_2 x6_1).f0)] rfl zI ?_; (with_reducible refine (spec_l2At.calls k1 _ _ l1 ((rd_T60 l0_2 x6_1).f0) t1030 _ ?side1 ?side2 A8.out).mono ?_); (case side1 => exact Kd.C_below HR1.out zB); (case side2 => exact HC1.out); rintro e w' ⟨rfl, ⟨nd, rfl⟩⟩; refine ⟨_, rfl, ?_⟩) | (go_at_call 96; (with_reducible refine (spec_l2At.calls k1 _ _ l1 ((rd_T60 l0_2 x6_1).f1) t1031 _ ?side1 ?side2 A10.out).mono ?_); (case side1 => exact Kd.C_below HR1.out zB); (case side2 => exact HC1.out); rintro e w' ⟨rfl, ⟨nd, rfl⟩⟩) | ((with_reducible refine gate_builtin (b := .append) (xs := #[.tmp 33, .tmp 35]) rfl ?_); at_builtin; refine Kd.R_append k60 (w0 := w) w.heap.size rfl (.tmp 33) (.tmp 35) 26 60 (.agg #[(.int .i64 0), (.int .i64 0)]) 16 rfl Try.underlying26 info60 rfl (by decide) (by omega) u5 x5_1 (⟨(rd_T60 l0_2 x6_1).f0, (rd_T60 l0_2 x6_1).f1⟩ : S60) [.int .i64 ((rd_T60 l0_2 x6_1).f0), .int .i64 ((rd_T60 l0_2 x6_1).f1)] (fun k_ => k_ ≠ gb1029) (fun _ => False) rfl (by first | (go_simp; done) | (go_simp; rfl)) ?aP (fun _ hk => hk.elim) ?aF ?aO ?aB ?aS ?aL ?_; (case aP => exact k60_mkM _ _ _ (⟨(rd_T60 l0_2 x6_1).f0, (rd_T60 l0_2 x6_1).f1⟩ : S60)); (case aB => exact zB); (case aF => exact (fun k_ hk => Kd.freshB (g := gb1029) (o := .cells #[.int .i64 ((rd_T60 l0_2 x6_1).f0), .int .i64 ((rd_T60 l0_2 x6_1).f1)] 60 (0, 0)) (by (with_reducible repeat (first | refine blk_drewN ?_ _ | refine blk_drew ?_ | refine blk_alloc ?_ _)); refine blk_put (cs := #[.int .i64 ((rd_T60 l0_2 x6_1).f0), .int .i64 0]) ?_ 1 _ rfl; (with_reducible repeat (first | refine blk_drewN ?_ _ | refine blk_drew ?_ | refine blk_alloc ?_ _)); refine blk_put (cs := #[.int .i64 0, .int .i64 0]) ?_ 0 _ rfl; (with_reducible repeat (first | refine blk_drewN ?_ _ | refine blk_drew ?_ | refine blk_alloc ?_ _)); exact BK1029.out) k_ hk)); (case aO => exact (by (with_reducible repeat (first | apply Kd.R_alloc | apply Kd.R_drewN | apply Kd.R_drew)); exact Kd.R_mono (Kd.R_far (p := ⟨gb1029, 1, none⟩) (Kd.R_far (p := ⟨gb1029, 0, none⟩) (Kd.R_mono HO_5.out (fun k_ hk => (⟨hk, hk.2⟩ : _ ∧ k_ ≠ gb1029))) (fun _ hk => hk.2) (.int .i64 ((rd_T60 l0_2 x6_1).f0))) (fun _ hk => hk.2) (.int .i64 ((rd_T60 l0_2 x6_1).f1))) (fun _ hk => hk.1.2))); (case aS => exact (below_size zB)); (case aL => have := LMc12.out; omega); intro v1033 w17 ho hb hg hat; rw [← Ny1032.out] at ho; have n0_ := AK (blk_grown (g := gb1024) (o := .cells #[.slice A0_0 l0_0.length c0_0, .slice A0_1 l0_1.length c0_1, .slice (some ad1028) l0_2.length c0_2, .slice A0_3 l0_3.length c0_3] 28 (0, 0)) (by (with_reducible repeat (first | refine blk_drewN ?_ _ | refine blk_drew ?_ | refine blk_alloc ?_ _)); refine blk_far ?_ NB1024_1029.out _; (with_reducible repeat (first | refine blk_drewN ?_ _ | refine blk_drew ?_ | refine blk_alloc ?_ _)); refine blk_far ?_ NB1024_1029.out _; (with_reducible repeat (first | refine blk_drewN ?_ _ | refine blk_drew ?_ | refine blk_alloc ?_ _)); exact BK1024.out) hg (Kd.R_ne HO_5.out BK1024.out (by decide))); have n1_ := AK (blk_grown (g := gb1029) (o := .cells #[.int .i64 ((rd_T60 l0_2 x6_1).f0), .int .i64 ((rd_T60 l0_2 x6_1).f1)] 60 (0, 0)) (by (with_reducible repeat (first | refine blk_drewN ?_ _ | refine blk_drew ?_ | refine blk_alloc ?_ _)); refine blk_put (cs := #[.int .i64 ((rd_T60 l0_2 x6_1).f0), .int .i64 0]) ?_ 1 _ rfl; (with_reducible repeat (first | refine blk_drewN ?_ _ | refine blk_drew ?_ | refine blk_alloc ?_ _)); refine blk_put (cs := #[.int .i64 0, .int .i64 0]) ?_ 0 _ rfl; (with_reducible repeat (first | refine blk_drewN ?_ _ | refine blk_drew ?_ | refine blk_alloc ?_ _)); exact BK1029.out) hg (Kd.R_away HO_5.out (fun _ hk => hk.2))); have n2_ := AK (hb); have n3_ := AK (ho); clear BK1024; clear BK1029; clear HB; clear HO_5; have BK1024 := n0_; have BK1029 := n1_; have HB := n2_; have HO1034 := n3_; clear n0_ n1_ n2_ n3_; clear ho hb hg hat))
        go_roundg k1
        case measure => have := HK1.out; omega
        case rel => exact ⟨(y1032), (wrap64 (x6_1 + 1)), (by first | rfl | (simp; done) | (simp [*]; done)), H', ⟨by have := HK1.out; omega⟩, ⟨by (with_reducible repeat (first | apply Kd.R_alloc | apply Kd.R_drewN | apply Kd.R_drew)); exact Kd.R_mono HO1034.out (fun _ hk => trivial)⟩, ⟨by (with_reducible repeat (first | refine blk_drewN ?_ _ | refine blk_drew ?_ | refine blk_alloc ?_ _)); exact BK1024.out⟩, ⟨zB⟩⟩
       ·rw [if_neg c12] at H
        exact absurd H (by simp)
      ·rw [if_neg c11] at H
       have c11b0 : decide (t1031 < 0) = false := deF c11
       clear c11
       have H' := AK H
       clear H
       have hcz18_0 : wr.cell? ⟨gb1024, 0, none⟩ = some (.slice A0_0 l0_0.length c0_0) := (bcl BK1024.out 0).trans rfl
       have hcz18_1 : wr.cell? ⟨gb1024, 1, none⟩ = some (.slice A0_1 l0_1.length c0_1) := (bcl BK1024.out 1).trans rfl
       have hcz18_2 : wr.cell? ⟨gb1024, 2, none⟩ = some (.slice A0_2 l0_2.length c0_2) := (bcl BK1024.out 2).trans rfl
       have hcz18_3 : wr.cell? ⟨gb1024, 3, none⟩ = some (.slice A0_3 l0_3.length c0_3) := (bcl BK1024.out 3).trans rfl
       have hfz18_0 := bfz BK1024.out 0
       have hfz18_1 := bfz BK1024.out 1
       have hfz18_2 := bfz BK1024.out 2
       have hfz18_3 := bfz BK1024.out 3
       have p1028 : 0 ≤ (x6_1 : Int) := of_decide_eq_true zA
       have q1028 : x6_1 < (l0_2.length : Int) := of_decide_eq_true zA
       obtain ⟨ad1028, e1028, hx1028_0, hx1028_1⟩ := at_T60 HR0_2.out x6_1 p1028 q1028
       cases e1028
       replace hx1028_0 := (HB.out.cell (World.block_lt_of_cell? w _ hx1028_0)).trans hx1028_0
       replace hx1028_1 := (HB.out.cell (World.block_lt_of_cell? w _ hx1028_1)).trans hx1028_1
       replace p1028 := eq_true p1028
       replace q1028 := eq_true q1028
       go_wp2_with (first | ((with_reducible refine gate_dst (N := 7) rfl ?_); refine box_event ?hg (N := 7) ?hd (cs := #[.int .i64 0, .int .i64 0]) (t := 60) ?hr ?_; (case hd => rfl); (case hg => rfl); (case hr => first | (go_simp; done) | (go_simp; rfl)); intro gb1029 hg w19 hbox hb; have n0_ := AK (Kd.R_below (Kd.R_elderB (by (with_reducible repeat (first | apply Kd.R_alloc | apply Kd.R_drewN | apply Kd.R_drew)); exact HO_5.out) gb1029 (Nat.le_of_eq hg.symm)) hb); have n1_ := AK (bbl (zK BK1024) hb); have n2_ := AK (bst zB hb); have n3_ := AK (hbox); have n4_ := AK ((zG hg : w.heap.size ≤ gb1029)); have n5_ := AK ((zG hg : w.heap.size ≤ gb1029)); have n6_ := AK (zN hg BK1024); have n7_ := AK (zM hg BK1024); clear HO_5; clear BK1024; clear HB; have HO_5 := n0_; have BK1024 := n1_; have HB := n2_; have BK1029 := n3_; have GW1029 := n4_; have GE1029 := n5_; have NB1024_1029 := n6_; have NB1029_1024 := n7_; clear n0_ n1_ n2_ n3_ n4_ n5_ n6_ n7_; clear hb hbox hg; have hnb20 := NB1029_1024.out; have hnc20 := NB1024_1029.out; have hcz21_0 : w19.cell? ⟨gb1029, 0, none⟩ = some (.int .i64 0) := (bcl BK1029.out 0).trans rfl; have hcz21_1 : w19.cell? ⟨gb1029, 1, none⟩ = some (.int .i64 0) := (bcl BK1029.out 1).trans rfl; have hfz21_0 := bfz BK1029.out 0; have hfz21_1 := bfz BK1029.out 1) | ((with_reducible refine gate_callee (f := 96) rfl ?_); refine goesL_ (some 24) rfl rfl Try.func96 (by kernel_rfl) rfl #[.slice A1 l1.length c1, .int .i64 ((rd_T60 l0_2 x6_1).f0)] rfl zI ?_; (with_reducible refine (spec_l2At.calls k1 _ _ l1 ((rd_T60 l0_2 x6_1).f0) t1030 _ ?side1 ?side2 A8.out).mono ?_); (case side1 => exact Kd.C_below HR1.out zB); (case side2 => exact HC1.out); rintro e w' ⟨rfl, ⟨nd, rfl⟩⟩; refine ⟨_, rfl, ?_⟩) | (go_at_call 96; (with_reducible refine (spec_l2At.calls k1 _ _ l1 ((rd_T60 l0_2 x6_1).f1) t1031 _ ?side1 ?side2 A10.out).mono ?_); (case side1 => exact Kd.C_below HR1.out zB); (case side2 => exact HC1.out); rintro e w' ⟨rfl, ⟨nd, rfl⟩⟩))
       go_roundg k1
       case measure => have := HK1.out; omega
       case rel => exact ⟨(x5_1), (wrap64 (x6_1 + 1)), (by first | rfl | (simp; done) | (simp [*]; done)), H', ⟨by have := HK1.out; omega⟩, ⟨by (with_reducible repeat (first | apply Kd.R_alloc | apply Kd.R_drewN | apply Kd.R_drew)); exact Kd.R_mono (Kd.R_far (p := ⟨gb1029, 1, none⟩) (Kd.R_far (p := ⟨gb1029, 0, none⟩) (Kd.R_mono HO_5.out (fun k_ hk => (⟨hk, hk.2⟩ : _ ∧ k_ ≠ gb1029))) (fun _ hk => hk.2) (.int .i64 ((rd_T60 l0_2 x6_1).f0))) (fun _ hk => hk.2) (.int .i64 ((rd_T60 l0_2 x6_1).f1))) (fun _ hk => trivial)⟩, ⟨by (with_reducible repeat (first | refine blk_drewN ?_ _ | refine blk_drew ?_ | refine blk_alloc ?_ _)); refine blk_far ?_ NB1024_1029.out _; (with_reducible repeat (first | refine blk_drewN ?_ _ | refine blk_drew ?_ | refine blk_alloc ?_ _)); refine blk_far ?_ NB1024_1029.out _; (with_reducible repeat (first | refine blk_drewN ?_ _ | refine blk_drew ?_ | refine blk_alloc ?_ _)); exact BK1024.out⟩, ⟨zB⟩⟩
     ·rw [if_neg c9] at H
      have c9b0 : decide (0 ≤ t1030) = false := deF c9
      clear c9
      have H' := AK H
      clear H
      have hcz22_0 : wr.cell? ⟨gb1024, 0, none⟩ = some (.slice A0_0 l0_0.length c0_0) := (bcl BK1024.out 0).trans rfl
      have hcz22_1 : wr.cell? ⟨gb1024, 1, none⟩ = some (.slice A0_1 l0_1.length c0_1) := (bcl BK1024.out 1).trans rfl
      have hcz22_2 : wr.cell? ⟨gb1024, 2, none⟩ = some (.slice A0_2 l0_2.length c0_2) := (bcl BK1024.out 2).trans rfl
      have hcz22_3 : wr.cell? ⟨gb1024, 3, none⟩ = some (.slice A0_3 l0_3.length c0_3) := (bcl BK1024.out 3).trans rfl
      have hfz22_0 := bfz BK1024.out 0
      have hfz22_1 := bfz BK1024.out 1
      have hfz22_2 := bfz BK1024.out 2
      have hfz22_3 := bfz BK1024.out 3
      have p1028 : 0 ≤ (x6_1 : Int) := of_decide_eq_true zA
      have q1028 : x6_1 < (l0_2.length : Int) := of_decide_eq_true zA
      obtain ⟨ad1028, e1028, hx1028_0, hx1028_1⟩ := at_T60 HR0_2.out x6_1 p1028 q1028
      cases e1028
      replace hx1028_0 := (HB.out.cell (World.block_lt_of_cell? w _ hx1028_0)).trans hx1028_0
      replace hx1028_1 := (HB.out.cell (World.block_lt_of_cell? w _ hx1028_1)).trans hx1028_1
      replace p1028 := eq_true p1028
      replace q1028 := eq_true q1028
      go_wp2_with (first | ((with_reducible refine gate_dst (N := 7) rfl ?_); refine box_event ?hg (N := 7) ?hd (cs := #[.int .i64 0, .int .i64 0]) (t := 60) ?hr ?_; (case hd => rfl); (case hg => rfl); (case hr => first | (go_simp; done) | (go_simp; rfl)); intro gb1029 hg w23 hbox hb; have n0_ := AK (Kd.R_below (Kd.R_elderB (by (with_reducible repeat (first | apply Kd.R_alloc | apply Kd.R_drewN | apply Kd.R_drew)); exact HO_5.out) gb1029 (Nat.le_of_eq hg.symm)) hb); have n1_ := AK (bbl (zK BK1024) hb); have n2_ := AK (bst zB hb); have n3_ := AK (hbox); have n4_ := AK ((zG hg : w.heap.size ≤ gb1029)); have n5_ := AK ((zG hg : w.heap.size ≤ gb1029)); have n6_ := AK (zN hg BK1024); have n7_ := AK (zM hg BK1024); clear HO_5; clear BK1024; clear HB; have HO_5 := n0_; have BK1024 := n1_; have HB := n2_; have BK1029 := n3_; have GW1029 := n4_; have GE1029 := n5_; have NB1024_1029 := n6_; have NB1029_1024 := n7_; clear n0_ n1_ n2_ n3_ n4_ n5_ n6_ n7_; clear hb hbox hg; have hnb24 := NB1029_1024.out; have hnc24 := NB1024_1029.out; have hcz25_0 : w23.cell? ⟨gb1029, 0, none⟩ = some (.int .i64 0) := (bcl BK1029.out 0).trans rfl; have hcz25_1 : w23.cell? ⟨gb1029, 1, none⟩ = some (.int .i64 0) := (bcl BK1029.out 1).trans rfl; have hfz25_0 := bfz BK1029.out 0; have hfz25_1 := bfz BK1029.out 1) | ((with_reducible refine gate_callee (f := 96) rfl ?_); refine goesL_ (some 24) rfl rfl Try.func96 (by kernel_rfl) rfl #[.slice A1 l1.length c1, .int .i64 ((rd_T60 l0_2 x6_1).f0)] rfl zI ?_; (with_reducible refine (spec_l2At.calls k1 _ _ l1 ((rd_T60 l0_2 x6_1).f0) t1030 _ ?side1 ?side2 A8.out).mono ?_); (case side1 => exact Kd.C_below HR1.out zB); (case side2 => exact HC1.out); rintro e w' ⟨rfl, ⟨nd, rfl⟩⟩; refine ⟨_, rfl, ?_⟩))
      go_roundg k1
      case measure => have := HK1.out; omega
      case rel => exact ⟨(x5_1), (wrap64 (x6_1 + 1)), (by first | rfl | (simp; done) | (simp [*]; done)), H', ⟨by have := HK1.out; omega⟩, ⟨by (with_reducible repeat (first | apply Kd.R_alloc | apply Kd.R_drewN | apply Kd.R_drew)); exact Kd.R_mono (Kd.R_far (p := ⟨gb1029, 1, none⟩) (Kd.R_far (p := ⟨gb1029, 0, none⟩) (Kd.R_mono HO_5.out (fun k_ hk => (⟨hk, hk.2⟩ : _ ∧ k_ ≠ gb1029))) (fun _ hk => hk.2) (.int .i64 ((rd_T60 l0_2 x6_1).f0))) (fun _ hk => hk.2) (.int .i64 ((rd_T60 l0_2 x6_1).f1))) (fun _ hk => trivial)⟩, ⟨by (with_reducible repeat (first | refine blk_drewN ?_ _ | refine blk_drew ?_ | refine blk_alloc ?_ _)); refine blk_far ?_ NB1024_1029.out _; (with_reducible repeat (first | refine blk_drewN ?_ _ | refine blk_drew ?_ | refine blk_alloc ?_ _)); refine blk_far ?_ NB1024_1029.out _; (with_reducible repeat (first | refine blk_drewN ?_ _ | refine blk_drew ?_ | refine blk_alloc ?_ _)); exact BK1024.out⟩, ⟨zB⟩⟩
    ·rw [if_neg c7] at H
     exact absurd H (by simp)
   ·rw [if_neg c6] at H
    have c6b0 : decide (x6_1 < (l0_2.length : Int)) = false := deF c6
    clear c6
    obtain rfl := Option.some.inj H
    have hcz26_0 : wr.cell? ⟨gb1024, 0, none⟩ = some (.slice A0_0 l0_0.length c0_0) := (bcl BK1024.out 0).trans rfl
    have hcz26_1 : wr.cell? ⟨gb1024, 1, none⟩ = some (.slice A0_1 l0_1.length c0_1) := (bcl BK1024.out 1).trans rfl
    have hcz26_2 : wr.cell? ⟨gb1024, 2, none⟩ = some (.slice A0_2 l0_2.length c0_2) := (bcl BK1024.out 2).trans rfl
    have hcz26_3 : wr.cell? ⟨gb1024, 3, none⟩ = some (.slice A0_3 l0_3.length c0_3) := (bcl BK1024.out 3).trans rfl
    have hfz26_0 := bfz BK1024.out 0
    have hfz26_1 := bfz BK1024.out 1
    have hfz26_2 := bfz BK1024.out 2
    have hfz26_3 := bfz BK1024.out 3
    go_wp2
    go_ret
    exact ⟨_, by first | rfl | (simp [errW_none, errW_some] <;> rfl) | (simp [*, errW_none, errW_some] <;> rfl), by (with_reducible repeat (first | apply Kd.R_alloc | apply Kd.R_drewN | apply Kd.R_drew)); exact HO_5.out, zB⟩

/-! ### spec_l3Without: function 120 -/
mutual
def spec_l3Without.l0 : Nat → List (S60) → List (S60) → List (S60) → Int → Option ((List (S60)))
 | 0, _, _, _, _ => none
 | k + 1, x0, x1, x5, x6 => if x6 < (x0.length : Int) then (spec_l3Without.l1 k x0 x1 x5 x6 false 0) else (some x5)
def spec_l3Without.l1 : Nat → List (S60) → List (S60) → List (S60) → Int → Bool → Int → Option ((List (S60)))
 | 0, _, _, _, _, _, _ => none
 | k + 1, x0, x1, x5, x6, x7, x8 => if x8 < (x1.length : Int) then (if x7 = true then (spec_l3Without.l1 k x0 x1 x5 x6 true (wrap64 (x8 + 1))) else (if 0 ≤ x8 then (if 0 ≤ x6 then (if x6 < (x0.length : Int) then (spec_l3Without.l1 k x0 x1 x5 x6 (((rd_T60 x1 x8).f0) == ((rd_T60 x0 x6).f0) && (((rd_T60 x1 x8).f1) == ((rd_T60 x0 x6).f1))) (wrap64 (x8 + 1))) else (none)) else (none)) else (none))) else (if x7 = true then (spec_l3Without.l0 k x0 x1 x5 (wrap64 (x6 + 1))) else (if 0 ≤ x6 then (if x6 < (x0.length : Int) then (if x5.length < 8796093022208 then (spec_l3Without.l0 k x0 x1 (x5 ++ [(⟨(rd_T60 x0 x6).f0, (rd_T60 x0 x6).f1⟩ : S60)]) (wrap64 (x6 + 1))) else (none)) else (none)) else (none)))
end
def spec_l3Without.f (k : Nat) (l0 : List (S60)) (l1 : List (S60)) : Option ((List (S60))) := spec_l3Without.l0 k l0 l1 (([] : List (S60))) 0
set_option maxHeartbeats 8000000 in
set_option maxRecDepth 100000 in
theorem spec_l3Without.calls (k : Nat) (A0 : Option Addr) (c0 : Nat) (l0 : List (S60)) (A1 : Option Addr) (c1 : Nat) (l1 : List (S60)) (r : List (S60)) (w : World) (hr0 : Kd.C k60 w A0 l0.length l0) (hc0 : l0.length ≤ c0) (hr1 : Kd.C k60 w A1 l1.length l1) (hc1 : l1.length ≤ c1) (h : spec_l3Without.f k l0 l1 = some r) :
  Calls Try.prog 120 #[.slice A0 l0.length c0, .slice A1 l1.length c1] w fun e w' => ∃ v0_ : Value, e = .returned (v0_) ∧ Kd.R k60 60 w' w.heap.size (fun _ => True) v0_ r ∧ Below w.heap.size w w' := by
 have hu60 := Try.underlying60
 have HR0 := AK hr0
 have HC0 := AK hc0
 clear hr0 hc0
 have HR1 := AK hr1
 have HC1 := AK hc1
 clear hr1 hc1
 have HB := AK (Below.refl w.heap.size w)
 have H : (spec_l3Without.l0 k l0 l1 (([] : List (S60))) 0) = some r := h
 clear h
 obtain ⟨y1035, hy1035⟩ : ∃ y_ : List (S60), y_ = (([] : List (S60))) := ⟨_, rfl⟩
 replace H : (spec_l3Without.l0 k l0 l1 y1035 0) = some r := by first | (rw [hy1035]; with_reducible exact H) | (have H2_ := (Option.bind_some _ _).symm.trans H; rw [hy1035]; with_reducible exact H2_) | (have H2_ := (Option.bind_some _ _).symm.trans H; with_reducible exact H2_) | with_reducible exact H | (rw [hy1035]; exact H) | exact H
 have Ny1035 := AK hy1035
 clear hy1035
 have H' := AK H
 clear H
 go_enter Try.func120, Try.ntmps120
 go_wp2_with (first | ((with_reducible refine gate_dst (N := 9) rfl ?_); refine Kd.R_lit k60 _ 60 ?hg (N := 9) ?hd (xs := ([] : List (S60))) (inner := []) (ok := fun _ => True) (okp := fun _ => True) ?hr ?hp (fun _ hk => hk) trivial (Below.refl _ _) (Nat.le_refl _) (by simp) ?_; (case hd => rfl); (case hg => rfl); (case hr => first | (go_simp; done) | (go_simp; rfl)); (case hp => exact (Reps.none _ _)); intro v1036 w3 ho4 hb hg_ hnew_; clear hg_ hnew_; (first | rw [← Ny1035.out] at ho4 | (simp only [Int.reduceToNat] at ho4; rw [← Ny1035.out] at ho4)); have n0_ := AK (Kd.R_lower ho4 (below_size zB)); have n1_ := AK (bst zB hb); clear HB; have HO1037 := n0_; have HB := n1_; clear n0_ n1_; clear hb ho4))
 repeat (go_quiet (first | ((with_reducible refine gate_dst (N := 9) rfl ?_); refine Kd.R_lit k60 _ 60 ?hg (N := 9) ?hd (xs := ([] : List (S60))) (inner := []) (ok := fun _ => True) (okp := fun _ => True) ?hr ?hp (fun _ hk => hk) trivial (Below.refl _ _) (Nat.le_refl _) (by simp) ?_; (case hd => rfl); (case hg => rfl); (case hr => first | (go_simp; done) | (go_simp; rfl)); (case hp => exact (Reps.none _ _)); intro v1036 w3 ho4 hb hg_ hnew_; clear hg_ hnew_; (first | rw [← Ny1035.out] at ho4 | (simp only [Int.reduceToNat] at ho4; rw [← Ny1035.out] at ho4)); have n0_ := AK (Kd.R_lower ho4 (below_size zB)); have n1_ := AK (bst zB hb); clear HB; have HO1037 := n0_; have HB := n1_; clear n0_ n1_; clear hb ho4)); try go_wp2_with (first | ((with_reducible refine gate_dst (N := 9) rfl ?_); refine Kd.R_lit k60 _ 60 ?hg (N := 9) ?hd (xs := ([] : List (S60))) (inner := []) (ok := fun _ => True) (okp := fun _ => True) ?hr ?hp (fun _ hk => hk) trivial (Below.refl _ _) (Nat.le_refl _) (by simp) ?_; (case hd => rfl); (case hg => rfl); (case hr => first | (go_simp; done) | (go_simp; rfl)); (case hp => exact (Reps.none _ _)); intro v1036 w3 ho4 hb hg_ hnew_; clear hg_ hnew_; (first | rw [← Ny1035.out] at ho4 | (simp only [Int.reduceToNat] at ho4; rw [← Ny1035.out] at ho4)); have n0_ := AK (Kd.R_lower ho4 (below_size zB)); have n1_ := AK (bst zB hb); clear HB; have HO1037 := n0_; have HB := n1_; clear n0_ n1_; clear hb ho4)))
 go_loopg [5, 6] k (fun kq v5 v6 w' => ∃ (x5_1 : List (S60)) (x6_1 : Int), v6 = .int .i64 x6_1 ∧ Aside0 (spec_l3Without.l0 kq l0 l1 x5_1 x6_1 = some r) ∧ Aside0 (kq ≤ k) ∧ Aside0 (Kd.R k60 60 w' w.heap.size (fun _ => True) v5 x5_1) ∧ Aside0 (Below w.heap.size w w'))
 case atStart => exact ⟨(y1035), (0), (by first | rfl | (simp; done) | (simp [*]; done)), H', ⟨Nat.le_refl _⟩, ⟨by (with_reducible repeat (first | apply Kd.R_alloc | apply Kd.R_drewN | apply Kd.R_drew)); exact HO1037.out⟩, ⟨zB⟩⟩
 case round =>
  clear H'
  try clear c1
  try clear p2
  obtain ⟨x5_1, x6_1, rfl, HA, HK1, HO_5, HB⟩ := hrel
  cases gk with
  | zero => exact absurd HA.out (by simp [spec_l3Without.l0])
  | succ k1 =>
   have H := HA.out
   clear HA
   simp only [spec_l3Without.l0] at H
   by_cases c5 : x6_1 < (l0.length : Int)
   ·rw [if_pos c5] at H
    have c5b0 : decide (x6_1 < (l0.length : Int)) = true := deT c5
    clear c5
    have H' := AK H
    clear H
    go_wp2
    repeat (go_quiet (fail); try go_wp2)
    go_loopg [7, 8] k1 (fun kq v7 v8 w' => ∃ (x7_2 : Bool) (x8_2 : Int), v7 = .bool x7_2 ∧ v8 = .int .i64 x8_2 ∧ Aside0 (spec_l3Without.l1 kq l0 l1 x5_1 x6_1 x7_2 x8_2 = some r) ∧ Aside0 (kq ≤ k1) ∧ Aside0 (Kd.R k60 60 w' w.heap.size (fun _ => True) u5 x5_1) ∧ Aside0 (Below w.heap.size w w'))
    case atStart => exact ⟨(false), (0), (by first | rfl | (simp; done) | (simp [*]; done)), (by first | rfl | (simp; done) | (simp [*]; done)), H', ⟨Nat.le_refl _⟩, ⟨by (with_reducible repeat (first | apply Kd.R_alloc | apply Kd.R_drewN | apply Kd.R_drew)); exact HO_5.out⟩, ⟨zB⟩⟩
    case round =>
     clear H'
     try clear c1
     try clear p2
     try clear c5
     try clear c5b0
     try clear p2
     obtain ⟨x7_2, x8_2, rfl, rfl, HA, HK2, HO_5, HB⟩ := hrel
     cases gk with
     | zero => exact absurd HA.out (by simp [spec_l3Without.l1])
     | succ k2 =>
      have H := HA.out
      clear HA
      simp only [spec_l3Without.l1] at H
      by_cases c6 : x8_2 < (l1.length : Int)
      ·rw [if_pos c6] at H
       have c6b0 : decide (x8_2 < (l1.length : Int)) = true := deT c6
       clear c6
       by_cases c7 : x7_2 = true
       ·subst c7
        have H1 : (spec_l3Without.l1 k2 l0 l1 x5_1 x6_1 true (wrap64 (x8_2 + 1))) = some r := by rw [if_pos rfl] at H; exact H
        clear H
        have H := H1
        clear H1
        have H' := AK H
        clear H
        go_wp2
        repeat (go_quiet (fail); try go_wp2)
        go_roundg k2
        case measure => have := HK1.out; have := HK2.out; omega
        case rel => exact ⟨(true), (wrap64 (x8_2 + 1)), (by first | rfl | (simp; done) | (simp [*]; done)), (by first | rfl | (simp; done) | (simp [*]; done)), H', ⟨by have := HK1.out; have := HK2.out; omega⟩, ⟨by (with_reducible repeat (first | apply Kd.R_alloc | apply Kd.R_drewN | apply Kd.R_drew)); exact HO_5.out⟩, ⟨zB⟩⟩
       ·replace c7 := Bool.eq_false_iff.mpr c7
        subst c7
        have H1 : (if 0 ≤ x8_2 then (if 0 ≤ x6_1 then (if x6_1 < (l0.length : Int) then (spec_l3Without.l1 k2 l0 l1 x5_1 x6_1 (((rd_T60 l1 x8_2).f0) == ((rd_T60 l0 x6_1).f0) && (((rd_T60 l1 x8_2).f1) == ((rd_T60 l0 x6_1).f1))) (wrap64 (x8_2 + 1))) else (none)) else (none)) else (none)) = some r := by rw [if_neg (show ¬ (false = true) by decide)] at H; exact H
        clear H
        have H := H1
        clear H1
        by_cases c8 : 0 ≤ x8_2
        ·rw [if_pos c8] at H
         have c8b0 : decide (0 ≤ x8_2) = true := deT c8
         clear c8
         by_cases c9 : 0 ≤ x6_1
         ·rw [if_pos c9] at H
          have c9b0 : decide (0 ≤ x6_1) = true := deT c9
          clear c9
          by_cases c10 : x6_1 < (l0.length : Int)
          ·rw [if_pos c10] at H
           have c10b0 : decide (x6_1 < (l0.length : Int)) = true := deT c10
           clear c10
           have H' := AK H
           clear H
           have p1038 : 0 ≤ (x8_2 : Int) := of_decide_eq_true zA
           have q1038 : x8_2 < (l1.length : Int) := of_decide_eq_true zA
           obtain ⟨ad1038, e1038, hx1038_0, hx1038_1⟩ := at_T60 HR1.out x8_2 p1038 q1038
           cases e1038
           replace hx1038_0 := (HB.out.cell (World.block_lt_of_cell? w _ hx1038_0)).trans hx1038_0
           replace hx1038_1 := (HB.out.cell (World.block_lt_of_cell? w _ hx1038_1)).trans hx1038_1
           replace p1038 := eq_true p1038
           replace q1038 := eq_true q1038
           have p1039 : 0 ≤ (x6_1 : Int) := of_decide_eq_true zA
           have q1039 : x6_1 < (l0.length : Int) := of_decide_eq_true zA
           obtain ⟨ad1039, e1039, hx1039_0, hx1039_1⟩ := at_T60 HR0.out x6_1 p1039 q1039
           cases e1039
           replace hx1039_0 := (HB.out.cell (World.block_lt_of_cell? w _ hx1039_0)).trans hx1039_0
           replace hx1039_1 := (HB.out.cell (World.block_lt_of_cell? w _ hx1039_1)).trans hx1039_1
           replace p1039 := eq_true p1039
           replace q1039 := eq_true q1039
           go_wp2
           repeat (go_quiet (fail); try go_wp2)
           go_roundg k2
           case measure => have := HK1.out; have := HK2.out; omega
           case rel => exact ⟨((((rd_T60 l1 x8_2).f0) == ((rd_T60 l0 x6_1).f0) && (((rd_T60 l1 x8_2).f1) == ((rd_T60 l0 x6_1).f1)))), (wrap64 (x8_2 + 1)), (by first | rfl | (simp; done) | (simp [*]; done)), (by first | rfl | (simp; done) | (simp [*]; done)), H', ⟨by have := HK1.out; have := HK2.out; omega⟩, ⟨by (with_reducible repeat (first | apply Kd.R_alloc | apply Kd.R_drewN | apply Kd.R_drew)); exact HO_5.out⟩, ⟨zB⟩⟩
          ·rw [if_neg c10] at H
           exact absurd H (by simp)
         ·rw [if_neg c9] at H
          exact absurd H (by simp)
        ·rw [if_neg c8] at H
         exact absurd H (by simp)
      ·rw [if_neg c6] at H
       have c6b0 : decide (x8_2 < (l1.length : Int)) = false := deF c6
       clear c6
       by_cases c11 : x7_2 = true
       ·subst c11
        have H1 : (spec_l3Without.l0 k2 l0 l1 x5_1 (wrap64 (x6_1 + 1))) = some r := by rw [if_pos rfl] at H; exact H
        clear H
        have H := H1
        clear H1
        have H' := AK H
        clear H
        go_wp2
        repeat (go_quiet (fail); try go_wp2)
        go_roundg k2
        case measure => have := HK1.out; have := HK2.out; omega
        case rel => exact ⟨(x5_1), (wrap64 (x6_1 + 1)), (by first | rfl | (simp; done) | (simp [*]; done)), H', ⟨by have := HK1.out; have := HK2.out; omega⟩, ⟨by (with_reducible repeat (first | apply Kd.R_alloc | apply Kd.R_drewN | apply Kd.R_drew)); exact HO_5.out⟩, ⟨zB⟩⟩
       ·replace c11 := Bool.eq_false_iff.mpr c11
        subst c11
        have H1 : (if 0 ≤ x6_1 then (if x6_1 < (l0.length : Int) then (if x5_1.length < 8796093022208 then (spec_l3Without.l0 k2 l0 l1 (x5_1 ++ [(⟨(rd_T60 l0 x6_1).f0, (rd_T60 l0 x6_1).f1⟩ : S60)]) (wrap64 (x6_1 + 1))) else (none)) else (none)) else (none)) = some r := by rw [if_neg (show ¬ (false = true) by decide)] at H; exact H
        clear H
        have H := H1
        clear H1
        by_cases c12 : 0 ≤ x6_1
        ·rw [if_pos c12] at H
         have c12b0 : decide (0 ≤ x6_1) = true := deT c12
         clear c12
         by_cases c13 : x6_1 < (l0.length : Int)
         ·rw [if_pos c13] at H
          have c13b0 : decide (x6_1 < (l0.length : Int)) = true := deT c13
          clear c13
          by_cases c14 : x5_1.length < 8796093022208
          ·rw [if_pos c14] at H
           have LMc14 := AK c14
           clear c14
           obtain ⟨y1041, hy1041⟩ : ∃ y_ : List (S60), y_ = (x5_1 ++ [(⟨(rd_T60 l0 x6_1).f0, (rd_T60 l0 x6_1).f1⟩ : S60)]) := ⟨_, rfl⟩
           replace H : (spec_l3Without.l0 k2 l0 l1 y1041 (wrap64 (x6_1 + 1))) = some r := by first | (rw [hy1041]; with_reducible exact H) | (have H2_ := (Option.bind_some _ _).symm.trans H; rw [hy1041]; with_reducible exact H2_) | (have H2_ := (Option.bind_some _ _).symm.trans H; with_reducible exact H2_) | with_reducible exact H | (rw [hy1041]; exact H) | exact H
           have Ny1041 := AK hy1041
           clear hy1041
           have H' := AK H
           clear H
           have p1040 : 0 ≤ (x6_1 : Int) := of_decide_eq_true zA
           have q1040 : x6_1 < (l0.length : Int) := of_decide_eq_true zA
           obtain ⟨ad1040, e1040, hx1040_0, hx1040_1⟩ := at_T60 HR0.out x6_1 p1040 q1040
           cases e1040
           replace hx1040_0 := (HB.out.cell (World.block_lt_of_cell? w _ hx1040_0)).trans hx1040_0
           replace hx1040_1 := (HB.out.cell (World.block_lt_of_cell? w _ hx1040_1)).trans hx1040_1
           replace p1040 := eq_true p1040
           replace q1040 := eq_true q1040
           go_wp2_with (first | ((with_reducible refine gate_builtin (b := .append) (xs := #[.tmp 36, .tmp 41]) rfl ?_); at_builtin; refine Kd.R_append k60 (w0 := w) w.heap.size rfl (.tmp 36) (.tmp 41) 26 60 (.agg #[(.int .i64 0), (.int .i64 0)]) 16 rfl Try.underlying26 info60 rfl (by decide) (by omega) u5 x5_1 (⟨(rd_T60 l0 x6_1).f0, (rd_T60 l0 x6_1).f1⟩ : S60) [.int .i64 ((rd_T60 l0 x6_1).f0), .int .i64 ((rd_T60 l0 x6_1).f1)] (fun _ => True) (fun _ => False) rfl rfl ?aP (fun _ hk => hk.elim) ?aF ?aO ?aB ?aS ?aL ?_; (case aP => exact k60_mkM _ _ _ (⟨(rd_T60 l0 x6_1).f0, (rd_T60 l0 x6_1).f1⟩ : S60)); (case aB => exact zB); (case aF => exact (fun _ _ => trivial)); (case aO => exact (by (with_reducible repeat (first | apply Kd.R_alloc | apply Kd.R_drewN | apply Kd.R_drew)); exact HO_5.out)); (case aS => exact (below_size zB)); (case aL => have := LMc14.out; omega); intro v1042 w15 ho hb hg hat; rw [← Ny1041.out] at ho; have n0_ := AK (hb); have n1_ := AK (ho); clear HB; clear HO_5; have HB := n0_; have HO1043 := n1_; clear n0_ n1_; clear ho hb hg hat))
           repeat (go_quiet (first | ((with_reducible refine gate_builtin (b := .append) (xs := #[.tmp 36, .tmp 41]) rfl ?_); at_builtin; refine Kd.R_append k60 (w0 := w) w.heap.size rfl (.tmp 36) (.tmp 41) 26 60 (.agg #[(.int .i64 0), (.int .i64 0)]) 16 rfl Try.underlying26 info60 rfl (by decide) (by omega) u5 x5_1 (⟨(rd_T60 l0 x6_1).f0, (rd_T60 l0 x6_1).f1⟩ : S60) [.int .i64 ((rd_T60 l0 x6_1).f0), .int .i64 ((rd_T60 l0 x6_1).f1)] (fun _ => True) (fun _ => False) rfl rfl ?aP (fun _ hk => hk.elim) ?aF ?aO ?aB ?aS ?aL ?_; (case aP => exact k60_mkM _ _ _ (⟨(rd_T60 l0 x6_1).f0, (rd_T60 l0 x6_1).f1⟩ : S60)); (case aB => exact zB); (case aF => exact (fun _ _ => trivial)); (case aO => exact (by (with_reducible repeat (first | apply Kd.R_alloc | apply Kd.R_drewN | apply Kd.R_drew)); exact HO_5.out)); (case aS => exact (below_size zB)); (case aL => have := LMc14.out; omega); intro v1042 w15 ho hb hg hat; rw [← Ny1041.out] at ho; have n0_ := AK (hb); have n1_ := AK (ho); clear HB; clear HO_5; have HB := n0_; have HO1043 := n1_; clear n0_ n1_; clear ho hb hg hat)); try go_wp2_with (first | ((with_reducible refine gate_builtin (b := .append) (xs := #[.tmp 36, .tmp 41]) rfl ?_); at_builtin; refine Kd.R_append k60 (w0 := w) w.heap.size rfl (.tmp 36) (.tmp 41) 26 60 (.agg #[(.int .i64 0), (.int .i64 0)]) 16 rfl Try.underlying26 info60 rfl (by decide) (by omega) u5 x5_1 (⟨(rd_T60 l0 x6_1).f0, (rd_T60 l0 x6_1).f1⟩ : S60) [.int .i64 ((rd_T60 l0 x6_1).f0), .int .i64 ((rd_T60 l0 x6_1).f1)] (fun _ => True) (fun _ => False) rfl rfl ?aP (fun _ hk => hk.elim) ?aF ?aO ?aB ?aS ?aL ?_; (case aP => exact k60_mkM _ _ _ (⟨(rd_T60 l0 x6_1).f0, (rd_T60 l0 x6_1).f1⟩ : S60)); (case aB => exact zB); (case aF => exact (fun _ _ => trivial)); (case aO => exact (by (with_reducible repeat (first | apply Kd.R_alloc | apply Kd.R_drewN | apply Kd.R_drew)); exact HO_5.out)); (case aS => exact (below_size zB)); (case aL => have := LMc14.out; omega); intro v1042 w15 ho hb hg hat; rw [← Ny1041.out] at ho; have n0_ := AK (hb); have n1_ := AK (ho); clear HB; clear HO_5; have HB := n0_; have HO1043 := n1_; clear n0_ n1_; clear ho hb hg hat)))
           go_roundg k2
           case measure => have := HK1.out; have := HK2.out; omega
           case rel => exact ⟨(y1041), (wrap64 (x6_1 + 1)), (by first | rfl | (simp; done) | (simp [*]; done)), H', ⟨by have := HK1.out; have := HK2.out; omega⟩, ⟨by (with_reducible repeat (first | apply Kd.R_alloc | apply Kd.R_drewN | apply Kd.R_drew)); exact HO1043.out⟩, ⟨zB⟩⟩
          ·rw [if_neg c14] at H
           exact absurd H (by simp)
         ·rw [if_neg c13] at H
          exact absurd H (by simp)
        ·rw [if_neg c12] at H
         exact absurd H (by simp)
   ·rw [if_neg c5] at H
    have c5b0 : decide (x6_1 < (l0.length : Int)) = false := deF c5
    clear c5
    obtain rfl := Option.some.inj H
    go_wp2
    repeat (go_quiet (fail); try go_wp2)
    go_ret
    exact ⟨_, by first | rfl | (simp [errW_none, errW_some] <;> rfl) | (simp [*, errW_none, errW_some] <;> rfl), by (with_reducible repeat (first | apply Kd.R_alloc | apply Kd.R_drewN | apply Kd.R_drew)); exact HO_5.out, zB⟩

end Go.Proofs.Ytigjhfijkdlldaa.Q
