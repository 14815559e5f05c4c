-- Made by a program of this session (wip/prt.sh, wip/fakes.py, wip/post.py) that calls the kit's print.py and packs what it wrote.
import Derived.Test.YtigjhfijkdlldaaScoT
import Derived.Test.YtigjhfijkdlldaaScoL2
namespace Go.Proofs.Ytigjhfijkdlldaa.Q
open Go.RowKit Go.Proofs.YtigjhfijkdlldaaW.PrintWords Go.Proofs.YtigjhfijkdlldaaW.PrintLast Go.Proofs.YtigjhfijkdlldaaW.PrintMore
attribute [local go_sem] max2_int min2_int max_two min_two max_three min_three max_four min_four
set_option linter.unusedVariables false
set_option linter.unusedSimpArgs false

/-! ### spec_l3Moved: function 98 -/
mutual
def spec_l3Moved.l0 : Nat → List (S60) → List Int → List (S60) → Int → Option ((List (S60)))
 | 0, _, _, _, _ => none
 | k + 1, x0, x1, x5, x6 => if x6 < (x0.length : Int) then (if 0 ≤ x6 then ((spec_l2At.f k x1 ((rd_T60 x0 x6).f0)).bind fun t1078 => (if t1078 ≥ 0 then ((spec_l2At.f k x1 ((rd_T60 x0 x6).f1)).bind fun t1080 => (spec_l3Moved.j1 k x0 x1 x5 x6 (decide (t1080 ≥ 0)))) else (spec_l3Moved.j1 k x0 x1 x5 x6 false))) else (none)) else (some x5)
def spec_l3Moved.j1 : Nat → List (S60) → List Int → List (S60) → Int → Bool → Option ((List (S60)))
 | 0, _, _, _, _, _ => none
 | k + 1, x0, x1, x5, x6, x31 => if x31 = true then (if 0 ≤ x6 then (if x6 < (x0.length : Int) then ((spec_l2At.f k x1 ((rd_T60 x0 x6).f0)).bind fun t1082 => ((spec_l2At.f k x1 ((rd_T60 x0 x6).f1)).bind fun t1084 => (if x5.length < 8796093022208 then (spec_l3Moved.l0 k x0 x1 (x5 ++ [(⟨t1082, t1084⟩ : S60)]) (wrap64 (x6 + 1))) else (none)))) else (none)) else (none)) else (spec_l3Moved.l0 k x0 x1 x5 (wrap64 (x6 + 1)))
end
def spec_l3Moved.f (k : Nat) (l0 : List (S60)) (l1 : List Int) : Option ((List (S60))) := spec_l3Moved.l0 k l0 l1 (([] : List (S60))) 0
def spec_l3Moved.T6 : Bool × List (List Nat × List Nat) := (true, [([], []), ([], []), ([], []), ([], []), ([2, 3], [2, 3]), ([4], [4]), ([5], [5]), ([1, 6], [1, 6]), ([], []), ([], []), ([], []), ([9, 10], [9, 10]), ([11], [11]), ([12], [12]), ([8, 13, 7], [8, 13]), ([7, 14], [7, 14]), ([15], [15]), ([0, 16, 14], [0, 16]), ([17, 17, 0, 1, 2, 3, 4, 5, 6, 7, 8, 9, 10, 11, 12, 13, 14, 15, 16, 17], [0, 17])])
def spec_l3Moved.B6 : List Nat := [0, 0, 0, 0, 12, 28, 60, 126, 0, 0, 0, 1536, 3584, 7680, 16382, 32766, 65534, 131071, 262143]
theorem spec_l3Moved.tab6 : rtab .any (opsOf Try.f98 6) = spec_l3Moved.T6 := by kernel_rfl
theorem spec_l3Moved.bits6 : waitsOk spec_l3Moved.T6.2 spec_l3Moved.B6 = true := by kernel_rfl
set_option maxHeartbeats 8000000 in
set_option maxRecDepth 100000 in
theorem spec_l3Moved.calls (k : Nat) (A0 : Option Addr) (c0 : Nat) (l0 : List (S60)) (A1 : Option Addr) (c1 : Nat) (l1 : List Int) (r : List (S60)) (w : World) (hr0 : Kd.C k60 w A0 l0.length l0) (hc0 : l0.length ≤ c0) (hr1 : Kd.C (Kd.int .i64) w A1 l1.length l1) (hc1 : l1.length ≤ c1) (h : spec_l3Moved.f k l0 l1 = some r) :
  Calls Try.prog 98 #[.slice A0 l0.length c0, .slice A1 l1.length c1] w fun e w' => ∃ v0_ : Value, e = .returned (v0_) ∧ Kd.R k60 60 w' w.heap.size (fun _ => True) v0_ r ∧ Below w.heap.size w w' := by
 have hu60 := Try.underlying60
 have HR0 := AK hr0
 have HC0 := AK hc0
 clear hr0 hc0
 have HR1 := AK hr1
 have HC1 := AK hc1
 clear hr1 hc1
 have HB := AK (Below.refl w.heap.size w)
 have H : (spec_l3Moved.l0 k l0 l1 (([] : List (S60))) 0) = some r := h
 clear h
 obtain ⟨y1074, hy1074⟩ : ∃ y_ : List (S60), y_ = (([] : List (S60))) := ⟨_, rfl⟩
 replace H : (spec_l3Moved.l0 k l0 l1 y1074 0) = some r := by first | (rw [hy1074]; with_reducible exact H) | (have H2_ := (Option.bind_some _ _).symm.trans H; rw [hy1074]; with_reducible exact H2_) | (have H2_ := (Option.bind_some _ _).symm.trans H; with_reducible exact H2_) | with_reducible exact H | (rw [hy1074]; exact H) | exact H
 have Ny1074 := AK hy1074
 clear hy1074
 have H' := AK H
 clear H
 go_enter Try.func98, Try.ntmps98
 go_wp2_with (first | ((with_reducible refine gate_dst (N := 7) rfl ?_); refine Kd.R_lit k60 _ 60 ?hg (N := 7) ?hd (xs := ([] : List (S60))) (inner := []) (ok := fun _ => True) (okp := fun _ => True) ?hr ?hp (fun _ hk => hk) trivial (Below.refl _ _) (Nat.le_refl _) (by simp) ?_; (case hd => rfl); (case hg => rfl); (case hr => first | (go_simp; done) | (go_simp; rfl)); (case hp => exact (Reps.none _ _)); intro v1075 w3 ho4 hb hg_ hnew_; clear hg_ hnew_; (first | rw [← Ny1074.out] at ho4 | (simp only [Int.reduceToNat] at ho4; rw [← Ny1074.out] at ho4)); have n0_ := AK (Kd.R_lower ho4 (below_size zB)); have n1_ := AK (bst zB hb); clear HB; have HO1076 := n0_; have HB := n1_; clear n0_ n1_; clear hb ho4))
 go_loopg [5, 6] k (fun kq v5 v6 w' => ∃ (x5_1 : List (S60)) (x6_1 : Int), v6 = .int .i64 x6_1 ∧ Aside0 (spec_l3Moved.l0 kq l0 l1 x5_1 x6_1 = some r) ∧ Aside0 (kq ≤ k) ∧ Aside0 (Kd.R k60 60 w' w.heap.size (fun _ => True) v5 x5_1) ∧ Aside0 (Below w.heap.size w w'))
 case atStart => exact ⟨(y1074), (0), (by first | rfl | (simp; done) | (simp [*]; done)), H', ⟨Nat.le_refl _⟩, ⟨by (with_reducible repeat (first | apply Kd.R_alloc | apply Kd.R_drewN | apply Kd.R_drew)); exact HO1076.out⟩, ⟨zB⟩⟩
 case round =>
  clear H'
  try clear c1
  try clear p2
  obtain ⟨x5_1, x6_1, rfl, HA, HK1, HO_5, HB⟩ := hrel
  cases gk with
  | zero => exact absurd HA.out (by simp [spec_l3Moved.l0])
  | succ k1 =>
   have H := HA.out
   clear HA
   simp only [spec_l3Moved.l0] at H
   by_cases c5 : x6_1 < (l0.length : Int)
   ·rw [if_pos c5] at H
    have c5b0 : decide (x6_1 < (l0.length : Int)) = true := deT c5
    clear c5
    have HC6 := AK H
    clear H
    go_upto_region 5 with (fail)
    go_cut [31] (fun v31 wc => ∃ (kq : Nat) (x31_5 : Bool), v31 = .bool x31_5 ∧ Aside0 (spec_l3Moved.j1 kq l0 l1 x5_1 x6_1 x31_5 = some r) ∧ Aside0 (kq ≤ k1) ∧ Aside0 (Kd.R k60 60 wc w.heap.size (fun _ => True) u5 x5_1) ∧ Aside0 (Below w.heap.size w wc))
    case first =>
     have H := HC6.out
     clear HC6
     by_cases c7 : 0 ≤ x6_1
     ·rw [if_pos c7] at H
      have c7b0 : decide (0 ≤ x6_1) = true := deT c7
      clear c7
      (first | rw [c7b0] | (simp only [i64_w, i32_w]; rw [c7b0]) | skip)
      replace H := Option.bind_eq_some_iff.mp H
      obtain ⟨t1078, A80, H⟩ := H
      replace H : (if t1078 ≥ 0 then ((spec_l2At.f k1 l1 ((rd_T60 l0 x6_1).f1)).bind fun t1080 => (spec_l3Moved.j1 k1 l0 l1 x5_1 x6_1 (decide (t1080 ≥ 0)))) else (spec_l3Moved.j1 k1 l0 l1 x5_1 x6_1 false)) = some r := H
      have A8 := AK A80
      clear A80
      by_cases c9 : t1078 ≥ 0
      ·rw [if_pos c9] at H
       have c9b0 : decide (0 ≤ t1078) = true := deT c9
       clear c9
       replace H := Option.bind_eq_some_iff.mp H
       obtain ⟨t1080, A100, H⟩ := H
       replace H : (spec_l3Moved.j1 k1 l0 l1 x5_1 x6_1 (decide (t1080 ≥ 0))) = some r := H
       have A10 := AK A100
       clear A100
       have H' := AK H
       clear H
       have p1077 : 0 ≤ (x6_1 : Int) := of_decide_eq_true zA
       have q1077 : x6_1 < (l0.length : Int) := of_decide_eq_true zA
       obtain ⟨ad1077, e1077, hx1077_0, hx1077_1⟩ := at_T60 HR0.out x6_1 p1077 q1077
       cases e1077
       replace hx1077_0 := (HB.out.cell (World.block_lt_of_cell? w _ hx1077_0)).trans hx1077_0
       replace hx1077_1 := (HB.out.cell (World.block_lt_of_cell? w _ hx1077_1)).trans hx1077_1
       replace p1077 := eq_true p1077
       replace q1077 := eq_true q1077
       go_wp2_with (first | ((with_reducible refine gate_callee (f := 96) rfl ?_); refine goesL_ (some 20) rfl rfl Try.func96 (by kernel_rfl) rfl #[.slice A1 l1.length c1, .int .i64 ((rd_T60 l0 x6_1).f0)] rfl zI ?_; (with_reducible refine (spec_l2At.calls k1 _ _ l1 ((rd_T60 l0 x6_1).f0) t1078 _ ?side1 ?side2 A8.out).mono ?_); (case side1 => repeat (first | exact (Kd.C_below HR1.out HB.out) | (with_reducible refine Kd.C_alloc ?_ _) | (with_reducible refine Kd.C_drewN ?_ _) | (with_reducible refine Kd.C_drew ?_))); (case side2 => exact HC1.out); rintro e w' ⟨rfl, ⟨nd, rfl⟩⟩; refine ⟨_, rfl, ?_⟩; have p1079 : 0 ≤ (x6_1 : Int) := of_decide_eq_true zA; have q1079 : x6_1 < (l0.length : Int) := of_decide_eq_true zA; obtain ⟨ad1079, e1079, hx1079_0, hx1079_1⟩ := at_T60 HR0.out x6_1 p1079 q1079; obtain rfl : ad1077 = ad1079 := (by injection e1079); replace hx1079_0 := (HB.out.cell (World.block_lt_of_cell? w _ hx1079_0)).trans hx1079_0; replace hx1079_1 := (HB.out.cell (World.block_lt_of_cell? w _ hx1079_1)).trans hx1079_1; replace p1079 := eq_true p1079; replace q1079 := eq_true q1079) | (go_at_call 96; (with_reducible refine (spec_l2At.calls k1 _ _ l1 ((rd_T60 l0 x6_1).f1) t1080 _ ?side1 ?side2 A10.out).mono ?_); (case side1 => repeat (first | exact (Kd.C_below HR1.out zB) | (with_reducible refine Kd.C_alloc ?_ _) | (with_reducible refine Kd.C_drewN ?_ _) | (with_reducible refine Kd.C_drew ?_))); (case side2 => exact HC1.out); rintro e w' ⟨rfl, ⟨nd, rfl⟩⟩))
       go_meet
       case rel => exact ⟨_, (decide (t1080 ≥ 0)), (by first | rfl | (simp; done) | (simp [*]; done)), H', ⟨by have := HK1.out; first | omega | exact Nat.le_refl _⟩, ⟨by (with_reducible repeat (first | apply Kd.R_alloc | apply Kd.R_drewN | apply Kd.R_drew)); exact HO_5.out⟩, ⟨zB⟩⟩
      ·rw [if_neg c9] at H
       have c9b0 : decide (0 ≤ t1078) = false := deF c9
       clear c9
       have H' := AK H
       clear H
       have p1077 : 0 ≤ (x6_1 : Int) := of_decide_eq_true zA
       have q1077 : x6_1 < (l0.length : Int) := of_decide_eq_true zA
       obtain ⟨ad1077, e1077, hx1077_0, hx1077_1⟩ := at_T60 HR0.out x6_1 p1077 q1077
       cases e1077
       replace hx1077_0 := (HB.out.cell (World.block_lt_of_cell? w _ hx1077_0)).trans hx1077_0
       replace hx1077_1 := (HB.out.cell (World.block_lt_of_cell? w _ hx1077_1)).trans hx1077_1
       replace p1077 := eq_true p1077
       replace q1077 := eq_true q1077
       go_wp2_with (first | ((with_reducible refine gate_callee (f := 96) rfl ?_); refine goesL_ (some 20) rfl rfl Try.func96 (by kernel_rfl) rfl #[.slice A1 l1.length c1, .int .i64 ((rd_T60 l0 x6_1).f0)] rfl zI ?_; (with_reducible refine (spec_l2At.calls k1 _ _ l1 ((rd_T60 l0 x6_1).f0) t1078 _ ?side1 ?side2 A8.out).mono ?_); (case side1 => repeat (first | exact (Kd.C_below HR1.out HB.out) | (with_reducible refine Kd.C_alloc ?_ _) | (with_reducible refine Kd.C_drewN ?_ _) | (with_reducible refine Kd.C_drew ?_))); (case side2 => exact HC1.out); rintro e w' ⟨rfl, ⟨nd, rfl⟩⟩; refine ⟨_, rfl, ?_⟩))
       go_meet
       case rel => exact ⟨_, (false), (by first | rfl | (simp; done) | (simp [*]; done)), H', ⟨by have := HK1.out; first | omega | exact Nat.le_refl _⟩, ⟨by (with_reducible repeat (first | apply Kd.R_alloc | apply Kd.R_drewN | apply Kd.R_drew)); exact HO_5.out⟩, ⟨zB⟩⟩
     ·rw [if_neg c7] at H
      exact absurd H (by simp)
    case rest =>
     clear HC6
     try clear c1
     try clear p1
     try clear q1
     try clear hx1
     try clear p2
     try clear c5
     try clear c5b0
     try clear c7
     try clear c7b0
     try clear c9
     try clear c9b0
     try clear p10
     try clear q10
     try clear hx10
     try clear hx1077_0
     try clear hx1077_1
     try clear hx1079_0
     try clear hx1079_1
     try clear p1077
     try clear p1079
     try clear p2
     try clear q1077
     try clear q1079
     obtain ⟨kq, x31_5, rfl, HA, HJ5, HO_5, HB⟩ := hcut
     cases kq with
     | zero => exact absurd HA.out (by simp [spec_l3Moved.j1])
     | succ kj5 =>
      have H := HA.out
      clear HA
      simp only [spec_l3Moved.j1] at H
      by_cases c11 : x31_5 = true
      ·subst c11
       have H1 : (if 0 ≤ x6_1 then (if x6_1 < (l0.length : Int) then ((spec_l2At.f kj5 l1 ((rd_T60 l0 x6_1).f0)).bind fun t1082 => ((spec_l2At.f kj5 l1 ((rd_T60 l0 x6_1).f1)).bind fun t1084 => (if x5_1.length < 8796093022208 then (spec_l3Moved.l0 kj5 l0 l1 (x5_1 ++ [(⟨t1082, t1084⟩ : S60)]) (wrap64 (x6_1 + 1))) else (none)))) else (none)) else (none)) = some r := by rw [if_pos rfl] at H; exact H
       clear H
       have H := H1
       clear H1
       by_cases c12 : 0 ≤ x6_1
       ·rw [if_pos c12] at H
        have c12b0 : decide (0 ≤ x6_1) = true := deT c12
        clear c12
        by_cases c13 : x6_1 < (l0.length : Int)
        ·rw [if_pos c13] at H
         have c13b0 : decide (x6_1 < (l0.length : Int)) = true := deT c13
         clear c13
         replace H := Option.bind_eq_some_iff.mp H
         obtain ⟨t1082, A140, H⟩ := H
         replace H : ((spec_l2At.f kj5 l1 ((rd_T60 l0 x6_1).f1)).bind fun t1084 => (if x5_1.length < 8796093022208 then (spec_l3Moved.l0 kj5 l0 l1 (x5_1 ++ [(⟨t1082, t1084⟩ : S60)]) (wrap64 (x6_1 + 1))) else (none))) = some r := H
         have A14 := AK A140
         clear A140
         replace H := Option.bind_eq_some_iff.mp H
         obtain ⟨t1084, A150, H⟩ := H
         replace H : (if x5_1.length < 8796093022208 then (spec_l3Moved.l0 kj5 l0 l1 (x5_1 ++ [(⟨t1082, t1084⟩ : S60)]) (wrap64 (x6_1 + 1))) else (none)) = some r := H
         have A15 := AK A150
         clear A150
         by_cases c16 : x5_1.length < 8796093022208
         ·rw [if_pos c16] at H
          have LMc16 := AK c16
          clear c16
          obtain ⟨y1085, hy1085⟩ : ∃ y_ : List (S60), y_ = (x5_1 ++ [(⟨t1082, t1084⟩ : S60)]) := ⟨_, rfl⟩
          replace H : (spec_l3Moved.l0 kj5 l0 l1 y1085 (wrap64 (x6_1 + 1))) = some r := by first | (rw [hy1085]; with_reducible exact H) | (have H2_ := (Option.bind_some _ _).symm.trans H; rw [hy1085]; with_reducible exact H2_) | (have H2_ := (Option.bind_some _ _).symm.trans H; with_reducible exact H2_) | with_reducible exact H | (rw [hy1085]; exact H) | exact H
          have Ny1085 := AK hy1085
          clear hy1085
          have H' := AK H
          clear H
          try go_wp2
          have n0_ := AK (Kd.R_drew HO_5.out)
          have n1_ := AK (below_drew1 HB.out)
          clear HO_5
          clear HB
          have HO_5 := n0_
          have HB := n1_
          clear n0_ n1_
          have p1081 : 0 ≤ (x6_1 : Int) := of_decide_eq_true zA
          have q1081 : x6_1 < (l0.length : Int) := of_decide_eq_true zA
          obtain ⟨ad1081, e1081, hx1081_0, hx1081_1⟩ := at_T60 HR0.out x6_1 p1081 q1081
          have hw1081_1 := hx1081_1
          have hw1081_0 := hx1081_0
          cases e1081
          replace hx1081_0 := (HB.out.cell (World.block_lt_of_cell? w _ hx1081_0)).trans hx1081_0
          replace hx1081_1 := (HB.out.cell (World.block_lt_of_cell? w _ hx1081_1)).trans hx1081_1
          replace p1081 := eq_true p1081
          replace q1081 := eq_true q1081
          have p1083 : 0 ≤ (x6_1 : Int) := of_decide_eq_true zA
          have q1083 : x6_1 < (l0.length : Int) := of_decide_eq_true zA
          obtain ⟨ad1083, e1083, hx1083_0, hx1083_1⟩ := at_T60 HR0.out x6_1 p1083 q1083
          have hw1083_1 := hx1083_1
          have hw1083_0 := hx1083_0
          obtain rfl : ad1081 = ad1083 := (by injection e1083)
          replace hx1083_0 := (HB.out.cell (World.block_lt_of_cell? w _ hx1083_0)).trans hx1083_0
          replace hx1083_1 := (HB.out.cell (World.block_lt_of_cell? w _ hx1083_1)).trans hx1083_1
          replace p1083 := eq_true p1083
          replace q1083 := eq_true q1083
          refine start_ (n := 19) (S := fun w' => w'.cell? (ad1081.add ((x6_1).toNat * 2)) = some (.int .i64 ((rd_T60 l0 x6_1).f0)) ∧ w'.cell? ⟨(ad1081.add ((x6_1).toNat * 2)).block, (ad1081.add ((x6_1).toNat * 2)).off + 1, none⟩ = some (.int .i64 ((rd_T60 l0 x6_1).f1)) ∧ w'.cell? (ad1081.add ((x6_1).toNat * 2)) = some (.int .i64 ((rd_T60 l0 x6_1).f0)) ∧ w'.cell? ⟨(ad1081.add ((x6_1).toNat * 2)).block, (ad1081.add ((x6_1).toNat * 2)).off + 1, none⟩ = some (.int .i64 ((rd_T60 l0 x6_1).f1))) (ds := []) #[fF,fF,fF,fF,fF,fF,fF,fF,fF,fF,fF,fF,fF,fF,fF,fF,fF,fF,fF] (by kernel_rfl) rfl rfl ⟨((HB.out.cell (World.block_lt_of_cell? w _ hw1081_0)).trans hw1081_0), ((HB.out.cell (World.block_lt_of_cell? w _ hw1081_1)).trans hw1081_1), ((HB.out.cell (World.block_lt_of_cell? w _ hw1083_0)).trans hw1083_0), ((HB.out.cell (World.block_lt_of_cell? w _ hw1083_1)).trans hw1083_1)⟩ (fun hHeld => ?_); refine with_tabW spec_l3Moved.tab6 spec_l3Moved.bits6 (fun HT_ HW_ => ?_)
          generalize wc.drew = w17 at HO_5 HB hx1081_0 hx1081_1 hx1083_0 hx1083_1 hHeld ⊢
          refine pure_ (i := 0) (N := some 32) (v := ?_) (a' := ?_) #[tT,fF,fF,fF,fF,fF,fF,fF,fF,fF,fF,fF,fF,fF,fF,fF,fF,fF,fF] rfl rfl (any_of HT_.out (by kernel_rfl)) (fun _ _ _ h => h) (Or.inl ⟨by rfl, ?_⟩) ?_ ?_
          rotate_left
          ·intro w'
           go_simp
           with_reducible rfl
          rotate_left
          ·exact zP
          refine pure_ (i := 1) (N := some 33) (v := ?_) (a' := ?_) #[tT,tT,fF,fF,fF,fF,fF,fF,fF,fF,fF,fF,fF,fF,fF,fF,fF,fF,fF] rfl rfl (any_of HT_.out (by kernel_rfl)) (fun _ _ _ h => h) (Or.inl ⟨by rfl, ?_⟩) ?_ ?_
          rotate_left
          ·intro w'
           go_simp
           with_reducible rfl
          rotate_left
          ·exact zP
          refine pure_ (i := 2) (N := some 34) (v := ?_) (a' := ?_) #[tT,tT,tT,fF,fF,fF,fF,fF,fF,fF,fF,fF,fF,fF,fF,fF,fF,fF,fF] rfl rfl (any_of HT_.out (by kernel_rfl)) (fun _ _ _ h => h) (Or.inl ⟨by rfl, ?_⟩) ?_ ?_
          rotate_left
          ·intro w'
           go_simp
           with_reducible rfl
          rotate_left
          ·exact zP
          refine pure_ (i := 3) (N := some 35) (v := ?_) (a' := ?_) #[tT,tT,tT,tT,fF,fF,fF,fF,fF,fF,fF,fF,fF,fF,fF,fF,fF,fF,fF] rfl rfl (any_of HT_.out (by kernel_rfl)) (fun _ _ _ h => h) (Or.inl ⟨by rfl, ?_⟩) ?_ ?_
          rotate_left
          ·intro w'
           go_simp
           with_reducible rfl
          rotate_left
          ·exact zP
          refine pure_ (i := 4) (N := some 36) (v := ?_) (a' := ?_) #[tT,tT,tT,tT,tT,fF,fF,fF,fF,fF,fF,fF,fF,fF,fF,fF,fF,fF,fF] rfl rfl (any_of HT_.out (by kernel_rfl)) (fun _ _ _ h => h) (Or.inl ⟨by rfl, ?_⟩) ?_ ?_
          rotate_left
          ·intro w'
           go_simp
           with_reducible rfl
          rotate_left
          ·exact zP
          refine pure_ (i := 5) (N := some 37) (v := ?_) (a' := ?_) #[tT,tT,tT,tT,tT,tT,fF,fF,fF,fF,fF,fF,fF,fF,fF,fF,fF,fF,fF] rfl rfl (any_of HT_.out (by kernel_rfl)) (fun _ _ _ h => h) (Or.inl ⟨by rfl, ?_⟩) ?_ ?_
          rotate_left
          ·intro w'
           go_simp
           with_reducible rfl
          rotate_left
          ·exact zP
          refine pure_ (i := 8) (N := some 40) (v := ?_) (a' := ?_) #[tT,tT,tT,tT,tT,tT,fF,fF,tT,fF,fF,fF,fF,fF,fF,fF,fF,fF,fF] rfl rfl (any_of HT_.out (by kernel_rfl)) (fun _ _ _ h => h) (Or.inl ⟨by rfl, ?_⟩) ?_ ?_
          rotate_left
          ·intro w'
           go_simp
           with_reducible rfl
          rotate_left
          ·exact zP
          refine pure_ (i := 9) (N := some 41) (v := ?_) (a' := ?_) #[tT,tT,tT,tT,tT,tT,fF,fF,tT,tT,fF,fF,fF,fF,fF,fF,fF,fF,fF] rfl rfl (any_of HT_.out (by kernel_rfl)) (fun _ _ _ h => h) (Or.inl ⟨by rfl, ?_⟩) ?_ ?_
          rotate_left
          ·intro w'
           go_simp
           with_reducible rfl
          rotate_left
          ·exact zP
          refine pure_ (i := 10) (N := some 42) (v := ?_) (a' := ?_) #[tT,tT,tT,tT,tT,tT,fF,fF,tT,tT,tT,fF,fF,fF,fF,fF,fF,fF,fF] rfl rfl (any_of HT_.out (by kernel_rfl)) (fun _ _ _ h => h) (Or.inl ⟨by rfl, ?_⟩) ?_ ?_
          rotate_left
          ·intro w'
           go_simp
           with_reducible rfl
          rotate_left
          ·exact zP
          refine pure_ (i := 11) (N := some 43) (v := ?_) (a' := ?_) #[tT,tT,tT,tT,tT,tT,fF,fF,tT,tT,tT,tT,fF,fF,fF,fF,fF,fF,fF] rfl rfl (any_of HT_.out (by kernel_rfl)) (fun _ _ _ h => h) (Or.inl ⟨by rfl, ?_⟩) ?_ ?_
          rotate_left
          ·intro w'
           go_simp
           with_reducible rfl
          rotate_left
          ·exact zP
          refine pure_ (i := 12) (N := some 44) (v := ?_) (a' := ?_) #[tT,tT,tT,tT,tT,tT,fF,fF,tT,tT,tT,tT,tT,fF,fF,fF,fF,fF,fF] rfl rfl (any_of HT_.out (by kernel_rfl)) (fun _ _ _ h => h) (Or.inl ⟨by rfl, ?_⟩) ?_ ?_
          rotate_left
          ·intro w'
           go_simp
           with_reducible rfl
          rotate_left
          ·exact zP
          refine take_ (i := 6) (N := some 38) (v := ?_) (a' := ?_) #[tT,tT,tT,tT,tT,tT,tT,fF,tT,tT,tT,tT,tT,fF,fF,fF,fF,fF,fF] rfl rfl (take_ofW HT_.out HW_.out (by kernel_rfl)) (fun _ _ _ h => h) (Or.inl ⟨by rfl, ?_⟩) hHeld ?_ ?_
          rotate_left
          ·rintro w' ⟨s0, s1, s2, s3⟩
           go_simp
           with_reducible rfl
          rotate_left
          ·exact zP
          refine take_ (i := 13) (N := some 45) (v := ?_) (a' := ?_) #[tT,tT,tT,tT,tT,tT,tT,fF,tT,tT,tT,tT,tT,tT,fF,fF,fF,fF,fF] rfl rfl (take_ofW HT_.out HW_.out (by kernel_rfl)) (fun _ _ _ h => h) (Or.inl ⟨by rfl, ?_⟩) hHeld ?_ ?_
          rotate_left
          ·rintro w' ⟨s0, s1, s2, s3⟩
           go_simp
           with_reducible rfl
          rotate_left
          ·exact zP
          refine one_ (i := 7) (N := some 39) #[tT,tT,tT,tT,tT,tT,tT,tT,tT,tT,tT,tT,tT,tT,fF,fF,fF,fF,fF] rfl rfl (one_of HT_.out (by kernel_rfl)) (by decide) (fun K hK => ?_)
          refine goes_ Try.func96 (by kernel_rfl) rfl #[.slice A1 l1.length c1, .int .i64 ((rd_T60 l0 x6_1).f0)] (by rfl) rfl rfl zI ?_
          with_reducible refine (spec_l2At.calls kj5 _ _ l1 ((rd_T60 l0 x6_1).f0) t1082 _ ?side1 ?side2 A14.out).mono ?_
          (case side1 => repeat (first | exact (Kd.C_below HR1.out HB.out) | (with_reducible refine Kd.C_alloc ?_ _) | (with_reducible refine Kd.C_drewN ?_ _) | (with_reducible refine Kd.C_drew ?_)))
          (case side2 => exact HC1.out)
          rintro e w' ⟨rfl, ⟨nd, rfl⟩⟩
          refine ⟨_, rfl, ?_⟩
          refine hK.out _ _ ⟨((HB.out.cell (World.block_lt_of_cell? w _ hw1081_0)).trans hw1081_0), ((HB.out.cell (World.block_lt_of_cell? w _ hw1081_1)).trans hw1081_1), ((HB.out.cell (World.block_lt_of_cell? w _ hw1083_0)).trans hw1083_0), ((HB.out.cell (World.block_lt_of_cell? w _ hw1083_1)).trans hw1083_1)⟩ (fun hHeld => ?_)
          clear hK K
          refine norm_ (a' := ?_) ?_ ?_
          rotate_left
          ·show Act.put _ (some 39) _ = _
           exact zP
          refine one_ (i := 14) (N := some 46) #[tT,tT,tT,tT,tT,tT,tT,tT,tT,tT,tT,tT,tT,tT,tT,fF,fF,fF,fF] rfl rfl (one_of HT_.out (by kernel_rfl)) (by decide) (fun K hK => ?_)
          refine goes_ Try.func96 (by kernel_rfl) rfl #[.slice A1 l1.length c1, .int .i64 ((rd_T60 l0 x6_1).f1)] (by rfl) rfl rfl zI ?_
          with_reducible refine (spec_l2At.calls kj5 _ _ l1 ((rd_T60 l0 x6_1).f1) t1084 _ ?side1 ?side2 A15.out).mono ?_
          (case side1 => repeat (first | exact (Kd.C_below HR1.out zB) | (with_reducible refine Kd.C_alloc ?_ _) | (with_reducible refine Kd.C_drewN ?_ _) | (with_reducible refine Kd.C_drew ?_)))
          (case side2 => exact HC1.out)
          rintro e w' ⟨rfl, ⟨nd, rfl⟩⟩
          refine ⟨_, rfl, ?_⟩
          refine hK.out _ _ ⟨((HB.out.cell (World.block_lt_of_cell? w _ hw1081_0)).trans hw1081_0), ((HB.out.cell (World.block_lt_of_cell? w _ hw1081_1)).trans hw1081_1), ((HB.out.cell (World.block_lt_of_cell? w _ hw1083_0)).trans hw1083_0), ((HB.out.cell (World.block_lt_of_cell? w _ hw1083_1)).trans hw1083_1)⟩ (fun hHeld => ?_)
          clear hK K
          refine norm_ (a' := ?_) ?_ ?_
          rotate_left
          ·show Act.put _ (some 46) _ = _
           exact zP
          refine pure_ (i := 15) (N := some 47) (v := ?_) (a' := ?_) #[tT,tT,tT,tT,tT,tT,tT,tT,tT,tT,tT,tT,tT,tT,tT,tT,fF,fF,fF] rfl rfl (any_of HT_.out (by kernel_rfl)) (fun _ _ _ h => h) (Or.inl ⟨by rfl, ?_⟩) ?_ ?_
          rotate_left
          ·intro w'
           go_simp
           with_reducible rfl
          rotate_left
          ·exact zP
          refine one_ (i := 16) (N := some 48) #[tT,tT,tT,tT,tT,tT,tT,tT,tT,tT,tT,tT,tT,tT,tT,tT,tT,fF,fF] rfl rfl (one_of HT_.out (by kernel_rfl)) (by decide) (fun K hK => ?_)
          refine value_ (w1 := ?_) (v := ?_) (by rfl) rfl ?_ ?_
          rotate_left 2
          ·go_simp
           constructor
           ·rfl
           ·rfl
          refine hK.out _ _ ⟨(World.cell?_alloc_lt _ _ _ (World.block_lt_of_cell? _ _ (((HB.out.cell (World.block_lt_of_cell? w _ hw1081_0)).trans hw1081_0)))).trans (((HB.out.cell (World.block_lt_of_cell? w _ hw1081_0)).trans hw1081_0)), (World.cell?_alloc_lt _ _ _ (World.block_lt_of_cell? _ _ (((HB.out.cell (World.block_lt_of_cell? w _ hw1081_1)).trans hw1081_1)))).trans (((HB.out.cell (World.block_lt_of_cell? w _ hw1081_1)).trans hw1081_1)), (World.cell?_alloc_lt _ _ _ (World.block_lt_of_cell? _ _ (((HB.out.cell (World.block_lt_of_cell? w _ hw1083_0)).trans hw1083_0)))).trans (((HB.out.cell (World.block_lt_of_cell? w _ hw1083_0)).trans hw1083_0)), (World.cell?_alloc_lt _ _ _ (World.block_lt_of_cell? _ _ (((HB.out.cell (World.block_lt_of_cell? w _ hw1083_1)).trans hw1083_1)))).trans (((HB.out.cell (World.block_lt_of_cell? w _ hw1083_1)).trans hw1083_1))⟩ (fun hHeld => ?_)
          clear hK K
          refine norm_ (a' := ?_) ?_ ?_
          rotate_left
          ·show Act.put _ (some 48) _ = _
           exact zP
          refine one_ (i := 17) (N := some 49) #[tT,tT,tT,tT,tT,tT,tT,tT,tT,tT,tT,tT,tT,tT,tT,tT,tT,tT,fF] rfl rfl (one_of HT_.out (by kernel_rfl)) (by decide) (fun K hK => ?_)
          refine Kd.R_append_step k60 (w0 := w) w.heap.size (by rfl) (.tmp 32) (.tmp 48) 26 60 (.agg #[(.int .i64 0), (.int .i64 0)]) 16 rfl Try.underlying26 info60 rfl (by decide) (by omega) u5 x5_1 (⟨t1082, t1084⟩ : S60) [.int .i64 t1082, .int .i64 t1084] (fun _ => True) (fun _ => False) rfl rfl ?aP (fun _ hk => hk.elim) ?aF ?aO ?aB ?aS ?aL ?_
          (case aP => exact k60_mkM _ _ _ (⟨t1082, t1084⟩ : S60))
          (case aB => exact zB)
          (case aF => exact (fun _ _ => trivial))
          (case aO => exact (by (with_reducible repeat (first | apply Kd.R_alloc | apply Kd.R_drewN | apply Kd.R_drew)); exact HO_5.out))
          (case aS => exact (below_size zB))
          (case aL => have := LMc16.out; omega)
          intro v1086 w18 ho hb hg hat
          rw [← Ny1085.out] at ho
          have n0_ := AK (hb)
          have n1_ := AK (ho)
          clear HB
          clear HO_5
          have HB := n0_
          have HO1087 := n1_
          clear n0_ n1_
          clear ho hb hg hat
          refine hK.out _ _ ⟨((HB.out.cell (World.block_lt_of_cell? w _ hw1081_0)).trans hw1081_0), ((HB.out.cell (World.block_lt_of_cell? w _ hw1081_1)).trans hw1081_1), ((HB.out.cell (World.block_lt_of_cell? w _ hw1083_0)).trans hw1083_0), ((HB.out.cell (World.block_lt_of_cell? w _ hw1083_1)).trans hw1083_1)⟩ (fun hHeld => ?_)
          clear hK K
          refine norm_ (a' := ?_) ?_ ?_
          rotate_left
          ·show Act.put _ (some 49) _ = _
           exact zP
          refine pure_ (i := 18) (N := some 5) (v := ?_) (a' := ?_) #[tT,tT,tT,tT,tT,tT,tT,tT,tT,tT,tT,tT,tT,tT,tT,tT,tT,tT,tT] rfl rfl (any_of HT_.out (by kernel_rfl)) (fun _ _ _ h => h) (Or.inl ⟨by rfl, ?_⟩) ?_ ?_
          rotate_left
          ·intro w'
           go_simp
           with_reducible rfl
          rotate_left
          ·exact zP
          refine done_ (done_of HT_.out (by kernel_rfl)) ?_
          try go_wp2
          go_roundg kj5
          case measure => have := HK1.out; have := HJ5.out; omega
          case rel => exact ⟨(y1085), (wrap64 (x6_1 + 1)), (by first | rfl | (simp; done) | (simp [*]; done)), H', ⟨by have := HK1.out; have := HJ5.out; omega⟩, ⟨by (with_reducible repeat (first | apply Kd.R_alloc | apply Kd.R_drewN | apply Kd.R_drew)); exact HO1087.out⟩, ⟨zB⟩⟩
         ·rw [if_neg c16] at H
          exact absurd H (by simp)
        ·rw [if_neg c13] at H
         exact absurd H (by simp)
       ·rw [if_neg c12] at H
        exact absurd H (by simp)
      ·replace c11 := Bool.eq_false_iff.mpr c11
       subst c11
       have H1 : (spec_l3Moved.l0 kj5 l0 l1 x5_1 (wrap64 (x6_1 + 1))) = some r := by rw [if_neg (show ¬ (false = true) by decide)] at H; exact H
       clear H
       have H := H1
       clear H1
       have H' := AK H
       clear H
       go_wp2
       go_roundg kj5
       case measure => have := HK1.out; have := HJ5.out; omega
       case rel => exact ⟨(x5_1), (wrap64 (x6_1 + 1)), (by first | rfl | (simp; done) | (simp [*]; done)), H', ⟨by have := HK1.out; have := HJ5.out; omega⟩, ⟨by (with_reducible repeat (first | apply Kd.R_alloc | apply Kd.R_drewN | apply Kd.R_drew)); exact HO_5.out⟩, ⟨zB⟩⟩
   ·rw [if_neg c5] at H
    have c5b0 : decide (x6_1 < (l0.length : Int)) = false := deF c5
    clear c5
    obtain rfl := Option.some.inj H
    go_wp2
    go_ret
    exact ⟨_, by first | rfl | (simp [errW_none, errW_some] <;> rfl) | (simp [*, errW_none, errW_some] <;> rfl), by (with_reducible repeat (first | apply Kd.R_alloc | apply Kd.R_drewN | apply Kd.R_drew)); exact HO_5.out, zB⟩

end Go.Proofs.Ytigjhfijkdlldaa.Q
