-- Made by a program of this session (wip/prt.sh, wip/fakes.py, wip/post.py) that calls the kit's print.py and packs what it wrote.
import Derived.Test.YtigjhfijkdlldaaScoT
namespace Go.Proofs.Ytigjhfijkdlldaa.Q
open Go.RowKit Go.Proofs.YtigjhfijkdlldaaW.PrintWords Go.Proofs.YtigjhfijkdlldaaW.PrintLast Go.Proofs.YtigjhfijkdlldaaW.PrintMore
attribute [local go_sem] max2_int min2_int max_two min_two max_three min_three max_four min_four
set_option linter.unusedVariables false
set_option linter.unusedSimpArgs false

/-! ### laws_eqIntS: function 29 -/
def laws_eqIntS.l0 : Nat → List Int → List Int → Int → Option (Bool)
 | 0, _, _, _ => none
 | k + 1, x0, x1, x5 => if x5 < (x0.length : Int) then (if 0 ≤ x5 then (if x5 < (x1.length : Int) then (if (rd x0 x5) = (rd x1 x5) then (laws_eqIntS.l0 k x0 x1 (wrap64 (x5 + 1))) else (some false)) else (none)) else (none)) else (some true)
def laws_eqIntS.f (k : Nat) (l0 : List Int) (l1 : List Int) : Option (Bool) := if (l0.length : Int) = (l1.length : Int) then (laws_eqIntS.l0 k l0 l1 0) else (some false)
set_option maxHeartbeats 8000000 in
set_option maxRecDepth 100000 in
theorem laws_eqIntS.calls (k : Nat) (A0 : Option Addr) (c0 : Nat) (l0 : List Int) (A1 : Option Addr) (c1 : Nat) (l1 : List Int) (r : Bool) (w : World) (hr0 : Kd.C (Kd.int .i64) w A0 l0.length l0) (hc0 : l0.length ≤ c0) (hr1 : Kd.C (Kd.int .i64) w A1 l1.length l1) (hc1 : l1.length ≤ c1) (h : laws_eqIntS.f k l0 l1 = some r) :
  Calls Try.prog 29 #[.slice A0 l0.length c0, .slice A1 l1.length c1] w fun e w' => e = .returned (.bool r) ∧ Drawn0 w w' := by
 have HR0 := AK hr0
 have HC0 := AK hc0
 clear hr0 hc0
 have HR1 := AK hr1
 have HC1 := AK hc1
 clear hr1 hc1
 have H : (if (l0.length : Int) = (l1.length : Int) then (laws_eqIntS.l0 k l0 l1 0) else (some false)) = some r := h
 clear h
 by_cases c3 : (l0.length : Int) = (l1.length : Int)
 ·rw [if_pos c3] at H
  have c3b0 : ((l0.length : Int) == (l1.length : Int)) = true := beq_iff_eq.mpr c3
  have c3b1 : ((l0.length : Int) != (l1.length : Int)) = false := bne_eq_false_iff_eq.mpr c3
  have c3b2 : (l0.length == l1.length) = true := by first | simpa using c3 | (simp at c3 ⊢; omega)
  clear c3
  have H' := AK H
  clear H
  go_enter Try.func29, Try.ntmps29
  go_wp2
  repeat (go_quiet (fail); try go_wp2)
  go_loopg [5] k (fun kq v5 w' => ∃ (x5_1 : Int), v5 = .int .i64 x5_1 ∧ Aside0 (laws_eqIntS.l0 kq l0 l1 x5_1 = some r) ∧ Aside0 (kq ≤ k) ∧ Drawn0 w w')
  case atStart => exact ⟨(0), (by first | rfl | (simp; done) | (simp [*]; done)), H', ⟨Nat.le_refl _⟩, by repeat (first | exact Drawn0.refl _ | apply Drawn0.step)⟩
  case round =>
   clear H'
   try clear c1
   try clear c2
   try clear p2
   try clear c3
   try clear c3b0
   try clear c3b1
   try clear c3b2
   obtain ⟨x5_1, rfl, HA, HK1, ⟨m1, rfl⟩⟩ := hrel
   cases gk with
   | zero => exact absurd HA.out (by simp [laws_eqIntS.l0])
   | succ k1 =>
    have H := HA.out
    clear HA
    simp only [laws_eqIntS.l0] at H
    by_cases c4 : x5_1 < (l0.length : Int)
    ·rw [if_pos c4] at H
     have c4b0 : decide (x5_1 < (l0.length : Int)) = true := deT c4
     clear c4
     by_cases c5 : 0 ≤ x5_1
     ·rw [if_pos c5] at H
      have c5b0 : decide (0 ≤ x5_1) = true := deT c5
      clear c5
      by_cases c6 : x5_1 < (l1.length : Int)
      ·rw [if_pos c6] at H
       have c6b0 : decide (x5_1 < (l1.length : Int)) = true := deT c6
       clear c6
       by_cases c7 : (rd l0 x5_1) = (rd l1 x5_1)
       ·rw [if_pos c7] at H
        have c7b0 : ((rd l0 x5_1) == (rd l1 x5_1)) = true := beq_iff_eq.mpr c7
        have c7b1 : ((rd l0 x5_1) != (rd l1 x5_1)) = false := bne_eq_false_iff_eq.mpr c7
        clear c7
        have H' := AK H
        clear H
        have p602 : 0 ≤ (x5_1 : Int) := of_decide_eq_true zA
        have q602 : x5_1 < (l0.length : Int) := of_decide_eq_true zA
        obtain ⟨ad602, e602, hx602_0⟩ := Kd.at_int HR0.out x5_1 p602 q602
        cases e602
        replace p602 := eq_true p602
        replace q602 := eq_true q602
        have p603 : 0 ≤ (x5_1 : Int) := of_decide_eq_true zA
        have q603 : x5_1 < (l1.length : Int) := of_decide_eq_true zA
        obtain ⟨ad603, e603, hx603_0⟩ := Kd.at_int HR1.out x5_1 p603 q603
        cases e603
        replace p603 := eq_true p603
        replace q603 := eq_true q603
        go_wp2
        repeat (go_quiet (fail); try go_wp2)
        go_roundg k1
        case measure => have := HK1.out; omega
        case rel => exact ⟨(wrap64 (x5_1 + 1)), (by first | rfl | (simp; done) | (simp [*]; done)), H', ⟨by have := HK1.out; omega⟩, by repeat (first | exact Drawn0.refl _ | apply Drawn0.step)⟩
       ·rw [if_neg c7] at H
        have c7b0 : ((rd l0 x5_1) == (rd l1 x5_1)) = false := beq_eq_false_iff_ne.mpr c7
        have c7b1 : ((rd l0 x5_1) != (rd l1 x5_1)) = true := bne_iff_ne.mpr c7
        obtain rfl := Option.some.inj H
        have p602 : 0 ≤ (x5_1 : Int) := of_decide_eq_true zA
        have q602 : x5_1 < (l0.length : Int) := of_decide_eq_true zA
        obtain ⟨ad602, e602, hx602_0⟩ := Kd.at_int HR0.out x5_1 p602 q602
        cases e602
        replace p602 := eq_true p602
        replace q602 := eq_true q602
        have p603 : 0 ≤ (x5_1 : Int) := of_decide_eq_true zA
        have q603 : x5_1 < (l1.length : Int) := of_decide_eq_true zA
        obtain ⟨ad603, e603, hx603_0⟩ := Kd.at_int HR1.out x5_1 p603 q603
        cases e603
        replace p603 := eq_true p603
        replace q603 := eq_true q603
        go_wp2
        repeat (go_quiet (fail); try go_wp2)
        go_ret
        exact ⟨by first | rfl | (simp; done) | (simp [*]; done), by repeat (first | exact Drawn0.refl _ | apply Drawn0.step)⟩
      ·rw [if_neg c6] at H
       exact absurd H (by simp)
     ·rw [if_neg c5] at H
      exact absurd H (by simp)
    ·rw [if_neg c4] at H
     have c4b0 : decide (x5_1 < (l0.length : Int)) = false := deF c4
     clear c4
     obtain rfl := Option.some.inj H
     go_wp2
     repeat (go_quiet (fail); try go_wp2)
     go_ret
     exact ⟨by first | rfl | (simp; done) | (simp [*]; done), by repeat (first | exact Drawn0.refl _ | apply Drawn0.step)⟩
 ·rw [if_neg c3] at H
  have c3b0 : ((l0.length : Int) == (l1.length : Int)) = false := beq_eq_false_iff_ne.mpr c3
  have c3b1 : ((l0.length : Int) != (l1.length : Int)) = true := bne_iff_ne.mpr c3
  have c3b2 : (l0.length == l1.length) = false := by first | simpa using c3 | (simp at c3 ⊢; omega)
  obtain rfl := Option.some.inj H
  go_enter Try.func29, Try.ntmps29
  go_wp2
  repeat (go_quiet (fail); try go_wp2)
  go_ret
  exact ⟨by first | rfl | (simp; done) | (simp [*]; done), by repeat (first | exact Drawn0.refl _ | apply Drawn0.step)⟩

/-! ### laws_eqMemObj: function 110 -/
def laws_eqMemObj.f (k : Nat) (a0_0 : Int) (a0_1 : ByteArray) (l0_2 : List Int) (a1_0 : Int) (a1_1 : ByteArray) (l1_2 : List Int) : Option (Bool) := if a0_0 = a1_0 then (if a0_1.toList = a1_1.toList then ((laws_eqIntS.f k l0_2 l1_2).bind fun t606 => (if t606 = true then (some true) else (some false))) else (some false)) else (some false)
set_option maxHeartbeats 8000000 in
set_option maxRecDepth 100000 in
theorem laws_eqMemObj.calls (k : Nat) (a0_0 : Int) (a0_1 : ByteArray) (A0_2 : Option Addr) (c0_2 : Nat) (l0_2 : List Int) (a1_0 : Int) (a1_1 : ByteArray) (A1_2 : Option Addr) (c1_2 : Nat) (l1_2 : List Int) (r : Bool) (w : World) (hr0_2 : Kd.C (Kd.int .i64) w A0_2 l0_2.length l0_2) (hc0_2 : l0_2.length ≤ c0_2) (hr1_2 : Kd.C (Kd.int .i64) w A1_2 l1_2.length l1_2) (hc1_2 : l1_2.length ≤ c1_2) (h : laws_eqMemObj.f k a0_0 a0_1 l0_2 a1_0 a1_1 l1_2 = some r) :
  Calls Try.prog 110 #[.agg #[.int .i64 a0_0, .string a0_1, .slice A0_2 l0_2.length c0_2], .agg #[.int .i64 a1_0, .string a1_1, .slice A1_2 l1_2.length c1_2]] w fun e w' => e = .returned (.bool r) ∧ Below w.heap.size w w' := by
 have hu38 := Try.underlying38
 have HR0_2 := AK hr0_2
 have HC0_2 := AK hc0_2
 clear hr0_2 hc0_2
 have HR1_2 := AK hr1_2
 have HC1_2 := AK hc1_2
 clear hr1_2 hc1_2
 have HB := AK (Below.refl w.heap.size w)
 have H : (if a0_0 = a1_0 then (if a0_1.toList = a1_1.toList then ((laws_eqIntS.f k l0_2 l1_2).bind fun t606 => (if t606 = true then (some true) else (some false))) else (some false)) else (some false)) = some r := h
 clear h
 by_cases c3 : a0_0 = a1_0
 ·rw [if_pos c3] at H
  have c3b0 : (a0_0 == a1_0) = true := beq_iff_eq.mpr c3
  have c3b1 : (a0_0 != a1_0) = false := bne_eq_false_iff_eq.mpr c3
  clear c3
  by_cases c4 : a0_1.toList = a1_1.toList
  ·rw [if_pos c4] at H
   have c4b0 : (a0_1.toList == a1_1.toList) = true := beq_iff_eq.mpr c4
   have c4b1 : (a0_1.toList != a1_1.toList) = false := bne_eq_false_iff_eq.mpr c4
   clear c4
   replace H := Option.bind_eq_some_iff.mp H
   obtain ⟨t606, A50, H⟩ := H
   replace H : (if t606 = true then (some true) else (some false)) = some r := H
   have A5 := AK A50
   clear A50
   by_cases c6 : t606 = true
   ·subst c6
    have H1 : (some true) = some r := by rw [if_pos rfl] at H; exact H
    clear H
    have H := H1
    clear H1
    obtain rfl := Option.some.inj H
    go_enter Try.func110, Try.ntmps110
    go_wp2_with (first | ((with_reducible refine gate_dst (N := 2) rfl ?_); refine box_event ?hg (N := 2) ?hd (cs := #[.int .i64 a0_0, .string a0_1, .slice A0_2 l0_2.length c0_2]) (t := 38) ?hr ?_; (case hd => rfl); (case hg => rfl); (case hr => first | (go_simp; done) | (go_simp; rfl)); intro gb604 hg w7 hbox hb; have n0_ := AK (bst zB hb); have n1_ := AK (hbox); have n2_ := AK ((zG hg : w.heap.size ≤ gb604)); have n3_ := AK ((zG hg : w.heap.size ≤ gb604)); clear HB; have HB := n0_; have BK604 := n1_; have GW604 := n2_; have GE604 := n3_; clear n0_ n1_ n2_ n3_; clear hb hbox hg) | ((with_reducible refine gate_dst (N := 3) rfl ?_); refine box_event ?hg (N := 3) ?hd (cs := #[.int .i64 a1_0, .string a1_1, .slice A1_2 l1_2.length c1_2]) (t := 38) ?hr ?_; (case hd => rfl); (case hg => rfl); (case hr => first | (go_simp; done) | (go_simp; rfl)); intro gb605 hg w8 hbox hb; have n0_ := AK (bbl (zK BK604) hb); have n1_ := AK (bst zB hb); have n2_ := AK (hbox); have n3_ := AK ((zG hg : w.heap.size ≤ gb605)); have n4_ := AK ((zG hg : w.heap.size ≤ gb605)); have n5_ := AK (zN hg BK604); have n6_ := AK (zM hg BK604); clear BK604; clear HB; have BK604 := n0_; have HB := n1_; have BK605 := n2_; have GW605 := n3_; have GE605 := n4_; have NB604_605 := n5_; have NB605_604 := n6_; clear n0_ n1_ n2_ n3_ n4_ n5_ n6_; clear hb hbox hg; have hnb9 := NB604_605.out; have hnc9 := NB605_604.out; have hcz10_0 : w8.cell? ⟨gb604, 0, none⟩ = some (.int .i64 a0_0) := (bcl BK604.out 0).trans rfl; have hcz10_1 : w8.cell? ⟨gb604, 1, none⟩ = some (.string a0_1) := (bcl BK604.out 1).trans rfl; have hcz10_2 : w8.cell? ⟨gb604, 2, none⟩ = some (.slice A0_2 l0_2.length c0_2) := (bcl BK604.out 2).trans rfl; have hfz10_0 := bfz BK604.out 0; have hfz10_1 := bfz BK604.out 1; have hfz10_2 := bfz BK604.out 2; have hcz11_0 : w8.cell? ⟨gb605, 0, none⟩ = some (.int .i64 a1_0) := (bcl BK605.out 0).trans rfl; have hcz11_1 : w8.cell? ⟨gb605, 1, none⟩ = some (.string a1_1) := (bcl BK605.out 1).trans rfl; have hcz11_2 : w8.cell? ⟨gb605, 2, none⟩ = some (.slice A1_2 l1_2.length c1_2) := (bcl BK605.out 2).trans rfl; have hfz11_0 := bfz BK605.out 0; have hfz11_1 := bfz BK605.out 1; have hfz11_2 := bfz BK605.out 2) | ((with_reducible refine gate_callee (f := 29) rfl ?_); refine goesL_ (some 19) rfl rfl Try.func29 (by kernel_rfl) rfl #[.slice A0_2 l0_2.length c0_2, .slice A1_2 l1_2.length c1_2] rfl zI ?_; (with_reducible refine (laws_eqIntS.calls k _ _ l0_2 _ _ l1_2 true _ ?side1 ?side2 ?side3 ?side4 A5.out).mono ?_); (case side1 => repeat (first | exact (Kd.C_below HR0_2.out HB.out) | (with_reducible refine Kd.C_alloc ?_ _) | (with_reducible refine Kd.C_drewN ?_ _) | (with_reducible refine Kd.C_drew ?_))); (case side2 => exact HC0_2.out); (case side3 => repeat (first | exact (Kd.C_below HR1_2.out HB.out) | (with_reducible refine Kd.C_alloc ?_ _) | (with_reducible refine Kd.C_drewN ?_ _) | (with_reducible refine Kd.C_drew ?_))); (case side4 => exact HC1_2.out); rintro e w' ⟨rfl, ⟨nd, rfl⟩⟩; refine ⟨_, rfl, ?_⟩))
    go_ret
    exact ⟨by first | rfl | (simp [errW_none, errW_some] <;> rfl) | (simp [*, errW_none, errW_some] <;> rfl), zB⟩
   ·replace c6 := Bool.eq_false_iff.mpr c6
    subst c6
    have H1 : (some false) = some r := by rw [if_neg (show ¬ (false = true) by decide)] at H; exact H
    clear H
    have H := H1
    clear H1
    obtain rfl := Option.some.inj H
    go_enter Try.func110, Try.ntmps110
    go_wp2_with (first | ((with_reducible refine gate_dst (N := 2) rfl ?_); refine box_event ?hg (N := 2) ?hd (cs := #[.int .i64 a0_0, .string a0_1, .slice A0_2 l0_2.length c0_2]) (t := 38) ?hr ?_; (case hd => rfl); (case hg => rfl); (case hr => first | (go_simp; done) | (go_simp; rfl)); intro gb604 hg w12 hbox hb; have n0_ := AK (bst zB hb); have n1_ := AK (hbox); have n2_ := AK ((zG hg : w.heap.size ≤ gb604)); have n3_ := AK ((zG hg : w.heap.size ≤ gb604)); clear HB; have HB := n0_; have BK604 := n1_; have GW604 := n2_; have GE604 := n3_; clear n0_ n1_ n2_ n3_; clear hb hbox hg) | ((with_reducible refine gate_dst (N := 3) rfl ?_); refine box_event ?hg (N := 3) ?hd (cs := #[.int .i64 a1_0, .string a1_1, .slice A1_2 l1_2.length c1_2]) (t := 38) ?hr ?_; (case hd => rfl); (case hg => rfl); (case hr => first | (go_simp; done) | (go_simp; rfl)); intro gb605 hg w13 hbox hb; have n0_ := AK (bbl (zK BK604) hb); have n1_ := AK (bst zB hb); have n2_ := AK (hbox); have n3_ := AK ((zG hg : w.heap.size ≤ gb605)); have n4_ := AK ((zG hg : w.heap.size ≤ gb605)); have n5_ := AK (zN hg BK604); have n6_ := AK (zM hg BK604); clear BK604; clear HB; have BK604 := n0_; have HB := n1_; have BK605 := n2_; have GW605 := n3_; have GE605 := n4_; have NB604_605 := n5_; have NB605_604 := n6_; clear n0_ n1_ n2_ n3_ n4_ n5_ n6_; clear hb hbox hg; have hnb14 := NB604_605.out; have hnc14 := NB605_604.out; have hcz15_0 : w13.cell? ⟨gb604, 0, none⟩ = some (.int .i64 a0_0) := (bcl BK604.out 0).trans rfl; have hcz15_1 : w13.cell? ⟨gb604, 1, none⟩ = some (.string a0_1) := (bcl BK604.out 1).trans rfl; have hcz15_2 : w13.cell? ⟨gb604, 2, none⟩ = some (.slice A0_2 l0_2.length c0_2) := (bcl BK604.out 2).trans rfl; have hfz15_0 := bfz BK604.out 0; have hfz15_1 := bfz BK604.out 1; have hfz15_2 := bfz BK604.out 2; have hcz16_0 : w13.cell? ⟨gb605, 0, none⟩ = some (.int .i64 a1_0) := (bcl BK605.out 0).trans rfl; have hcz16_1 : w13.cell? ⟨gb605, 1, none⟩ = some (.string a1_1) := (bcl BK605.out 1).trans rfl; have hcz16_2 : w13.cell? ⟨gb605, 2, none⟩ = some (.slice A1_2 l1_2.length c1_2) := (bcl BK605.out 2).trans rfl; have hfz16_0 := bfz BK605.out 0; have hfz16_1 := bfz BK605.out 1; have hfz16_2 := bfz BK605.out 2) | ((with_reducible refine gate_callee (f := 29) rfl ?_); refine goesL_ (some 19) rfl rfl Try.func29 (by kernel_rfl) rfl #[.slice A0_2 l0_2.length c0_2, .slice A1_2 l1_2.length c1_2] rfl zI ?_; (with_reducible refine (laws_eqIntS.calls k _ _ l0_2 _ _ l1_2 false _ ?side1 ?side2 ?side3 ?side4 A5.out).mono ?_); (case side1 => repeat (first | exact (Kd.C_below HR0_2.out HB.out) | (with_reducible refine Kd.C_alloc ?_ _) | (with_reducible refine Kd.C_drewN ?_ _) | (with_reducible refine Kd.C_drew ?_))); (case side2 => exact HC0_2.out); (case side3 => repeat (first | exact (Kd.C_below HR1_2.out HB.out) | (with_reducible refine Kd.C_alloc ?_ _) | (with_reducible refine Kd.C_drewN ?_ _) | (with_reducible refine Kd.C_drew ?_))); (case side4 => exact HC1_2.out); rintro e w' ⟨rfl, ⟨nd, rfl⟩⟩; refine ⟨_, rfl, ?_⟩))
    go_ret
    exact ⟨by first | rfl | (simp [errW_none, errW_some] <;> rfl) | (simp [*, errW_none, errW_some] <;> rfl), zB⟩
  ·rw [if_neg c4] at H
   have c4b0 : (a0_1.toList == a1_1.toList) = false := beq_eq_false_iff_ne.mpr c4
   have c4b1 : (a0_1.toList != a1_1.toList) = true := bne_iff_ne.mpr c4
   obtain rfl := Option.some.inj H
   go_enter Try.func110, Try.ntmps110
   go_wp2_with (first | ((with_reducible refine gate_dst (N := 2) rfl ?_); refine box_event ?hg (N := 2) ?hd (cs := #[.int .i64 a0_0, .string a0_1, .slice A0_2 l0_2.length c0_2]) (t := 38) ?hr ?_; (case hd => rfl); (case hg => rfl); (case hr => first | (go_simp; done) | (go_simp; rfl)); intro gb604 hg w17 hbox hb; have n0_ := AK (bst zB hb); have n1_ := AK (hbox); have n2_ := AK ((zG hg : w.heap.size ≤ gb604)); have n3_ := AK ((zG hg : w.heap.size ≤ gb604)); clear HB; have HB := n0_; have BK604 := n1_; have GW604 := n2_; have GE604 := n3_; clear n0_ n1_ n2_ n3_; clear hb hbox hg) | ((with_reducible refine gate_dst (N := 3) rfl ?_); refine box_event ?hg (N := 3) ?hd (cs := #[.int .i64 a1_0, .string a1_1, .slice A1_2 l1_2.length c1_2]) (t := 38) ?hr ?_; (case hd => rfl); (case hg => rfl); (case hr => first | (go_simp; done) | (go_simp; rfl)); intro gb605 hg w18 hbox hb; have n0_ := AK (bbl (zK BK604) hb); have n1_ := AK (bst zB hb); have n2_ := AK (hbox); have n3_ := AK ((zG hg : w.heap.size ≤ gb605)); have n4_ := AK ((zG hg : w.heap.size ≤ gb605)); have n5_ := AK (zN hg BK604); have n6_ := AK (zM hg BK604); clear BK604; clear HB; have BK604 := n0_; have HB := n1_; have BK605 := n2_; have GW605 := n3_; have GE605 := n4_; have NB604_605 := n5_; have NB605_604 := n6_; clear n0_ n1_ n2_ n3_ n4_ n5_ n6_; clear hb hbox hg; have hnb19 := NB604_605.out; have hnc19 := NB605_604.out; have hcz20_0 : w18.cell? ⟨gb604, 0, none⟩ = some (.int .i64 a0_0) := (bcl BK604.out 0).trans rfl; have hcz20_1 : w18.cell? ⟨gb604, 1, none⟩ = some (.string a0_1) := (bcl BK604.out 1).trans rfl; have hcz20_2 : w18.cell? ⟨gb604, 2, none⟩ = some (.slice A0_2 l0_2.length c0_2) := (bcl BK604.out 2).trans rfl; have hfz20_0 := bfz BK604.out 0; have hfz20_1 := bfz BK604.out 1; have hfz20_2 := bfz BK604.out 2; have hcz21_0 : w18.cell? ⟨gb605, 0, none⟩ = some (.int .i64 a1_0) := (bcl BK605.out 0).trans rfl; have hcz21_1 : w18.cell? ⟨gb605, 1, none⟩ = some (.string a1_1) := (bcl BK605.out 1).trans rfl; have hcz21_2 : w18.cell? ⟨gb605, 2, none⟩ = some (.slice A1_2 l1_2.length c1_2) := (bcl BK605.out 2).trans rfl; have hfz21_0 := bfz BK605.out 0; have hfz21_1 := bfz BK605.out 1; have hfz21_2 := bfz BK605.out 2))
   go_ret
   exact ⟨by first | rfl | (simp [errW_none, errW_some] <;> rfl) | (simp [*, errW_none, errW_some] <;> rfl), zB⟩
 ·rw [if_neg c3] at H
  have c3b0 : (a0_0 == a1_0) = false := beq_eq_false_iff_ne.mpr c3
  have c3b1 : (a0_0 != a1_0) = true := bne_iff_ne.mpr c3
  obtain rfl := Option.some.inj H
  go_enter Try.func110, Try.ntmps110
  go_wp2_with (first | ((with_reducible refine gate_dst (N := 2) rfl ?_); refine box_event ?hg (N := 2) ?hd (cs := #[.int .i64 a0_0, .string a0_1, .slice A0_2 l0_2.length c0_2]) (t := 38) ?hr ?_; (case hd => rfl); (case hg => rfl); (case hr => first | (go_simp; done) | (go_simp; rfl)); intro gb604 hg w22 hbox hb; have n0_ := AK (bst zB hb); have n1_ := AK (hbox); have n2_ := AK ((zG hg : w.heap.size ≤ gb604)); have n3_ := AK ((zG hg : w.heap.size ≤ gb604)); clear HB; have HB := n0_; have BK604 := n1_; have GW604 := n2_; have GE604 := n3_; clear n0_ n1_ n2_ n3_; clear hb hbox hg) | ((with_reducible refine gate_dst (N := 3) rfl ?_); refine box_event ?hg (N := 3) ?hd (cs := #[.int .i64 a1_0, .string a1_1, .slice A1_2 l1_2.length c1_2]) (t := 38) ?hr ?_; (case hd => rfl); (case hg => rfl); (case hr => first | (go_simp; done) | (go_simp; rfl)); intro gb605 hg w23 hbox hb; have n0_ := AK (bbl (zK BK604) hb); have n1_ := AK (bst zB hb); have n2_ := AK (hbox); have n3_ := AK ((zG hg : w.heap.size ≤ gb605)); have n4_ := AK ((zG hg : w.heap.size ≤ gb605)); have n5_ := AK (zN hg BK604); have n6_ := AK (zM hg BK604); clear BK604; clear HB; have BK604 := n0_; have HB := n1_; have BK605 := n2_; have GW605 := n3_; have GE605 := n4_; have NB604_605 := n5_; have NB605_604 := n6_; clear n0_ n1_ n2_ n3_ n4_ n5_ n6_; clear hb hbox hg; have hnb24 := NB604_605.out; have hnc24 := NB605_604.out; have hcz25_0 : w23.cell? ⟨gb604, 0, none⟩ = some (.int .i64 a0_0) := (bcl BK604.out 0).trans rfl; have hcz25_1 : w23.cell? ⟨gb604, 1, none⟩ = some (.string a0_1) := (bcl BK604.out 1).trans rfl; have hcz25_2 : w23.cell? ⟨gb604, 2, none⟩ = some (.slice A0_2 l0_2.length c0_2) := (bcl BK604.out 2).trans rfl; have hfz25_0 := bfz BK604.out 0; have hfz25_1 := bfz BK604.out 1; have hfz25_2 := bfz BK604.out 2; have hcz26_0 : w23.cell? ⟨gb605, 0, none⟩ = some (.int .i64 a1_0) := (bcl BK605.out 0).trans rfl; have hcz26_1 : w23.cell? ⟨gb605, 1, none⟩ = some (.string a1_1) := (bcl BK605.out 1).trans rfl; have hcz26_2 : w23.cell? ⟨gb605, 2, none⟩ = some (.slice A1_2 l1_2.length c1_2) := (bcl BK605.out 2).trans rfl; have hfz26_0 := bfz BK605.out 0; have hfz26_1 := bfz BK605.out 1; have hfz26_2 := bfz BK605.out 2))
  go_ret
  exact ⟨by first | rfl | (simp [errW_none, errW_some] <;> rfl) | (simp [*, errW_none, errW_some] <;> rfl), zB⟩

/-! ### laws_eqMemObjS: function 84 -/
def laws_eqMemObjS.l0 : Nat → List (S38) → List (S38) → Int → Option (Bool)
 | 0, _, _, _ => none
 | k + 1, x0, x1, x5 => if x5 < (x0.length : Int) then (if 0 ≤ x5 then (if x5 < (x1.length : Int) then ((laws_eqMemObj.f k ((rd_T38 x0 x5).f0) ((rd_T38 x0 x5).f1) ((rd_T38 x0 x5).f2) ((rd_T38 x1 x5).f0) ((rd_T38 x1 x5).f1) ((rd_T38 x1 x5).f2)).bind fun t609 => (if t609 = true then (laws_eqMemObjS.l0 k x0 x1 (wrap64 (x5 + 1))) else (some false))) else (none)) else (none)) else (some true)
def laws_eqMemObjS.f (k : Nat) (l0 : List (S38)) (l1 : List (S38)) : Option (Bool) := if (l0.length : Int) = (l1.length : Int) then (laws_eqMemObjS.l0 k l0 l1 0) else (some false)
def laws_eqMemObjS.T6 : Bool × List (List Nat × List Nat) := (true, [([], []), ([], []), ([0, 1], [0, 1]), ([2], [2]), ([], []), ([], []), ([4, 5], [4, 5]), ([6], [6]), ([3, 7], [3, 7]), ([8], [8])])
def laws_eqMemObjS.B6 : List Nat := [0, 0, 3, 7, 0, 0, 48, 112, 255, 511]
theorem laws_eqMemObjS.tab6 : rtab .any (opsOf Try.f84 6) = laws_eqMemObjS.T6 := by kernel_rfl
theorem laws_eqMemObjS.bits6 : waitsOk laws_eqMemObjS.T6.2 laws_eqMemObjS.B6 = true := by kernel_rfl
set_option maxHeartbeats 8000000 in
set_option maxRecDepth 100000 in
theorem laws_eqMemObjS.calls (k : Nat) (A0 : Option Addr) (c0 : Nat) (l0 : List (S38)) (A1 : Option Addr) (c1 : Nat) (l1 : List (S38)) (r : Bool) (w : World) (hr0 : Kd.C k38 w A0 l0.length l0) (hc0 : l0.length ≤ c0) (hr1 : Kd.C k38 w A1 l1.length l1) (hc1 : l1.length ≤ c1) (h : laws_eqMemObjS.f k l0 l1 = some r) :
  Calls Try.prog 84 #[.slice A0 l0.length c0, .slice A1 l1.length c1] w fun e w' => e = .returned (.bool r) ∧ Below w.heap.size w w' := by
 have hu38 := Try.underlying38
 have HR0 := AK hr0
 have HC0 := AK hc0
 clear hr0 hc0
 have HR1 := AK hr1
 have HC1 := AK hc1
 clear hr1 hc1
 have HB := AK (Below.refl w.heap.size w)
 have H : (if (l0.length : Int) = (l1.length : Int) then (laws_eqMemObjS.l0 k l0 l1 0) else (some false)) = some r := h
 clear h
 by_cases c3 : (l0.length : Int) = (l1.length : Int)
 ·rw [if_pos c3] at H
  have c3b0 : ((l0.length : Int) == (l1.length : Int)) = true := beq_iff_eq.mpr c3
  have c3b1 : ((l0.length : Int) != (l1.length : Int)) = false := bne_eq_false_iff_eq.mpr c3
  have c3b2 : (l0.length == l1.length) = true := by first | simpa using c3 | (simp at c3 ⊢; omega)
  clear c3
  have H' := AK H
  clear H
  go_enter Try.func84, Try.ntmps84
  go_wp2
  go_loopg [5] k (fun kq v5 w' => ∃ (x5_1 : Int), v5 = .int .i64 x5_1 ∧ Aside0 (laws_eqMemObjS.l0 kq l0 l1 x5_1 = some r) ∧ Aside0 (kq ≤ k) ∧ Aside0 (Below w.heap.size w w'))
  case atStart => exact ⟨(0), (by first | rfl | (simp; done) | (simp [*]; done)), H', ⟨Nat.le_refl _⟩, ⟨zB⟩⟩
  case round =>
   clear H'
   try clear c1
   try clear p2
   try clear c3
   try clear c3b0
   try clear c3b1
   try clear c3b2
   obtain ⟨x5_1, rfl, HA, HK1, HB⟩ := hrel
   cases gk with
   | zero => exact absurd HA.out (by simp [laws_eqMemObjS.l0])
   | succ k1 =>
    have H := HA.out
    clear HA
    simp only [laws_eqMemObjS.l0] at H
    by_cases c4 : x5_1 < (l0.length : Int)
    ·rw [if_pos c4] at H
     have c4b0 : decide (x5_1 < (l0.length : Int)) = true := deT c4
     clear c4
     by_cases c5 : 0 ≤ x5_1
     ·rw [if_pos c5] at H
      have c5b0 : decide (0 ≤ x5_1) = true := deT c5
      clear c5
      by_cases c6 : x5_1 < (l1.length : Int)
      ·rw [if_pos c6] at H
       have c6b0 : decide (x5_1 < (l1.length : Int)) = true := deT c6
       clear c6
       replace H := Option.bind_eq_some_iff.mp H
       obtain ⟨t609, A70, H⟩ := H
       replace H : (if t609 = true then (laws_eqMemObjS.l0 k1 l0 l1 (wrap64 (x5_1 + 1))) else (some false)) = some r := H
       have A7 := AK A70
       clear A70
       by_cases c8 : t609 = true
       ·subst c8
        have H1 : (laws_eqMemObjS.l0 k1 l0 l1 (wrap64 (x5_1 + 1))) = some r := by rw [if_pos rfl] at H; exact H
        clear H
        have H := H1
        clear H1
        have H' := AK H
        clear H
        try go_wp2
        have n0_ := AK (below_drew1 HB.out)
        clear HB
        have HB := n0_
        clear n0_
        have p607 : 0 ≤ (x5_1 : Int) := of_decide_eq_true zA
        have q607 : x5_1 < (l0.length : Int) := of_decide_eq_true zA
        obtain ⟨ad607, A607_2, c607_2, e607, hx607_0, hx607_1, hx607_2, hl607_2, hi607_2⟩ := at_T38 HR0.out x5_1 p607 q607
        have hw607_2 := hx607_2
        have hw607_1 := hx607_1
        have hw607_0 := hx607_0
        cases e607
        replace hx607_0 := (HB.out.cell (World.block_lt_of_cell? w _ hx607_0)).trans hx607_0
        replace hx607_1 := (HB.out.cell (World.block_lt_of_cell? w _ hx607_1)).trans hx607_1
        replace hx607_2 := (HB.out.cell (World.block_lt_of_cell? w _ hx607_2)).trans hx607_2
        have HR607_2 := AK hi607_2
        have HC607_2 := AK hl607_2
        clear hi607_2 hl607_2
        replace p607 := eq_true p607
        replace q607 := eq_true q607
        have p608 : 0 ≤ (x5_1 : Int) := of_decide_eq_true zA
        have q608 : x5_1 < (l1.length : Int) := of_decide_eq_true zA
        obtain ⟨ad608, A608_2, c608_2, e608, hx608_0, hx608_1, hx608_2, hl608_2, hi608_2⟩ := at_T38 HR1.out x5_1 p608 q608
        have hw608_2 := hx608_2
        have hw608_1 := hx608_1
        have hw608_0 := hx608_0
        cases e608
        replace hx608_0 := (HB.out.cell (World.block_lt_of_cell? w _ hx608_0)).trans hx608_0
        replace hx608_1 := (HB.out.cell (World.block_lt_of_cell? w _ hx608_1)).trans hx608_1
        replace hx608_2 := (HB.out.cell (World.block_lt_of_cell? w _ hx608_2)).trans hx608_2
        have HR608_2 := AK hi608_2
        have HC608_2 := AK hl608_2
        clear hi608_2 hl608_2
        replace p608 := eq_true p608
        replace q608 := eq_true q608
        refine start_ (n := 10) (S := fun w' => w'.cell? (ad607.add ((x5_1).toNat * 3)) = some (.int .i64 ((rd_T38 l0 x5_1).f0)) ∧ w'.cell? ⟨(ad607.add ((x5_1).toNat * 3)).block, (ad607.add ((x5_1).toNat * 3)).off + 1, none⟩ = some (.string ((rd_T38 l0 x5_1).f1)) ∧ w'.cell? ⟨(ad607.add ((x5_1).toNat * 3)).block, (ad607.add ((x5_1).toNat * 3)).off + 2, none⟩ = some (.slice A607_2 ((rd_T38 l0 x5_1).f2).length c607_2) ∧ w'.cell? (ad608.add ((x5_1).toNat * 3)) = some (.int .i64 ((rd_T38 l1 x5_1).f0)) ∧ w'.cell? ⟨(ad608.add ((x5_1).toNat * 3)).block, (ad608.add ((x5_1).toNat * 3)).off + 1, none⟩ = some (.string ((rd_T38 l1 x5_1).f1)) ∧ w'.cell? ⟨(ad608.add ((x5_1).toNat * 3)).block, (ad608.add ((x5_1).toNat * 3)).off + 2, none⟩ = some (.slice A608_2 ((rd_T38 l1 x5_1).f2).length c608_2)) (ds := []) #[fF,fF,fF,fF,fF,fF,fF,fF,fF,fF] (by kernel_rfl) rfl rfl ⟨((HB.out.cell (World.block_lt_of_cell? w _ hw607_0)).trans hw607_0), ((HB.out.cell (World.block_lt_of_cell? w _ hw607_1)).trans hw607_1), ((HB.out.cell (World.block_lt_of_cell? w _ hw607_2)).trans hw607_2), ((HB.out.cell (World.block_lt_of_cell? w _ hw608_0)).trans hw608_0), ((HB.out.cell (World.block_lt_of_cell? w _ hw608_1)).trans hw608_1), ((HB.out.cell (World.block_lt_of_cell? w _ hw608_2)).trans hw608_2)⟩ (fun hHeld => ?_); refine with_tabW laws_eqMemObjS.tab6 laws_eqMemObjS.bits6 (fun HT_ HW_ => ?_)
        generalize wr.drew = w9 at HB HR607_2 HR608_2 hx607_0 hx607_1 hx607_2 hx608_0 hx608_1 hx608_2 hHeld ⊢
        refine pure_ (i := 0) (N := some 17) (v := ?_) (a' := ?_) #[tT,fF,fF,fF,fF,fF,fF,fF,fF,fF] rfl rfl (any_of HT_.out (by kernel_rfl)) (fun _ _ _ h => h) (Or.inl ⟨by rfl, ?_⟩) ?_ ?_
        rotate_left
        ·intro w'
         go_simp
         with_reducible rfl
        rotate_left
        ·exact zP
        refine pure_ (i := 1) (N := some 18) (v := ?_) (a' := ?_) #[tT,tT,fF,fF,fF,fF,fF,fF,fF,fF] rfl rfl (any_of HT_.out (by kernel_rfl)) (fun _ _ _ h => h) (Or.inl ⟨by rfl, ?_⟩) ?_ ?_
        rotate_left
        ·intro w'
         go_simp
         with_reducible rfl
        rotate_left
        ·exact zP
        refine pure_ (i := 2) (N := some 19) (v := ?_) (a' := ?_) #[tT,tT,tT,fF,fF,fF,fF,fF,fF,fF] rfl rfl (any_of HT_.out (by kernel_rfl)) (fun _ _ _ h => h) (Or.inl ⟨by rfl, ?_⟩) ?_ ?_
        rotate_left
        ·intro w'
         go_simp
         with_reducible rfl
        rotate_left
        ·exact zP
        refine pure_ (i := 4) (N := some 21) (v := ?_) (a' := ?_) #[tT,tT,tT,fF,tT,fF,fF,fF,fF,fF] rfl rfl (any_of HT_.out (by kernel_rfl)) (fun _ _ _ h => h) (Or.inl ⟨by rfl, ?_⟩) ?_ ?_
        rotate_left
        ·intro w'
         go_simp
         with_reducible rfl
        rotate_left
        ·exact zP
        refine pure_ (i := 5) (N := some 22) (v := ?_) (a' := ?_) #[tT,tT,tT,fF,tT,tT,fF,fF,fF,fF] rfl rfl (any_of HT_.out (by kernel_rfl)) (fun _ _ _ h => h) (Or.inl ⟨by rfl, ?_⟩) ?_ ?_
        rotate_left
        ·intro w'
         go_simp
         with_reducible rfl
        rotate_left
        ·exact zP
        refine pure_ (i := 6) (N := some 23) (v := ?_) (a' := ?_) #[tT,tT,tT,fF,tT,tT,tT,fF,fF,fF] rfl rfl (any_of HT_.out (by kernel_rfl)) (fun _ _ _ h => h) (Or.inl ⟨by rfl, ?_⟩) ?_ ?_
        rotate_left
        ·intro w'
         go_simp
         with_reducible rfl
        rotate_left
        ·exact zP
        refine take_ (i := 3) (N := some 20) (v := ?_) (a' := ?_) #[tT,tT,tT,tT,tT,tT,tT,fF,fF,fF] rfl rfl (take_ofW HT_.out HW_.out (by kernel_rfl)) (fun _ _ _ h => h) (Or.inl ⟨by rfl, ?_⟩) hHeld ?_ ?_
        rotate_left
        ·rintro w' ⟨s0, s1, s2, s3, s4, s5⟩
         go_simp
         with_reducible rfl
        rotate_left
        ·exact zP
        refine take_ (i := 7) (N := some 24) (v := ?_) (a' := ?_) #[tT,tT,tT,tT,tT,tT,tT,tT,fF,fF] rfl rfl (take_ofW HT_.out HW_.out (by kernel_rfl)) (fun _ _ _ h => h) (Or.inl ⟨by rfl, ?_⟩) hHeld ?_ ?_
        rotate_left
        ·rintro w' ⟨s0, s1, s2, s3, s4, s5⟩
         go_simp
         with_reducible rfl
        rotate_left
        ·exact zP
        refine one_ (i := 8) (N := some 25) #[tT,tT,tT,tT,tT,tT,tT,tT,tT,fF] rfl rfl (one_of HT_.out (by kernel_rfl)) (by decide) (fun K hK => ?_)
        refine goes_ Try.func110 (by kernel_rfl) rfl #[.agg #[.int .i64 ((rd_T38 l0 x5_1).f0), .string ((rd_T38 l0 x5_1).f1), .slice A607_2 ((rd_T38 l0 x5_1).f2).length c607_2], .agg #[.int .i64 ((rd_T38 l1 x5_1).f0), .string ((rd_T38 l1 x5_1).f1), .slice A608_2 ((rd_T38 l1 x5_1).f2).length c608_2]] (by rfl) rfl rfl zI ?_
        with_reducible refine (laws_eqMemObj.calls k1 ((rd_T38 l0 x5_1).f0) ((rd_T38 l0 x5_1).f1) _ _ ((rd_T38 l0 x5_1).f2) ((rd_T38 l1 x5_1).f0) ((rd_T38 l1 x5_1).f1) _ _ ((rd_T38 l1 x5_1).f2) true _ ?side1 ?side2 ?side3 ?side4 A7.out).mono ?_
        (case side1 => repeat (first | exact (Kd.C_below HR607_2.out HB.out) | (with_reducible refine Kd.C_alloc ?_ _) | (with_reducible refine Kd.C_drewN ?_ _) | (with_reducible refine Kd.C_drew ?_)))
        (case side2 => exact HC607_2.out)
        (case side3 => repeat (first | exact (Kd.C_below HR608_2.out HB.out) | (with_reducible refine Kd.C_alloc ?_ _) | (with_reducible refine Kd.C_drewN ?_ _) | (with_reducible refine Kd.C_drew ?_)))
        (case side4 => exact HC608_2.out)
        rintro e w10 ⟨rfl, hb⟩
        refine ⟨_, rfl, ?_⟩
        have n0_ := AK (bst zB hb)
        clear HB
        have HB := n0_
        clear n0_
        (try clear hb)
        (try clear hb2)
        (try clear hk)
        (try clear hi)
        refine hK.out _ _ ⟨((HB.out.cell (World.block_lt_of_cell? w _ hw607_0)).trans hw607_0), ((HB.out.cell (World.block_lt_of_cell? w _ hw607_1)).trans hw607_1), ((HB.out.cell (World.block_lt_of_cell? w _ hw607_2)).trans hw607_2), ((HB.out.cell (World.block_lt_of_cell? w _ hw608_0)).trans hw608_0), ((HB.out.cell (World.block_lt_of_cell? w _ hw608_1)).trans hw608_1), ((HB.out.cell (World.block_lt_of_cell? w _ hw608_2)).trans hw608_2)⟩ (fun hHeld => ?_)
        clear hK K
        refine norm_ (a' := ?_) ?_ ?_
        rotate_left
        ·show Act.put _ (some 25) _ = _
         exact zP
        refine pure_ (i := 9) (N := some 26) (v := ?_) (a' := ?_) #[tT,tT,tT,tT,tT,tT,tT,tT,tT,tT] rfl rfl (any_of HT_.out (by kernel_rfl)) (fun _ _ _ h => h) (Or.inl ⟨by rfl, ?_⟩) ?_ ?_
        rotate_left
        ·intro w'
         go_simp
         with_reducible rfl
        rotate_left
        ·exact zP
        refine done_ (done_of HT_.out (by kernel_rfl)) ?_
        try go_wp2
        go_roundg k1
        case measure => have := HK1.out; omega
        case rel => exact ⟨(wrap64 (x5_1 + 1)), (by first | rfl | (simp; done) | (simp [*]; done)), H', ⟨by have := HK1.out; omega⟩, ⟨zB⟩⟩
       ·replace c8 := Bool.eq_false_iff.mpr c8
        subst c8
        have H1 : (some false) = some r := by rw [if_neg (show ¬ (false = true) by decide)] at H; exact H
        clear H
        have H := H1
        clear H1
        obtain rfl := Option.some.inj H
        try go_wp2
        have n0_ := AK (below_drew1 HB.out)
        clear HB
        have HB := n0_
        clear n0_
        have p607 : 0 ≤ (x5_1 : Int) := of_decide_eq_true zA
        have q607 : x5_1 < (l0.length : Int) := of_decide_eq_true zA
        obtain ⟨ad607, A607_2, c607_2, e607, hx607_0, hx607_1, hx607_2, hl607_2, hi607_2⟩ := at_T38 HR0.out x5_1 p607 q607
        have hw607_2 := hx607_2
        have hw607_1 := hx607_1
        have hw607_0 := hx607_0
        cases e607
        replace hx607_0 := (HB.out.cell (World.block_lt_of_cell? w _ hx607_0)).trans hx607_0
        replace hx607_1 := (HB.out.cell (World.block_lt_of_cell? w _ hx607_1)).trans hx607_1
        replace hx607_2 := (HB.out.cell (World.block_lt_of_cell? w _ hx607_2)).trans hx607_2
        have HR607_2 := AK hi607_2
        have HC607_2 := AK hl607_2
        clear hi607_2 hl607_2
        replace p607 := eq_true p607
        replace q607 := eq_true q607
        have p608 : 0 ≤ (x5_1 : Int) := of_decide_eq_true zA
        have q608 : x5_1 < (l1.length : Int) := of_decide_eq_true zA
        obtain ⟨ad608, A608_2, c608_2, e608, hx608_0, hx608_1, hx608_2, hl608_2, hi608_2⟩ := at_T38 HR1.out x5_1 p608 q608
        have hw608_2 := hx608_2
        have hw608_1 := hx608_1
        have hw608_0 := hx608_0
        cases e608
        replace hx608_0 := (HB.out.cell (World.block_lt_of_cell? w _ hx608_0)).trans hx608_0
        replace hx608_1 := (HB.out.cell (World.block_lt_of_cell? w _ hx608_1)).trans hx608_1
        replace hx608_2 := (HB.out.cell (World.block_lt_of_cell? w _ hx608_2)).trans hx608_2
        have HR608_2 := AK hi608_2
        have HC608_2 := AK hl608_2
        clear hi608_2 hl608_2
        replace p608 := eq_true p608
        replace q608 := eq_true q608
        refine start_ (n := 10) (S := fun w' => w'.cell? (ad607.add ((x5_1).toNat * 3)) = some (.int .i64 ((rd_T38 l0 x5_1).f0)) ∧ w'.cell? ⟨(ad607.add ((x5_1).toNat * 3)).block, (ad607.add ((x5_1).toNat * 3)).off + 1, none⟩ = some (.string ((rd_T38 l0 x5_1).f1)) ∧ w'.cell? ⟨(ad607.add ((x5_1).toNat * 3)).block, (ad607.add ((x5_1).toNat * 3)).off + 2, none⟩ = some (.slice A607_2 ((rd_T38 l0 x5_1).f2).length c607_2) ∧ w'.cell? (ad608.add ((x5_1).toNat * 3)) = some (.int .i64 ((rd_T38 l1 x5_1).f0)) ∧ w'.cell? ⟨(ad608.add ((x5_1).toNat * 3)).block, (ad608.add ((x5_1).toNat * 3)).off + 1, none⟩ = some (.string ((rd_T38 l1 x5_1).f1)) ∧ w'.cell? ⟨(ad608.add ((x5_1).toNat * 3)).block, (ad608.add ((x5_1).toNat * 3)).off + 2, none⟩ = some (.slice A608_2 ((rd_T38 l1 x5_1).f2).length c608_2)) (ds := []) #[fF,fF,fF,fF,fF,fF,fF,fF,fF,fF] (by kernel_rfl) rfl rfl ⟨((HB.out.cell (World.block_lt_of_cell? w _ hw607_0)).trans hw607_0), ((HB.out.cell (World.block_lt_of_cell? w _ hw607_1)).trans hw607_1), ((HB.out.cell (World.block_lt_of_cell? w _ hw607_2)).trans hw607_2), ((HB.out.cell (World.block_lt_of_cell? w _ hw608_0)).trans hw608_0), ((HB.out.cell (World.block_lt_of_cell? w _ hw608_1)).trans hw608_1), ((HB.out.cell (World.block_lt_of_cell? w _ hw608_2)).trans hw608_2)⟩ (fun hHeld => ?_); refine with_tabW laws_eqMemObjS.tab6 laws_eqMemObjS.bits6 (fun HT_ HW_ => ?_)
        generalize wr.drew = w11 at HB HR607_2 HR608_2 hx607_0 hx607_1 hx607_2 hx608_0 hx608_1 hx608_2 hHeld ⊢
        refine pure_ (i := 0) (N := some 17) (v := ?_) (a' := ?_) #[tT,fF,fF,fF,fF,fF,fF,fF,fF,fF] rfl rfl (any_of HT_.out (by kernel_rfl)) (fun _ _ _ h => h) (Or.inl ⟨by rfl, ?_⟩) ?_ ?_
        rotate_left
        ·intro w'
         go_simp
         with_reducible rfl
        rotate_left
        ·exact zP
        refine pure_ (i := 1) (N := some 18) (v := ?_) (a' := ?_) #[tT,tT,fF,fF,fF,fF,fF,fF,fF,fF] rfl rfl (any_of HT_.out (by kernel_rfl)) (fun _ _ _ h => h) (Or.inl ⟨by rfl, ?_⟩) ?_ ?_
        rotate_left
        ·intro w'
         go_simp
         with_reducible rfl
        rotate_left
        ·exact zP
        refine pure_ (i := 2) (N := some 19) (v := ?_) (a' := ?_) #[tT,tT,tT,fF,fF,fF,fF,fF,fF,fF] rfl rfl (any_of HT_.out (by kernel_rfl)) (fun _ _ _ h => h) (Or.inl ⟨by rfl, ?_⟩) ?_ ?_
        rotate_left
        ·intro w'
         go_simp
         with_reducible rfl
        rotate_left
        ·exact zP
        refine pure_ (i := 4) (N := some 21) (v := ?_) (a' := ?_) #[tT,tT,tT,fF,tT,fF,fF,fF,fF,fF] rfl rfl (any_of HT_.out (by kernel_rfl)) (fun _ _ _ h => h) (Or.inl ⟨by rfl, ?_⟩) ?_ ?_
        rotate_left
        ·intro w'
         go_simp
         with_reducible rfl
        rotate_left
        ·exact zP
        refine pure_ (i := 5) (N := some 22) (v := ?_) (a' := ?_) #[tT,tT,tT,fF,tT,tT,fF,fF,fF,fF] rfl rfl (any_of HT_.out (by kernel_rfl)) (fun _ _ _ h => h) (Or.inl ⟨by rfl, ?_⟩) ?_ ?_
        rotate_left
        ·intro w'
         go_simp
         with_reducible rfl
        rotate_left
        ·exact zP
        refine pure_ (i := 6) (N := some 23) (v := ?_) (a' := ?_) #[tT,tT,tT,fF,tT,tT,tT,fF,fF,fF] rfl rfl (any_of HT_.out (by kernel_rfl)) (fun _ _ _ h => h) (Or.inl ⟨by rfl, ?_⟩) ?_ ?_
        rotate_left
        ·intro w'
         go_simp
         with_reducible rfl
        rotate_left
        ·exact zP
        refine take_ (i := 3) (N := some 20) (v := ?_) (a' := ?_) #[tT,tT,tT,tT,tT,tT,tT,fF,fF,fF] rfl rfl (take_ofW HT_.out HW_.out (by kernel_rfl)) (fun _ _ _ h => h) (Or.inl ⟨by rfl, ?_⟩) hHeld ?_ ?_
        rotate_left
        ·rintro w' ⟨s0, s1, s2, s3, s4, s5⟩
         go_simp
         with_reducible rfl
        rotate_left
        ·exact zP
        refine take_ (i := 7) (N := some 24) (v := ?_) (a' := ?_) #[tT,tT,tT,tT,tT,tT,tT,tT,fF,fF] rfl rfl (take_ofW HT_.out HW_.out (by kernel_rfl)) (fun _ _ _ h => h) (Or.inl ⟨by rfl, ?_⟩) hHeld ?_ ?_
        rotate_left
        ·rintro w' ⟨s0, s1, s2, s3, s4, s5⟩
         go_simp
         with_reducible rfl
        rotate_left
        ·exact zP
        refine one_ (i := 8) (N := some 25) #[tT,tT,tT,tT,tT,tT,tT,tT,tT,fF] rfl rfl (one_of HT_.out (by kernel_rfl)) (by decide) (fun K hK => ?_)
        refine goes_ Try.func110 (by kernel_rfl) rfl #[.agg #[.int .i64 ((rd_T38 l0 x5_1).f0), .string ((rd_T38 l0 x5_1).f1), .slice A607_2 ((rd_T38 l0 x5_1).f2).length c607_2], .agg #[.int .i64 ((rd_T38 l1 x5_1).f0), .string ((rd_T38 l1 x5_1).f1), .slice A608_2 ((rd_T38 l1 x5_1).f2).length c608_2]] (by rfl) rfl rfl zI ?_
        with_reducible refine (laws_eqMemObj.calls k1 ((rd_T38 l0 x5_1).f0) ((rd_T38 l0 x5_1).f1) _ _ ((rd_T38 l0 x5_1).f2) ((rd_T38 l1 x5_1).f0) ((rd_T38 l1 x5_1).f1) _ _ ((rd_T38 l1 x5_1).f2) false _ ?side1 ?side2 ?side3 ?side4 A7.out).mono ?_
        (case side1 => repeat (first | exact (Kd.C_below HR607_2.out HB.out) | (with_reducible refine Kd.C_alloc ?_ _) | (with_reducible refine Kd.C_drewN ?_ _) | (with_reducible refine Kd.C_drew ?_)))
        (case side2 => exact HC607_2.out)
        (case side3 => repeat (first | exact (Kd.C_below HR608_2.out HB.out) | (with_reducible refine Kd.C_alloc ?_ _) | (with_reducible refine Kd.C_drewN ?_ _) | (with_reducible refine Kd.C_drew ?_)))
        (case side4 => exact HC608_2.out)
        rintro e w12 ⟨rfl, hb⟩
        refine ⟨_, rfl, ?_⟩
        have n0_ := AK (bst zB hb)
        clear HB
        have HB := n0_
        clear n0_
        (try clear hb)
        (try clear hb2)
        (try clear hk)
        (try clear hi)
        refine hK.out _ _ ⟨((HB.out.cell (World.block_lt_of_cell? w _ hw607_0)).trans hw607_0), ((HB.out.cell (World.block_lt_of_cell? w _ hw607_1)).trans hw607_1), ((HB.out.cell (World.block_lt_of_cell? w _ hw607_2)).trans hw607_2), ((HB.out.cell (World.block_lt_of_cell? w _ hw608_0)).trans hw608_0), ((HB.out.cell (World.block_lt_of_cell? w _ hw608_1)).trans hw608_1), ((HB.out.cell (World.block_lt_of_cell? w _ hw608_2)).trans hw608_2)⟩ (fun hHeld => ?_)
        clear hK K
        refine norm_ (a' := ?_) ?_ ?_
        rotate_left
        ·show Act.put _ (some 25) _ = _
         exact zP
        refine pure_ (i := 9) (N := some 26) (v := ?_) (a' := ?_) #[tT,tT,tT,tT,tT,tT,tT,tT,tT,tT] rfl rfl (any_of HT_.out (by kernel_rfl)) (fun _ _ _ h => h) (Or.inl ⟨by rfl, ?_⟩) ?_ ?_
        rotate_left
        ·intro w'
         go_simp
         with_reducible rfl
        rotate_left
        ·exact zP
        refine done_ (done_of HT_.out (by kernel_rfl)) ?_
        try go_wp2
        go_ret
        exact ⟨by first | rfl | (simp [errW_none, errW_some] <;> rfl) | (simp [*, errW_none, errW_some] <;> rfl), zB⟩
      ·rw [if_neg c6] at H
       exact absurd H (by simp)
     ·rw [if_neg c5] at H
      exact absurd H (by simp)
    ·rw [if_neg c4] at H
     have c4b0 : decide (x5_1 < (l0.length : Int)) = false := deF c4
     clear c4
     obtain rfl := Option.some.inj H
     go_wp2
     go_ret
     exact ⟨by first | rfl | (simp [errW_none, errW_some] <;> rfl) | (simp [*, errW_none, errW_some] <;> rfl), zB⟩
 ·rw [if_neg c3] at H
  have c3b0 : ((l0.length : Int) == (l1.length : Int)) = false := beq_eq_false_iff_ne.mpr c3
  have c3b1 : ((l0.length : Int) != (l1.length : Int)) = true := bne_iff_ne.mpr c3
  have c3b2 : (l0.length == l1.length) = false := by first | simpa using c3 | (simp at c3 ⊢; omega)
  obtain rfl := Option.some.inj H
  go_enter Try.func84, Try.ntmps84
  go_wp2
  go_ret
  exact ⟨by first | rfl | (simp [errW_none, errW_some] <;> rfl) | (simp [*, errW_none, errW_some] <;> rfl), zB⟩

/-! ### laws_eqMemWatch: function 116 -/
def laws_eqMemWatch.f (a0_0 : Int) (a0_1 : Int) (a1_0 : Int) (a1_1 : Int) : Option (Bool) := if a0_0 = a1_0 then (if a0_1 = a1_1 then (some true) else (some false)) else (some false)
set_option maxHeartbeats 8000000 in
set_option maxRecDepth 100000 in
theorem laws_eqMemWatch.calls (a0_0 : Int) (a0_1 : Int) (a1_0 : Int) (a1_1 : Int) (r : Bool) (w : World) (h : laws_eqMemWatch.f a0_0 a0_1 a1_0 a1_1 = some r) :
  Calls Try.prog 116 #[.agg #[.int .i64 a0_0, .int .i64 a0_1], .agg #[.int .i64 a1_0, .int .i64 a1_1]] w fun e w' => e = .returned (.bool r) ∧ Below w.heap.size w w' := by
 have hu60 := Try.underlying60
 have HB := AK (Below.refl w.heap.size w)
 have H : (if a0_0 = a1_0 then (if a0_1 = a1_1 then (some true) else (some false)) else (some false)) = some r := h
 clear h
 by_cases c3 : a0_0 = a1_0
 ·rw [if_pos c3] at H
  have c3b0 : (a0_0 == a1_0) = true := beq_iff_eq.mpr c3
  have c3b1 : (a0_0 != a1_0) = false := bne_eq_false_iff_eq.mpr c3
  clear c3
  by_cases c4 : a0_1 = a1_1
  ·rw [if_pos c4] at H
   have c4b0 : (a0_1 == a1_1) = true := beq_iff_eq.mpr c4
   have c4b1 : (a0_1 != a1_1) = false := bne_eq_false_iff_eq.mpr c4
   clear c4
   obtain rfl := Option.some.inj H
   go_enter Try.func116, Try.ntmps116
   go_wp2_with (first | ((with_reducible refine gate_dst (N := 2) rfl ?_); refine box_event ?hg (N := 2) ?hd (cs := #[.int .i64 a0_0, .int .i64 a0_1]) (t := 60) ?hr ?_; (case hd => rfl); (case hg => rfl); (case hr => first | (go_simp; done) | (go_simp; rfl)); intro gb610 hg w5 hbox hb; have n0_ := AK (bst zB hb); have n1_ := AK (hbox); have n2_ := AK ((zG hg : w.heap.size ≤ gb610)); have n3_ := AK ((zG hg : w.heap.size ≤ gb610)); clear HB; have HB := n0_; have BK610 := n1_; have GW610 := n2_; have GE610 := n3_; clear n0_ n1_ n2_ n3_; clear hb hbox hg) | ((with_reducible refine gate_dst (N := 3) rfl ?_); refine box_event ?hg (N := 3) ?hd (cs := #[.int .i64 a1_0, .int .i64 a1_1]) (t := 60) ?hr ?_; (case hd => rfl); (case hg => rfl); (case hr => first | (go_simp; done) | (go_simp; rfl)); intro gb611 hg w6 hbox hb; have n0_ := AK (bbl (zK BK610) hb); have n1_ := AK (bst zB hb); have n2_ := AK (hbox); have n3_ := AK ((zG hg : w.heap.size ≤ gb611)); have n4_ := AK ((zG hg : w.heap.size ≤ gb611)); have n5_ := AK (zN hg BK610); have n6_ := AK (zM hg BK610); clear BK610; clear HB; have BK610 := n0_; have HB := n1_; have BK611 := n2_; have GW611 := n3_; have GE611 := n4_; have NB610_611 := n5_; have NB611_610 := n6_; clear n0_ n1_ n2_ n3_ n4_ n5_ n6_; clear hb hbox hg; have hnb7 := NB610_611.out; have hnc7 := NB611_610.out; have hcz8_0 : w6.cell? ⟨gb610, 0, none⟩ = some (.int .i64 a0_0) := (bcl BK610.out 0).trans rfl; have hcz8_1 : w6.cell? ⟨gb610, 1, none⟩ = some (.int .i64 a0_1) := (bcl BK610.out 1).trans rfl; have hfz8_0 := bfz BK610.out 0; have hfz8_1 := bfz BK610.out 1; have hcz9_0 : w6.cell? ⟨gb611, 0, none⟩ = some (.int .i64 a1_0) := (bcl BK611.out 0).trans rfl; have hcz9_1 : w6.cell? ⟨gb611, 1, none⟩ = some (.int .i64 a1_1) := (bcl BK611.out 1).trans rfl; have hfz9_0 := bfz BK611.out 0; have hfz9_1 := bfz BK611.out 1))
   go_ret
   exact ⟨by first | rfl | (simp [errW_none, errW_some] <;> rfl) | (simp [*, errW_none, errW_some] <;> rfl), zB⟩
  ·rw [if_neg c4] at H
   have c4b0 : (a0_1 == a1_1) = false := beq_eq_false_iff_ne.mpr c4
   have c4b1 : (a0_1 != a1_1) = true := bne_iff_ne.mpr c4
   obtain rfl := Option.some.inj H
   go_enter Try.func116, Try.ntmps116
   go_wp2_with (first | ((with_reducible refine gate_dst (N := 2) rfl ?_); refine box_event ?hg (N := 2) ?hd (cs := #[.int .i64 a0_0, .int .i64 a0_1]) (t := 60) ?hr ?_; (case hd => rfl); (case hg => rfl); (case hr => first | (go_simp; done) | (go_simp; rfl)); intro gb610 hg w10 hbox hb; have n0_ := AK (bst zB hb); have n1_ := AK (hbox); have n2_ := AK ((zG hg : w.heap.size ≤ gb610)); have n3_ := AK ((zG hg : w.heap.size ≤ gb610)); clear HB; have HB := n0_; have BK610 := n1_; have GW610 := n2_; have GE610 := n3_; clear n0_ n1_ n2_ n3_; clear hb hbox hg) | ((with_reducible refine gate_dst (N := 3) rfl ?_); refine box_event ?hg (N := 3) ?hd (cs := #[.int .i64 a1_0, .int .i64 a1_1]) (t := 60) ?hr ?_; (case hd => rfl); (case hg => rfl); (case hr => first | (go_simp; done) | (go_simp; rfl)); intro gb611 hg w11 hbox hb; have n0_ := AK (bbl (zK BK610) hb); have n1_ := AK (bst zB hb); have n2_ := AK (hbox); have n3_ := AK ((zG hg : w.heap.size ≤ gb611)); have n4_ := AK ((zG hg : w.heap.size ≤ gb611)); have n5_ := AK (zN hg BK610); have n6_ := AK (zM hg BK610); clear BK610; clear HB; have BK610 := n0_; have HB := n1_; have BK611 := n2_; have GW611 := n3_; have GE611 := n4_; have NB610_611 := n5_; have NB611_610 := n6_; clear n0_ n1_ n2_ n3_ n4_ n5_ n6_; clear hb hbox hg; have hnb12 := NB610_611.out; have hnc12 := NB611_610.out; have hcz13_0 : w11.cell? ⟨gb610, 0, none⟩ = some (.int .i64 a0_0) := (bcl BK610.out 0).trans rfl; have hcz13_1 : w11.cell? ⟨gb610, 1, none⟩ = some (.int .i64 a0_1) := (bcl BK610.out 1).trans rfl; have hfz13_0 := bfz BK610.out 0; have hfz13_1 := bfz BK610.out 1; have hcz14_0 : w11.cell? ⟨gb611, 0, none⟩ = some (.int .i64 a1_0) := (bcl BK611.out 0).trans rfl; have hcz14_1 : w11.cell? ⟨gb611, 1, none⟩ = some (.int .i64 a1_1) := (bcl BK611.out 1).trans rfl; have hfz14_0 := bfz BK611.out 0; have hfz14_1 := bfz BK611.out 1))
   go_ret
   exact ⟨by first | rfl | (simp [errW_none, errW_some] <;> rfl) | (simp [*, errW_none, errW_some] <;> rfl), zB⟩
 ·rw [if_neg c3] at H
  have c3b0 : (a0_0 == a1_0) = false := beq_eq_false_iff_ne.mpr c3
  have c3b1 : (a0_0 != a1_0) = true := bne_iff_ne.mpr c3
  obtain rfl := Option.some.inj H
  go_enter Try.func116, Try.ntmps116
  go_wp2_with (first | ((with_reducible refine gate_dst (N := 2) rfl ?_); refine box_event ?hg (N := 2) ?hd (cs := #[.int .i64 a0_0, .int .i64 a0_1]) (t := 60) ?hr ?_; (case hd => rfl); (case hg => rfl); (case hr => first | (go_simp; done) | (go_simp; rfl)); intro gb610 hg w15 hbox hb; have n0_ := AK (bst zB hb); have n1_ := AK (hbox); have n2_ := AK ((zG hg : w.heap.size ≤ gb610)); have n3_ := AK ((zG hg : w.heap.size ≤ gb610)); clear HB; have HB := n0_; have BK610 := n1_; have GW610 := n2_; have GE610 := n3_; clear n0_ n1_ n2_ n3_; clear hb hbox hg) | ((with_reducible refine gate_dst (N := 3) rfl ?_); refine box_event ?hg (N := 3) ?hd (cs := #[.int .i64 a1_0, .int .i64 a1_1]) (t := 60) ?hr ?_; (case hd => rfl); (case hg => rfl); (case hr => first | (go_simp; done) | (go_simp; rfl)); intro gb611 hg w16 hbox hb; have n0_ := AK (bbl (zK BK610) hb); have n1_ := AK (bst zB hb); have n2_ := AK (hbox); have n3_ := AK ((zG hg : w.heap.size ≤ gb611)); have n4_ := AK ((zG hg : w.heap.size ≤ gb611)); have n5_ := AK (zN hg BK610); have n6_ := AK (zM hg BK610); clear BK610; clear HB; have BK610 := n0_; have HB := n1_; have BK611 := n2_; have GW611 := n3_; have GE611 := n4_; have NB610_611 := n5_; have NB611_610 := n6_; clear n0_ n1_ n2_ n3_ n4_ n5_ n6_; clear hb hbox hg; have hnb17 := NB610_611.out; have hnc17 := NB611_610.out; have hcz18_0 : w16.cell? ⟨gb610, 0, none⟩ = some (.int .i64 a0_0) := (bcl BK610.out 0).trans rfl; have hcz18_1 : w16.cell? ⟨gb610, 1, none⟩ = some (.int .i64 a0_1) := (bcl BK610.out 1).trans rfl; have hfz18_0 := bfz BK610.out 0; have hfz18_1 := bfz BK610.out 1; have hcz19_0 : w16.cell? ⟨gb611, 0, none⟩ = some (.int .i64 a1_0) := (bcl BK611.out 0).trans rfl; have hcz19_1 : w16.cell? ⟨gb611, 1, none⟩ = some (.int .i64 a1_1) := (bcl BK611.out 1).trans rfl; have hfz19_0 := bfz BK611.out 0; have hfz19_1 := bfz BK611.out 1))
  go_ret
  exact ⟨by first | rfl | (simp [errW_none, errW_some] <;> rfl) | (simp [*, errW_none, errW_some] <;> rfl), zB⟩

/-! ### laws_eqMemWatchS: function 85 -/
def laws_eqMemWatchS.l0 : Nat → List (S60) → List (S60) → Int → Option (Bool)
 | 0, _, _, _ => none
 | k + 1, x0, x1, x5 => if x5 < (x0.length : Int) then (if 0 ≤ x5 then (if x5 < (x1.length : Int) then ((laws_eqMemWatch.f ((rd_T60 x0 x5).f0) ((rd_T60 x0 x5).f1) ((rd_T60 x1 x5).f0) ((rd_T60 x1 x5).f1)).bind fun t614 => (if t614 = true then (laws_eqMemWatchS.l0 k x0 x1 (wrap64 (x5 + 1))) else (some false))) else (none)) else (none)) else (some true)
def laws_eqMemWatchS.f (k : Nat) (l0 : List (S60)) (l1 : List (S60)) : Option (Bool) := if (l0.length : Int) = (l1.length : Int) then (laws_eqMemWatchS.l0 k l0 l1 0) else (some false)
def laws_eqMemWatchS.T6 : Bool × List (List Nat × List Nat) := (true, [([], []), ([], []), ([0, 1], [0, 1]), ([2], [2]), ([], []), ([], []), ([4, 5], [4, 5]), ([6], [6]), ([3, 7], [3, 7]), ([8], [8])])
def laws_eqMemWatchS.B6 : List Nat := [0, 0, 3, 7, 0, 0, 48, 112, 255, 511]
theorem laws_eqMemWatchS.tab6 : rtab .any (opsOf Try.f85 6) = laws_eqMemWatchS.T6 := by kernel_rfl
theorem laws_eqMemWatchS.bits6 : waitsOk laws_eqMemWatchS.T6.2 laws_eqMemWatchS.B6 = true := by kernel_rfl
set_option maxHeartbeats 8000000 in
set_option maxRecDepth 100000 in
theorem laws_eqMemWatchS.calls (k : Nat) (A0 : Option Addr) (c0 : Nat) (l0 : List (S60)) (A1 : Option Addr) (c1 : Nat) (l1 : List (S60)) (r : Bool) (w : World) (hr0 : Kd.C k60 w A0 l0.length l0) (hc0 : l0.length ≤ c0) (hr1 : Kd.C k60 w A1 l1.length l1) (hc1 : l1.length ≤ c1) (h : laws_eqMemWatchS.f k l0 l1 = some r) :
  Calls Try.prog 85 #[.slice A0 l0.length c0, .slice A1 l1.length c1] w fun e w' => e = .returned (.bool r) ∧ Below w.heap.size w w' := by
 have hu60 := Try.underlying60
 have HR0 := AK hr0
 have HC0 := AK hc0
 clear hr0 hc0
 have HR1 := AK hr1
 have HC1 := AK hc1
 clear hr1 hc1
 have HB := AK (Below.refl w.heap.size w)
 have H : (if (l0.length : Int) = (l1.length : Int) then (laws_eqMemWatchS.l0 k l0 l1 0) else (some false)) = some r := h
 clear h
 by_cases c3 : (l0.length : Int) = (l1.length : Int)
 ·rw [if_pos c3] at H
  have c3b0 : ((l0.length : Int) == (l1.length : Int)) = true := beq_iff_eq.mpr c3
  have c3b1 : ((l0.length : Int) != (l1.length : Int)) = false := bne_eq_false_iff_eq.mpr c3
  have c3b2 : (l0.length == l1.length) = true := by first | simpa using c3 | (simp at c3 ⊢; omega)
  clear c3
  have H' := AK H
  clear H
  go_enter Try.func85, Try.ntmps85
  go_wp2
  go_loopg [5] k (fun kq v5 w' => ∃ (x5_1 : Int), v5 = .int .i64 x5_1 ∧ Aside0 (laws_eqMemWatchS.l0 kq l0 l1 x5_1 = some r) ∧ Aside0 (kq ≤ k) ∧ Aside0 (Below w.heap.size w w'))
  case atStart => exact ⟨(0), (by first | rfl | (simp; done) | (simp [*]; done)), H', ⟨Nat.le_refl _⟩, ⟨zB⟩⟩
  case round =>
   clear H'
   try clear c1
   try clear p2
   try clear c3
   try clear c3b0
   try clear c3b1
   try clear c3b2
   obtain ⟨x5_1, rfl, HA, HK1, HB⟩ := hrel
   cases gk with
   | zero => exact absurd HA.out (by simp [laws_eqMemWatchS.l0])
   | succ k1 =>
    have H := HA.out
    clear HA
    simp only [laws_eqMemWatchS.l0] at H
    by_cases c4 : x5_1 < (l0.length : Int)
    ·rw [if_pos c4] at H
     have c4b0 : decide (x5_1 < (l0.length : Int)) = true := deT c4
     clear c4
     by_cases c5 : 0 ≤ x5_1
     ·rw [if_pos c5] at H
      have c5b0 : decide (0 ≤ x5_1) = true := deT c5
      clear c5
      by_cases c6 : x5_1 < (l1.length : Int)
      ·rw [if_pos c6] at H
       have c6b0 : decide (x5_1 < (l1.length : Int)) = true := deT c6
       clear c6
       replace H := Option.bind_eq_some_iff.mp H
       obtain ⟨t614, A70, H⟩ := H
       replace H : (if t614 = true then (laws_eqMemWatchS.l0 k1 l0 l1 (wrap64 (x5_1 + 1))) else (some false)) = some r := H
       have A7 := AK A70
       clear A70
       by_cases c8 : t614 = true
       ·subst c8
        have H1 : (laws_eqMemWatchS.l0 k1 l0 l1 (wrap64 (x5_1 + 1))) = some r := by rw [if_pos rfl] at H; exact H
        clear H
        have H := H1
        clear H1
        have H' := AK H
        clear H
        try go_wp2
        have n0_ := AK (below_drew1 HB.out)
        clear HB
        have HB := n0_
        clear n0_
        have p612 : 0 ≤ (x5_1 : Int) := of_decide_eq_true zA
        have q612 : x5_1 < (l0.length : Int) := of_decide_eq_true zA
        obtain ⟨ad612, e612, hx612_0, hx612_1⟩ := at_T60 HR0.out x5_1 p612 q612
        have hw612_1 := hx612_1
        have hw612_0 := hx612_0
        cases e612
        replace hx612_0 := (HB.out.cell (World.block_lt_of_cell? w _ hx612_0)).trans hx612_0
        replace hx612_1 := (HB.out.cell (World.block_lt_of_cell? w _ hx612_1)).trans hx612_1
        replace p612 := eq_true p612
        replace q612 := eq_true q612
        have p613 : 0 ≤ (x5_1 : Int) := of_decide_eq_true zA
        have q613 : x5_1 < (l1.length : Int) := of_decide_eq_true zA
        obtain ⟨ad613, e613, hx613_0, hx613_1⟩ := at_T60 HR1.out x5_1 p613 q613
        have hw613_1 := hx613_1
        have hw613_0 := hx613_0
        cases e613
        replace hx613_0 := (HB.out.cell (World.block_lt_of_cell? w _ hx613_0)).trans hx613_0
        replace hx613_1 := (HB.out.cell (World.block_lt_of_cell? w _ hx613_1)).trans hx613_1
        replace p613 := eq_true p613
        replace q613 := eq_true q613
        refine start_ (n := 10) (S := fun w' => w'.cell? (ad612.add ((x5_1).toNat * 2)) = some (.int .i64 ((rd_T60 l0 x5_1).f0)) ∧ w'.cell? ⟨(ad612.add ((x5_1).toNat * 2)).block, (ad612.add ((x5_1).toNat * 2)).off + 1, none⟩ = some (.int .i64 ((rd_T60 l0 x5_1).f1)) ∧ w'.cell? (ad613.add ((x5_1).toNat * 2)) = some (.int .i64 ((rd_T60 l1 x5_1).f0)) ∧ w'.cell? ⟨(ad613.add ((x5_1).toNat * 2)).block, (ad613.add ((x5_1).toNat * 2)).off + 1, none⟩ = some (.int .i64 ((rd_T60 l1 x5_1).f1))) (ds := []) #[fF,fF,fF,fF,fF,fF,fF,fF,fF,fF] (by kernel_rfl) rfl rfl ⟨((HB.out.cell (World.block_lt_of_cell? w _ hw612_0)).trans hw612_0), ((HB.out.cell (World.block_lt_of_cell? w _ hw612_1)).trans hw612_1), ((HB.out.cell (World.block_lt_of_cell? w _ hw613_0)).trans hw613_0), ((HB.out.cell (World.block_lt_of_cell? w _ hw613_1)).trans hw613_1)⟩ (fun hHeld => ?_); refine with_tabW laws_eqMemWatchS.tab6 laws_eqMemWatchS.bits6 (fun HT_ HW_ => ?_)
        generalize wr.drew = w9 at HB hx612_0 hx612_1 hx613_0 hx613_1 hHeld ⊢
        refine pure_ (i := 0) (N := some 17) (v := ?_) (a' := ?_) #[tT,fF,fF,fF,fF,fF,fF,fF,fF,fF] rfl rfl (any_of HT_.out (by kernel_rfl)) (fun _ _ _ h => h) (Or.inl ⟨by rfl, ?_⟩) ?_ ?_
        rotate_left
        ·intro w'
         go_simp
         with_reducible rfl
        rotate_left
        ·exact zP
        refine pure_ (i := 1) (N := some 18) (v := ?_) (a' := ?_) #[tT,tT,fF,fF,fF,fF,fF,fF,fF,fF] rfl rfl (any_of HT_.out (by kernel_rfl)) (fun _ _ _ h => h) (Or.inl ⟨by rfl, ?_⟩) ?_ ?_
        rotate_left
        ·intro w'
         go_simp
         with_reducible rfl
        rotate_left
        ·exact zP
        refine pure_ (i := 2) (N := some 19) (v := ?_) (a' := ?_) #[tT,tT,tT,fF,fF,fF,fF,fF,fF,fF] rfl rfl (any_of HT_.out (by kernel_rfl)) (fun _ _ _ h => h) (Or.inl ⟨by rfl, ?_⟩) ?_ ?_
        rotate_left
        ·intro w'
         go_simp
         with_reducible rfl
        rotate_left
        ·exact zP
        refine pure_ (i := 4) (N := some 21) (v := ?_) (a' := ?_) #[tT,tT,tT,fF,tT,fF,fF,fF,fF,fF] rfl rfl (any_of HT_.out (by kernel_rfl)) (fun _ _ _ h => h) (Or.inl ⟨by rfl, ?_⟩) ?_ ?_
        rotate_left
        ·intro w'
         go_simp
         with_reducible rfl
        rotate_left
        ·exact zP
        refine pure_ (i := 5) (N := some 22) (v := ?_) (a' := ?_) #[tT,tT,tT,fF,tT,tT,fF,fF,fF,fF] rfl rfl (any_of HT_.out (by kernel_rfl)) (fun _ _ _ h => h) (Or.inl ⟨by rfl, ?_⟩) ?_ ?_
        rotate_left
        ·intro w'
         go_simp
         with_reducible rfl
        rotate_left
        ·exact zP
        refine pure_ (i := 6) (N := some 23) (v := ?_) (a' := ?_) #[tT,tT,tT,fF,tT,tT,tT,fF,fF,fF] rfl rfl (any_of HT_.out (by kernel_rfl)) (fun _ _ _ h => h) (Or.inl ⟨by rfl, ?_⟩) ?_ ?_
        rotate_left
        ·intro w'
         go_simp
         with_reducible rfl
        rotate_left
        ·exact zP
        refine take_ (i := 3) (N := some 20) (v := ?_) (a' := ?_) #[tT,tT,tT,tT,tT,tT,tT,fF,fF,fF] rfl rfl (take_ofW HT_.out HW_.out (by kernel_rfl)) (fun _ _ _ h => h) (Or.inl ⟨by rfl, ?_⟩) hHeld ?_ ?_
        rotate_left
        ·rintro w' ⟨s0, s1, s2, s3⟩
         go_simp
         with_reducible rfl
        rotate_left
        ·exact zP
        refine take_ (i := 7) (N := some 24) (v := ?_) (a' := ?_) #[tT,tT,tT,tT,tT,tT,tT,tT,fF,fF] rfl rfl (take_ofW HT_.out HW_.out (by kernel_rfl)) (fun _ _ _ h => h) (Or.inl ⟨by rfl, ?_⟩) hHeld ?_ ?_
        rotate_left
        ·rintro w' ⟨s0, s1, s2, s3⟩
         go_simp
         with_reducible rfl
        rotate_left
        ·exact zP
        refine one_ (i := 8) (N := some 25) #[tT,tT,tT,tT,tT,tT,tT,tT,tT,fF] rfl rfl (one_of HT_.out (by kernel_rfl)) (by decide) (fun K hK => ?_)
        refine goes_ Try.func116 (by kernel_rfl) rfl #[.agg #[.int .i64 ((rd_T60 l0 x5_1).f0), .int .i64 ((rd_T60 l0 x5_1).f1)], .agg #[.int .i64 ((rd_T60 l1 x5_1).f0), .int .i64 ((rd_T60 l1 x5_1).f1)]] (by rfl) rfl rfl zI ?_
        with_reducible refine (laws_eqMemWatch.calls ((rd_T60 l0 x5_1).f0) ((rd_T60 l0 x5_1).f1) ((rd_T60 l1 x5_1).f0) ((rd_T60 l1 x5_1).f1) true _ A7.out).mono ?_
        rintro e w10 ⟨rfl, hb⟩
        refine ⟨_, rfl, ?_⟩
        have n0_ := AK (bst zB hb)
        clear HB
        have HB := n0_
        clear n0_
        (try clear hb)
        (try clear hb2)
        (try clear hk)
        (try clear hi)
        refine hK.out _ _ ⟨((HB.out.cell (World.block_lt_of_cell? w _ hw612_0)).trans hw612_0), ((HB.out.cell (World.block_lt_of_cell? w _ hw612_1)).trans hw612_1), ((HB.out.cell (World.block_lt_of_cell? w _ hw613_0)).trans hw613_0), ((HB.out.cell (World.block_lt_of_cell? w _ hw613_1)).trans hw613_1)⟩ (fun hHeld => ?_)
        clear hK K
        refine norm_ (a' := ?_) ?_ ?_
        rotate_left
        ·show Act.put _ (some 25) _ = _
         exact zP
        refine pure_ (i := 9) (N := some 26) (v := ?_) (a' := ?_) #[tT,tT,tT,tT,tT,tT,tT,tT,tT,tT] rfl rfl (any_of HT_.out (by kernel_rfl)) (fun _ _ _ h => h) (Or.inl ⟨by rfl, ?_⟩) ?_ ?_
        rotate_left
        ·intro w'
         go_simp
         with_reducible rfl
        rotate_left
        ·exact zP
        refine done_ (done_of HT_.out (by kernel_rfl)) ?_
        try go_wp2
        go_roundg k1
        case measure => have := HK1.out; omega
        case rel => exact ⟨(wrap64 (x5_1 + 1)), (by first | rfl | (simp; done) | (simp [*]; done)), H', ⟨by have := HK1.out; omega⟩, ⟨zB⟩⟩
       ·replace c8 := Bool.eq_false_iff.mpr c8
        subst c8
        have H1 : (some false) = some r := by rw [if_neg (show ¬ (false = true) by decide)] at H; exact H
        clear H
        have H := H1
        clear H1
        obtain rfl := Option.some.inj H
        try go_wp2
        have n0_ := AK (below_drew1 HB.out)
        clear HB
        have HB := n0_
        clear n0_
        have p612 : 0 ≤ (x5_1 : Int) := of_decide_eq_true zA
        have q612 : x5_1 < (l0.length : Int) := of_decide_eq_true zA
        obtain ⟨ad612, e612, hx612_0, hx612_1⟩ := at_T60 HR0.out x5_1 p612 q612
        have hw612_1 := hx612_1
        have hw612_0 := hx612_0
        cases e612
        replace hx612_0 := (HB.out.cell (World.block_lt_of_cell? w _ hx612_0)).trans hx612_0
        replace hx612_1 := (HB.out.cell (World.block_lt_of_cell? w _ hx612_1)).trans hx612_1
        replace p612 := eq_true p612
        replace q612 := eq_true q612
        have p613 : 0 ≤ (x5_1 : Int) := of_decide_eq_true zA
        have q613 : x5_1 < (l1.length : Int) := of_decide_eq_true zA
        obtain ⟨ad613, e613, hx613_0, hx613_1⟩ := at_T60 HR1.out x5_1 p613 q613
        have hw613_1 := hx613_1
        have hw613_0 := hx613_0
        cases e613
        replace hx613_0 := (HB.out.cell (World.block_lt_of_cell? w _ hx613_0)).trans hx613_0
        replace hx613_1 := (HB.out.cell (World.block_lt_of_cell? w _ hx613_1)).trans hx613_1
        replace p613 := eq_true p613
        replace q613 := eq_true q613
        refine start_ (n := 10) (S := fun w' => w'.cell? (ad612.add ((x5_1).toNat * 2)) = some (.int .i64 ((rd_T60 l0 x5_1).f0)) ∧ w'.cell? ⟨(ad612.add ((x5_1).toNat * 2)).block, (ad612.add ((x5_1).toNat * 2)).off + 1, none⟩ = some (.int .i64 ((rd_T60 l0 x5_1).f1)) ∧ w'.cell? (ad613.add ((x5_1).toNat * 2)) = some (.int .i64 ((rd_T60 l1 x5_1).f0)) ∧ w'.cell? ⟨(ad613.add ((x5_1).toNat * 2)).block, (ad613.add ((x5_1).toNat * 2)).off + 1, none⟩ = some (.int .i64 ((rd_T60 l1 x5_1).f1))) (ds := []) #[fF,fF,fF,fF,fF,fF,fF,fF,fF,fF] (by kernel_rfl) rfl rfl ⟨((HB.out.cell (World.block_lt_of_cell? w _ hw612_0)).trans hw612_0), ((HB.out.cell (World.block_lt_of_cell? w _ hw612_1)).trans hw612_1), ((HB.out.cell (World.block_lt_of_cell? w _ hw613_0)).trans hw613_0), ((HB.out.cell (World.block_lt_of_cell? w _ hw613_1)).trans hw613_1)⟩ (fun hHeld => ?_); refine with_tabW laws_eqMemWatchS.tab6 laws_eqMemWatchS.bits6 (fun HT_ HW_ => ?_)
        generalize wr.drew = w11 at HB hx612_0 hx612_1 hx613_0 hx613_1 hHeld ⊢
        refine pure_ (i := 0) (N := some 17) (v := ?_) (a' := ?_) #[tT,fF,fF,fF,fF,fF,fF,fF,fF,fF] rfl rfl (any_of HT_.out (by kernel_rfl)) (fun _ _ _ h => h) (Or.inl ⟨by rfl, ?_⟩) ?_ ?_
        rotate_left
        ·intro w'
         go_simp
         with_reducible rfl
        rotate_left
        ·exact zP
        refine pure_ (i := 1) (N := some 18) (v := ?_) (a' := ?_) #[tT,tT,fF,fF,fF,fF,fF,fF,fF,fF] rfl rfl (any_of HT_.out (by kernel_rfl)) (fun _ _ _ h => h) (Or.inl ⟨by rfl, ?_⟩) ?_ ?_
        rotate_left
        ·intro w'
         go_simp
         with_reducible rfl
        rotate_left
        ·exact zP
        refine pure_ (i := 2) (N := some 19) (v := ?_) (a' := ?_) #[tT,tT,tT,fF,fF,fF,fF,fF,fF,fF] rfl rfl (any_of HT_.out (by kernel_rfl)) (fun _ _ _ h => h) (Or.inl ⟨by rfl, ?_⟩) ?_ ?_
        rotate_left
        ·intro w'
         go_simp
         with_reducible rfl
        rotate_left
        ·exact zP
        refine pure_ (i := 4) (N := some 21) (v := ?_) (a' := ?_) #[tT,tT,tT,fF,tT,fF,fF,fF,fF,fF] rfl rfl (any_of HT_.out (by kernel_rfl)) (fun _ _ _ h => h) (Or.inl ⟨by rfl, ?_⟩) ?_ ?_
        rotate_left
        ·intro w'
         go_simp
         with_reducible rfl
        rotate_left
        ·exact zP
        refine pure_ (i := 5) (N := some 22) (v := ?_) (a' := ?_) #[tT,tT,tT,fF,tT,tT,fF,fF,fF,fF] rfl rfl (any_of HT_.out (by kernel_rfl)) (fun _ _ _ h => h) (Or.inl ⟨by rfl, ?_⟩) ?_ ?_
        rotate_left
        ·intro w'
         go_simp
         with_reducible rfl
        rotate_left
        ·exact zP
        refine pure_ (i := 6) (N := some 23) (v := ?_) (a' := ?_) #[tT,tT,tT,fF,tT,tT,tT,fF,fF,fF] rfl rfl (any_of HT_.out (by kernel_rfl)) (fun _ _ _ h => h) (Or.inl ⟨by rfl, ?_⟩) ?_ ?_
        rotate_left
        ·intro w'
         go_simp
         with_reducible rfl
        rotate_left
        ·exact zP
        refine take_ (i := 3) (N := some 20) (v := ?_) (a' := ?_) #[tT,tT,tT,tT,tT,tT,tT,fF,fF,fF] rfl rfl (take_ofW HT_.out HW_.out (by kernel_rfl)) (fun _ _ _ h => h) (Or.inl ⟨by rfl, ?_⟩) hHeld ?_ ?_
        rotate_left
        ·rintro w' ⟨s0, s1, s2, s3⟩
         go_simp
         with_reducible rfl
        rotate_left
        ·exact zP
        refine take_ (i := 7) (N := some 24) (v := ?_) (a' := ?_) #[tT,tT,tT,tT,tT,tT,tT,tT,fF,fF] rfl rfl (take_ofW HT_.out HW_.out (by kernel_rfl)) (fun _ _ _ h => h) (Or.inl ⟨by rfl, ?_⟩) hHeld ?_ ?_
        rotate_left
        ·rintro w' ⟨s0, s1, s2, s3⟩
         go_simp
         with_reducible rfl
        rotate_left
        ·exact zP
        refine one_ (i := 8) (N := some 25) #[tT,tT,tT,tT,tT,tT,tT,tT,tT,fF] rfl rfl (one_of HT_.out (by kernel_rfl)) (by decide) (fun K hK => ?_)
        refine goes_ Try.func116 (by kernel_rfl) rfl #[.agg #[.int .i64 ((rd_T60 l0 x5_1).f0), .int .i64 ((rd_T60 l0 x5_1).f1)], .agg #[.int .i64 ((rd_T60 l1 x5_1).f0), .int .i64 ((rd_T60 l1 x5_1).f1)]] (by rfl) rfl rfl zI ?_
        with_reducible refine (laws_eqMemWatch.calls ((rd_T60 l0 x5_1).f0) ((rd_T60 l0 x5_1).f1) ((rd_T60 l1 x5_1).f0) ((rd_T60 l1 x5_1).f1) false _ A7.out).mono ?_
        rintro e w12 ⟨rfl, hb⟩
        refine ⟨_, rfl, ?_⟩
        have n0_ := AK (bst zB hb)
        clear HB
        have HB := n0_
        clear n0_
        (try clear hb)
        (try clear hb2)
        (try clear hk)
        (try clear hi)
        refine hK.out _ _ ⟨((HB.out.cell (World.block_lt_of_cell? w _ hw612_0)).trans hw612_0), ((HB.out.cell (World.block_lt_of_cell? w _ hw612_1)).trans hw612_1), ((HB.out.cell (World.block_lt_of_cell? w _ hw613_0)).trans hw613_0), ((HB.out.cell (World.block_lt_of_cell? w _ hw613_1)).trans hw613_1)⟩ (fun hHeld => ?_)
        clear hK K
        refine norm_ (a' := ?_) ?_ ?_
        rotate_left
        ·show Act.put _ (some 25) _ = _
         exact zP
        refine pure_ (i := 9) (N := some 26) (v := ?_) (a' := ?_) #[tT,tT,tT,tT,tT,tT,tT,tT,tT,tT] rfl rfl (any_of HT_.out (by kernel_rfl)) (fun _ _ _ h => h) (Or.inl ⟨by rfl, ?_⟩) ?_ ?_
        rotate_left
        ·intro w'
         go_simp
         with_reducible rfl
        rotate_left
        ·exact zP
        refine done_ (done_of HT_.out (by kernel_rfl)) ?_
        try go_wp2
        go_ret
        exact ⟨by first | rfl | (simp [errW_none, errW_some] <;> rfl) | (simp [*, errW_none, errW_some] <;> rfl), zB⟩
      ·rw [if_neg c6] at H
       exact absurd H (by simp)
     ·rw [if_neg c5] at H
      exact absurd H (by simp)
    ·rw [if_neg c4] at H
     have c4b0 : decide (x5_1 < (l0.length : Int)) = false := deF c4
     clear c4
     obtain rfl := Option.some.inj H
     go_wp2
     go_ret
     exact ⟨by first | rfl | (simp [errW_none, errW_some] <;> rfl) | (simp [*, errW_none, errW_some] <;> rfl), zB⟩
 ·rw [if_neg c3] at H
  have c3b0 : ((l0.length : Int) == (l1.length : Int)) = false := beq_eq_false_iff_ne.mpr c3
  have c3b1 : ((l0.length : Int) != (l1.length : Int)) = true := bne_iff_ne.mpr c3
  have c3b2 : (l0.length == l1.length) = false := by first | simpa using c3 | (simp at c3 ⊢; omega)
  obtain rfl := Option.some.inj H
  go_enter Try.func85, Try.ntmps85
  go_wp2
  go_ret
  exact ⟨by first | rfl | (simp [errW_none, errW_some] <;> rfl) | (simp [*, errW_none, errW_some] <;> rfl), zB⟩

/-! ### laws_eqMemHeap: function 26 -/
def laws_eqMemHeap.f (k : Nat) (l0_0 : List (S38)) (l0_1 : List Int) (l0_2 : List (S60)) (l0_3 : List (S60)) (l1_0 : List (S38)) (l1_1 : List Int) (l1_2 : List (S60)) (l1_3 : List (S60)) : Option (Bool) := (laws_eqMemObjS.f k l0_0 l1_0).bind fun t617 => (if t617 = true then ((laws_eqIntS.f k l0_1 l1_1).bind fun t618 => (if t618 = true then ((laws_eqMemWatchS.f k l0_2 l1_2).bind fun t619 => (if t619 = true then ((laws_eqMemWatchS.f k l0_3 l1_3).bind fun t620 => (if t620 = true then (some true) else (some false))) else (some false))) else (some false))) else (some false))
set_option maxHeartbeats 8000000 in
set_option maxRecDepth 100000 in
theorem laws_eqMemHeap.calls (k : Nat) (A0_0 : Option Addr) (c0_0 : Nat) (l0_0 : List (S38)) (A0_1 : Option Addr) (c0_1 : Nat) (l0_1 : List Int) (A0_2 : Option Addr) (c0_2 : Nat) (l0_2 : List (S60)) (A0_3 : Option Addr) (c0_3 : Nat) (l0_3 : List (S60)) (A1_0 : Option Addr) (c1_0 : Nat) (l1_0 : List (S38)) (A1_1 : Option Addr) (c1_1 : Nat) (l1_1 : List Int) (A1_2 : Option Addr) (c1_2 : Nat) (l1_2 : List (S60)) (A1_3 : Option Addr) (c1_3 : Nat) (l1_3 : List (S60)) (r : Bool) (w : World) (hr0_0 : Kd.C k38 w A0_0 l0_0.length l0_0) (hc0_0 : l0_0.length ≤ c0_0) (hr0_1 : Kd.C (Kd.int .i64) w A0_1 l0_1.length l0_1) (hc0_1 : l0_1.length ≤ c0_1) (hr0_2 : Kd.C k60 w A0_2 l0_2.length l0_2) (hc0_2 : l0_2.length ≤ c0_2) (hr0_3 : Kd.C k60 w A0_3 l0_3.length l0_3) (hc0_3 : l0_3.length ≤ c0_3) (hr1_0 : Kd.C k38 w A1_0 l1_0.length l1_0) (hc1_0 : l1_0.length ≤ c1_0) (hr1_1 : Kd.C (Kd.int .i64) w A1_1 l1_1.length l1_1) (hc1_1 : l1_1.length ≤ c1_1) (hr1_2 : Kd.C k60 w A1_2 l1_2.length l1_2) (hc1_2 : l1_2.length ≤ c1_2) (hr1_3 : Kd.C k60 w A1_3 l1_3.length l1_3) (hc1_3 : l1_3.length ≤ c1_3) (h : laws_eqMemHeap.f k l0_0 l0_1 l0_2 l0_3 l1_0 l1_1 l1_2 l1_3 = some r) :
  Calls Try.prog 26 #[.agg #[.slice A0_0 l0_0.length c0_0, .slice A0_1 l0_1.length c0_1, .slice A0_2 l0_2.length c0_2, .slice A0_3 l0_3.length c0_3], .agg #[.slice A1_0 l1_0.length c1_0, .slice A1_1 l1_1.length c1_1, .slice A1_2 l1_2.length c1_2, .slice A1_3 l1_3.length c1_3]] w fun e w' => e = .returned (.bool r) ∧ Below w.heap.size w w' := by
 have hu28 := Try.underlying28
 have HR0_0 := AK hr0_0
 have HC0_0 := AK hc0_0
 clear hr0_0 hc0_0
 have HR0_1 := AK hr0_1
 have HC0_1 := AK hc0_1
 clear hr0_1 hc0_1
 have HR0_2 := AK hr0_2
 have HC0_2 := AK hc0_2
 clear hr0_2 hc0_2
 have HR0_3 := AK hr0_3
 have HC0_3 := AK hc0_3
 clear hr0_3 hc0_3
 have HR1_0 := AK hr1_0
 have HC1_0 := AK hc1_0
 clear hr1_0 hc1_0
 have HR1_1 := AK hr1_1
 have HC1_1 := AK hc1_1
 clear hr1_1 hc1_1
 have HR1_2 := AK hr1_2
 have HC1_2 := AK hc1_2
 clear hr1_2 hc1_2
 have HR1_3 := AK hr1_3
 have HC1_3 := AK hc1_3
 clear hr1_3 hc1_3
 have HB := AK (Below.refl w.heap.size w)
 have H : ((laws_eqMemObjS.f k l0_0 l1_0).bind fun t617 => (if t617 = true then ((laws_eqIntS.f k l0_1 l1_1).bind fun t618 => (if t618 = true then ((laws_eqMemWatchS.f k l0_2 l1_2).bind fun t619 => (if t619 = true then ((laws_eqMemWatchS.f k l0_3 l1_3).bind fun t620 => (if t620 = true then (some true) else (some false))) else (some false))) else (some false))) else (some false))) = some r := h
 clear h
 replace H := Option.bind_eq_some_iff.mp H
 obtain ⟨t617, A30, H⟩ := H
 replace H : (if t617 = true then ((laws_eqIntS.f k l0_1 l1_1).bind fun t618 => (if t618 = true then ((laws_eqMemWatchS.f k l0_2 l1_2).bind fun t619 => (if t619 = true then ((laws_eqMemWatchS.f k l0_3 l1_3).bind fun t620 => (if t620 = true then (some true) else (some false))) else (some false))) else (some false))) else (some false)) = some r := H
 have A3 := AK A30
 clear A30
 by_cases c4 : t617 = true
 ·subst c4
  have H1 : ((laws_eqIntS.f k l0_1 l1_1).bind fun t618 => (if t618 = true then ((laws_eqMemWatchS.f k l0_2 l1_2).bind fun t619 => (if t619 = true then ((laws_eqMemWatchS.f k l0_3 l1_3).bind fun t620 => (if t620 = true then (some true) else (some false))) else (some false))) else (some false))) = some r := by rw [if_pos rfl] at H; exact H
  clear H
  have H := H1
  clear H1
  replace H := Option.bind_eq_some_iff.mp H
  obtain ⟨t618, A50, H⟩ := H
  replace H : (if t618 = true then ((laws_eqMemWatchS.f k l0_2 l1_2).bind fun t619 => (if t619 = true then ((laws_eqMemWatchS.f k l0_3 l1_3).bind fun t620 => (if t620 = true then (some true) else (some false))) else (some false))) else (some false)) = some r := H
  have A5 := AK A50
  clear A50
  by_cases c6 : t618 = true
  ·subst c6
   have H1 : ((laws_eqMemWatchS.f k l0_2 l1_2).bind fun t619 => (if t619 = true then ((laws_eqMemWatchS.f k l0_3 l1_3).bind fun t620 => (if t620 = true then (some true) else (some false))) else (some false))) = some r := by rw [if_pos rfl] at H; exact H
   clear H
   have H := H1
   clear H1
   replace H := Option.bind_eq_some_iff.mp H
   obtain ⟨t619, A70, H⟩ := H
   replace H : (if t619 = true then ((laws_eqMemWatchS.f k l0_3 l1_3).bind fun t620 => (if t620 = true then (some true) else (some false))) else (some false)) = some r := H
   have A7 := AK A70
   clear A70
   by_cases c8 : t619 = true
   ·subst c8
    have H1 : ((laws_eqMemWatchS.f k l0_3 l1_3).bind fun t620 => (if t620 = true then (some true) else (some false))) = some r := by rw [if_pos rfl] at H; exact H
    clear H
    have H := H1
    clear H1
    replace H := Option.bind_eq_some_iff.mp H
    obtain ⟨t620, A90, H⟩ := H
    replace H : (if t620 = true then (some true) else (some false)) = some r := H
    have A9 := AK A90
    clear A90
    by_cases c10 : t620 = true
    ·subst c10
     have H1 : (some true) = some r := by rw [if_pos rfl] at H; exact H
     clear H
     have H := H1
     clear H1
     obtain rfl := Option.some.inj H
     go_enter Try.func26, Try.ntmps26
     go_wp2_with (first | ((with_reducible refine gate_dst (N := 2) rfl ?_); refine box_event ?hg (N := 2) ?hd (cs := #[.slice A0_0 l0_0.length c0_0, .slice A0_1 l0_1.length c0_1, .slice A0_2 l0_2.length c0_2, .slice A0_3 l0_3.length c0_3]) (t := 28) ?hr ?_; (case hd => rfl); (case hg => rfl); (case hr => first | (go_simp; done) | (go_simp; rfl)); intro gb615 hg w11 hbox hb; have n0_ := AK (bst zB hb); have n1_ := AK (hbox); have n2_ := AK ((zG hg : w.heap.size ≤ gb615)); have n3_ := AK ((zG hg : w.heap.size ≤ gb615)); clear HB; have HB := n0_; have BK615 := n1_; have GW615 := n2_; have GE615 := n3_; clear n0_ n1_ n2_ n3_; clear hb hbox hg) | ((with_reducible refine gate_dst (N := 3) rfl ?_); refine box_event ?hg (N := 3) ?hd (cs := #[.slice A1_0 l1_0.length c1_0, .slice A1_1 l1_1.length c1_1, .slice A1_2 l1_2.length c1_2, .slice A1_3 l1_3.length c1_3]) (t := 28) ?hr ?_; (case hd => rfl); (case hg => rfl); (case hr => first | (go_simp; done) | (go_simp; rfl)); intro gb616 hg w12 hbox hb; have n0_ := AK (bbl (zK BK615) hb); have n1_ := AK (bst zB hb); have n2_ := AK (hbox); have n3_ := AK ((zG hg : w.heap.size ≤ gb616)); have n4_ := AK ((zG hg : w.heap.size ≤ gb616)); have n5_ := AK (zN hg BK615); have n6_ := AK (zM hg BK615); clear BK615; clear HB; have BK615 := n0_; have HB := n1_; have BK616 := n2_; have GW616 := n3_; have GE616 := n4_; have NB615_616 := n5_; have NB616_615 := n6_; clear n0_ n1_ n2_ n3_ n4_ n5_ n6_; clear hb hbox hg; have hnb13 := NB615_616.out; have hnc13 := NB616_615.out; have hcz14_0 : w12.cell? ⟨gb615, 0, none⟩ = some (.slice A0_0 l0_0.length c0_0) := (bcl BK615.out 0).trans rfl; have hcz14_1 : w12.cell? ⟨gb615, 1, none⟩ = some (.slice A0_1 l0_1.length c0_1) := (bcl BK615.out 1).trans rfl; have hcz14_2 : w12.cell? ⟨gb615, 2, none⟩ = some (.slice A0_2 l0_2.length c0_2) := (bcl BK615.out 2).trans rfl; have hcz14_3 : w12.cell? ⟨gb615, 3, none⟩ = some (.slice A0_3 l0_3.length c0_3) := (bcl BK615.out 3).trans rfl; have hfz14_0 := bfz BK615.out 0; have hfz14_1 := bfz BK615.out 1; have hfz14_2 := bfz BK615.out 2; have hfz14_3 := bfz BK615.out 3; have hcz15_0 : w12.cell? ⟨gb616, 0, none⟩ = some (.slice A1_0 l1_0.length c1_0) := (bcl BK616.out 0).trans rfl; have hcz15_1 : w12.cell? ⟨gb616, 1, none⟩ = some (.slice A1_1 l1_1.length c1_1) := (bcl BK616.out 1).trans rfl; have hcz15_2 : w12.cell? ⟨gb616, 2, none⟩ = some (.slice A1_2 l1_2.length c1_2) := (bcl BK616.out 2).trans rfl; have hcz15_3 : w12.cell? ⟨gb616, 3, none⟩ = some (.slice A1_3 l1_3.length c1_3) := (bcl BK616.out 3).trans rfl; have hfz15_0 := bfz BK616.out 0; have hfz15_1 := bfz BK616.out 1; have hfz15_2 := bfz BK616.out 2; have hfz15_3 := bfz BK616.out 3) | ((with_reducible refine gate_callee (f := 84) rfl ?_); refine goesL_ (some 9) rfl rfl Try.func84 (by kernel_rfl) rfl #[.slice A0_0 l0_0.length c0_0, .slice A1_0 l1_0.length c1_0] rfl zI ?_; (with_reducible refine (laws_eqMemObjS.calls k _ _ l0_0 _ _ l1_0 true _ ?side1 ?side2 ?side3 ?side4 A3.out).mono ?_); (case side1 => repeat (first | exact (Kd.C_below HR0_0.out HB.out) | (with_reducible refine Kd.C_alloc ?_ _) | (with_reducible refine Kd.C_drewN ?_ _) | (with_reducible refine Kd.C_drew ?_))); (case side2 => exact HC0_0.out); (case side3 => repeat (first | exact (Kd.C_below HR1_0.out HB.out) | (with_reducible refine Kd.C_alloc ?_ _) | (with_reducible refine Kd.C_drewN ?_ _) | (with_reducible refine Kd.C_drew ?_))); (case side4 => exact HC1_0.out); rintro e w16 ⟨rfl, hb⟩; refine ⟨_, rfl, ?_⟩; have n0_ := AK (bbl (zK BK615) hb); have n1_ := AK (bbl (zK BK616) hb); have n2_ := AK (bst zB hb); clear BK615; clear BK616; clear HB; have BK615 := n0_; have BK616 := n1_; have HB := n2_; clear n0_ n1_ n2_; (try clear hb); (try clear hb2); (try clear hk); (try clear hi); have hcz17_0 : w16.cell? ⟨gb615, 0, none⟩ = some (.slice A0_0 l0_0.length c0_0) := (bcl BK615.out 0).trans rfl; have hcz17_1 : w16.cell? ⟨gb615, 1, none⟩ = some (.slice A0_1 l0_1.length c0_1) := (bcl BK615.out 1).trans rfl; have hcz17_2 : w16.cell? ⟨gb615, 2, none⟩ = some (.slice A0_2 l0_2.length c0_2) := (bcl BK615.out 2).trans rfl; have hcz17_3 : w16.cell? ⟨gb615, 3, none⟩ = some (.slice A0_3 l0_3.length c0_3) := (bcl BK615.out 3).trans rfl; have hfz17_0 := bfz BK615.out 0; have hfz17_1 := bfz BK615.out 1; have hfz17_2 := bfz BK615.out 2; have hfz17_3 := bfz BK615.out 3; have hcz18_0 : w16.cell? ⟨gb616, 0, none⟩ = some (.slice A1_0 l1_0.length c1_0) := (bcl BK616.out 0).trans rfl; have hcz18_1 : w16.cell? ⟨gb616, 1, none⟩ = some (.slice A1_1 l1_1.length c1_1) := (bcl BK616.out 1).trans rfl; have hcz18_2 : w16.cell? ⟨gb616, 2, none⟩ = some (.slice A1_2 l1_2.length c1_2) := (bcl BK616.out 2).trans rfl; have hcz18_3 : w16.cell? ⟨gb616, 3, none⟩ = some (.slice A1_3 l1_3.length c1_3) := (bcl BK616.out 3).trans rfl; have hfz18_0 := bfz BK616.out 0; have hfz18_1 := bfz BK616.out 1; have hfz18_2 := bfz BK616.out 2; have hfz18_3 := bfz BK616.out 3) | ((with_reducible refine gate_callee (f := 29) rfl ?_); refine goesL_ (some 15) rfl rfl Try.func29 (by kernel_rfl) rfl #[.slice A0_1 l0_1.length c0_1, .slice A1_1 l1_1.length c1_1] rfl zI ?_; (with_reducible refine (laws_eqIntS.calls k _ _ l0_1 _ _ l1_1 true _ ?side1 ?side2 ?side3 ?side4 A5.out).mono ?_); (case side1 => repeat (first | exact (Kd.C_below HR0_1.out HB.out) | (with_reducible refine Kd.C_alloc ?_ _) | (with_reducible refine Kd.C_drewN ?_ _) | (with_reducible refine Kd.C_drew ?_))); (case side2 => exact HC0_1.out); (case side3 => repeat (first | exact (Kd.C_below HR1_1.out HB.out) | (with_reducible refine Kd.C_alloc ?_ _) | (with_reducible refine Kd.C_drewN ?_ _) | (with_reducible refine Kd.C_drew ?_))); (case side4 => exact HC1_1.out); rintro e w' ⟨rfl, ⟨nd, rfl⟩⟩; refine ⟨_, rfl, ?_⟩) | ((with_reducible refine gate_callee (f := 85) rfl ?_); refine goesL_ (some 21) rfl rfl Try.func85 (by kernel_rfl) rfl #[.slice A0_2 l0_2.length c0_2, .slice A1_2 l1_2.length c1_2] rfl zI ?_; (with_reducible refine (laws_eqMemWatchS.calls k _ _ l0_2 _ _ l1_2 true _ ?side1 ?side2 ?side3 ?side4 A7.out).mono ?_); (case side1 => repeat (first | exact (Kd.C_below HR0_2.out zB) | (with_reducible refine Kd.C_alloc ?_ _) | (with_reducible refine Kd.C_drewN ?_ _) | (with_reducible refine Kd.C_drew ?_))); (case side2 => exact HC0_2.out); (case side3 => repeat (first | exact (Kd.C_below HR1_2.out zB) | (with_reducible refine Kd.C_alloc ?_ _) | (with_reducible refine Kd.C_drewN ?_ _) | (with_reducible refine Kd.C_drew ?_))); (case side4 => exact HC1_2.out); rintro e w19 ⟨rfl, hb⟩; refine ⟨_, rfl, ?_⟩; have n0_ := AK (bbl (zK BK615) hb); have n1_ := AK (bbl (zK BK616) hb); have n2_ := AK (bst zB hb); clear BK615; clear BK616; clear HB; have BK615 := n0_; have BK616 := n1_; have HB := n2_; clear n0_ n1_ n2_; (try clear hb); (try clear hb2); (try clear hk); (try clear hi); have hcz20_0 : w19.cell? ⟨gb615, 0, none⟩ = some (.slice A0_0 l0_0.length c0_0) := (bcl BK615.out 0).trans rfl; have hcz20_1 : w19.cell? ⟨gb615, 1, none⟩ = some (.slice A0_1 l0_1.length c0_1) := (bcl BK615.out 1).trans rfl; have hcz20_2 : w19.cell? ⟨gb615, 2, none⟩ = some (.slice A0_2 l0_2.length c0_2) := (bcl BK615.out 2).trans rfl; have hcz20_3 : w19.cell? ⟨gb615, 3, none⟩ = some (.slice A0_3 l0_3.length c0_3) := (bcl BK615.out 3).trans rfl; have hfz20_0 := bfz BK615.out 0; have hfz20_1 := bfz BK615.out 1; have hfz20_2 := bfz BK615.out 2; have hfz20_3 := bfz BK615.out 3; have hcz21_0 : w19.cell? ⟨gb616, 0, none⟩ = some (.slice A1_0 l1_0.length c1_0) := (bcl BK616.out 0).trans rfl; have hcz21_1 : w19.cell? ⟨gb616, 1, none⟩ = some (.slice A1_1 l1_1.length c1_1) := (bcl BK616.out 1).trans rfl; have hcz21_2 : w19.cell? ⟨gb616, 2, none⟩ = some (.slice A1_2 l1_2.length c1_2) := (bcl BK616.out 2).trans rfl; have hcz21_3 : w19.cell? ⟨gb616, 3, none⟩ = some (.slice A1_3 l1_3.length c1_3) := (bcl BK616.out 3).trans rfl; have hfz21_0 := bfz BK616.out 0; have hfz21_1 := bfz BK616.out 1; have hfz21_2 := bfz BK616.out 2; have hfz21_3 := bfz BK616.out 3) | ((with_reducible refine gate_callee (f := 85) rfl ?_); refine goesL_ (some 27) rfl rfl Try.func85 (by kernel_rfl) rfl #[.slice A0_3 l0_3.length c0_3, .slice A1_3 l1_3.length c1_3] rfl zI ?_; (with_reducible refine (laws_eqMemWatchS.calls k _ _ l0_3 _ _ l1_3 true _ ?side1 ?side2 ?side3 ?side4 A9.out).mono ?_); (case side1 => repeat (first | exact (Kd.C_below HR0_3.out HB.out) | (with_reducible refine Kd.C_alloc ?_ _) | (with_reducible refine Kd.C_drewN ?_ _) | (with_reducible refine Kd.C_drew ?_))); (case side2 => exact HC0_3.out); (case side3 => repeat (first | exact (Kd.C_below HR1_3.out HB.out) | (with_reducible refine Kd.C_alloc ?_ _) | (with_reducible refine Kd.C_drewN ?_ _) | (with_reducible refine Kd.C_drew ?_))); (case side4 => exact HC1_3.out); rintro e w22 ⟨rfl, hb⟩; refine ⟨_, rfl, ?_⟩; have n0_ := AK (bbl (zK BK615) hb); have n1_ := AK (bbl (zK BK616) hb); have n2_ := AK (bst zB hb); clear BK615; clear BK616; clear HB; have BK615 := n0_; have BK616 := n1_; have HB := n2_; clear n0_ n1_ n2_; (try clear hb); (try clear hb2); (try clear hk); (try clear hi)))
     go_ret
     exact ⟨by first | rfl | (simp [errW_none, errW_some] <;> rfl) | (simp [*, errW_none, errW_some] <;> rfl), zB⟩
    ·replace c10 := Bool.eq_false_iff.mpr c10
     subst c10
     have H1 : (some false) = some r := by rw [if_neg (show ¬ (false = true) by decide)] at H; exact H
     clear H
     have H := H1
     clear H1
     obtain rfl := Option.some.inj H
     go_enter Try.func26, Try.ntmps26
     go_wp2_with (first | ((with_reducible refine gate_dst (N := 2) rfl ?_); refine box_event ?hg (N := 2) ?hd (cs := #[.slice A0_0 l0_0.length c0_0, .slice A0_1 l0_1.length c0_1, .slice A0_2 l0_2.length c0_2, .slice A0_3 l0_3.length c0_3]) (t := 28) ?hr ?_; (case hd => rfl); (case hg => rfl); (case hr => first | (go_simp; done) | (go_simp; rfl)); intro gb615 hg w23 hbox hb; have n0_ := AK (bst zB hb); have n1_ := AK (hbox); have n2_ := AK ((zG hg : w.heap.size ≤ gb615)); have n3_ := AK ((zG hg : w.heap.size ≤ gb615)); clear HB; have HB := n0_; have BK615 := n1_; have GW615 := n2_; have GE615 := n3_; clear n0_ n1_ n2_ n3_; clear hb hbox hg) | ((with_reducible refine gate_dst (N := 3) rfl ?_); refine box_event ?hg (N := 3) ?hd (cs := #[.slice A1_0 l1_0.length c1_0, .slice A1_1 l1_1.length c1_1, .slice A1_2 l1_2.length c1_2, .slice A1_3 l1_3.length c1_3]) (t := 28) ?hr ?_; (case hd => rfl); (case hg => rfl); (case hr => first | (go_simp; done) | (go_simp; rfl)); intro gb616 hg w24 hbox hb; have n0_ := AK (bbl (zK BK615) hb); have n1_ := AK (bst zB hb); have n2_ := AK (hbox); have n3_ := AK ((zG hg : w.heap.size ≤ gb616)); have n4_ := AK ((zG hg : w.heap.size ≤ gb616)); have n5_ := AK (zN hg BK615); have n6_ := AK (zM hg BK615); clear BK615; clear HB; have BK615 := n0_; have HB := n1_; have BK616 := n2_; have GW616 := n3_; have GE616 := n4_; have NB615_616 := n5_; have NB616_615 := n6_; clear n0_ n1_ n2_ n3_ n4_ n5_ n6_; clear hb hbox hg; have hnb25 := NB615_616.out; have hnc25 := NB616_615.out; have hcz26_0 : w24.cell? ⟨gb615, 0, none⟩ = some (.slice A0_0 l0_0.length c0_0) := (bcl BK615.out 0).trans rfl; have hcz26_1 : w24.cell? ⟨gb615, 1, none⟩ = some (.slice A0_1 l0_1.length c0_1) := (bcl BK615.out 1).trans rfl; have hcz26_2 : w24.cell? ⟨gb615, 2, none⟩ = some (.slice A0_2 l0_2.length c0_2) := (bcl BK615.out 2).trans rfl; have hcz26_3 : w24.cell? ⟨gb615, 3, none⟩ = some (.slice A0_3 l0_3.length c0_3) := (bcl BK615.out 3).trans rfl; have hfz26_0 := bfz BK615.out 0; have hfz26_1 := bfz BK615.out 1; have hfz26_2 := bfz BK615.out 2; have hfz26_3 := bfz BK615.out 3; have hcz27_0 : w24.cell? ⟨gb616, 0, none⟩ = some (.slice A1_0 l1_0.length c1_0) := (bcl BK616.out 0).trans rfl; have hcz27_1 : w24.cell? ⟨gb616, 1, none⟩ = some (.slice A1_1 l1_1.length c1_1) := (bcl BK616.out 1).trans rfl; have hcz27_2 : w24.cell? ⟨gb616, 2, none⟩ = some (.slice A1_2 l1_2.length c1_2) := (bcl BK616.out 2).trans rfl; have hcz27_3 : w24.cell? ⟨gb616, 3, none⟩ = some (.slice A1_3 l1_3.length c1_3) := (bcl BK616.out 3).trans rfl; have hfz27_0 := bfz BK616.out 0; have hfz27_1 := bfz BK616.out 1; have hfz27_2 := bfz BK616.out 2; have hfz27_3 := bfz BK616.out 3) | ((with_reducible refine gate_callee (f := 84) rfl ?_); refine goesL_ (some 9) rfl rfl Try.func84 (by kernel_rfl) rfl #[.slice A0_0 l0_0.length c0_0, .slice A1_0 l1_0.length c1_0] rfl zI ?_; (with_reducible refine (laws_eqMemObjS.calls k _ _ l0_0 _ _ l1_0 true _ ?side1 ?side2 ?side3 ?side4 A3.out).mono ?_); (case side1 => repeat (first | exact (Kd.C_below HR0_0.out HB.out) | (with_reducible refine Kd.C_alloc ?_ _) | (with_reducible refine Kd.C_drewN ?_ _) | (with_reducible refine Kd.C_drew ?_))); (case side2 => exact HC0_0.out); (case side3 => repeat (first | exact (Kd.C_below HR1_0.out HB.out) | (with_reducible refine Kd.C_alloc ?_ _) | (with_reducible refine Kd.C_drewN ?_ _) | (with_reducible refine Kd.C_drew ?_))); (case side4 => exact HC1_0.out); rintro e w28 ⟨rfl, hb⟩; refine ⟨_, rfl, ?_⟩; have n0_ := AK (bbl (zK BK615) hb); have n1_ := AK (bbl (zK BK616) hb); have n2_ := AK (bst zB hb); clear BK615; clear BK616; clear HB; have BK615 := n0_; have BK616 := n1_; have HB := n2_; clear n0_ n1_ n2_; (try clear hb); (try clear hb2); (try clear hk); (try clear hi); have hcz29_0 : w28.cell? ⟨gb615, 0, none⟩ = some (.slice A0_0 l0_0.length c0_0) := (bcl BK615.out 0).trans rfl; have hcz29_1 : w28.cell? ⟨gb615, 1, none⟩ = some (.slice A0_1 l0_1.length c0_1) := (bcl BK615.out 1).trans rfl; have hcz29_2 : w28.cell? ⟨gb615, 2, none⟩ = some (.slice A0_2 l0_2.length c0_2) := (bcl BK615.out 2).trans rfl; have hcz29_3 : w28.cell? ⟨gb615, 3, none⟩ = some (.slice A0_3 l0_3.length c0_3) := (bcl BK615.out 3).trans rfl; have hfz29_0 := bfz BK615.out 0; have hfz29_1 := bfz BK615.out 1; have hfz29_2 := bfz BK615.out 2; have hfz29_3 := bfz BK615.out 3; have hcz30_0 : w28.cell? ⟨gb616, 0, none⟩ = some (.slice A1_0 l1_0.length c1_0) := (bcl BK616.out 0).trans rfl; have hcz30_1 : w28.cell? ⟨gb616, 1, none⟩ = some (.slice A1_1 l1_1.length c1_1) := (bcl BK616.out 1).trans rfl; have hcz30_2 : w28.cell? ⟨gb616, 2, none⟩ = some (.slice A1_2 l1_2.length c1_2) := (bcl BK616.out 2).trans rfl; have hcz30_3 : w28.cell? ⟨gb616, 3, none⟩ = some (.slice A1_3 l1_3.length c1_3) := (bcl BK616.out 3).trans rfl; have hfz30_0 := bfz BK616.out 0; have hfz30_1 := bfz BK616.out 1; have hfz30_2 := bfz BK616.out 2; have hfz30_3 := bfz BK616.out 3) | ((with_reducible refine gate_callee (f := 29) rfl ?_); refine goesL_ (some 15) rfl rfl Try.func29 (by kernel_rfl) rfl #[.slice A0_1 l0_1.length c0_1, .slice A1_1 l1_1.length c1_1] rfl zI ?_; (with_reducible refine (laws_eqIntS.calls k _ _ l0_1 _ _ l1_1 true _ ?side1 ?side2 ?side3 ?side4 A5.out).mono ?_); (case side1 => repeat (first | exact (Kd.C_below HR0_1.out HB.out) | (with_reducible refine Kd.C_alloc ?_ _) | (with_reducible refine Kd.C_drewN ?_ _) | (with_reducible refine Kd.C_drew ?_))); (case side2 => exact HC0_1.out); (case side3 => repeat (first | exact (Kd.C_below HR1_1.out HB.out) | (with_reducible refine Kd.C_alloc ?_ _) | (with_reducible refine Kd.C_drewN ?_ _) | (with_reducible refine Kd.C_drew ?_))); (case side4 => exact HC1_1.out); rintro e w' ⟨rfl, ⟨nd, rfl⟩⟩; refine ⟨_, rfl, ?_⟩) | ((with_reducible refine gate_callee (f := 85) rfl ?_); refine goesL_ (some 21) rfl rfl Try.func85 (by kernel_rfl) rfl #[.slice A0_2 l0_2.length c0_2, .slice A1_2 l1_2.length c1_2] rfl zI ?_; (with_reducible refine (laws_eqMemWatchS.calls k _ _ l0_2 _ _ l1_2 true _ ?side1 ?side2 ?side3 ?side4 A7.out).mono ?_); (case side1 => repeat (first | exact (Kd.C_below HR0_2.out zB) | (with_reducible refine Kd.C_alloc ?_ _) | (with_reducible refine Kd.C_drewN ?_ _) | (with_reducible refine Kd.C_drew ?_))); (case side2 => exact HC0_2.out); (case side3 => repeat (first | exact (Kd.C_below HR1_2.out zB) | (with_reducible refine Kd.C_alloc ?_ _) | (with_reducible refine Kd.C_drewN ?_ _) | (with_reducible refine Kd.C_drew ?_))); (case side4 => exact HC1_2.out); rintro e w31 ⟨rfl, hb⟩; refine ⟨_, rfl, ?_⟩; have n0_ := AK (bbl (zK BK615) hb); have n1_ := AK (bbl (zK BK616) hb); have n2_ := AK (bst zB hb); clear BK615; clear BK616; clear HB; have BK615 := n0_; have BK616 := n1_; have HB := n2_; clear n0_ n1_ n2_; (try clear hb); (try clear hb2); (try clear hk); (try clear hi); have hcz32_0 : w31.cell? ⟨gb615, 0, none⟩ = some (.slice A0_0 l0_0.length c0_0) := (bcl BK615.out 0).trans rfl; have hcz32_1 : w31.cell? ⟨gb615, 1, none⟩ = some (.slice A0_1 l0_1.length c0_1) := (bcl BK615.out 1).trans rfl; have hcz32_2 : w31.cell? ⟨gb615, 2, none⟩ = some (.slice A0_2 l0_2.length c0_2) := (bcl BK615.out 2).trans rfl; have hcz32_3 : w31.cell? ⟨gb615, 3, none⟩ = some (.slice A0_3 l0_3.length c0_3) := (bcl BK615.out 3).trans rfl; have hfz32_0 := bfz BK615.out 0; have hfz32_1 := bfz BK615.out 1; have hfz32_2 := bfz BK615.out 2; have hfz32_3 := bfz BK615.out 3; have hcz33_0 : w31.cell? ⟨gb616, 0, none⟩ = some (.slice A1_0 l1_0.length c1_0) := (bcl BK616.out 0).trans rfl; have hcz33_1 : w31.cell? ⟨gb616, 1, none⟩ = some (.slice A1_1 l1_1.length c1_1) := (bcl BK616.out 1).trans rfl; have hcz33_2 : w31.cell? ⟨gb616, 2, none⟩ = some (.slice A1_2 l1_2.length c1_2) := (bcl BK616.out 2).trans rfl; have hcz33_3 : w31.cell? ⟨gb616, 3, none⟩ = some (.slice A1_3 l1_3.length c1_3) := (bcl BK616.out 3).trans rfl; have hfz33_0 := bfz BK616.out 0; have hfz33_1 := bfz BK616.out 1; have hfz33_2 := bfz BK616.out 2; have hfz33_3 := bfz BK616.out 3) | ((with_reducible refine gate_callee (f := 85) rfl ?_); refine goesL_ (some 27) rfl rfl Try.func85 (by kernel_rfl) rfl #[.slice A0_3 l0_3.length c0_3, .slice A1_3 l1_3.length c1_3] rfl zI ?_; (with_reducible refine (laws_eqMemWatchS.calls k _ _ l0_3 _ _ l1_3 false _ ?side1 ?side2 ?side3 ?side4 A9.out).mono ?_); (case side1 => repeat (first | exact (Kd.C_below HR0_3.out HB.out) | (with_reducible refine Kd.C_alloc ?_ _) | (with_reducible refine Kd.C_drewN ?_ _) | (with_reducible refine Kd.C_drew ?_))); (case side2 => exact HC0_3.out); (case side3 => repeat (first | exact (Kd.C_below HR1_3.out HB.out) | (with_reducible refine Kd.C_alloc ?_ _) | (with_reducible refine Kd.C_drewN ?_ _) | (with_reducible refine Kd.C_drew ?_))); (case side4 => exact HC1_3.out); rintro e w34 ⟨rfl, hb⟩; refine ⟨_, rfl, ?_⟩; have n0_ := AK (bbl (zK BK615) hb); have n1_ := AK (bbl (zK BK616) hb); have n2_ := AK (bst zB hb); clear BK615; clear BK616; clear HB; have BK615 := n0_; have BK616 := n1_; have HB := n2_; clear n0_ n1_ n2_; (try clear hb); (try clear hb2); (try clear hk); (try clear hi)))
     go_ret
     exact ⟨by first | rfl | (simp [errW_none, errW_some] <;> rfl) | (simp [*, errW_none, errW_some] <;> rfl), zB⟩
   ·replace c8 := Bool.eq_false_iff.mpr c8
    subst c8
    have H1 : (some false) = some r := by rw [if_neg (show ¬ (false = true) by decide)] at H; exact H
    clear H
    have H := H1
    clear H1
    obtain rfl := Option.some.inj H
    go_enter Try.func26, Try.ntmps26
    go_wp2_with (first | ((with_reducible refine gate_dst (N := 2) rfl ?_); refine box_event ?hg (N := 2) ?hd (cs := #[.slice A0_0 l0_0.length c0_0, .slice A0_1 l0_1.length c0_1, .slice A0_2 l0_2.length c0_2, .slice A0_3 l0_3.length c0_3]) (t := 28) ?hr ?_; (case hd => rfl); (case hg => rfl); (case hr => first | (go_simp; done) | (go_simp; rfl)); intro gb615 hg w35 hbox hb; have n0_ := AK (bst zB hb); have n1_ := AK (hbox); have n2_ := AK ((zG hg : w.heap.size ≤ gb615)); have n3_ := AK ((zG hg : w.heap.size ≤ gb615)); clear HB; have HB := n0_; have BK615 := n1_; have GW615 := n2_; have GE615 := n3_; clear n0_ n1_ n2_ n3_; clear hb hbox hg) | ((with_reducible refine gate_dst (N := 3) rfl ?_); refine box_event ?hg (N := 3) ?hd (cs := #[.slice A1_0 l1_0.length c1_0, .slice A1_1 l1_1.length c1_1, .slice A1_2 l1_2.length c1_2, .slice A1_3 l1_3.length c1_3]) (t := 28) ?hr ?_; (case hd => rfl); (case hg => rfl); (case hr => first | (go_simp; done) | (go_simp; rfl)); intro gb616 hg w36 hbox hb; have n0_ := AK (bbl (zK BK615) hb); have n1_ := AK (bst zB hb); have n2_ := AK (hbox); have n3_ := AK ((zG hg : w.heap.size ≤ gb616)); have n4_ := AK ((zG hg : w.heap.size ≤ gb616)); have n5_ := AK (zN hg BK615); have n6_ := AK (zM hg BK615); clear BK615; clear HB; have BK615 := n0_; have HB := n1_; have BK616 := n2_; have GW616 := n3_; have GE616 := n4_; have NB615_616 := n5_; have NB616_615 := n6_; clear n0_ n1_ n2_ n3_ n4_ n5_ n6_; clear hb hbox hg; have hnb37 := NB615_616.out; have hnc37 := NB616_615.out; have hcz38_0 : w36.cell? ⟨gb615, 0, none⟩ = some (.slice A0_0 l0_0.length c0_0) := (bcl BK615.out 0).trans rfl; have hcz38_1 : w36.cell? ⟨gb615, 1, none⟩ = some (.slice A0_1 l0_1.length c0_1) := (bcl BK615.out 1).trans rfl; have hcz38_2 : w36.cell? ⟨gb615, 2, none⟩ = some (.slice A0_2 l0_2.length c0_2) := (bcl BK615.out 2).trans rfl; have hcz38_3 : w36.cell? ⟨gb615, 3, none⟩ = some (.slice A0_3 l0_3.length c0_3) := (bcl BK615.out 3).trans rfl; have hfz38_0 := bfz BK615.out 0; have hfz38_1 := bfz BK615.out 1; have hfz38_2 := bfz BK615.out 2; have hfz38_3 := bfz BK615.out 3; have hcz39_0 : w36.cell? ⟨gb616, 0, none⟩ = some (.slice A1_0 l1_0.length c1_0) := (bcl BK616.out 0).trans rfl; have hcz39_1 : w36.cell? ⟨gb616, 1, none⟩ = some (.slice A1_1 l1_1.length c1_1) := (bcl BK616.out 1).trans rfl; have hcz39_2 : w36.cell? ⟨gb616, 2, none⟩ = some (.slice A1_2 l1_2.length c1_2) := (bcl BK616.out 2).trans rfl; have hcz39_3 : w36.cell? ⟨gb616, 3, none⟩ = some (.slice A1_3 l1_3.length c1_3) := (bcl BK616.out 3).trans rfl; have hfz39_0 := bfz BK616.out 0; have hfz39_1 := bfz BK616.out 1; have hfz39_2 := bfz BK616.out 2; have hfz39_3 := bfz BK616.out 3) | ((with_reducible refine gate_callee (f := 84) rfl ?_); refine goesL_ (some 9) rfl rfl Try.func84 (by kernel_rfl) rfl #[.slice A0_0 l0_0.length c0_0, .slice A1_0 l1_0.length c1_0] rfl zI ?_; (with_reducible refine (laws_eqMemObjS.calls k _ _ l0_0 _ _ l1_0 true _ ?side1 ?side2 ?side3 ?side4 A3.out).mono ?_); (case side1 => repeat (first | exact (Kd.C_below HR0_0.out HB.out) | (with_reducible refine Kd.C_alloc ?_ _) | (with_reducible refine Kd.C_drewN ?_ _) | (with_reducible refine Kd.C_drew ?_))); (case side2 => exact HC0_0.out); (case side3 => repeat (first | exact (Kd.C_below HR1_0.out HB.out) | (with_reducible refine Kd.C_alloc ?_ _) | (with_reducible refine Kd.C_drewN ?_ _) | (with_reducible refine Kd.C_drew ?_))); (case side4 => exact HC1_0.out); rintro e w40 ⟨rfl, hb⟩; refine ⟨_, rfl, ?_⟩; have n0_ := AK (bbl (zK BK615) hb); have n1_ := AK (bbl (zK BK616) hb); have n2_ := AK (bst zB hb); clear BK615; clear BK616; clear HB; have BK615 := n0_; have BK616 := n1_; have HB := n2_; clear n0_ n1_ n2_; (try clear hb); (try clear hb2); (try clear hk); (try clear hi); have hcz41_0 : w40.cell? ⟨gb615, 0, none⟩ = some (.slice A0_0 l0_0.length c0_0) := (bcl BK615.out 0).trans rfl; have hcz41_1 : w40.cell? ⟨gb615, 1, none⟩ = some (.slice A0_1 l0_1.length c0_1) := (bcl BK615.out 1).trans rfl; have hcz41_2 : w40.cell? ⟨gb615, 2, none⟩ = some (.slice A0_2 l0_2.length c0_2) := (bcl BK615.out 2).trans rfl; have hcz41_3 : w40.cell? ⟨gb615, 3, none⟩ = some (.slice A0_3 l0_3.length c0_3) := (bcl BK615.out 3).trans rfl; have hfz41_0 := bfz BK615.out 0; have hfz41_1 := bfz BK615.out 1; have hfz41_2 := bfz BK615.out 2; have hfz41_3 := bfz BK615.out 3; have hcz42_0 : w40.cell? ⟨gb616, 0, none⟩ = some (.slice A1_0 l1_0.length c1_0) := (bcl BK616.out 0).trans rfl; have hcz42_1 : w40.cell? ⟨gb616, 1, none⟩ = some (.slice A1_1 l1_1.length c1_1) := (bcl BK616.out 1).trans rfl; have hcz42_2 : w40.cell? ⟨gb616, 2, none⟩ = some (.slice A1_2 l1_2.length c1_2) := (bcl BK616.out 2).trans rfl; have hcz42_3 : w40.cell? ⟨gb616, 3, none⟩ = some (.slice A1_3 l1_3.length c1_3) := (bcl BK616.out 3).trans rfl; have hfz42_0 := bfz BK616.out 0; have hfz42_1 := bfz BK616.out 1; have hfz42_2 := bfz BK616.out 2; have hfz42_3 := bfz BK616.out 3) | ((with_reducible refine gate_callee (f := 29) rfl ?_); refine goesL_ (some 15) rfl rfl Try.func29 (by kernel_rfl) rfl #[.slice A0_1 l0_1.length c0_1, .slice A1_1 l1_1.length c1_1] rfl zI ?_; (with_reducible refine (laws_eqIntS.calls k _ _ l0_1 _ _ l1_1 true _ ?side1 ?side2 ?side3 ?side4 A5.out).mono ?_); (case side1 => repeat (first | exact (Kd.C_below HR0_1.out HB.out) | (with_reducible refine Kd.C_alloc ?_ _) | (with_reducible refine Kd.C_drewN ?_ _) | (with_reducible refine Kd.C_drew ?_))); (case side2 => exact HC0_1.out); (case side3 => repeat (first | exact (Kd.C_below HR1_1.out HB.out) | (with_reducible refine Kd.C_alloc ?_ _) | (with_reducible refine Kd.C_drewN ?_ _) | (with_reducible refine Kd.C_drew ?_))); (case side4 => exact HC1_1.out); rintro e w' ⟨rfl, ⟨nd, rfl⟩⟩; refine ⟨_, rfl, ?_⟩) | ((with_reducible refine gate_callee (f := 85) rfl ?_); refine goesL_ (some 21) rfl rfl Try.func85 (by kernel_rfl) rfl #[.slice A0_2 l0_2.length c0_2, .slice A1_2 l1_2.length c1_2] rfl zI ?_; (with_reducible refine (laws_eqMemWatchS.calls k _ _ l0_2 _ _ l1_2 false _ ?side1 ?side2 ?side3 ?side4 A7.out).mono ?_); (case side1 => repeat (first | exact (Kd.C_below HR0_2.out zB) | (with_reducible refine Kd.C_alloc ?_ _) | (with_reducible refine Kd.C_drewN ?_ _) | (with_reducible refine Kd.C_drew ?_))); (case side2 => exact HC0_2.out); (case side3 => repeat (first | exact (Kd.C_below HR1_2.out zB) | (with_reducible refine Kd.C_alloc ?_ _) | (with_reducible refine Kd.C_drewN ?_ _) | (with_reducible refine Kd.C_drew ?_))); (case side4 => exact HC1_2.out); rintro e w43 ⟨rfl, hb⟩; refine ⟨_, rfl, ?_⟩; have n0_ := AK (bbl (zK BK615) hb); have n1_ := AK (bbl (zK BK616) hb); have n2_ := AK (bst zB hb); clear BK615; clear BK616; clear HB; have BK615 := n0_; have BK616 := n1_; have HB := n2_; clear n0_ n1_ n2_; (try clear hb); (try clear hb2); (try clear hk); (try clear hi)))
    go_ret
    exact ⟨by first | rfl | (simp [errW_none, errW_some] <;> rfl) | (simp [*, errW_none, errW_some] <;> rfl), zB⟩
  ·replace c6 := Bool.eq_false_iff.mpr c6
   subst c6
   have H1 : (some false) = some r := by rw [if_neg (show ¬ (false = true) by decide)] at H; exact H
   clear H
   have H := H1
   clear H1
   obtain rfl := Option.some.inj H
   go_enter Try.func26, Try.ntmps26
   go_wp2_with (first | ((with_reducible refine gate_dst (N := 2) rfl ?_); refine box_event ?hg (N := 2) ?hd (cs := #[.slice A0_0 l0_0.length c0_0, .slice A0_1 l0_1.length c0_1, .slice A0_2 l0_2.length c0_2, .slice A0_3 l0_3.length c0_3]) (t := 28) ?hr ?_; (case hd => rfl); (case hg => rfl); (case hr => first | (go_simp; done) | (go_simp; rfl)); intro gb615 hg w44 hbox hb; have n0_ := AK (bst zB hb); have n1_ := AK (hbox); have n2_ := AK ((zG hg : w.heap.size ≤ gb615)); have n3_ := AK ((zG hg : w.heap.size ≤ gb615)); clear HB; have HB := n0_; have BK615 := n1_; have GW615 := n2_; have GE615 := n3_; clear n0_ n1_ n2_ n3_; clear hb hbox hg) | ((with_reducible refine gate_dst (N := 3) rfl ?_); refine box_event ?hg (N := 3) ?hd (cs := #[.slice A1_0 l1_0.length c1_0, .slice A1_1 l1_1.length c1_1, .slice A1_2 l1_2.length c1_2, .slice A1_3 l1_3.length c1_3]) (t := 28) ?hr ?_; (case hd => rfl); (case hg => rfl); (case hr => first | (go_simp; done) | (go_simp; rfl)); intro gb616 hg w45 hbox hb; have n0_ := AK (bbl (zK BK615) hb); have n1_ := AK (bst zB hb); have n2_ := AK (hbox); have n3_ := AK ((zG hg : w.heap.size ≤ gb616)); have n4_ := AK ((zG hg : w.heap.size ≤ gb616)); have n5_ := AK (zN hg BK615); have n6_ := AK (zM hg BK615); clear BK615; clear HB; have BK615 := n0_; have HB := n1_; have BK616 := n2_; have GW616 := n3_; have GE616 := n4_; have NB615_616 := n5_; have NB616_615 := n6_; clear n0_ n1_ n2_ n3_ n4_ n5_ n6_; clear hb hbox hg; have hnb46 := NB615_616.out; have hnc46 := NB616_615.out; have hcz47_0 : w45.cell? ⟨gb615, 0, none⟩ = some (.slice A0_0 l0_0.length c0_0) := (bcl BK615.out 0).trans rfl; have hcz47_1 : w45.cell? ⟨gb615, 1, none⟩ = some (.slice A0_1 l0_1.length c0_1) := (bcl BK615.out 1).trans rfl; have hcz47_2 : w45.cell? ⟨gb615, 2, none⟩ = some (.slice A0_2 l0_2.length c0_2) := (bcl BK615.out 2).trans rfl; have hcz47_3 : w45.cell? ⟨gb615, 3, none⟩ = some (.slice A0_3 l0_3.length c0_3) := (bcl BK615.out 3).trans rfl; have hfz47_0 := bfz BK615.out 0; have hfz47_1 := bfz BK615.out 1; have hfz47_2 := bfz BK615.out 2; have hfz47_3 := bfz BK615.out 3; have hcz48_0 : w45.cell? ⟨gb616, 0, none⟩ = some (.slice A1_0 l1_0.length c1_0) := (bcl BK616.out 0).trans rfl; have hcz48_1 : w45.cell? ⟨gb616, 1, none⟩ = some (.slice A1_1 l1_1.length c1_1) := (bcl BK616.out 1).trans rfl; have hcz48_2 : w45.cell? ⟨gb616, 2, none⟩ = some (.slice A1_2 l1_2.length c1_2) := (bcl BK616.out 2).trans rfl; have hcz48_3 : w45.cell? ⟨gb616, 3, none⟩ = some (.slice A1_3 l1_3.length c1_3) := (bcl BK616.out 3).trans rfl; have hfz48_0 := bfz BK616.out 0; have hfz48_1 := bfz BK616.out 1; have hfz48_2 := bfz BK616.out 2; have hfz48_3 := bfz BK616.out 3) | ((with_reducible refine gate_callee (f := 84) rfl ?_); refine goesL_ (some 9) rfl rfl Try.func84 (by kernel_rfl) rfl #[.slice A0_0 l0_0.length c0_0, .slice A1_0 l1_0.length c1_0] rfl zI ?_; (with_reducible refine (laws_eqMemObjS.calls k _ _ l0_0 _ _ l1_0 true _ ?side1 ?side2 ?side3 ?side4 A3.out).mono ?_); (case side1 => repeat (first | exact (Kd.C_below HR0_0.out HB.out) | (with_reducible refine Kd.C_alloc ?_ _) | (with_reducible refine Kd.C_drewN ?_ _) | (with_reducible refine Kd.C_drew ?_))); (case side2 => exact HC0_0.out); (case side3 => repeat (first | exact (Kd.C_below HR1_0.out HB.out) | (with_reducible refine Kd.C_alloc ?_ _) | (with_reducible refine Kd.C_drewN ?_ _) | (with_reducible refine Kd.C_drew ?_))); (case side4 => exact HC1_0.out); rintro e w49 ⟨rfl, hb⟩; refine ⟨_, rfl, ?_⟩; have n0_ := AK (bbl (zK BK615) hb); have n1_ := AK (bbl (zK BK616) hb); have n2_ := AK (bst zB hb); clear BK615; clear BK616; clear HB; have BK615 := n0_; have BK616 := n1_; have HB := n2_; clear n0_ n1_ n2_; (try clear hb); (try clear hb2); (try clear hk); (try clear hi); have hcz50_0 : w49.cell? ⟨gb615, 0, none⟩ = some (.slice A0_0 l0_0.length c0_0) := (bcl BK615.out 0).trans rfl; have hcz50_1 : w49.cell? ⟨gb615, 1, none⟩ = some (.slice A0_1 l0_1.length c0_1) := (bcl BK615.out 1).trans rfl; have hcz50_2 : w49.cell? ⟨gb615, 2, none⟩ = some (.slice A0_2 l0_2.length c0_2) := (bcl BK615.out 2).trans rfl; have hcz50_3 : w49.cell? ⟨gb615, 3, none⟩ = some (.slice A0_3 l0_3.length c0_3) := (bcl BK615.out 3).trans rfl; have hfz50_0 := bfz BK615.out 0; have hfz50_1 := bfz BK615.out 1; have hfz50_2 := bfz BK615.out 2; have hfz50_3 := bfz BK615.out 3; have hcz51_0 : w49.cell? ⟨gb616, 0, none⟩ = some (.slice A1_0 l1_0.length c1_0) := (bcl BK616.out 0).trans rfl; have hcz51_1 : w49.cell? ⟨gb616, 1, none⟩ = some (.slice A1_1 l1_1.length c1_1) := (bcl BK616.out 1).trans rfl; have hcz51_2 : w49.cell? ⟨gb616, 2, none⟩ = some (.slice A1_2 l1_2.length c1_2) := (bcl BK616.out 2).trans rfl; have hcz51_3 : w49.cell? ⟨gb616, 3, none⟩ = some (.slice A1_3 l1_3.length c1_3) := (bcl BK616.out 3).trans rfl; have hfz51_0 := bfz BK616.out 0; have hfz51_1 := bfz BK616.out 1; have hfz51_2 := bfz BK616.out 2; have hfz51_3 := bfz BK616.out 3) | ((with_reducible refine gate_callee (f := 29) rfl ?_); refine goesL_ (some 15) rfl rfl Try.func29 (by kernel_rfl) rfl #[.slice A0_1 l0_1.length c0_1, .slice A1_1 l1_1.length c1_1] rfl zI ?_; (with_reducible refine (laws_eqIntS.calls k _ _ l0_1 _ _ l1_1 false _ ?side1 ?side2 ?side3 ?side4 A5.out).mono ?_); (case side1 => repeat (first | exact (Kd.C_below HR0_1.out HB.out) | (with_reducible refine Kd.C_alloc ?_ _) | (with_reducible refine Kd.C_drewN ?_ _) | (with_reducible refine Kd.C_drew ?_))); (case side2 => exact HC0_1.out); (case side3 => repeat (first | exact (Kd.C_below HR1_1.out HB.out) | (with_reducible refine Kd.C_alloc ?_ _) | (with_reducible refine Kd.C_drewN ?_ _) | (with_reducible refine Kd.C_drew ?_))); (case side4 => exact HC1_1.out); rintro e w' ⟨rfl, ⟨nd, rfl⟩⟩; refine ⟨_, rfl, ?_⟩))
   go_ret
   exact ⟨by first | rfl | (simp [errW_none, errW_some] <;> rfl) | (simp [*, errW_none, errW_some] <;> rfl), zB⟩
 ·replace c4 := Bool.eq_false_iff.mpr c4
  subst c4
  have H1 : (some false) = some r := by rw [if_neg (show ¬ (false = true) by decide)] at H; exact H
  clear H
  have H := H1
  clear H1
  obtain rfl := Option.some.inj H
  go_enter Try.func26, Try.ntmps26
  go_wp2_with (first | ((with_reducible refine gate_dst (N := 2) rfl ?_); refine box_event ?hg (N := 2) ?hd (cs := #[.slice A0_0 l0_0.length c0_0, .slice A0_1 l0_1.length c0_1, .slice A0_2 l0_2.length c0_2, .slice A0_3 l0_3.length c0_3]) (t := 28) ?hr ?_; (case hd => rfl); (case hg => rfl); (case hr => first | (go_simp; done) | (go_simp; rfl)); intro gb615 hg w52 hbox hb; have n0_ := AK (bst zB hb); have n1_ := AK (hbox); have n2_ := AK ((zG hg : w.heap.size ≤ gb615)); have n3_ := AK ((zG hg : w.heap.size ≤ gb615)); clear HB; have HB := n0_; have BK615 := n1_; have GW615 := n2_; have GE615 := n3_; clear n0_ n1_ n2_ n3_; clear hb hbox hg) | ((with_reducible refine gate_dst (N := 3) rfl ?_); refine box_event ?hg (N := 3) ?hd (cs := #[.slice A1_0 l1_0.length c1_0, .slice A1_1 l1_1.length c1_1, .slice A1_2 l1_2.length c1_2, .slice A1_3 l1_3.length c1_3]) (t := 28) ?hr ?_; (case hd => rfl); (case hg => rfl); (case hr => first | (go_simp; done) | (go_simp; rfl)); intro gb616 hg w53 hbox hb; have n0_ := AK (bbl (zK BK615) hb); have n1_ := AK (bst zB hb); have n2_ := AK (hbox); have n3_ := AK ((zG hg : w.heap.size ≤ gb616)); have n4_ := AK ((zG hg : w.heap.size ≤ gb616)); have n5_ := AK (zN hg BK615); have n6_ := AK (zM hg BK615); clear BK615; clear HB; have BK615 := n0_; have HB := n1_; have BK616 := n2_; have GW616 := n3_; have GE616 := n4_; have NB615_616 := n5_; have NB616_615 := n6_; clear n0_ n1_ n2_ n3_ n4_ n5_ n6_; clear hb hbox hg; have hnb54 := NB615_616.out; have hnc54 := NB616_615.out; have hcz55_0 : w53.cell? ⟨gb615, 0, none⟩ = some (.slice A0_0 l0_0.length c0_0) := (bcl BK615.out 0).trans rfl; have hcz55_1 : w53.cell? ⟨gb615, 1, none⟩ = some (.slice A0_1 l0_1.length c0_1) := (bcl BK615.out 1).trans rfl; have hcz55_2 : w53.cell? ⟨gb615, 2, none⟩ = some (.slice A0_2 l0_2.length c0_2) := (bcl BK615.out 2).trans rfl; have hcz55_3 : w53.cell? ⟨gb615, 3, none⟩ = some (.slice A0_3 l0_3.length c0_3) := (bcl BK615.out 3).trans rfl; have hfz55_0 := bfz BK615.out 0; have hfz55_1 := bfz BK615.out 1; have hfz55_2 := bfz BK615.out 2; have hfz55_3 := bfz BK615.out 3; have hcz56_0 : w53.cell? ⟨gb616, 0, none⟩ = some (.slice A1_0 l1_0.length c1_0) := (bcl BK616.out 0).trans rfl; have hcz56_1 : w53.cell? ⟨gb616, 1, none⟩ = some (.slice A1_1 l1_1.length c1_1) := (bcl BK616.out 1).trans rfl; have hcz56_2 : w53.cell? ⟨gb616, 2, none⟩ = some (.slice A1_2 l1_2.length c1_2) := (bcl BK616.out 2).trans rfl; have hcz56_3 : w53.cell? ⟨gb616, 3, none⟩ = some (.slice A1_3 l1_3.length c1_3) := (bcl BK616.out 3).trans rfl; have hfz56_0 := bfz BK616.out 0; have hfz56_1 := bfz BK616.out 1; have hfz56_2 := bfz BK616.out 2; have hfz56_3 := bfz BK616.out 3) | ((with_reducible refine gate_callee (f := 84) rfl ?_); refine goesL_ (some 9) rfl rfl Try.func84 (by kernel_rfl) rfl #[.slice A0_0 l0_0.length c0_0, .slice A1_0 l1_0.length c1_0] rfl zI ?_; (with_reducible refine (laws_eqMemObjS.calls k _ _ l0_0 _ _ l1_0 false _ ?side1 ?side2 ?side3 ?side4 A3.out).mono ?_); (case side1 => repeat (first | exact (Kd.C_below HR0_0.out HB.out) | (with_reducible refine Kd.C_alloc ?_ _) | (with_reducible refine Kd.C_drewN ?_ _) | (with_reducible refine Kd.C_drew ?_))); (case side2 => exact HC0_0.out); (case side3 => repeat (first | exact (Kd.C_below HR1_0.out HB.out) | (with_reducible refine Kd.C_alloc ?_ _) | (with_reducible refine Kd.C_drewN ?_ _) | (with_reducible refine Kd.C_drew ?_))); (case side4 => exact HC1_0.out); rintro e w57 ⟨rfl, hb⟩; refine ⟨_, rfl, ?_⟩; have n0_ := AK (bbl (zK BK615) hb); have n1_ := AK (bbl (zK BK616) hb); have n2_ := AK (bst zB hb); clear BK615; clear BK616; clear HB; have BK615 := n0_; have BK616 := n1_; have HB := n2_; clear n0_ n1_ n2_; (try clear hb); (try clear hb2); (try clear hk); (try clear hi)))
  go_ret
  exact ⟨by first | rfl | (simp [errW_none, errW_some] <;> rfl) | (simp [*, errW_none, errW_some] <;> rfl), zB⟩

end Go.Proofs.Ytigjhfijkdlldaa.Q
