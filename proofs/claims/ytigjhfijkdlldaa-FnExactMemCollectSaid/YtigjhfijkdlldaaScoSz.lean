-- Made by a program of this session (wip/prt.sh, wip/fakes.py, wip/post.py) that calls the kit's print.py and packs what it wrote.
import Derived.Test.YtigjhfijkdlldaaScoT
namespace Go.Proofs.Ytigjhfijkdlldaa.Q
open Go.RowKit Go.Proofs.YtigjhfijkdlldaaW.PrintWords Go.Proofs.YtigjhfijkdlldaaW.PrintLast Go.Proofs.YtigjhfijkdlldaaW.PrintMore
attribute [local go_sem] max2_int min2_int max_two min_two max_three min_three max_four min_four
set_option linter.unusedVariables false
set_option linter.unusedSimpArgs false

/-! ### laws_szIntS: function 74 -/
def laws_szIntS.f (l0 : List Int) (a1 : Int) : Option (Int) := if (wrap64 (a1 - (l0.length : Int))) < 0 then (some (-1)) else (some (wrap64 (a1 - (l0.length : Int))))
set_option maxHeartbeats 8000000 in
set_option maxRecDepth 100000 in
theorem laws_szIntS.calls (A0 : Option Addr) (c0 : Nat) (l0 : List Int) (a1 : Int) (r : Int) (w : World) (hr0 : Kd.C (Kd.int .i64) w A0 l0.length l0) (hc0 : l0.length ≤ c0) (h : laws_szIntS.f l0 a1 = some r) :
  Calls Try.prog 74 #[.slice A0 l0.length c0, .int .i64 a1] w fun e w' => e = .returned (.int .i64 r) ∧ Drawn0 w w' := by
 have HR0 := AK hr0
 have HC0 := AK hc0
 clear hr0 hc0
 have H : (if (wrap64 (a1 - (l0.length : Int))) < 0 then (some (-1)) else (some (wrap64 (a1 - (l0.length : Int))))) = some r := h
 clear h
 by_cases c3 : (wrap64 (a1 - (l0.length : Int))) < 0
 ·rw [if_pos c3] at H
  have c3b0 : decide ((wrap64 (a1 - (l0.length : Int))) < 0) = true := deT c3
  clear c3
  obtain rfl := Option.some.inj H
  go_enter Try.func74, Try.ntmps74
  go_wp2
  go_ret
  exact ⟨by first | rfl | (simp; done) | (simp [*]; done), by repeat (first | exact Drawn0.refl _ | apply Drawn0.step)⟩
 ·rw [if_neg c3] at H
  have c3b0 : decide ((wrap64 (a1 - (l0.length : Int))) < 0) = false := deF c3
  clear c3
  obtain rfl := Option.some.inj H
  go_enter Try.func74, Try.ntmps74
  go_wp2
  go_ret
  exact ⟨by first | rfl | (simp; done) | (simp [*]; done), by repeat (first | exact Drawn0.refl _ | apply Drawn0.step)⟩

/-! ### laws_szMemObj: function 108 -/
def laws_szMemObj.f (a0_0 : Int) (a0_1 : ByteArray) (l0_2 : List Int) (a1 : Int) : Option (Int) := if (wrap64 (a1 - (a0_1.size : Int))) < 0 then (some (-1)) else ((laws_szIntS.f l0_2 (wrap64 (a1 - (a0_1.size : Int)))).bind fun t541 => (if t541 < 0 then (some (-1)) else (some t541)))
set_option maxHeartbeats 8000000 in
set_option maxRecDepth 100000 in
theorem laws_szMemObj.calls (a0_0 : Int) (a0_1 : ByteArray) (A0_2 : Option Addr) (c0_2 : Nat) (l0_2 : List Int) (a1 : Int) (r : Int) (w : World) (hr0_2 : Kd.C (Kd.int .i64) w A0_2 l0_2.length l0_2) (hc0_2 : l0_2.length ≤ c0_2) (h : laws_szMemObj.f a0_0 a0_1 l0_2 a1 = some r) :
  Calls Try.prog 108 #[.agg #[.int .i64 a0_0, .string a0_1, .slice A0_2 l0_2.length c0_2], .int .i64 a1] w fun e w' => e = .returned (.int .i64 r) ∧ Below w.heap.size w w' := by
 have hu72 := Try.underlying72
 have HR0_2 := AK hr0_2
 have HC0_2 := AK hc0_2
 clear hr0_2 hc0_2
 have HB := AK (Below.refl w.heap.size w)
 have H : (if (wrap64 (a1 - (a0_1.size : Int))) < 0 then (some (-1)) else ((laws_szIntS.f l0_2 (wrap64 (a1 - (a0_1.size : Int)))).bind fun t541 => (if t541 < 0 then (some (-1)) else (some t541)))) = some r := h
 clear h
 by_cases c3 : (wrap64 (a1 - (a0_1.size : Int))) < 0
 ·rw [if_pos c3] at H
  have c3b0 : decide ((wrap64 (a1 - (a0_1.size : Int))) < 0) = true := deT c3
  clear c3
  obtain rfl := Option.some.inj H
  go_enter Try.func108, Try.ntmps108
  go_wp2_with (first | ((with_reducible refine gate_dst (N := 2) rfl ?_); refine box_event ?hg (N := 2) ?hd (cs := #[.int .i64 a0_0, .string a0_1, .slice A0_2 l0_2.length c0_2]) (t := 72) ?hr ?_; (case hd => rfl); (case hg => rfl); (case hr => first | (go_simp; done) | (go_simp; rfl)); intro gb540 hg w4 hbox hb; have n0_ := AK (bst zB hb); have n1_ := AK (hbox); have n2_ := AK ((zG hg : w.heap.size ≤ gb540)); have n3_ := AK ((zG hg : w.heap.size ≤ gb540)); clear HB; have HB := n0_; have BK540 := n1_; have GW540 := n2_; have GE540 := n3_; clear n0_ n1_ n2_ n3_; clear hb hbox hg; have hcz5_0 : w4.cell? ⟨gb540, 0, none⟩ = some (.int .i64 a0_0) := (bcl BK540.out 0).trans rfl; have hcz5_1 : w4.cell? ⟨gb540, 1, none⟩ = some (.string a0_1) := (bcl BK540.out 1).trans rfl; have hcz5_2 : w4.cell? ⟨gb540, 2, none⟩ = some (.slice A0_2 l0_2.length c0_2) := (bcl BK540.out 2).trans rfl; have hfz5_0 := bfz BK540.out 0; have hfz5_1 := bfz BK540.out 1; have hfz5_2 := bfz BK540.out 2))
  go_ret
  exact ⟨by first | rfl | (simp [errW_none, errW_some] <;> rfl) | (simp [*, errW_none, errW_some] <;> rfl), zB⟩
 ·rw [if_neg c3] at H
  have c3b0 : decide ((wrap64 (a1 - (a0_1.size : Int))) < 0) = false := deF c3
  clear c3
  replace H := Option.bind_eq_some_iff.mp H
  obtain ⟨t541, A60, H⟩ := H
  replace H : (if t541 < 0 then (some (-1)) else (some t541)) = some r := H
  have A6 := AK A60
  clear A60
  by_cases c7 : t541 < 0
  ·rw [if_pos c7] at H
   have c7b0 : decide (t541 < 0) = true := deT c7
   clear c7
   obtain rfl := Option.some.inj H
   go_enter Try.func108, Try.ntmps108
   go_wp2_with (first | ((with_reducible refine gate_dst (N := 2) rfl ?_); refine box_event ?hg (N := 2) ?hd (cs := #[.int .i64 a0_0, .string a0_1, .slice A0_2 l0_2.length c0_2]) (t := 72) ?hr ?_; (case hd => rfl); (case hg => rfl); (case hr => first | (go_simp; done) | (go_simp; rfl)); intro gb540 hg w8 hbox hb; have n0_ := AK (bst zB hb); have n1_ := AK (hbox); have n2_ := AK ((zG hg : w.heap.size ≤ gb540)); have n3_ := AK ((zG hg : w.heap.size ≤ gb540)); clear HB; have HB := n0_; have BK540 := n1_; have GW540 := n2_; have GE540 := n3_; clear n0_ n1_ n2_ n3_; clear hb hbox hg; have hcz9_0 : w8.cell? ⟨gb540, 0, none⟩ = some (.int .i64 a0_0) := (bcl BK540.out 0).trans rfl; have hcz9_1 : w8.cell? ⟨gb540, 1, none⟩ = some (.string a0_1) := (bcl BK540.out 1).trans rfl; have hcz9_2 : w8.cell? ⟨gb540, 2, none⟩ = some (.slice A0_2 l0_2.length c0_2) := (bcl BK540.out 2).trans rfl; have hfz9_0 := bfz BK540.out 0; have hfz9_1 := bfz BK540.out 1; have hfz9_2 := bfz BK540.out 2) | ((with_reducible refine gate_callee (f := 74) rfl ?_); refine goesL_ (some 15) rfl rfl Try.func74 (by kernel_rfl) rfl #[.slice A0_2 l0_2.length c0_2, .int .i64 (wrap64 (a1 - (a0_1.size : Int)))] rfl zI ?_; (with_reducible refine (laws_szIntS.calls _ _ l0_2 (wrap64 (a1 - (a0_1.size : Int))) t541 _ ?side1 ?side2 A6.out).mono ?_); (case side1 => repeat (first | exact (Kd.C_below HR0_2.out HB.out) | (with_reducible refine Kd.C_alloc ?_ _) | (with_reducible refine Kd.C_drewN ?_ _) | (with_reducible refine Kd.C_drew ?_))); (case side2 => exact HC0_2.out); rintro e w' ⟨rfl, ⟨nd, rfl⟩⟩; refine ⟨_, rfl, ?_⟩))
   go_ret
   exact ⟨by first | rfl | (simp [errW_none, errW_some] <;> rfl) | (simp [*, errW_none, errW_some] <;> rfl), zB⟩
  ·rw [if_neg c7] at H
   have c7b0 : decide (t541 < 0) = false := deF c7
   clear c7
   obtain rfl := Option.some.inj H
   go_enter Try.func108, Try.ntmps108
   go_wp2_with (first | ((with_reducible refine gate_dst (N := 2) rfl ?_); refine box_event ?hg (N := 2) ?hd (cs := #[.int .i64 a0_0, .string a0_1, .slice A0_2 l0_2.length c0_2]) (t := 72) ?hr ?_; (case hd => rfl); (case hg => rfl); (case hr => first | (go_simp; done) | (go_simp; rfl)); intro gb540 hg w10 hbox hb; have n0_ := AK (bst zB hb); have n1_ := AK (hbox); have n2_ := AK ((zG hg : w.heap.size ≤ gb540)); have n3_ := AK ((zG hg : w.heap.size ≤ gb540)); clear HB; have HB := n0_; have BK540 := n1_; have GW540 := n2_; have GE540 := n3_; clear n0_ n1_ n2_ n3_; clear hb hbox hg; have hcz11_0 : w10.cell? ⟨gb540, 0, none⟩ = some (.int .i64 a0_0) := (bcl BK540.out 0).trans rfl; have hcz11_1 : w10.cell? ⟨gb540, 1, none⟩ = some (.string a0_1) := (bcl BK540.out 1).trans rfl; have hcz11_2 : w10.cell? ⟨gb540, 2, none⟩ = some (.slice A0_2 l0_2.length c0_2) := (bcl BK540.out 2).trans rfl; have hfz11_0 := bfz BK540.out 0; have hfz11_1 := bfz BK540.out 1; have hfz11_2 := bfz BK540.out 2) | ((with_reducible refine gate_callee (f := 74) rfl ?_); refine goesL_ (some 15) rfl rfl Try.func74 (by kernel_rfl) rfl #[.slice A0_2 l0_2.length c0_2, .int .i64 (wrap64 (a1 - (a0_1.size : Int)))] rfl zI ?_; (with_reducible refine (laws_szIntS.calls _ _ l0_2 (wrap64 (a1 - (a0_1.size : Int))) t541 _ ?side1 ?side2 A6.out).mono ?_); (case side1 => repeat (first | exact (Kd.C_below HR0_2.out HB.out) | (with_reducible refine Kd.C_alloc ?_ _) | (with_reducible refine Kd.C_drewN ?_ _) | (with_reducible refine Kd.C_drew ?_))); (case side2 => exact HC0_2.out); rintro e w' ⟨rfl, ⟨nd, rfl⟩⟩; refine ⟨_, rfl, ?_⟩))
   go_ret
   exact ⟨by first | rfl | (simp [errW_none, errW_some] <;> rfl) | (simp [*, errW_none, errW_some] <;> rfl), zB⟩

/-! ### laws_szMemObjS: function 73 -/
def laws_szMemObjS.l0 : Nat → List (S72) → Int → Int → Option (Int)
 | 0, _, _, _ => none
 | k + 1, x0, x1, x5 => if x5 < (x0.length : Int) then (if 0 ≤ x5 then ((laws_szMemObj.f ((rd_T72 x0 x5).f0) ((rd_T72 x0 x5).f1) ((rd_T72 x0 x5).f2) x1).bind fun t543 => (if t543 < 0 then (some (-1)) else (laws_szMemObjS.l0 k x0 t543 (wrap64 (x5 + 1))))) else (none)) else (some x1)
def laws_szMemObjS.f (k : Nat) (l0 : List (S72)) (a1 : Int) : Option (Int) := if (wrap64 (a1 - (l0.length : Int))) < 0 then (some (-1)) else (laws_szMemObjS.l0 k l0 (wrap64 (a1 - (l0.length : Int))) 0)
set_option maxHeartbeats 8000000 in
set_option maxRecDepth 100000 in
theorem laws_szMemObjS.calls (k : Nat) (A0 : Option Addr) (c0 : Nat) (l0 : List (S72)) (a1 : Int) (r : Int) (w : World) (hr0 : Kd.C k72 w A0 l0.length l0) (hc0 : l0.length ≤ c0) (h : laws_szMemObjS.f k l0 a1 = some r) :
  Calls Try.prog 73 #[.slice A0 l0.length c0, .int .i64 a1] w fun e w' => e = .returned (.int .i64 r) ∧ Below w.heap.size w w' := by
 have hu72 := Try.underlying72
 have HR0 := AK hr0
 have HC0 := AK hc0
 clear hr0 hc0
 have HB := AK (Below.refl w.heap.size w)
 have H : (if (wrap64 (a1 - (l0.length : Int))) < 0 then (some (-1)) else (laws_szMemObjS.l0 k l0 (wrap64 (a1 - (l0.length : Int))) 0)) = some r := h
 clear h
 by_cases c3 : (wrap64 (a1 - (l0.length : Int))) < 0
 ·rw [if_pos c3] at H
  have c3b0 : decide ((wrap64 (a1 - (l0.length : Int))) < 0) = true := deT c3
  clear c3
  obtain rfl := Option.some.inj H
  go_enter Try.func73, Try.ntmps73
  go_wp2
  go_ret
  exact ⟨by first | rfl | (simp [errW_none, errW_some] <;> rfl) | (simp [*, errW_none, errW_some] <;> rfl), zB⟩
 ·rw [if_neg c3] at H
  have c3b0 : decide ((wrap64 (a1 - (l0.length : Int))) < 0) = false := deF c3
  clear c3
  have H' := AK H
  clear H
  go_enter Try.func73, Try.ntmps73
  go_wp2
  go_loopg [1, 5] k (fun kq v1 v5 w' => ∃ (x1_1 : Int) (x5_1 : Int), v1 = .int .i64 x1_1 ∧ v5 = .int .i64 x5_1 ∧ Aside0 (laws_szMemObjS.l0 kq l0 x1_1 x5_1 = some r) ∧ Aside0 (kq ≤ k) ∧ Aside0 (Below w.heap.size w w'))
  case atStart => exact ⟨(wrap64 (a1 - (l0.length : Int))), (0), (by first | rfl | (simp; done) | (simp [*]; done)), (by first | rfl | (simp; done) | (simp [*]; done)), H', ⟨Nat.le_refl _⟩, ⟨zB⟩⟩
  case round =>
   clear H'
   try clear p2
   try clear c3
   try clear c3b0
   obtain ⟨x1_1, x5_1, rfl, rfl, HA, HK1, HB⟩ := hrel
   cases gk with
   | zero => exact absurd HA.out (by simp [laws_szMemObjS.l0])
   | succ k1 =>
    have H := HA.out
    clear HA
    simp only [laws_szMemObjS.l0] at H
    by_cases c4 : x5_1 < (l0.length : Int)
    ·rw [if_pos c4] at H
     have c4b0 : decide (x5_1 < (l0.length : Int)) = true := deT c4
     clear c4
     by_cases c5 : 0 ≤ x5_1
     ·rw [if_pos c5] at H
      have c5b0 : decide (0 ≤ x5_1) = true := deT c5
      clear c5
      replace H := Option.bind_eq_some_iff.mp H
      obtain ⟨t543, A60, H⟩ := H
      replace H : (if t543 < 0 then (some (-1)) else (laws_szMemObjS.l0 k1 l0 t543 (wrap64 (x5_1 + 1)))) = some r := H
      have A6 := AK A60
      clear A60
      by_cases c7 : t543 < 0
      ·rw [if_pos c7] at H
       have c7b0 : decide (t543 < 0) = true := deT c7
       clear c7
       obtain rfl := Option.some.inj H
       have p542 : 0 ≤ (x5_1 : Int) := of_decide_eq_true zA
       have q542 : x5_1 < (l0.length : Int) := of_decide_eq_true zA
       obtain ⟨ad542, A542_2, c542_2, e542, hx542_0, hx542_1, hx542_2, hl542_2, hi542_2⟩ := at_T72 HR0.out x5_1 p542 q542
       cases e542
       replace hx542_0 := (HB.out.cell (World.block_lt_of_cell? w _ hx542_0)).trans hx542_0
       replace hx542_1 := (HB.out.cell (World.block_lt_of_cell? w _ hx542_1)).trans hx542_1
       replace hx542_2 := (HB.out.cell (World.block_lt_of_cell? w _ hx542_2)).trans hx542_2
       have HR542_2 := AK hi542_2
       have HC542_2 := AK hl542_2
       clear hi542_2 hl542_2
       replace p542 := eq_true p542
       replace q542 := eq_true q542
       go_wp2_with (first | ((with_reducible refine gate_callee (f := 108) rfl ?_); refine goesL_ (some 23) rfl rfl Try.func108 (by kernel_rfl) rfl #[.agg #[.int .i64 ((rd_T72 l0 x5_1).f0), .string ((rd_T72 l0 x5_1).f1), .slice A542_2 ((rd_T72 l0 x5_1).f2).length c542_2], .int .i64 x1_1] rfl zI ?_; (with_reducible refine (laws_szMemObj.calls ((rd_T72 l0 x5_1).f0) ((rd_T72 l0 x5_1).f1) _ _ ((rd_T72 l0 x5_1).f2) x1_1 t543 _ ?side1 ?side2 A6.out).mono ?_); (case side1 => repeat (first | exact (Kd.C_below HR542_2.out HB.out) | (with_reducible refine Kd.C_alloc ?_ _) | (with_reducible refine Kd.C_drewN ?_ _) | (with_reducible refine Kd.C_drew ?_))); (case side2 => exact HC542_2.out); rintro e w8 ⟨rfl, hb⟩; refine ⟨_, rfl, ?_⟩; have n0_ := AK (bst zB hb); clear HB; have HB := n0_; clear n0_; (try clear hb); (try clear hb2); (try clear hk); (try clear hi)))
       go_ret
       exact ⟨by first | rfl | (simp [errW_none, errW_some] <;> rfl) | (simp [*, errW_none, errW_some] <;> rfl), zB⟩
      ·rw [if_neg c7] at H
       have c7b0 : decide (t543 < 0) = false := deF c7
       clear c7
       have H' := AK H
       clear H
       have p542 : 0 ≤ (x5_1 : Int) := of_decide_eq_true zA
       have q542 : x5_1 < (l0.length : Int) := of_decide_eq_true zA
       obtain ⟨ad542, A542_2, c542_2, e542, hx542_0, hx542_1, hx542_2, hl542_2, hi542_2⟩ := at_T72 HR0.out x5_1 p542 q542
       cases e542
       replace hx542_0 := (HB.out.cell (World.block_lt_of_cell? w _ hx542_0)).trans hx542_0
       replace hx542_1 := (HB.out.cell (World.block_lt_of_cell? w _ hx542_1)).trans hx542_1
       replace hx542_2 := (HB.out.cell (World.block_lt_of_cell? w _ hx542_2)).trans hx542_2
       have HR542_2 := AK hi542_2
       have HC542_2 := AK hl542_2
       clear hi542_2 hl542_2
       replace p542 := eq_true p542
       replace q542 := eq_true q542
       go_wp2_with (first | ((with_reducible refine gate_callee (f := 108) rfl ?_); refine goesL_ (some 23) rfl rfl Try.func108 (by kernel_rfl) rfl #[.agg #[.int .i64 ((rd_T72 l0 x5_1).f0), .string ((rd_T72 l0 x5_1).f1), .slice A542_2 ((rd_T72 l0 x5_1).f2).length c542_2], .int .i64 x1_1] rfl zI ?_; (with_reducible refine (laws_szMemObj.calls ((rd_T72 l0 x5_1).f0) ((rd_T72 l0 x5_1).f1) _ _ ((rd_T72 l0 x5_1).f2) x1_1 t543 _ ?side1 ?side2 A6.out).mono ?_); (case side1 => repeat (first | exact (Kd.C_below HR542_2.out HB.out) | (with_reducible refine Kd.C_alloc ?_ _) | (with_reducible refine Kd.C_drewN ?_ _) | (with_reducible refine Kd.C_drew ?_))); (case side2 => exact HC542_2.out); rintro e w9 ⟨rfl, hb⟩; refine ⟨_, rfl, ?_⟩; have n0_ := AK (bst zB hb); clear HB; have HB := n0_; clear n0_; (try clear hb); (try clear hb2); (try clear hk); (try clear hi)))
       go_roundg k1
       case measure => have := HK1.out; omega
       case rel => exact ⟨(t543), (wrap64 (x5_1 + 1)), (by first | rfl | (simp; done) | (simp [*]; done)), (by first | rfl | (simp; done) | (simp [*]; done)), H', ⟨by have := HK1.out; omega⟩, ⟨zB⟩⟩
     ·rw [if_neg c5] at H
      exact absurd H (by simp)
    ·rw [if_neg c4] at H
     have c4b0 : decide (x5_1 < (l0.length : Int)) = false := deF c4
     clear c4
     obtain rfl := Option.some.inj H
     go_wp2
     go_ret
     exact ⟨by first | rfl | (simp [errW_none, errW_some] <;> rfl) | (simp [*, errW_none, errW_some] <;> rfl), zB⟩

/-! ### laws_szMemWatchS: function 75 -/
def laws_szMemWatchS.f (l0 : List (S126)) (a1 : Int) : Option (Int) := if (wrap64 (a1 - (l0.length : Int))) < 0 then (some (-1)) else (some (wrap64 (a1 - (l0.length : Int))))
set_option maxHeartbeats 8000000 in
set_option maxRecDepth 100000 in
theorem laws_szMemWatchS.calls (A0 : Option Addr) (c0 : Nat) (l0 : List (S126)) (a1 : Int) (r : Int) (w : World) (hr0 : Kd.C k126 w A0 l0.length l0) (hc0 : l0.length ≤ c0) (h : laws_szMemWatchS.f l0 a1 = some r) :
  Calls Try.prog 75 #[.slice A0 l0.length c0, .int .i64 a1] w fun e w' => e = .returned (.int .i64 r) ∧ Drawn0 w w' := by
 have HR0 := AK hr0
 have HC0 := AK hc0
 clear hr0 hc0
 have H : (if (wrap64 (a1 - (l0.length : Int))) < 0 then (some (-1)) else (some (wrap64 (a1 - (l0.length : Int))))) = some r := h
 clear h
 by_cases c3 : (wrap64 (a1 - (l0.length : Int))) < 0
 ·rw [if_pos c3] at H
  have c3b0 : decide ((wrap64 (a1 - (l0.length : Int))) < 0) = true := deT c3
  clear c3
  obtain rfl := Option.some.inj H
  go_enter Try.func75, Try.ntmps75
  go_wp2
  go_ret
  exact ⟨by first | rfl | (simp; done) | (simp [*]; done), by repeat (first | exact Drawn0.refl _ | apply Drawn0.step)⟩
 ·rw [if_neg c3] at H
  have c3b0 : decide ((wrap64 (a1 - (l0.length : Int))) < 0) = false := deF c3
  clear c3
  obtain rfl := Option.some.inj H
  go_enter Try.func75, Try.ntmps75
  go_wp2
  go_ret
  exact ⟨by first | rfl | (simp; done) | (simp [*]; done), by repeat (first | exact Drawn0.refl _ | apply Drawn0.step)⟩

/-! ### laws_szMemHeap: function 22 -/
def laws_szMemHeap.f (k : Nat) (l0_0 : List (S72)) (l0_1 : List Int) (l0_2 : List (S126)) (l0_3 : List (S126)) (a1 : Int) : Option (Int) := (laws_szMemObjS.f k l0_0 a1).bind fun t545 => (if t545 < 0 then (some (-1)) else ((laws_szIntS.f l0_1 t545).bind fun t546 => (if t546 < 0 then (some (-1)) else ((laws_szMemWatchS.f l0_2 t546).bind fun t547 => (if t547 < 0 then (some (-1)) else ((laws_szMemWatchS.f l0_3 t547).bind fun t548 => (if t548 < 0 then (some (-1)) else (some t548))))))))
set_option maxHeartbeats 8000000 in
set_option maxRecDepth 100000 in
theorem laws_szMemHeap.calls (k : Nat) (A0_0 : Option Addr) (c0_0 : Nat) (l0_0 : List (S72)) (A0_1 : Option Addr) (c0_1 : Nat) (l0_1 : List Int) (A0_2 : Option Addr) (c0_2 : Nat) (l0_2 : List (S126)) (A0_3 : Option Addr) (c0_3 : Nat) (l0_3 : List (S126)) (a1 : Int) (r : Int) (w : World) (hr0_0 : Kd.C k72 w A0_0 l0_0.length l0_0) (hc0_0 : l0_0.length ≤ c0_0) (hr0_1 : Kd.C (Kd.int .i64) w A0_1 l0_1.length l0_1) (hc0_1 : l0_1.length ≤ c0_1) (hr0_2 : Kd.C k126 w A0_2 l0_2.length l0_2) (hc0_2 : l0_2.length ≤ c0_2) (hr0_3 : Kd.C k126 w A0_3 l0_3.length l0_3) (hc0_3 : l0_3.length ≤ c0_3) (h : laws_szMemHeap.f k l0_0 l0_1 l0_2 l0_3 a1 = some r) :
  Calls Try.prog 22 #[.agg #[.slice A0_0 l0_0.length c0_0, .slice A0_1 l0_1.length c0_1, .slice A0_2 l0_2.length c0_2, .slice A0_3 l0_3.length c0_3], .int .i64 a1] w fun e w' => e = .returned (.int .i64 r) ∧ Below w.heap.size w w' := by
 have hu45 := Try.underlying45
 have HR0_0 := AK hr0_0
 have HC0_0 := AK hc0_0
 clear hr0_0 hc0_0
 have HR0_1 := AK hr0_1
 have HC0_1 := AK hc0_1
 clear hr0_1 hc0_1
 have HR0_2 := AK hr0_2
 have HC0_2 := AK hc0_2
 clear hr0_2 hc0_2
 have HR0_3 := AK hr0_3
 have HC0_3 := AK hc0_3
 clear hr0_3 hc0_3
 have HB := AK (Below.refl w.heap.size w)
 have H : ((laws_szMemObjS.f k l0_0 a1).bind fun t545 => (if t545 < 0 then (some (-1)) else ((laws_szIntS.f l0_1 t545).bind fun t546 => (if t546 < 0 then (some (-1)) else ((laws_szMemWatchS.f l0_2 t546).bind fun t547 => (if t547 < 0 then (some (-1)) else ((laws_szMemWatchS.f l0_3 t547).bind fun t548 => (if t548 < 0 then (some (-1)) else (some t548))))))))) = some r := h
 clear h
 replace H := Option.bind_eq_some_iff.mp H
 obtain ⟨t545, A30, H⟩ := H
 replace H : (if t545 < 0 then (some (-1)) else ((laws_szIntS.f l0_1 t545).bind fun t546 => (if t546 < 0 then (some (-1)) else ((laws_szMemWatchS.f l0_2 t546).bind fun t547 => (if t547 < 0 then (some (-1)) else ((laws_szMemWatchS.f l0_3 t547).bind fun t548 => (if t548 < 0 then (some (-1)) else (some t548)))))))) = some r := H
 have A3 := AK A30
 clear A30
 by_cases c4 : t545 < 0
 ·rw [if_pos c4] at H
  have c4b0 : decide (t545 < 0) = true := deT c4
  clear c4
  obtain rfl := Option.some.inj H
  go_enter Try.func22, Try.ntmps22
  go_wp2_with (first | ((with_reducible refine gate_dst (N := 2) rfl ?_); refine box_event ?hg (N := 2) ?hd (cs := #[.slice A0_0 l0_0.length c0_0, .slice A0_1 l0_1.length c0_1, .slice A0_2 l0_2.length c0_2, .slice A0_3 l0_3.length c0_3]) (t := 45) ?hr ?_; (case hd => rfl); (case hg => rfl); (case hr => first | (go_simp; done) | (go_simp; rfl)); intro gb544 hg w5 hbox hb; have n0_ := AK (bst zB hb); have n1_ := AK (hbox); have n2_ := AK ((zG hg : w.heap.size ≤ gb544)); have n3_ := AK ((zG hg : w.heap.size ≤ gb544)); clear HB; have HB := n0_; have BK544 := n1_; have GW544 := n2_; have GE544 := n3_; clear n0_ n1_ n2_ n3_; clear hb hbox hg; have hcz6_0 : w5.cell? ⟨gb544, 0, none⟩ = some (.slice A0_0 l0_0.length c0_0) := (bcl BK544.out 0).trans rfl; have hcz6_1 : w5.cell? ⟨gb544, 1, none⟩ = some (.slice A0_1 l0_1.length c0_1) := (bcl BK544.out 1).trans rfl; have hcz6_2 : w5.cell? ⟨gb544, 2, none⟩ = some (.slice A0_2 l0_2.length c0_2) := (bcl BK544.out 2).trans rfl; have hcz6_3 : w5.cell? ⟨gb544, 3, none⟩ = some (.slice A0_3 l0_3.length c0_3) := (bcl BK544.out 3).trans rfl; have hfz6_0 := bfz BK544.out 0; have hfz6_1 := bfz BK544.out 1; have hfz6_2 := bfz BK544.out 2; have hfz6_3 := bfz BK544.out 3) | ((with_reducible refine gate_callee (f := 73) rfl ?_); refine goesL_ (some 8) rfl rfl Try.func73 (by kernel_rfl) rfl #[.slice A0_0 l0_0.length c0_0, .int .i64 a1] rfl zI ?_; (with_reducible refine (laws_szMemObjS.calls k _ _ l0_0 a1 t545 _ ?side1 ?side2 A3.out).mono ?_); (case side1 => repeat (first | exact (Kd.C_below HR0_0.out HB.out) | (with_reducible refine Kd.C_alloc ?_ _) | (with_reducible refine Kd.C_drewN ?_ _) | (with_reducible refine Kd.C_drew ?_))); (case side2 => exact HC0_0.out); rintro e w7 ⟨rfl, hb⟩; refine ⟨_, rfl, ?_⟩; have n0_ := AK (bbl (zK BK544) hb); have n1_ := AK (bst zB hb); clear BK544; clear HB; have BK544 := n0_; have HB := n1_; clear n0_ n1_; (try clear hb); (try clear hb2); (try clear hk); (try clear hi)))
  go_ret
  exact ⟨by first | rfl | (simp [errW_none, errW_some] <;> rfl) | (simp [*, errW_none, errW_some] <;> rfl), zB⟩
 ·rw [if_neg c4] at H
  have c4b0 : decide (t545 < 0) = false := deF c4
  clear c4
  replace H := Option.bind_eq_some_iff.mp H
  obtain ⟨t546, A80, H⟩ := H
  replace H : (if t546 < 0 then (some (-1)) else ((laws_szMemWatchS.f l0_2 t546).bind fun t547 => (if t547 < 0 then (some (-1)) else ((laws_szMemWatchS.f l0_3 t547).bind fun t548 => (if t548 < 0 then (some (-1)) else (some t548)))))) = some r := H
  have A8 := AK A80
  clear A80
  by_cases c9 : t546 < 0
  ·rw [if_pos c9] at H
   have c9b0 : decide (t546 < 0) = true := deT c9
   clear c9
   obtain rfl := Option.some.inj H
   go_enter Try.func22, Try.ntmps22
   go_wp2_with (first | ((with_reducible refine gate_dst (N := 2) rfl ?_); refine box_event ?hg (N := 2) ?hd (cs := #[.slice A0_0 l0_0.length c0_0, .slice A0_1 l0_1.length c0_1, .slice A0_2 l0_2.length c0_2, .slice A0_3 l0_3.length c0_3]) (t := 45) ?hr ?_; (case hd => rfl); (case hg => rfl); (case hr => first | (go_simp; done) | (go_simp; rfl)); intro gb544 hg w10 hbox hb; have n0_ := AK (bst zB hb); have n1_ := AK (hbox); have n2_ := AK ((zG hg : w.heap.size ≤ gb544)); have n3_ := AK ((zG hg : w.heap.size ≤ gb544)); clear HB; have HB := n0_; have BK544 := n1_; have GW544 := n2_; have GE544 := n3_; clear n0_ n1_ n2_ n3_; clear hb hbox hg; have hcz11_0 : w10.cell? ⟨gb544, 0, none⟩ = some (.slice A0_0 l0_0.length c0_0) := (bcl BK544.out 0).trans rfl; have hcz11_1 : w10.cell? ⟨gb544, 1, none⟩ = some (.slice A0_1 l0_1.length c0_1) := (bcl BK544.out 1).trans rfl; have hcz11_2 : w10.cell? ⟨gb544, 2, none⟩ = some (.slice A0_2 l0_2.length c0_2) := (bcl BK544.out 2).trans rfl; have hcz11_3 : w10.cell? ⟨gb544, 3, none⟩ = some (.slice A0_3 l0_3.length c0_3) := (bcl BK544.out 3).trans rfl; have hfz11_0 := bfz BK544.out 0; have hfz11_1 := bfz BK544.out 1; have hfz11_2 := bfz BK544.out 2; have hfz11_3 := bfz BK544.out 3) | ((with_reducible refine gate_callee (f := 73) rfl ?_); refine goesL_ (some 8) rfl rfl Try.func73 (by kernel_rfl) rfl #[.slice A0_0 l0_0.length c0_0, .int .i64 a1] rfl zI ?_; (with_reducible refine (laws_szMemObjS.calls k _ _ l0_0 a1 t545 _ ?side1 ?side2 A3.out).mono ?_); (case side1 => repeat (first | exact (Kd.C_below HR0_0.out HB.out) | (with_reducible refine Kd.C_alloc ?_ _) | (with_reducible refine Kd.C_drewN ?_ _) | (with_reducible refine Kd.C_drew ?_))); (case side2 => exact HC0_0.out); rintro e w12 ⟨rfl, hb⟩; refine ⟨_, rfl, ?_⟩; have n0_ := AK (bbl (zK BK544) hb); have n1_ := AK (bst zB hb); clear BK544; clear HB; have BK544 := n0_; have HB := n1_; clear n0_ n1_; (try clear hb); (try clear hb2); (try clear hk); (try clear hi); have hcz13_0 : w12.cell? ⟨gb544, 0, none⟩ = some (.slice A0_0 l0_0.length c0_0) := (bcl BK544.out 0).trans rfl; have hcz13_1 : w12.cell? ⟨gb544, 1, none⟩ = some (.slice A0_1 l0_1.length c0_1) := (bcl BK544.out 1).trans rfl; have hcz13_2 : w12.cell? ⟨gb544, 2, none⟩ = some (.slice A0_2 l0_2.length c0_2) := (bcl BK544.out 2).trans rfl; have hcz13_3 : w12.cell? ⟨gb544, 3, none⟩ = some (.slice A0_3 l0_3.length c0_3) := (bcl BK544.out 3).trans rfl; have hfz13_0 := bfz BK544.out 0; have hfz13_1 := bfz BK544.out 1; have hfz13_2 := bfz BK544.out 2; have hfz13_3 := bfz BK544.out 3) | ((with_reducible refine gate_callee (f := 74) rfl ?_); refine goesL_ (some 14) rfl rfl Try.func74 (by kernel_rfl) rfl #[.slice A0_1 l0_1.length c0_1, .int .i64 t545] rfl zI ?_; (with_reducible refine (laws_szIntS.calls _ _ l0_1 t545 t546 _ ?side1 ?side2 A8.out).mono ?_); (case side1 => repeat (first | exact (Kd.C_below HR0_1.out HB.out) | (with_reducible refine Kd.C_alloc ?_ _) | (with_reducible refine Kd.C_drewN ?_ _) | (with_reducible refine Kd.C_drew ?_))); (case side2 => exact HC0_1.out); rintro e w' ⟨rfl, ⟨nd, rfl⟩⟩; refine ⟨_, rfl, ?_⟩))
   go_ret
   exact ⟨by first | rfl | (simp [errW_none, errW_some] <;> rfl) | (simp [*, errW_none, errW_some] <;> rfl), zB⟩
  ·rw [if_neg c9] at H
   have c9b0 : decide (t546 < 0) = false := deF c9
   clear c9
   replace H := Option.bind_eq_some_iff.mp H
   obtain ⟨t547, A140, H⟩ := H
   replace H : (if t547 < 0 then (some (-1)) else ((laws_szMemWatchS.f l0_3 t547).bind fun t548 => (if t548 < 0 then (some (-1)) else (some t548)))) = some r := H
   have A14 := AK A140
   clear A140
   by_cases c15 : t547 < 0
   ·rw [if_pos c15] at H
    have c15b0 : decide (t547 < 0) = true := deT c15
    clear c15
    obtain rfl := Option.some.inj H
    go_enter Try.func22, Try.ntmps22
    go_wp2_with (first | ((with_reducible refine gate_dst (N := 2) rfl ?_); refine box_event ?hg (N := 2) ?hd (cs := #[.slice A0_0 l0_0.length c0_0, .slice A0_1 l0_1.length c0_1, .slice A0_2 l0_2.length c0_2, .slice A0_3 l0_3.length c0_3]) (t := 45) ?hr ?_; (case hd => rfl); (case hg => rfl); (case hr => first | (go_simp; done) | (go_simp; rfl)); intro gb544 hg w16 hbox hb; have n0_ := AK (bst zB hb); have n1_ := AK (hbox); have n2_ := AK ((zG hg : w.heap.size ≤ gb544)); have n3_ := AK ((zG hg : w.heap.size ≤ gb544)); clear HB; have HB := n0_; have BK544 := n1_; have GW544 := n2_; have GE544 := n3_; clear n0_ n1_ n2_ n3_; clear hb hbox hg; have hcz17_0 : w16.cell? ⟨gb544, 0, none⟩ = some (.slice A0_0 l0_0.length c0_0) := (bcl BK544.out 0).trans rfl; have hcz17_1 : w16.cell? ⟨gb544, 1, none⟩ = some (.slice A0_1 l0_1.length c0_1) := (bcl BK544.out 1).trans rfl; have hcz17_2 : w16.cell? ⟨gb544, 2, none⟩ = some (.slice A0_2 l0_2.length c0_2) := (bcl BK544.out 2).trans rfl; have hcz17_3 : w16.cell? ⟨gb544, 3, none⟩ = some (.slice A0_3 l0_3.length c0_3) := (bcl BK544.out 3).trans rfl; have hfz17_0 := bfz BK544.out 0; have hfz17_1 := bfz BK544.out 1; have hfz17_2 := bfz BK544.out 2; have hfz17_3 := bfz BK544.out 3) | ((with_reducible refine gate_callee (f := 73) rfl ?_); refine goesL_ (some 8) rfl rfl Try.func73 (by kernel_rfl) rfl #[.slice A0_0 l0_0.length c0_0, .int .i64 a1] rfl zI ?_; (with_reducible refine (laws_szMemObjS.calls k _ _ l0_0 a1 t545 _ ?side1 ?side2 A3.out).mono ?_); (case side1 => repeat (first | exact (Kd.C_below HR0_0.out HB.out) | (with_reducible refine Kd.C_alloc ?_ _) | (with_reducible refine Kd.C_drewN ?_ _) | (with_reducible refine Kd.C_drew ?_))); (case side2 => exact HC0_0.out); rintro e w18 ⟨rfl, hb⟩; refine ⟨_, rfl, ?_⟩; have n0_ := AK (bbl (zK BK544) hb); have n1_ := AK (bst zB hb); clear BK544; clear HB; have BK544 := n0_; have HB := n1_; clear n0_ n1_; (try clear hb); (try clear hb2); (try clear hk); (try clear hi); have hcz19_0 : w18.cell? ⟨gb544, 0, none⟩ = some (.slice A0_0 l0_0.length c0_0) := (bcl BK544.out 0).trans rfl; have hcz19_1 : w18.cell? ⟨gb544, 1, none⟩ = some (.slice A0_1 l0_1.length c0_1) := (bcl BK544.out 1).trans rfl; have hcz19_2 : w18.cell? ⟨gb544, 2, none⟩ = some (.slice A0_2 l0_2.length c0_2) := (bcl BK544.out 2).trans rfl; have hcz19_3 : w18.cell? ⟨gb544, 3, none⟩ = some (.slice A0_3 l0_3.length c0_3) := (bcl BK544.out 3).trans rfl; have hfz19_0 := bfz BK544.out 0; have hfz19_1 := bfz BK544.out 1; have hfz19_2 := bfz BK544.out 2; have hfz19_3 := bfz BK544.out 3) | ((with_reducible refine gate_callee (f := 74) rfl ?_); refine goesL_ (some 14) rfl rfl Try.func74 (by kernel_rfl) rfl #[.slice A0_1 l0_1.length c0_1, .int .i64 t545] rfl zI ?_; (with_reducible refine (laws_szIntS.calls _ _ l0_1 t545 t546 _ ?side1 ?side2 A8.out).mono ?_); (case side1 => repeat (first | exact (Kd.C_below HR0_1.out HB.out) | (with_reducible refine Kd.C_alloc ?_ _) | (with_reducible refine Kd.C_drewN ?_ _) | (with_reducible refine Kd.C_drew ?_))); (case side2 => exact HC0_1.out); rintro e w' ⟨rfl, ⟨nd, rfl⟩⟩; refine ⟨_, rfl, ?_⟩) | ((with_reducible refine gate_callee (f := 75) rfl ?_); refine goesL_ (some 20) rfl rfl Try.func75 (by kernel_rfl) rfl #[.slice A0_2 l0_2.length c0_2, .int .i64 t546] rfl zI ?_; (with_reducible refine (laws_szMemWatchS.calls _ _ l0_2 t546 t547 _ ?side1 ?side2 A14.out).mono ?_); (case side1 => repeat (first | exact (Kd.C_below HR0_2.out zB) | (with_reducible refine Kd.C_alloc ?_ _) | (with_reducible refine Kd.C_drewN ?_ _) | (with_reducible refine Kd.C_drew ?_))); (case side2 => exact HC0_2.out); rintro e w' ⟨rfl, ⟨nd, rfl⟩⟩; refine ⟨_, rfl, ?_⟩))
    go_ret
    exact ⟨by first | rfl | (simp [errW_none, errW_some] <;> rfl) | (simp [*, errW_none, errW_some] <;> rfl), zB⟩
   ·rw [if_neg c15] at H
    have c15b0 : decide (t547 < 0) = false := deF c15
    clear c15
    replace H := Option.bind_eq_some_iff.mp H
    obtain ⟨t548, A200, H⟩ := H
    replace H : (if t548 < 0 then (some (-1)) else (some t548)) = some r := H
    have A20 := AK A200
    clear A200
    by_cases c21 : t548 < 0
    ·rw [if_pos c21] at H
     have c21b0 : decide (t548 < 0) = true := deT c21
     clear c21
     obtain rfl := Option.some.inj H
     go_enter Try.func22, Try.ntmps22
     go_wp2_with (first | ((with_reducible refine gate_dst (N := 2) rfl ?_); refine box_event ?hg (N := 2) ?hd (cs := #[.slice A0_0 l0_0.length c0_0, .slice A0_1 l0_1.length c0_1, .slice A0_2 l0_2.length c0_2, .slice A0_3 l0_3.length c0_3]) (t := 45) ?hr ?_; (case hd => rfl); (case hg => rfl); (case hr => first | (go_simp; done) | (go_simp; rfl)); intro gb544 hg w22 hbox hb; have n0_ := AK (bst zB hb); have n1_ := AK (hbox); have n2_ := AK ((zG hg : w.heap.size ≤ gb544)); have n3_ := AK ((zG hg : w.heap.size ≤ gb544)); clear HB; have HB := n0_; have BK544 := n1_; have GW544 := n2_; have GE544 := n3_; clear n0_ n1_ n2_ n3_; clear hb hbox hg; have hcz23_0 : w22.cell? ⟨gb544, 0, none⟩ = some (.slice A0_0 l0_0.length c0_0) := (bcl BK544.out 0).trans rfl; have hcz23_1 : w22.cell? ⟨gb544, 1, none⟩ = some (.slice A0_1 l0_1.length c0_1) := (bcl BK544.out 1).trans rfl; have hcz23_2 : w22.cell? ⟨gb544, 2, none⟩ = some (.slice A0_2 l0_2.length c0_2) := (bcl BK544.out 2).trans rfl; have hcz23_3 : w22.cell? ⟨gb544, 3, none⟩ = some (.slice A0_3 l0_3.length c0_3) := (bcl BK544.out 3).trans rfl; have hfz23_0 := bfz BK544.out 0; have hfz23_1 := bfz BK544.out 1; have hfz23_2 := bfz BK544.out 2; have hfz23_3 := bfz BK544.out 3) | ((with_reducible refine gate_callee (f := 73) rfl ?_); refine goesL_ (some 8) rfl rfl Try.func73 (by kernel_rfl) rfl #[.slice A0_0 l0_0.length c0_0, .int .i64 a1] rfl zI ?_; (with_reducible refine (laws_szMemObjS.calls k _ _ l0_0 a1 t545 _ ?side1 ?side2 A3.out).mono ?_); (case side1 => repeat (first | exact (Kd.C_below HR0_0.out HB.out) | (with_reducible refine Kd.C_alloc ?_ _) | (with_reducible refine Kd.C_drewN ?_ _) | (with_reducible refine Kd.C_drew ?_))); (case side2 => exact HC0_0.out); rintro e w24 ⟨rfl, hb⟩; refine ⟨_, rfl, ?_⟩; have n0_ := AK (bbl (zK BK544) hb); have n1_ := AK (bst zB hb); clear BK544; clear HB; have BK544 := n0_; have HB := n1_; clear n0_ n1_; (try clear hb); (try clear hb2); (try clear hk); (try clear hi); have hcz25_0 : w24.cell? ⟨gb544, 0, none⟩ = some (.slice A0_0 l0_0.length c0_0) := (bcl BK544.out 0).trans rfl; have hcz25_1 : w24.cell? ⟨gb544, 1, none⟩ = some (.slice A0_1 l0_1.length c0_1) := (bcl BK544.out 1).trans rfl; have hcz25_2 : w24.cell? ⟨gb544, 2, none⟩ = some (.slice A0_2 l0_2.length c0_2) := (bcl BK544.out 2).trans rfl; have hcz25_3 : w24.cell? ⟨gb544, 3, none⟩ = some (.slice A0_3 l0_3.length c0_3) := (bcl BK544.out 3).trans rfl; have hfz25_0 := bfz BK544.out 0; have hfz25_1 := bfz BK544.out 1; have hfz25_2 := bfz BK544.out 2; have hfz25_3 := bfz BK544.out 3) | ((with_reducible refine gate_callee (f := 74) rfl ?_); refine goesL_ (some 14) rfl rfl Try.func74 (by kernel_rfl) rfl #[.slice A0_1 l0_1.length c0_1, .int .i64 t545] rfl zI ?_; (with_reducible refine (laws_szIntS.calls _ _ l0_1 t545 t546 _ ?side1 ?side2 A8.out).mono ?_); (case side1 => repeat (first | exact (Kd.C_below HR0_1.out HB.out) | (with_reducible refine Kd.C_alloc ?_ _) | (with_reducible refine Kd.C_drewN ?_ _) | (with_reducible refine Kd.C_drew ?_))); (case side2 => exact HC0_1.out); rintro e w' ⟨rfl, ⟨nd, rfl⟩⟩; refine ⟨_, rfl, ?_⟩) | ((with_reducible refine gate_callee (f := 75) rfl ?_); refine goesL_ (some 20) rfl rfl Try.func75 (by kernel_rfl) rfl #[.slice A0_2 l0_2.length c0_2, .int .i64 t546] rfl zI ?_; (with_reducible refine (laws_szMemWatchS.calls _ _ l0_2 t546 t547 _ ?side1 ?side2 A14.out).mono ?_); (case side1 => repeat (first | exact (Kd.C_below HR0_2.out zB) | (with_reducible refine Kd.C_alloc ?_ _) | (with_reducible refine Kd.C_drewN ?_ _) | (with_reducible refine Kd.C_drew ?_))); (case side2 => exact HC0_2.out); rintro e w' ⟨rfl, ⟨nd, rfl⟩⟩; refine ⟨_, rfl, ?_⟩) | ((with_reducible refine gate_callee (f := 75) rfl ?_); refine goesL_ (some 26) rfl rfl Try.func75 (by kernel_rfl) rfl #[.slice A0_3 l0_3.length c0_3, .int .i64 t547] rfl zI ?_; (with_reducible refine (laws_szMemWatchS.calls _ _ l0_3 t547 t548 _ ?side1 ?side2 A20.out).mono ?_); (case side1 => repeat (first | exact (Kd.C_below HR0_3.out zB) | (with_reducible refine Kd.C_alloc ?_ _) | (with_reducible refine Kd.C_drewN ?_ _) | (with_reducible refine Kd.C_drew ?_))); (case side2 => exact HC0_3.out); rintro e w' ⟨rfl, ⟨nd, rfl⟩⟩; refine ⟨_, rfl, ?_⟩))
     go_ret
     exact ⟨by first | rfl | (simp [errW_none, errW_some] <;> rfl) | (simp [*, errW_none, errW_some] <;> rfl), zB⟩
    ·rw [if_neg c21] at H
     have c21b0 : decide (t548 < 0) = false := deF c21
     clear c21
     obtain rfl := Option.some.inj H
     go_enter Try.func22, Try.ntmps22
     go_wp2_with (first | ((with_reducible refine gate_dst (N := 2) rfl ?_); refine box_event ?hg (N := 2) ?hd (cs := #[.slice A0_0 l0_0.length c0_0, .slice A0_1 l0_1.length c0_1, .slice A0_2 l0_2.length c0_2, .slice A0_3 l0_3.length c0_3]) (t := 45) ?hr ?_; (case hd => rfl); (case hg => rfl); (case hr => first | (go_simp; done) | (go_simp; rfl)); intro gb544 hg w26 hbox hb; have n0_ := AK (bst zB hb); have n1_ := AK (hbox); have n2_ := AK ((zG hg : w.heap.size ≤ gb544)); have n3_ := AK ((zG hg : w.heap.size ≤ gb544)); clear HB; have HB := n0_; have BK544 := n1_; have GW544 := n2_; have GE544 := n3_; clear n0_ n1_ n2_ n3_; clear hb hbox hg; have hcz27_0 : w26.cell? ⟨gb544, 0, none⟩ = some (.slice A0_0 l0_0.length c0_0) := (bcl BK544.out 0).trans rfl; have hcz27_1 : w26.cell? ⟨gb544, 1, none⟩ = some (.slice A0_1 l0_1.length c0_1) := (bcl BK544.out 1).trans rfl; have hcz27_2 : w26.cell? ⟨gb544, 2, none⟩ = some (.slice A0_2 l0_2.length c0_2) := (bcl BK544.out 2).trans rfl; have hcz27_3 : w26.cell? ⟨gb544, 3, none⟩ = some (.slice A0_3 l0_3.length c0_3) := (bcl BK544.out 3).trans rfl; have hfz27_0 := bfz BK544.out 0; have hfz27_1 := bfz BK544.out 1; have hfz27_2 := bfz BK544.out 2; have hfz27_3 := bfz BK544.out 3) | ((with_reducible refine gate_callee (f := 73) rfl ?_); refine goesL_ (some 8) rfl rfl Try.func73 (by kernel_rfl) rfl #[.slice A0_0 l0_0.length c0_0, .int .i64 a1] rfl zI ?_; (with_reducible refine (laws_szMemObjS.calls k _ _ l0_0 a1 t545 _ ?side1 ?side2 A3.out).mono ?_); (case side1 => repeat (first | exact (Kd.C_below HR0_0.out HB.out) | (with_reducible refine Kd.C_alloc ?_ _) | (with_reducible refine Kd.C_drewN ?_ _) | (with_reducible refine Kd.C_drew ?_))); (case side2 => exact HC0_0.out); rintro e w28 ⟨rfl, hb⟩; refine ⟨_, rfl, ?_⟩; have n0_ := AK (bbl (zK BK544) hb); have n1_ := AK (bst zB hb); clear BK544; clear HB; have BK544 := n0_; have HB := n1_; clear n0_ n1_; (try clear hb); (try clear hb2); (try clear hk); (try clear hi); have hcz29_0 : w28.cell? ⟨gb544, 0, none⟩ = some (.slice A0_0 l0_0.length c0_0) := (bcl BK544.out 0).trans rfl; have hcz29_1 : w28.cell? ⟨gb544, 1, none⟩ = some (.slice A0_1 l0_1.length c0_1) := (bcl BK544.out 1).trans rfl; have hcz29_2 : w28.cell? ⟨gb544, 2, none⟩ = some (.slice A0_2 l0_2.length c0_2) := (bcl BK544.out 2).trans rfl; have hcz29_3 : w28.cell? ⟨gb544, 3, none⟩ = some (.slice A0_3 l0_3.length c0_3) := (bcl BK544.out 3).trans rfl; have hfz29_0 := bfz BK544.out 0; have hfz29_1 := bfz BK544.out 1; have hfz29_2 := bfz BK544.out 2; have hfz29_3 := bfz BK544.out 3) | ((with_reducible refine gate_callee (f := 74) rfl ?_); refine goesL_ (some 14) rfl rfl Try.func74 (by kernel_rfl) rfl #[.slice A0_1 l0_1.length c0_1, .int .i64 t545] rfl zI ?_; (with_reducible refine (laws_szIntS.calls _ _ l0_1 t545 t546 _ ?side1 ?side2 A8.out).mono ?_); (case side1 => repeat (first | exact (Kd.C_below HR0_1.out HB.out) | (with_reducible refine Kd.C_alloc ?_ _) | (with_reducible refine Kd.C_drewN ?_ _) | (with_reducible refine Kd.C_drew ?_))); (case side2 => exact HC0_1.out); rintro e w' ⟨rfl, ⟨nd, rfl⟩⟩; refine ⟨_, rfl, ?_⟩) | ((with_reducible refine gate_callee (f := 75) rfl ?_); refine goesL_ (some 20) rfl rfl Try.func75 (by kernel_rfl) rfl #[.slice A0_2 l0_2.length c0_2, .int .i64 t546] rfl zI ?_; (with_reducible refine (laws_szMemWatchS.calls _ _ l0_2 t546 t547 _ ?side1 ?side2 A14.out).mono ?_); (case side1 => repeat (first | exact (Kd.C_below HR0_2.out zB) | (with_reducible refine Kd.C_alloc ?_ _) | (with_reducible refine Kd.C_drewN ?_ _) | (with_reducible refine Kd.C_drew ?_))); (case side2 => exact HC0_2.out); rintro e w' ⟨rfl, ⟨nd, rfl⟩⟩; refine ⟨_, rfl, ?_⟩) | ((with_reducible refine gate_callee (f := 75) rfl ?_); refine goesL_ (some 26) rfl rfl Try.func75 (by kernel_rfl) rfl #[.slice A0_3 l0_3.length c0_3, .int .i64 t547] rfl zI ?_; (with_reducible refine (laws_szMemWatchS.calls _ _ l0_3 t547 t548 _ ?side1 ?side2 A20.out).mono ?_); (case side1 => repeat (first | exact (Kd.C_below HR0_3.out zB) | (with_reducible refine Kd.C_alloc ?_ _) | (with_reducible refine Kd.C_drewN ?_ _) | (with_reducible refine Kd.C_drew ?_))); (case side2 => exact HC0_3.out); rintro e w' ⟨rfl, ⟨nd, rfl⟩⟩; refine ⟨_, rfl, ?_⟩))
     go_ret
     exact ⟨by first | rfl | (simp [errW_none, errW_some] <;> rfl) | (simp [*, errW_none, errW_some] <;> rfl), zB⟩

/-! ### laws_szMemEvent: function 49 -/
/-! ### laws_szMemEventS: function 53 -/
end Go.Proofs.Ytigjhfijkdlldaa.Q
