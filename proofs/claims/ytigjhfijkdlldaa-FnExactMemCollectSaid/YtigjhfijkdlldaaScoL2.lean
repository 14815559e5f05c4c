-- Made by a program of this session (wip/prt.sh, wip/fakes.py, wip/post.py) that calls the kit's print.py and packs what it wrote.
import Derived.Test.YtigjhfijkdlldaaScoT
import Derived.Test.YtigjhfijkdlldaaScoL1
namespace Go.Proofs.Ytigjhfijkdlldaa.Q
open Go.RowKit Go.Proofs.YtigjhfijkdlldaaW.PrintWords Go.Proofs.YtigjhfijkdlldaaW.PrintLast Go.Proofs.YtigjhfijkdlldaaW.PrintMore
attribute [local go_sem] max2_int min2_int max_two min_two max_three min_three max_four min_four
set_option linter.unusedVariables false
set_option linter.unusedSimpArgs false

/-! ### spec_l2At: function 96 -/
def spec_l2At.l0 : Nat → List Int → Int → Int → Option (Int)
 | 0, _, _, _ => none
 | k + 1, x0, x1, x5 => if x5 < (x0.length : Int) then (if 0 ≤ x5 then (if (rd x0 x5) = x1 then (some x5) else (spec_l2At.l0 k x0 x1 (wrap64 (x5 + 1)))) else (none)) else (some (-1))
def spec_l2At.f (k : Nat) (l0 : List Int) (a1 : Int) : Option (Int) := spec_l2At.l0 k l0 a1 0
set_option maxHeartbeats 8000000 in
set_option maxRecDepth 100000 in
theorem spec_l2At.calls (k : Nat) (A0 : Option Addr) (c0 : Nat) (l0 : List Int) (a1 : Int) (r : Int) (w : World) (hr0 : Kd.C (Kd.int .i64) w A0 l0.length l0) (hc0 : l0.length ≤ c0) (h : spec_l2At.f k l0 a1 = some r) :
  Calls Try.prog 96 #[.slice A0 l0.length c0, .int .i64 a1] w fun e w' => e = .returned (.int .i64 r) ∧ Drawn0 w w' := by
 have HR0 := AK hr0
 have HC0 := AK hc0
 clear hr0 hc0
 have H : (spec_l2At.l0 k l0 a1 0) = some r := h
 clear h
 have H' := AK H
 clear H
 go_enter Try.func96, Try.ntmps96
 go_wp2
 go_loopg [5] k (fun kq v5 w' => ∃ (x5_1 : Int), v5 = .int .i64 x5_1 ∧ Aside0 (spec_l2At.l0 kq l0 a1 x5_1 = some r) ∧ Aside0 (kq ≤ k) ∧ Drawn0 w w')
 case atStart => exact ⟨(0), (by first | rfl | (simp; done) | (simp [*]; done)), H', ⟨Nat.le_refl _⟩, by repeat (first | exact Drawn0.refl _ | apply Drawn0.step)⟩
 case round =>
  clear H'
  try clear p2
  obtain ⟨x5_1, rfl, HA, HK1, ⟨m1, rfl⟩⟩ := hrel
  cases gk with
  | zero => exact absurd HA.out (by simp [spec_l2At.l0])
  | succ k1 =>
   have H := HA.out
   clear HA
   simp only [spec_l2At.l0] at H
   by_cases c3 : x5_1 < (l0.length : Int)
   ·rw [if_pos c3] at H
    have c3b0 : decide (x5_1 < (l0.length : Int)) = true := deT c3
    clear c3
    by_cases c4 : 0 ≤ x5_1
    ·rw [if_pos c4] at H
     have c4b0 : decide (0 ≤ x5_1) = true := deT c4
     clear c4
     by_cases c5 : (rd l0 x5_1) = a1
     ·rw [if_pos c5] at H
      have c5b0 : ((rd l0 x5_1) == a1) = true := beq_iff_eq.mpr c5
      have c5b1 : ((rd l0 x5_1) != a1) = false := bne_eq_false_iff_eq.mpr c5
      clear c5
      obtain rfl := Option.some.inj H
      have p445 : 0 ≤ (x5_1 : Int) := of_decide_eq_true zA
      have q445 : x5_1 < (l0.length : Int) := of_decide_eq_true zA
      obtain ⟨ad445, e445, hx445_0⟩ := Kd.at_int HR0.out x5_1 p445 q445
      cases e445
      replace p445 := eq_true p445
      replace q445 := eq_true q445
      go_wp2
      go_ret
      exact ⟨by first | rfl | (simp; done) | (simp [*]; done), by repeat (first | exact Drawn0.refl _ | apply Drawn0.step)⟩
     ·rw [if_neg c5] at H
      have c5b0 : ((rd l0 x5_1) == a1) = false := beq_eq_false_iff_ne.mpr c5
      have c5b1 : ((rd l0 x5_1) != a1) = true := bne_iff_ne.mpr c5
      have H' := AK H
      clear H
      have p445 : 0 ≤ (x5_1 : Int) := of_decide_eq_true zA
      have q445 : x5_1 < (l0.length : Int) := of_decide_eq_true zA
      obtain ⟨ad445, e445, hx445_0⟩ := Kd.at_int HR0.out x5_1 p445 q445
      cases e445
      replace p445 := eq_true p445
      replace q445 := eq_true q445
      go_wp2
      go_roundg k1
      case measure => have := HK1.out; omega
      case rel => exact ⟨(wrap64 (x5_1 + 1)), (by first | rfl | (simp; done) | (simp [*]; done)), H', ⟨by have := HK1.out; omega⟩, by repeat (first | exact Drawn0.refl _ | apply Drawn0.step)⟩
    ·rw [if_neg c4] at H
     exact absurd H (by simp)
   ·rw [if_neg c3] at H
    have c3b0 : decide (x5_1 < (l0.length : Int)) = false := deF c3
    clear c3
    obtain rfl := Option.some.inj H
    go_wp2
    go_ret
    exact ⟨by first | rfl | (simp; done) | (simp [*]; done), by repeat (first | exact Drawn0.refl _ | apply Drawn0.step)⟩

/-! ### spec_l2Put: function 117 -/
def spec_l2Put.f (k : Nat) (l0 : List Int) (a1 : Int) : Option (List Int) := if a1 < 0 then (some l0) else ((spec_l2At.f k l0 a1).bind fun t446 => (if t446 ≥ 0 then (some l0) else (if l0.length < 17592186044416 then (some (l0 ++ [a1])) else (none))))
set_option maxHeartbeats 8000000 in
set_option maxRecDepth 100000 in
theorem spec_l2Put.calls (k : Nat) (P0_ : Nat → Prop) (u9000_ : Value) (l0 : List Int) (a1 : Int) (r : List Int) (w0 w : World) (hB : Below w0.heap.size w0 w) (ho0 : Kd.R (Kd.int .i64) 3 w w0.heap.size P0_ u9000_ l0) (h : spec_l2Put.f k l0 a1 = some r) :
  Calls Try.prog 117 #[u9000_, .int .i64 a1] w fun e w' => ∃ v0_ : Value, e = .returned (v0_) ∧ Kd.R (Kd.int .i64) 3 w' w0.heap.size (fun k_ => (P0_ k_ ∨ w.heap.size ≤ k_)) v0_ r ∧ Below w0.heap.size w0 w' ∧ Kept w w' (fun k_ => P0_ k_) := by
 have HO0 := AK (show Kd.R (Kd.int .i64) 3 w w0.heap.size (fun k_ => (P0_ k_ ∨ w.heap.size ≤ k_)) u9000_ l0 from Kd.R_mono ho0 (fun k_ hk => (.inl hk)))
 have HK := AK (Kept.refl w (fun k_ => P0_ k_))
 have HW0 := AK hB.size
 have HB := AK hB
 clear hB
 have H : (if a1 < 0 then (some l0) else ((spec_l2At.f k l0 a1).bind fun t446 => (if t446 ≥ 0 then (some l0) else (if l0.length < 17592186044416 then (some (l0 ++ [a1])) else (none))))) = some r := h
 clear h
 by_cases c3 : a1 < 0
 ·rw [if_pos c3] at H
  have c3b0 : decide (a1 < 0) = true := deT c3
  clear c3
  obtain rfl := Option.some.inj H
  go_enter Try.func117, Try.ntmps117
  go_wp2
  go_ret
  exact ⟨_, by first | rfl | (simp [errW_none, errW_some] <;> rfl) | (simp [*, errW_none, errW_some] <;> rfl), by (with_reducible repeat (first | apply Kd.R_alloc | apply Kd.R_drewN | apply Kd.R_drew)); exact HO0.out, zB, by repeat (first | (with_reducible first | exact HK.out | apply Kept.alloc | apply Kept.drewN | apply Kept.drew) | exact HK.out)⟩
 ·rw [if_neg c3] at H
  have c3b0 : decide (a1 < 0) = false := deF c3
  clear c3
  replace H := Option.bind_eq_some_iff.mp H
  obtain ⟨t446, A40, H⟩ := H
  replace H : (if t446 ≥ 0 then (some l0) else (if l0.length < 17592186044416 then (some (l0 ++ [a1])) else (none))) = some r := H
  have A4 := AK A40
  clear A40
  by_cases c5 : t446 ≥ 0
  ·rw [if_pos c5] at H
   have c5b0 : decide (0 ≤ t446) = true := deT c5
   clear c5
   obtain rfl := Option.some.inj H
   obtain ⟨Ao6, co6, eo6⟩ := Kd.R_slice HO0.out
   subst eo6
   go_enter Try.func117, Try.ntmps117
   go_wp2_with (first | (go_at_call 96; (with_reducible refine (spec_l2At.calls k _ _ l0 a1 t446 _ ?side1 ?side2 A4.out).mono ?_); (case side1 => repeat (first | exact (Kd.R_reads' HO0.out).2.2 | (with_reducible refine Kd.C_alloc ?_ _) | (with_reducible refine Kd.C_drewN ?_ _) | (with_reducible refine Kd.C_drew ?_))); (case side2 => exact (Kd.R_reads' HO0.out).2.1); rintro e w' ⟨rfl, ⟨nd, rfl⟩⟩))
   go_ret
   exact ⟨_, by first | rfl | (simp [errW_none, errW_some] <;> rfl) | (simp [*, errW_none, errW_some] <;> rfl), by (with_reducible repeat (first | apply Kd.R_alloc | apply Kd.R_drewN | apply Kd.R_drew)); exact HO0.out, zB, by repeat (first | (with_reducible first | exact HK.out | apply Kept.alloc | apply Kept.drewN | apply Kept.drew) | exact HK.out)⟩
  ·rw [if_neg c5] at H
   have c5b0 : decide (0 ≤ t446) = false := deF c5
   clear c5
   by_cases c7 : l0.length < 17592186044416
   ·rw [if_pos c7] at H
    have LMc7 := AK c7
    clear c7
    obtain ⟨y447, hy447⟩ : ∃ y_ : List Int, y_ = (l0 ++ [a1]) := ⟨_, rfl⟩
    replace H : (some y447) = some r := by first | (rw [hy447]; with_reducible exact H) | (have H2_ := (Option.bind_some _ _).symm.trans H; rw [hy447]; with_reducible exact H2_) | (have H2_ := (Option.bind_some _ _).symm.trans H; with_reducible exact H2_) | with_reducible exact H | (rw [hy447]; exact H) | exact H
    have Ny447 := AK hy447
    clear hy447
    obtain rfl := Option.some.inj H
    obtain ⟨Ao8, co8, eo8⟩ := Kd.R_slice HO0.out
    subst eo8
    go_enter Try.func117, Try.ntmps117
    go_wp2_with (first | (go_at_call 96; (with_reducible refine (spec_l2At.calls k _ _ l0 a1 t446 _ ?side1 ?side2 A4.out).mono ?_); (case side1 => repeat (first | exact (Kd.R_reads' HO0.out).2.2 | (with_reducible refine Kd.C_alloc ?_ _) | (with_reducible refine Kd.C_drewN ?_ _) | (with_reducible refine Kd.C_drew ?_))); (case side2 => exact (Kd.R_reads' HO0.out).2.1); rintro e w' ⟨rfl, ⟨nd, rfl⟩⟩) | ((with_reducible refine gate_builtin (b := .append) (xs := #[.tmp 14, .tmp 16]) rfl ?_); at_builtin; refine Kd.R_append (Kd.int .i64) (w0 := w0) w0.heap.size rfl (.tmp 14) (.tmp 16) 25 3 (.int .i64 0) 8 rfl Try.underlying25 info3 rfl (by decide) (by omega) (.slice Ao8 l0.length co8) l0 a1 [.int .i64 a1] (fun k_ => (P0_ k_ ∨ w.heap.size ≤ k_)) (fun _ => False) rfl rfl ?aP (fun _ hk => hk.elim) ?aF ?aO ?aB ?aS ?aL ?_; (case aP => exact rfl); (case aB => exact zB); (case aF => exact (fun k_ hk => (.inr (Nat.le_trans (by first | exact HK.out.1 | exact (show Kept w _ (fun k_ => P0_ k_) from by repeat (first | (with_reducible first | exact HK.out | apply Kept.alloc | apply Kept.drewN | apply Kept.drew) | exact HK.out)).1) hk)))); (case aO => exact (by (with_reducible repeat (first | apply Kd.R_alloc | apply Kd.R_drewN | apply Kd.R_drew)); exact HO0.out)); (case aS => exact (below_size zB)); (case aL => have := LMc7.out; omega); intro v448 w9 ho hb hg hat; rw [← Ny447.out] at ho; have n0_ := AK (hb); have n1_ := AK (Kept.of_grown (S := (fun k_ => P0_ k_)) hg (by repeat (first | (with_reducible first | exact HK.out | apply Kept.alloc | apply Kept.drewN | apply Kept.drew) | exact HK.out)) (fun k_ e_ => (HO0.out.1 k_ e_))); have n2_ := AK (ho); clear HB; clear HK; clear HO0; have HB := n0_; have HK := n1_; have HO449 := n2_; clear n0_ n1_ n2_; clear ho hb hg hat))
    go_ret
    exact ⟨_, by first | rfl | (simp [errW_none, errW_some] <;> rfl) | (simp [*, errW_none, errW_some] <;> rfl), by (with_reducible repeat (first | apply Kd.R_alloc | apply Kd.R_drewN | apply Kd.R_drew)); exact HO449.out, zB, by repeat (first | (with_reducible first | exact HK.out | apply Kept.alloc | apply Kept.drewN | apply Kept.drew) | exact HK.out)⟩
   ·rw [if_neg c7] at H
    exact absurd H (by simp)

/-! ### spec_l2Next: function 132 -/
def spec_l2Next.l0 : Nat → Int → List Int → Int → List (S38) → List Int → List (S60) → List (S60) → Option (List Int)
 | 0, _, _, _, _, _, _, _ => none
 | k + 1, x1, x6, x7, x451000, x451001, x451002, x451003 => if x7 < (x451003.length : Int) then (if 0 ≤ x7 then (if ((rd_T60 x451003 x7).f0) = x1 then (if x6.length < 17592186044416 then (spec_l2Next.l0 k x1 (x6 ++ [(rd_T60 x451003 x7).f1]) (wrap64 (x7 + 1)) x451000 x451001 x451002 x451003) else (none)) else (spec_l2Next.l0 k x1 x6 (wrap64 (x7 + 1)) x451000 x451001 x451002 x451003)) else (none)) else (some x6)
def spec_l2Next.f (k : Nat) (l0_0 : List (S38)) (l0_1 : List Int) (l0_2 : List (S60)) (l0_3 : List (S60)) (a1 : Int) : Option (List Int) := if 0 ≤ a1 then (if a1 < (l0_0.length : Int) then (if ((rd_T38 l0_0 a1).f0) = 3 then (if 1 ≤ (((rd_T38 l0_0 a1).f2).length : Int) then (some (((rd_T38 l0_0 a1).f2).drop 1)) else (none)) else (if ((rd_T38 l0_0 a1).f0) = 4 then (spec_l2Next.l0 k a1 (([] : List Int)) 0 l0_0 l0_1 l0_2 l0_3) else (some ((rd_T38 l0_0 a1).f2)))) else (none)) else (none)
set_option maxHeartbeats 8000000 in
set_option maxRecDepth 100000 in
theorem spec_l2Next.calls (k : Nat) (P0_0_ : Nat → Prop) (A0_0 : Option Addr) (c0_0 : Nat) (l0_0 : List (S38)) (A0_1 : Option Addr) (c0_1 : Nat) (l0_1 : List Int) (A0_2 : Option Addr) (c0_2 : Nat) (l0_2 : List (S60)) (A0_3 : Option Addr) (c0_3 : Nat) (l0_3 : List (S60)) (a1 : Int) (r : List Int) (w : World) (hs0_0 : Kd.V k38 38 w w.heap.size (fun k_ => P0_0_ k_) (.slice A0_0 l0_0.length c0_0) l0_0) (hr0_1 : Kd.C (Kd.int .i64) w A0_1 l0_1.length l0_1) (hc0_1 : l0_1.length ≤ c0_1) (hr0_2 : Kd.C k60 w A0_2 l0_2.length l0_2) (hc0_2 : l0_2.length ≤ c0_2) (hr0_3 : Kd.C k60 w A0_3 l0_3.length l0_3) (hc0_3 : l0_3.length ≤ c0_3) (h : spec_l2Next.f k l0_0 l0_1 l0_2 l0_3 a1 = some r) :
  Calls Try.prog 132 #[.agg #[.slice A0_0 l0_0.length c0_0, .slice A0_1 l0_1.length c0_1, .slice A0_2 l0_2.length c0_2, .slice A0_3 l0_3.length c0_3], .int .i64 a1] w fun e w' => ∃ v0_ : Value, e = .returned (v0_) ∧ Kd.V (Kd.int .i64) 3 w' w.heap.size (fun k_ => (P0_0_ k_ ∨ w.heap.size ≤ k_)) v0_ r ∧ Below w.heap.size w w' := by
 have hu28 := Try.underlying28
 have hu38 := Try.underlying38
 have HO0_0 := AK (show Kd.V k38 38 w w.heap.size (fun k_ => (P0_0_ k_ ∨ w.heap.size ≤ k_)) (.slice A0_0 l0_0.length c0_0) l0_0 from Kd.V_mono hs0_0 (fun k_ hk => .inl hk))
 have HR0_1 := AK hr0_1
 have HC0_1 := AK hc0_1
 clear hr0_1 hc0_1
 have HR0_2 := AK hr0_2
 have HC0_2 := AK hc0_2
 clear hr0_2 hc0_2
 have HR0_3 := AK hr0_3
 have HC0_3 := AK hc0_3
 clear hr0_3 hc0_3
 have HB := AK (Below.refl w.heap.size w)
 have H : (if 0 ≤ a1 then (if a1 < (l0_0.length : Int) then (if ((rd_T38 l0_0 a1).f0) = 3 then (if 1 ≤ (((rd_T38 l0_0 a1).f2).length : Int) then (some (((rd_T38 l0_0 a1).f2).drop 1)) else (none)) else (if ((rd_T38 l0_0 a1).f0) = 4 then (spec_l2Next.l0 k a1 (([] : List Int)) 0 l0_0 l0_1 l0_2 l0_3) else (some ((rd_T38 l0_0 a1).f2)))) else (none)) else (none)) = some r := h
 clear h
 by_cases c3 : 0 ≤ a1
 ·rw [if_pos c3] at H
  have c3b0 : decide (0 ≤ a1) = true := deT c3
  clear c3
  by_cases c4 : a1 < (l0_0.length : Int)
  ·rw [if_pos c4] at H
   have c4b0 : decide (a1 < (l0_0.length : Int)) = true := deT c4
   clear c4
   by_cases c5 : ((rd_T38 l0_0 a1).f0) = 3
   ·rw [if_pos c5] at H
    have c5b0 : (((rd_T38 l0_0 a1).f0) == 3) = true := beq_iff_eq.mpr c5
    have c5b1 : (((rd_T38 l0_0 a1).f0) != 3) = false := bne_eq_false_iff_eq.mpr c5
    clear c5
    by_cases c6 : 1 ≤ (((rd_T38 l0_0 a1).f2).length : Int)
    ·rw [if_pos c6] at H
     have c6b0 := eq_true c6
     have c6b1 : decide (1 ≤ (((rd_T38 l0_0 a1).f2).length : Int)) = true := deT c6
     clear c6
     obtain ⟨y453, hy453⟩ : ∃ y_ : List Int, y_ = (((rd_T38 l0_0 a1).f2).drop 1) := ⟨_, rfl⟩
     replace H : (some y453) = some r := by first | (rw [hy453]; with_reducible exact H) | (have H2_ := (Option.bind_some _ _).symm.trans H; rw [hy453]; with_reducible exact H2_) | (have H2_ := (Option.bind_some _ _).symm.trans H; with_reducible exact H2_) | with_reducible exact H | (rw [hy453]; exact H) | exact H
     have Ny453 := AK hy453
     clear hy453
     obtain rfl := Option.some.inj H
     go_enter Try.func132, Try.ntmps132
     go_wp2_with (first | ((with_reducible refine gate_dst (N := 2) rfl ?_); refine box_event ?hg (N := 2) ?hd (cs := #[.slice A0_0 l0_0.length c0_0, .slice A0_1 l0_1.length c0_1, .slice A0_2 l0_2.length c0_2, .slice A0_3 l0_3.length c0_3]) (t := 28) ?hr ?_; (case hd => rfl); (case hg => rfl); (case hr => first | (go_simp; done) | (go_simp; rfl)); intro gb450 hg w7 hbox hb; have n0_ := AK (Kd.V_below (Kd.V_elderB (by (with_reducible repeat (first | apply Kd.V_alloc | apply Kd.V_drewN | apply Kd.V_drew)); exact HO0_0.out) gb450 (Nat.le_of_eq hg.symm)) hb); have n1_ := AK (bst zB hb); have n2_ := AK (hbox); have n3_ := AK ((zG hg : w.heap.size ≤ gb450)); have n4_ := AK ((zG hg : w.heap.size ≤ gb450)); clear HO0_0; clear HB; have HO0_0 := n0_; have HB := n1_; have BK450 := n2_; have GW450 := n3_; have GE450 := n4_; clear n0_ n1_ n2_ n3_ n4_; clear hb hbox hg; have hcz8_0 : w7.cell? ⟨gb450, 0, none⟩ = some (.slice A0_0 l0_0.length c0_0) := (bcl BK450.out 0).trans rfl; have hcz8_1 : w7.cell? ⟨gb450, 1, none⟩ = some (.slice A0_1 l0_1.length c0_1) := (bcl BK450.out 1).trans rfl; have hcz8_2 : w7.cell? ⟨gb450, 2, none⟩ = some (.slice A0_2 l0_2.length c0_2) := (bcl BK450.out 2).trans rfl; have hcz8_3 : w7.cell? ⟨gb450, 3, none⟩ = some (.slice A0_3 l0_3.length c0_3) := (bcl BK450.out 3).trans rfl; have hfz8_0 := bfz BK450.out 0; have hfz8_1 := bfz BK450.out 1; have hfz8_2 := bfz BK450.out 2; have hfz8_3 := bfz BK450.out 3; have p451 : 0 ≤ (a1 : Int) := of_decide_eq_true zA; have q451 : a1 < (l0_0.length : Int) := of_decide_eq_true zA; obtain ⟨ad451, A451_2, c451_2, e451, hx451_0, hx451_1, hx451_2, hl451_2, hi451_2⟩ := at_T38 (Kd.V_reads' HO0_0.out).2.2 a1 p451 q451; cases e451; obtain ⟨ce451, hce451, hMe451, hcc451⟩ := Kd.V_get HO0_0.out z38 a1 p451 (by first | exact q451 | exact of_decide_eq_true zA | (have e_ := (Kd.V_reads' HO0_0.out).1; omega)); obtain ⟨ua451_2, uc451_2, rfl, ul451_2, ge451_2⟩ := k38_openF hMe451; have hv451_2 := hcc451 2 _ rfl; rw [add_field _ _ 2 (by omega)] at hv451_2; replace hv451_2 := Option.some.inj (hv451_2.symm.trans hx451_2); injection hv451_2 with hva_ hvn_ hvc_; rw [hva_] at ge451_2; rw [hvc_] at ul451_2; have HL451_2 := AK (show Kd.V (Kd.int .i64) 3 _ w.heap.size _ _ ((rd_T38 l0_0 a1).f2) from Kd.V_mk ul451_2 ge451_2); clear hva_ hvn_ hvc_ ge451_2 ul451_2; clear hcc451 hce451; have HR451_2 := AK hi451_2; have HC451_2 := AK hl451_2; clear hi451_2 hl451_2; replace p451 := eq_true p451; replace q451 := eq_true q451) | ((with_reducible refine gate_dst (N := 5) rfl ?_); refine box_event ?hg (N := 5) ?hd (cs := #[.int .i64 0, .string (⟨#[]⟩ : ByteArray), .slice none 0 0]) (t := 38) ?hr ?_; (case hd => rfl); (case hg => rfl); (case hr => first | (go_simp; done) | (go_simp; rfl)); intro gb452 hg w9 hbox hb; have n0_ := AK (Kd.V_below (Kd.V_elderB (by (with_reducible repeat (first | apply Kd.V_alloc | apply Kd.V_drewN | apply Kd.V_drew)); exact HO0_0.out) gb452 (Nat.le_of_eq hg.symm)) hb); have n1_ := AK (Kd.V_below (Kd.V_elderB (by (with_reducible repeat (first | apply Kd.V_alloc | apply Kd.V_drewN | apply Kd.V_drew)); exact HL451_2.out) gb452 (Nat.le_of_eq hg.symm)) hb); have n2_ := AK (bbl (zK BK450) hb); have n3_ := AK (Kd.C_below (by repeat (first | (with_reducible exact HR451_2.out) | (with_reducible refine Kd.C_alloc ?_ _) | (with_reducible refine Kd.C_drewN ?_ _) | (with_reducible refine Kd.C_drew ?_) | exact HR451_2.out)) hb); have n4_ := AK (bst zB hb); have n5_ := AK (hbox); have n6_ := AK ((zG hg : w.heap.size ≤ gb452)); have n7_ := AK ((zG hg : w.heap.size ≤ gb452)); have n8_ := AK (zN hg BK450); have n9_ := AK (zM hg BK450); clear HO0_0; clear HL451_2; clear BK450; clear HR451_2; clear HB; have HO0_0 := n0_; have HL451_2 := n1_; have BK450 := n2_; have HR451_2 := n3_; have HB := n4_; have BK452 := n5_; have GW452 := n6_; have GE452 := n7_; have NB450_452 := n8_; have NB452_450 := n9_; clear n0_ n1_ n2_ n3_ n4_ n5_ n6_ n7_ n8_ n9_; clear hb hbox hg; have hnb10 := NB452_450.out; have hnc10 := NB450_452.out; have hcz11_0 : w9.cell? ⟨gb452, 0, none⟩ = some (.int .i64 0) := (bcl BK452.out 0).trans rfl; have hcz11_1 : w9.cell? ⟨gb452, 1, none⟩ = some (.string (⟨#[]⟩ : ByteArray)) := (bcl BK452.out 1).trans rfl; have hcz11_2 : w9.cell? ⟨gb452, 2, none⟩ = some (.slice none 0 0) := (bcl BK452.out 2).trans rfl; have hfz11_0 := bfz BK452.out 0; have hfz11_1 := bfz BK452.out 1; have hfz11_2 := bfz BK452.out 2) | ((with_reducible refine gate_store (t := 38) (p := 5) rfl ?_); refine store_event (t := 38) (p := 5) (v := ?vo_w12) (w1 := (((w9.setCell ⟨gb452, 0, none⟩ (.int .i64 ((rd_T38 l0_0 a1).f0))).setCell ⟨gb452, 1, none⟩ (.string ((rd_T38 l0_0 a1).f1))).setCell ⟨gb452, 2, none⟩ (.slice A451_2 ((rd_T38 l0_0 a1).f2).length c451_2))) ?hg ?ho ?hn ?hr ?_; (case ho => rfl); (case hg => rfl); (case hn => rfl); (case hr => first | (go_simp; done) | (go_simp; rfl)); intro w12 hw; have n0_ : Aside0 (Kd.V k38 38 w12 w.heap.size (fun k_ => (P0_0_ k_ ∨ w.heap.size ≤ k_) ∧ k_ ≠ gb450 ∧ k_ ≠ gb452) (.slice (some ad451) l0_0.length c0_0) l0_0) := ⟨(by rw [hw]; exact (by (with_reducible repeat (first | apply Kd.V_alloc | apply Kd.V_drewN | apply Kd.V_drew)); exact Kd.V_mono (Kd.V_far (p := ⟨gb452, 2, none⟩) (Kd.V_far (p := ⟨gb452, 1, none⟩) (Kd.V_far (p := ⟨gb452, 0, none⟩) (Kd.V_mono HO0_0.out (fun k_ hk => (⟨hk, hk.2⟩ : _ ∧ k_ ≠ gb452))) (fun _ hk => hk.2) (.int .i64 ((rd_T38 l0_0 a1).f0))) (fun _ hk => hk.2) (.string ((rd_T38 l0_0 a1).f1))) (fun _ hk => hk.2) (.slice A451_2 ((rd_T38 l0_0 a1).f2).length c451_2)) (fun _ hk => ⟨hk.1.1.1, ⟨hk.1.1.2, hk.1.2⟩⟩)))⟩; have n1_ : Aside0 (Kd.V (Kd.int .i64) 3 w12 w.heap.size (fun k_ => (P0_0_ k_ ∨ w.heap.size ≤ k_) ∧ k_ ≠ gb450 ∧ k_ ≠ gb452) (.slice A451_2 ((rd_T38 l0_0 a1).f2).length c451_2) ((rd_T38 l0_0 a1).f2)) := ⟨(by rw [hw]; exact (by (with_reducible repeat (first | apply Kd.V_alloc | apply Kd.V_drewN | apply Kd.V_drew)); exact Kd.V_mono (Kd.V_far (p := ⟨gb452, 2, none⟩) (Kd.V_far (p := ⟨gb452, 1, none⟩) (Kd.V_far (p := ⟨gb452, 0, none⟩) (Kd.V_mono HL451_2.out (fun k_ hk => (⟨hk, hk.2⟩ : _ ∧ k_ ≠ gb452))) (fun _ hk => hk.2) (.int .i64 ((rd_T38 l0_0 a1).f0))) (fun _ hk => hk.2) (.string ((rd_T38 l0_0 a1).f1))) (fun _ hk => hk.2) (.slice A451_2 ((rd_T38 l0_0 a1).f2).length c451_2)) (fun _ hk => ⟨hk.1.1.1, ⟨hk.1.1.2, hk.1.2⟩⟩)))⟩; have n2_ : Aside0 (w12.heap[gb450]? = some (.cells #[.slice (some ad451) l0_0.length c0_0, .slice A0_1 l0_1.length c0_1, .slice A0_2 l0_2.length c0_2, .slice A0_3 l0_3.length c0_3] 28 (0, 0))) := ⟨(by rw [hw]; exact (by (with_reducible repeat (first | refine blk_drewN ?_ _ | refine blk_drew ?_ | refine blk_alloc ?_ _)); refine blk_far ?_ NB450_452.out _; (with_reducible repeat (first | refine blk_drewN ?_ _ | refine blk_drew ?_ | refine blk_alloc ?_ _)); refine blk_far ?_ NB450_452.out _; (with_reducible repeat (first | refine blk_drewN ?_ _ | refine blk_drew ?_ | refine blk_alloc ?_ _)); refine blk_far ?_ NB450_452.out _; (with_reducible repeat (first | refine blk_drewN ?_ _ | refine blk_drew ?_ | refine blk_alloc ?_ _)); exact BK450.out))⟩; have n3_ : Aside0 (w12.heap[gb452]? = some (.cells #[.int .i64 ((rd_T38 l0_0 a1).f0), .string ((rd_T38 l0_0 a1).f1), .slice A451_2 ((rd_T38 l0_0 a1).f2).length c451_2] 38 (0, 0))) := ⟨(by rw [hw]; exact (by (with_reducible repeat (first | refine blk_drewN ?_ _ | refine blk_drew ?_ | refine blk_alloc ?_ _)); refine blk_put (cs := #[.int .i64 ((rd_T38 l0_0 a1).f0), .string ((rd_T38 l0_0 a1).f1), .slice none 0 0]) ?_ 2 _ rfl; (with_reducible repeat (first | refine blk_drewN ?_ _ | refine blk_drew ?_ | refine blk_alloc ?_ _)); refine blk_put (cs := #[.int .i64 ((rd_T38 l0_0 a1).f0), .string (⟨#[]⟩ : ByteArray), .slice none 0 0]) ?_ 1 _ rfl; (with_reducible repeat (first | refine blk_drewN ?_ _ | refine blk_drew ?_ | refine blk_alloc ?_ _)); refine blk_put (cs := #[.int .i64 0, .string (⟨#[]⟩ : ByteArray), .slice none 0 0]) ?_ 0 _ rfl; (with_reducible repeat (first | refine blk_drewN ?_ _ | refine blk_drew ?_ | refine blk_alloc ?_ _)); exact BK452.out))⟩; have n4_ : Aside0 (Below w.heap.size w w12) := ⟨(by rw [hw]; exact zB)⟩; clear hw; clear HO0_0; clear HL451_2; clear BK450; clear BK452; clear HB; have HO0_0 := n0_; have HL451_2 := n1_; have BK450 := n2_; have BK452 := n3_; have HB := n4_; clear n0_ n1_ n2_ n3_ n4_; have hcz13_0 : w12.cell? ⟨gb452, 0, none⟩ = some (.int .i64 ((rd_T38 l0_0 a1).f0)) := (bcl BK452.out 0).trans rfl; have hcz13_1 : w12.cell? ⟨gb452, 1, none⟩ = some (.string ((rd_T38 l0_0 a1).f1)) := (bcl BK452.out 1).trans rfl; have hcz13_2 : w12.cell? ⟨gb452, 2, none⟩ = some (.slice A451_2 ((rd_T38 l0_0 a1).f2).length c451_2) := (bcl BK452.out 2).trans rfl; have hfz13_0 := bfz BK452.out 0; have hfz13_1 := bfz BK452.out 1; have hfz13_2 := bfz BK452.out 2; have q14 : (1 : Int) ≤ ((((rd_T38 l0_0 a1).f2).length : Int) : Int) := of_decide_eq_true zA; obtain ⟨i014, hi014, _, hsz14, _⟩ := info_parts info3; have hroom14 : ((rd_T38 l0_0 a1).f2).length ≤ c451_2 := HC451_2.out; have hC14 : Kd.F (Kd.int .i64) _ _ A451_2 ((rd_T38 l0_0 a1).f2).length ((rd_T38 l0_0 a1).f2) := (Kd.V_at (base := w.heap.size) HL451_2.out).2.2; have hcut14 := cut_from (P := Try.prog) 25 3 .i64 Try.underlying25 hi014 1 hsz14 A451_2 ((rd_T38 l0_0 a1).f2).length c451_2 1 (by omega) q14; have hr14 := Kd.F_cut (m := (1 : Int).toNat) (c := c451_2) hC14 (by omega) hroom14; obtain ⟨A14, hA14⟩ : ∃ A1, A1 = (if c451_2 = (1 : Int).toNat then A451_2 else (A451_2 : Option Addr).map (·.add ((1 : Int).toNat * 1))) := ⟨_, rfl⟩; obtain ⟨c14, hc14⟩ : ∃ c1, c1 = c451_2 - (1 : Int).toNat := ⟨_, rfl⟩; have hy14 : y453.length = ((rd_T38 l0_0 a1).f2).length - (1 : Int).toNat := (by rw [Ny453.out, List.length_drop] <;> omega); rw [show ((rd_T38 l0_0 a1).f2).drop (1 : Int).toNat = y453 from Ny453.out.symm] at hr14; replace hr14 : Kd.F (Kd.int .i64) _ _ A14 y453.length y453 := (by rw [hA14]; exact hr14); rw [← hy14, ← hA14, ← hc14] at hcut14; have HO457 := AK (show Kd.V (Kd.int .i64) 3 _ w.heap.size _ (.slice A14 y453.length c14) y453 from Kd.V_mk (by rw [hy14, hc14]; exact Nat.sub_le_sub_right hroom14 _) hr14); have HC457 := AK (show y453.length ≤ c14 from by rw [hy14, hc14]; exact Nat.sub_le_sub_right hroom14 _); clear hr14 hC14 hroom14 hi014 hsz14 hc14; have KY14 := AK hy14; have KA14 := AK hA14; clear hy14 hA14; replace q14 := eq_true q14))
     go_ret
     exact ⟨_, by first | rfl | (simp [errW_none, errW_some] <;> rfl) | (simp [*, errW_none, errW_some] <;> rfl), by (with_reducible repeat (first | apply Kd.V_alloc | apply Kd.V_drewN | apply Kd.V_drew)); exact Kd.V_mono HO457.out (fun _ hk => hk.1), zB⟩
    ·rw [if_neg c6] at H
     exact absurd H (by simp)
   ·rw [if_neg c5] at H
    have c5b0 : (((rd_T38 l0_0 a1).f0) == 3) = false := beq_eq_false_iff_ne.mpr c5
    have c5b1 : (((rd_T38 l0_0 a1).f0) != 3) = true := bne_iff_ne.mpr c5
    by_cases c15 : ((rd_T38 l0_0 a1).f0) = 4
    ·rw [if_pos c15] at H
     have c15b0 : (((rd_T38 l0_0 a1).f0) == 4) = true := beq_iff_eq.mpr c15
     have c15b1 : (((rd_T38 l0_0 a1).f0) != 4) = false := bne_eq_false_iff_eq.mpr c15
     clear c15
     obtain ⟨y458, hy458⟩ : ∃ y_ : List Int, y_ = (([] : List Int)) := ⟨_, rfl⟩
     replace H : (spec_l2Next.l0 k a1 y458 0 l0_0 l0_1 l0_2 l0_3) = some r := by first | (rw [hy458]; with_reducible exact H) | (have H2_ := (Option.bind_some _ _).symm.trans H; rw [hy458]; with_reducible exact H2_) | (have H2_ := (Option.bind_some _ _).symm.trans H; with_reducible exact H2_) | with_reducible exact H | (rw [hy458]; exact H) | exact H
     have Ny458 := AK hy458
     clear hy458
     have H' := AK H
     clear H
     go_enter Try.func132, Try.ntmps132
     go_wp2_with (first | ((with_reducible refine gate_dst (N := 2) rfl ?_); refine box_event ?hg (N := 2) ?hd (cs := #[.slice A0_0 l0_0.length c0_0, .slice A0_1 l0_1.length c0_1, .slice A0_2 l0_2.length c0_2, .slice A0_3 l0_3.length c0_3]) (t := 28) ?hr ?_; (case hd => rfl); (case hg => rfl); (case hr => first | (go_simp; done) | (go_simp; rfl)); intro gb450 hg w16 hbox hb; have n0_ := AK (Kd.V_below (Kd.V_elderB (by (with_reducible repeat (first | apply Kd.V_alloc | apply Kd.V_drewN | apply Kd.V_drew)); exact HO0_0.out) gb450 (Nat.le_of_eq hg.symm)) hb); have n1_ := AK (bst zB hb); have n2_ := AK (hbox); have n3_ := AK ((zG hg : w.heap.size ≤ gb450)); have n4_ := AK ((zG hg : w.heap.size ≤ gb450)); clear HO0_0; clear HB; have HO0_0 := n0_; have HB := n1_; have BK450 := n2_; have GW450 := n3_; have GE450 := n4_; clear n0_ n1_ n2_ n3_ n4_; clear hb hbox hg; have hcz17_0 : w16.cell? ⟨gb450, 0, none⟩ = some (.slice A0_0 l0_0.length c0_0) := (bcl BK450.out 0).trans rfl; have hcz17_1 : w16.cell? ⟨gb450, 1, none⟩ = some (.slice A0_1 l0_1.length c0_1) := (bcl BK450.out 1).trans rfl; have hcz17_2 : w16.cell? ⟨gb450, 2, none⟩ = some (.slice A0_2 l0_2.length c0_2) := (bcl BK450.out 2).trans rfl; have hcz17_3 : w16.cell? ⟨gb450, 3, none⟩ = some (.slice A0_3 l0_3.length c0_3) := (bcl BK450.out 3).trans rfl; have hfz17_0 := bfz BK450.out 0; have hfz17_1 := bfz BK450.out 1; have hfz17_2 := bfz BK450.out 2; have hfz17_3 := bfz BK450.out 3; have p451 : 0 ≤ (a1 : Int) := of_decide_eq_true zA; have q451 : a1 < (l0_0.length : Int) := of_decide_eq_true zA; obtain ⟨ad451, A451_2, c451_2, e451, hx451_0, hx451_1, hx451_2, hl451_2, hi451_2⟩ := at_T38 (Kd.V_reads' HO0_0.out).2.2 a1 p451 q451; cases e451; obtain ⟨ce451, hce451, hMe451, hcc451⟩ := Kd.V_get HO0_0.out z38 a1 p451 (by first | exact q451 | exact of_decide_eq_true zA | (have e_ := (Kd.V_reads' HO0_0.out).1; omega)); obtain ⟨ua451_2, uc451_2, rfl, ul451_2, ge451_2⟩ := k38_openF hMe451; have hv451_2 := hcc451 2 _ rfl; rw [add_field _ _ 2 (by omega)] at hv451_2; replace hv451_2 := Option.some.inj (hv451_2.symm.trans hx451_2); injection hv451_2 with hva_ hvn_ hvc_; rw [hva_] at ge451_2; rw [hvc_] at ul451_2; have HL451_2 := AK (show Kd.V (Kd.int .i64) 3 _ w.heap.size _ _ ((rd_T38 l0_0 a1).f2) from Kd.V_mk ul451_2 ge451_2); clear hva_ hvn_ hvc_ ge451_2 ul451_2; clear hcc451 hce451; have HR451_2 := AK hi451_2; have HC451_2 := AK hl451_2; clear hi451_2 hl451_2; replace p451 := eq_true p451; replace q451 := eq_true q451) | ((with_reducible refine gate_dst (N := 5) rfl ?_); refine box_event ?hg (N := 5) ?hd (cs := #[.int .i64 0, .string (⟨#[]⟩ : ByteArray), .slice none 0 0]) (t := 38) ?hr ?_; (case hd => rfl); (case hg => rfl); (case hr => first | (go_simp; done) | (go_simp; rfl)); intro gb452 hg w18 hbox hb; have n0_ := AK (Kd.V_below (Kd.V_elderB (by (with_reducible repeat (first | apply Kd.V_alloc | apply Kd.V_drewN | apply Kd.V_drew)); exact HO0_0.out) gb452 (Nat.le_of_eq hg.symm)) hb); have n1_ := AK (Kd.V_below (Kd.V_elderB (by (with_reducible repeat (first | apply Kd.V_alloc | apply Kd.V_drewN | apply Kd.V_drew)); exact HL451_2.out) gb452 (Nat.le_of_eq hg.symm)) hb); have n2_ := AK (bbl (zK BK450) hb); have n3_ := AK (Kd.C_below (by repeat (first | (with_reducible exact HR451_2.out) | (with_reducible refine Kd.C_alloc ?_ _) | (with_reducible refine Kd.C_drewN ?_ _) | (with_reducible refine Kd.C_drew ?_) | exact HR451_2.out)) hb); have n4_ := AK (bst zB hb); have n5_ := AK (hbox); have n6_ := AK ((zG hg : w.heap.size ≤ gb452)); have n7_ := AK ((zG hg : w.heap.size ≤ gb452)); have n8_ := AK (zN hg BK450); have n9_ := AK (zM hg BK450); clear HO0_0; clear HL451_2; clear BK450; clear HR451_2; clear HB; have HO0_0 := n0_; have HL451_2 := n1_; have BK450 := n2_; have HR451_2 := n3_; have HB := n4_; have BK452 := n5_; have GW452 := n6_; have GE452 := n7_; have NB450_452 := n8_; have NB452_450 := n9_; clear n0_ n1_ n2_ n3_ n4_ n5_ n6_ n7_ n8_ n9_; clear hb hbox hg; have hnb19 := NB452_450.out; have hnc19 := NB450_452.out; have hcz20_0 : w18.cell? ⟨gb452, 0, none⟩ = some (.int .i64 0) := (bcl BK452.out 0).trans rfl; have hcz20_1 : w18.cell? ⟨gb452, 1, none⟩ = some (.string (⟨#[]⟩ : ByteArray)) := (bcl BK452.out 1).trans rfl; have hcz20_2 : w18.cell? ⟨gb452, 2, none⟩ = some (.slice none 0 0) := (bcl BK452.out 2).trans rfl; have hfz20_0 := bfz BK452.out 0; have hfz20_1 := bfz BK452.out 1; have hfz20_2 := bfz BK452.out 2) | ((with_reducible refine gate_dst (N := 22) rfl ?_); refine Kd.R_lit (Kd.int .i64) _ 3 ?hg (N := 22) ?hd (xs := ([] : List Int)) (inner := []) (ok := fun _ => True) (okp := fun _ => True) ?hr ?hp (fun _ hk => hk) trivial (Below.refl _ _) (Nat.le_refl _) (by simp) ?_; (case hd => rfl); (case hg => rfl); (case hr => first | (go_simp; done) | (go_simp; rfl)); (case hp => exact (Reps.none _ _)); intro v459 w21 ho22 hb hg_ hnew_; clear hg_ hnew_; (first | rw [← Ny458.out] at ho22 | (simp only [Int.reduceToNat] at ho22; rw [← Ny458.out] at ho22)); have n0_ := AK (Kd.V_elder' (by (with_reducible repeat (first | apply Kd.V_alloc | apply Kd.V_drewN | apply Kd.V_drew)); exact (Kd.V_mono (Kd.V_far (p := ⟨gb452, 2, none⟩) (Kd.V_far (p := ⟨gb452, 1, none⟩) (Kd.V_far (p := ⟨gb452, 0, none⟩) (Kd.V_mono HO0_0.out (fun k_ hk => (⟨hk, hk.2⟩ : _ ∧ k_ ≠ gb452))) (fun _ hk => hk.2) (.int .i64 ((rd_T38 l0_0 a1).f0))) (fun _ hk => hk.2) (.string ((rd_T38 l0_0 a1).f1))) (fun _ hk => hk.2) (.slice A451_2 ((rd_T38 l0_0 a1).f2).length c451_2)) (fun _ h_ => h_.1))) (Kd.R_base ho22) hb); have n1_ := AK (Kd.V_elder' (by (with_reducible repeat (first | apply Kd.V_alloc | apply Kd.V_drewN | apply Kd.V_drew)); exact (Kd.V_mono (Kd.V_far (p := ⟨gb452, 2, none⟩) (Kd.V_far (p := ⟨gb452, 1, none⟩) (Kd.V_far (p := ⟨gb452, 0, none⟩) (Kd.V_mono HL451_2.out (fun k_ hk => (⟨hk, hk.2⟩ : _ ∧ k_ ≠ gb452))) (fun _ hk => hk.2) (.int .i64 ((rd_T38 l0_0 a1).f0))) (fun _ hk => hk.2) (.string ((rd_T38 l0_0 a1).f1))) (fun _ hk => hk.2) (.slice A451_2 ((rd_T38 l0_0 a1).f2).length c451_2)) (fun _ h_ => h_.1))) (Kd.R_base ho22) hb); have n2_ := AK (Kd.R_lower (Kd.R_newM (M := fun k_ => (w.heap.size ≤ k_)) ho22 (below_size zB) (fun k_ h_ => h_)) (below_size zB)); have n3_ := AK (bbl (g := gb450) (o := .cells #[.slice (some ad451) l0_0.length c0_0, .slice A0_1 l0_1.length c0_1, .slice A0_2 l0_2.length c0_2, .slice A0_3 l0_3.length c0_3] 28 (0, 0)) (by (with_reducible repeat (first | refine blk_drewN ?_ _ | refine blk_drew ?_ | refine blk_alloc ?_ _)); refine blk_far ?_ NB450_452.out _; (with_reducible repeat (first | refine blk_drewN ?_ _ | refine blk_drew ?_ | refine blk_alloc ?_ _)); refine blk_far ?_ NB450_452.out _; (with_reducible repeat (first | refine blk_drewN ?_ _ | refine blk_drew ?_ | refine blk_alloc ?_ _)); refine blk_far ?_ NB450_452.out _; (with_reducible repeat (first | refine blk_drewN ?_ _ | refine blk_drew ?_ | refine blk_alloc ?_ _)); exact BK450.out) hb); have n4_ := AK (Kd.C_below ((Kd.V_reads' (by (with_reducible repeat (first | apply Kd.V_alloc | apply Kd.V_drewN | apply Kd.V_drew)); exact (Kd.V_mono (Kd.V_far (p := ⟨gb452, 2, none⟩) (Kd.V_far (p := ⟨gb452, 1, none⟩) (Kd.V_far (p := ⟨gb452, 0, none⟩) (Kd.V_mono HL451_2.out (fun k_ hk => (⟨hk, hk.2⟩ : _ ∧ k_ ≠ gb452))) (fun _ hk => hk.2) (.int .i64 ((rd_T38 l0_0 a1).f0))) (fun _ hk => hk.2) (.string ((rd_T38 l0_0 a1).f1))) (fun _ hk => hk.2) (.slice A451_2 ((rd_T38 l0_0 a1).f2).length c451_2)) (fun _ h_ => h_.1)))).2.2) hb); have n5_ := AK (bbl (g := gb452) (o := .cells #[.int .i64 ((rd_T38 l0_0 a1).f0), .string ((rd_T38 l0_0 a1).f1), .slice A451_2 ((rd_T38 l0_0 a1).f2).length c451_2] 38 (0, 0)) (by (with_reducible repeat (first | refine blk_drewN ?_ _ | refine blk_drew ?_ | refine blk_alloc ?_ _)); refine blk_put (cs := #[.int .i64 ((rd_T38 l0_0 a1).f0), .string ((rd_T38 l0_0 a1).f1), .slice none 0 0]) ?_ 2 _ rfl; (with_reducible repeat (first | refine blk_drewN ?_ _ | refine blk_drew ?_ | refine blk_alloc ?_ _)); refine blk_put (cs := #[.int .i64 ((rd_T38 l0_0 a1).f0), .string (⟨#[]⟩ : ByteArray), .slice none 0 0]) ?_ 1 _ rfl; (with_reducible repeat (first | refine blk_drewN ?_ _ | refine blk_drew ?_ | refine blk_alloc ?_ _)); refine blk_put (cs := #[.int .i64 0, .string (⟨#[]⟩ : ByteArray), .slice none 0 0]) ?_ 0 _ rfl; (with_reducible repeat (first | refine blk_drewN ?_ _ | refine blk_drew ?_ | refine blk_alloc ?_ _)); exact BK452.out) hb); have n6_ := AK (bst zB hb); clear HO0_0; clear HL451_2; clear BK450; clear HR451_2; clear BK452; clear HB; have HO0_0 := n0_; have HL451_2 := n1_; have HO460 := n2_; have BK450 := n3_; have HR451_2 := n4_; have BK452 := n5_; have HB := n6_; clear n0_ n1_ n2_ n3_ n4_ n5_ n6_; clear hb ho22))
     go_loopg [6, 7] k (fun kq v6 v7 w' => ∃ (x6_1 : List Int) (x7_1 : Int), v7 = .int .i64 x7_1 ∧ Aside0 (spec_l2Next.l0 kq a1 x6_1 x7_1 l0_0 l0_1 l0_2 l0_3 = some r) ∧ Aside0 (kq ≤ k) ∧ Aside0 (Kd.R (Kd.int .i64) 3 w' w.heap.size (fun k_ => (w.heap.size ≤ k_)) v6 x6_1) ∧ Aside0 (Kd.V k38 38 w' w.heap.size (fun k_ => (P0_0_ k_ ∨ w.heap.size ≤ k_) ∧ some k_ ≠ (v6 : Value).ownBlock ∧ k_ ≠ gb450 ∧ k_ ≠ gb452) (.slice (some ad451) l0_0.length c0_0) l0_0) ∧ Aside0 (w'.heap[gb450]? = some (.cells #[(.slice (some ad451) l0_0.length c0_0), (.slice A0_1 l0_1.length c0_1), (.slice A0_2 l0_2.length c0_2), (.slice A0_3 l0_3.length c0_3)] 28 (0, 0))) ∧ Aside0 (w'.heap[gb452]? = some (.cells #[.int .i64 ((rd_T38 l0_0 a1).f0), .string ((rd_T38 l0_0 a1).f1), (.slice A451_2 ((rd_T38 l0_0 a1).f2).length c451_2)] 38 (0, 0))) ∧ Aside0 (Below w.heap.size w w'))
     case atStart => exact ⟨(y458), (0), (by first | rfl | (simp; done) | (simp [*]; done)), H', ⟨Nat.le_refl _⟩, ⟨by (with_reducible repeat (first | apply Kd.R_alloc | apply Kd.R_drewN | apply Kd.R_drew)); exact Kd.R_mono HO460.out (fun _ hk => hk.1)⟩, ⟨by (with_reducible repeat (first | apply Kd.V_alloc | apply Kd.V_drewN | apply Kd.V_drew)); exact Kd.V_mono HO0_0.out (fun _ hk => ⟨hk.1.1.1, ⟨hk.2, ⟨hk.1.1.2, hk.1.2⟩⟩⟩)⟩, ⟨by (with_reducible repeat (first | refine blk_drewN ?_ _ | refine blk_drew ?_ | refine blk_alloc ?_ _)); exact BK450.out⟩, ⟨by (with_reducible repeat (first | refine blk_drewN ?_ _ | refine blk_drew ?_ | refine blk_alloc ?_ _)); exact BK452.out⟩, ⟨zB⟩⟩
     case round =>
      clear H'
      try clear c1
      try clear q1
      try clear p2
      try clear c3
      try clear c3b0
      try clear c4
      try clear c4b0
      try clear p4
      try clear q4
      try clear hx4
      try clear c5
      try clear c5b0
      try clear c5b1
      try clear c6
      try clear c6b0
      try clear c6b1
      try clear c10
      try clear c13
      try clear c14
      try clear q14
      try clear c15
      try clear c15b0
      try clear c15b1
      try clear c19
      try clear hcz11_0
      try clear hcz11_1
      try clear hcz11_2
      try clear hcz13_0
      try clear hcz13_1
      try clear hcz13_2
      try clear hcz17_0
      try clear hcz17_1
      try clear hcz17_2
      try clear hcz17_3
      try clear hcz20_0
      try clear hcz20_1
      try clear hcz20_2
      try clear hcz8_0
      try clear hcz8_1
      try clear hcz8_2
      try clear hcz8_3
      try clear hfz11_0
      try clear hfz11_1
      try clear hfz11_2
      try clear hfz13_0
      try clear hfz13_1
      try clear hfz13_2
      try clear hfz17_0
      try clear hfz17_1
      try clear hfz17_2
      try clear hfz17_3
      try clear hfz20_0
      try clear hfz20_1
      try clear hfz20_2
      try clear hfz8_0
      try clear hfz8_1
      try clear hfz8_2
      try clear hfz8_3
      try clear hx451_0
      try clear hx451_1
      try clear hx451_2
      try clear p451
      try clear q14
      try clear q451
      obtain ⟨x6_1, x7_1, rfl, HA, HK1, HO_6, HO_451000, BK450, BK452, HB⟩ := hrel
      cases gk with
      | zero => exact absurd HA.out (by simp [spec_l2Next.l0])
      | succ k1 =>
       have H := HA.out
       clear HA
       simp only [spec_l2Next.l0] at H
       by_cases c23 : x7_1 < (l0_3.length : Int)
       ·rw [if_pos c23] at H
        have c23b0 : decide (x7_1 < (l0_3.length : Int)) = true := deT c23
        clear c23
        by_cases c24 : 0 ≤ x7_1
        ·rw [if_pos c24] at H
         have c24b0 : decide (0 ≤ x7_1) = true := deT c24
         clear c24
         by_cases c25 : ((rd_T60 l0_3 x7_1).f0) = a1
         ·rw [if_pos c25] at H
          have c25b0 : (((rd_T60 l0_3 x7_1).f0) == a1) = true := beq_iff_eq.mpr c25
          have c25b1 : (((rd_T60 l0_3 x7_1).f0) != a1) = false := bne_eq_false_iff_eq.mpr c25
          clear c25
          by_cases c26 : x6_1.length < 17592186044416
          ·rw [if_pos c26] at H
           have LMc26 := AK c26
           clear c26
           obtain ⟨y463, hy463⟩ : ∃ y_ : List Int, y_ = (x6_1 ++ [(rd_T60 l0_3 x7_1).f1]) := ⟨_, rfl⟩
           replace H : (spec_l2Next.l0 k1 a1 y463 (wrap64 (x7_1 + 1)) l0_0 l0_1 l0_2 l0_3) = some r := by first | (rw [hy463]; with_reducible exact H) | (have H2_ := (Option.bind_some _ _).symm.trans H; rw [hy463]; with_reducible exact H2_) | (have H2_ := (Option.bind_some _ _).symm.trans H; with_reducible exact H2_) | with_reducible exact H | (rw [hy463]; exact H) | exact H
           have Ny463 := AK hy463
           clear hy463
           have H' := AK H
           clear H
           have hnb27 := NB450_452.out
           have hnc27 := NB452_450.out
           have hcz28_0 : wr.cell? ⟨gb450, 0, none⟩ = some (.slice (some ad451) l0_0.length c0_0) := (bcl BK450.out 0).trans rfl
           have hcz28_1 : wr.cell? ⟨gb450, 1, none⟩ = some (.slice A0_1 l0_1.length c0_1) := (bcl BK450.out 1).trans rfl
           have hcz28_2 : wr.cell? ⟨gb450, 2, none⟩ = some (.slice A0_2 l0_2.length c0_2) := (bcl BK450.out 2).trans rfl
           have hcz28_3 : wr.cell? ⟨gb450, 3, none⟩ = some (.slice A0_3 l0_3.length c0_3) := (bcl BK450.out 3).trans rfl
           have hfz28_0 := bfz BK450.out 0
           have hfz28_1 := bfz BK450.out 1
           have hfz28_2 := bfz BK450.out 2
           have hfz28_3 := bfz BK450.out 3
           have p461 : 0 ≤ (x7_1 : Int) := of_decide_eq_true zA
           have q461 : x7_1 < (l0_3.length : Int) := of_decide_eq_true zA
           obtain ⟨ad461, e461, hx461_0, hx461_1⟩ := at_T60 HR0_3.out x7_1 p461 q461
           cases e461
           replace hx461_0 := (HB.out.cell (World.block_lt_of_cell? w _ hx461_0)).trans hx461_0
           replace hx461_1 := (HB.out.cell (World.block_lt_of_cell? w _ hx461_1)).trans hx461_1
           replace p461 := eq_true p461
           replace q461 := eq_true q461
           have p462 : 0 ≤ (x7_1 : Int) := of_decide_eq_true zA
           have q462 : x7_1 < (l0_3.length : Int) := of_decide_eq_true zA
           obtain ⟨ad462, e462, hx462_0, hx462_1⟩ := at_T60 HR0_3.out x7_1 p462 q462
           obtain rfl : ad461 = ad462 := (by injection e462)
           replace hx462_0 := (HB.out.cell (World.block_lt_of_cell? w _ hx462_0)).trans hx462_0
           replace hx462_1 := (HB.out.cell (World.block_lt_of_cell? w _ hx462_1)).trans hx462_1
           replace p462 := eq_true p462
           replace q462 := eq_true q462
           go_wp2_with (first | ((with_reducible refine gate_builtin (b := .append) (xs := #[.tmp 38, .tmp 45]) rfl ?_); at_builtin; refine Kd.R_append (Kd.int .i64) (w0 := w) w.heap.size rfl (.tmp 38) (.tmp 45) 25 3 (.int .i64 0) 8 rfl Try.underlying25 info3 rfl (by decide) (by omega) u6 x6_1 ((rd_T60 l0_3 x7_1).f1) [.int .i64 ((rd_T60 l0_3 x7_1).f1)] (fun k_ => (w.heap.size ≤ k_)) (fun _ => False) rfl rfl ?aP (fun _ hk => hk.elim) ?aF ?aO ?aB ?aS ?aL ?_; (case aP => exact rfl); (case aB => exact zB); (case aF => exact (fun k_ hk => (Nat.le_trans (below_size zB) hk))); (case aO => exact (by (with_reducible repeat (first | apply Kd.R_alloc | apply Kd.R_drewN | apply Kd.R_drew)); exact HO_6.out)); (case aS => exact (below_size zB)); (case aL => have := LMc26.out; omega); intro v464 w29 ho hb hg hat; rw [← Ny463.out] at ho; have n0_ := AK (Kd.V_afterv (ok := (fun k_ => (P0_0_ k_ ∨ w.heap.size ≤ k_) ∧ k_ ≠ gb450 ∧ k_ ≠ gb452)) (by (with_reducible repeat (first | apply Kd.V_alloc | apply Kd.V_drewN | apply Kd.V_drew)); exact Kd.V_mono HO_451000.out (fun _ hk => ⟨⟨hk.1, ⟨hk.2.2.1, hk.2.2.2⟩⟩, hk.2.1⟩)) hg hat); have n1_ := AK (blk_grown (zK BK450) hg (Kd.R_ne HO_6.out BK450.out (by decide))); have n2_ := AK (blk_grown (zK BK452) hg (Kd.R_ne HO_6.out BK452.out (by decide))); have n3_ := AK (hb); have n4_ := AK (ho); clear HO_451000; clear BK450; clear BK452; clear HB; clear HO_6; have HO_451000 := n0_; have BK450 := n1_; have BK452 := n2_; have HB := n3_; have HO465 := n4_; clear n0_ n1_ n2_ n3_ n4_; clear ho hb hg hat))
           go_roundg k1
           case measure => have := HK1.out; omega
           case rel => exact ⟨(y463), (wrap64 (x7_1 + 1)), (by first | rfl | (simp; done) | (simp [*]; done)), H', ⟨by have := HK1.out; omega⟩, ⟨by (with_reducible repeat (first | apply Kd.R_alloc | apply Kd.R_drewN | apply Kd.R_drew)); exact HO465.out⟩, ⟨by (with_reducible repeat (first | apply Kd.V_alloc | apply Kd.V_drewN | apply Kd.V_drew)); exact Kd.V_mono HO_451000.out (fun _ hk => ⟨hk.1.1, ⟨hk.2, ⟨hk.1.2.1, hk.1.2.2⟩⟩⟩)⟩, ⟨by (with_reducible repeat (first | refine blk_drewN ?_ _ | refine blk_drew ?_ | refine blk_alloc ?_ _)); exact BK450.out⟩, ⟨by (with_reducible repeat (first | refine blk_drewN ?_ _ | refine blk_drew ?_ | refine blk_alloc ?_ _)); exact BK452.out⟩, ⟨zB⟩⟩
          ·rw [if_neg c26] at H
           exact absurd H (by simp)
         ·rw [if_neg c25] at H
          have c25b0 : (((rd_T60 l0_3 x7_1).f0) == a1) = false := beq_eq_false_iff_ne.mpr c25
          have c25b1 : (((rd_T60 l0_3 x7_1).f0) != a1) = true := bne_iff_ne.mpr c25
          have H' := AK H
          clear H
          have hnb30 := NB450_452.out
          have hnc30 := NB452_450.out
          have hcz31_0 : wr.cell? ⟨gb450, 0, none⟩ = some (.slice (some ad451) l0_0.length c0_0) := (bcl BK450.out 0).trans rfl
          have hcz31_1 : wr.cell? ⟨gb450, 1, none⟩ = some (.slice A0_1 l0_1.length c0_1) := (bcl BK450.out 1).trans rfl
          have hcz31_2 : wr.cell? ⟨gb450, 2, none⟩ = some (.slice A0_2 l0_2.length c0_2) := (bcl BK450.out 2).trans rfl
          have hcz31_3 : wr.cell? ⟨gb450, 3, none⟩ = some (.slice A0_3 l0_3.length c0_3) := (bcl BK450.out 3).trans rfl
          have hfz31_0 := bfz BK450.out 0
          have hfz31_1 := bfz BK450.out 1
          have hfz31_2 := bfz BK450.out 2
          have hfz31_3 := bfz BK450.out 3
          have p461 : 0 ≤ (x7_1 : Int) := of_decide_eq_true zA
          have q461 : x7_1 < (l0_3.length : Int) := of_decide_eq_true zA
          obtain ⟨ad461, e461, hx461_0, hx461_1⟩ := at_T60 HR0_3.out x7_1 p461 q461
          cases e461
          replace hx461_0 := (HB.out.cell (World.block_lt_of_cell? w _ hx461_0)).trans hx461_0
          replace hx461_1 := (HB.out.cell (World.block_lt_of_cell? w _ hx461_1)).trans hx461_1
          replace p461 := eq_true p461
          replace q461 := eq_true q461
          go_wp2
          go_roundg k1
          case measure => have := HK1.out; omega
          case rel => exact ⟨(x6_1), (wrap64 (x7_1 + 1)), (by first | rfl | (simp; done) | (simp [*]; done)), H', ⟨by have := HK1.out; omega⟩, ⟨by (with_reducible repeat (first | apply Kd.R_alloc | apply Kd.R_drewN | apply Kd.R_drew)); exact HO_6.out⟩, ⟨by (with_reducible repeat (first | apply Kd.V_alloc | apply Kd.V_drewN | apply Kd.V_drew)); exact HO_451000.out⟩, ⟨by (with_reducible repeat (first | refine blk_drewN ?_ _ | refine blk_drew ?_ | refine blk_alloc ?_ _)); exact BK450.out⟩, ⟨by (with_reducible repeat (first | refine blk_drewN ?_ _ | refine blk_drew ?_ | refine blk_alloc ?_ _)); exact BK452.out⟩, ⟨zB⟩⟩
        ·rw [if_neg c24] at H
         exact absurd H (by simp)
       ·rw [if_neg c23] at H
        have c23b0 : decide (x7_1 < (l0_3.length : Int)) = false := deF c23
        clear c23
        obtain rfl := Option.some.inj H
        have hnb32 := NB450_452.out
        have hnc32 := NB452_450.out
        have hcz33_0 : wr.cell? ⟨gb450, 0, none⟩ = some (.slice (some ad451) l0_0.length c0_0) := (bcl BK450.out 0).trans rfl
        have hcz33_1 : wr.cell? ⟨gb450, 1, none⟩ = some (.slice A0_1 l0_1.length c0_1) := (bcl BK450.out 1).trans rfl
        have hcz33_2 : wr.cell? ⟨gb450, 2, none⟩ = some (.slice A0_2 l0_2.length c0_2) := (bcl BK450.out 2).trans rfl
        have hcz33_3 : wr.cell? ⟨gb450, 3, none⟩ = some (.slice A0_3 l0_3.length c0_3) := (bcl BK450.out 3).trans rfl
        have hfz33_0 := bfz BK450.out 0
        have hfz33_1 := bfz BK450.out 1
        have hfz33_2 := bfz BK450.out 2
        have hfz33_3 := bfz BK450.out 3
        go_wp2
        go_ret
        exact ⟨_, by first | rfl | (simp [errW_none, errW_some] <;> rfl) | (simp [*, errW_none, errW_some] <;> rfl), Kd.V_mono (Kd.R_V (by (with_reducible repeat (first | apply Kd.R_alloc | apply Kd.R_drewN | apply Kd.R_drew)); exact HO_6.out)) (fun k_ hk => by first | exact ⟨(.inr (hk.1)), hk.2⟩ | exact (.inr (hk))), zB⟩
    ·rw [if_neg c15] at H
     have c15b0 : (((rd_T38 l0_0 a1).f0) == 4) = false := beq_eq_false_iff_ne.mpr c15
     have c15b1 : (((rd_T38 l0_0 a1).f0) != 4) = true := bne_iff_ne.mpr c15
     obtain rfl := Option.some.inj H
     go_enter Try.func132, Try.ntmps132
     go_wp2_with (first | ((with_reducible refine gate_dst (N := 2) rfl ?_); refine box_event ?hg (N := 2) ?hd (cs := #[.slice A0_0 l0_0.length c0_0, .slice A0_1 l0_1.length c0_1, .slice A0_2 l0_2.length c0_2, .slice A0_3 l0_3.length c0_3]) (t := 28) ?hr ?_; (case hd => rfl); (case hg => rfl); (case hr => first | (go_simp; done) | (go_simp; rfl)); intro gb450 hg w34 hbox hb; have n0_ := AK (Kd.V_below (Kd.V_elderB (by (with_reducible repeat (first | apply Kd.V_alloc | apply Kd.V_drewN | apply Kd.V_drew)); exact HO0_0.out) gb450 (Nat.le_of_eq hg.symm)) hb); have n1_ := AK (bst zB hb); have n2_ := AK (hbox); have n3_ := AK ((zG hg : w.heap.size ≤ gb450)); have n4_ := AK ((zG hg : w.heap.size ≤ gb450)); clear HO0_0; clear HB; have HO0_0 := n0_; have HB := n1_; have BK450 := n2_; have GW450 := n3_; have GE450 := n4_; clear n0_ n1_ n2_ n3_ n4_; clear hb hbox hg; have hcz35_0 : w34.cell? ⟨gb450, 0, none⟩ = some (.slice A0_0 l0_0.length c0_0) := (bcl BK450.out 0).trans rfl; have hcz35_1 : w34.cell? ⟨gb450, 1, none⟩ = some (.slice A0_1 l0_1.length c0_1) := (bcl BK450.out 1).trans rfl; have hcz35_2 : w34.cell? ⟨gb450, 2, none⟩ = some (.slice A0_2 l0_2.length c0_2) := (bcl BK450.out 2).trans rfl; have hcz35_3 : w34.cell? ⟨gb450, 3, none⟩ = some (.slice A0_3 l0_3.length c0_3) := (bcl BK450.out 3).trans rfl; have hfz35_0 := bfz BK450.out 0; have hfz35_1 := bfz BK450.out 1; have hfz35_2 := bfz BK450.out 2; have hfz35_3 := bfz BK450.out 3; have p451 : 0 ≤ (a1 : Int) := of_decide_eq_true zA; have q451 : a1 < (l0_0.length : Int) := of_decide_eq_true zA; obtain ⟨ad451, A451_2, c451_2, e451, hx451_0, hx451_1, hx451_2, hl451_2, hi451_2⟩ := at_T38 (Kd.V_reads' HO0_0.out).2.2 a1 p451 q451; cases e451; obtain ⟨ce451, hce451, hMe451, hcc451⟩ := Kd.V_get HO0_0.out z38 a1 p451 (by first | exact q451 | exact of_decide_eq_true zA | (have e_ := (Kd.V_reads' HO0_0.out).1; omega)); obtain ⟨ua451_2, uc451_2, rfl, ul451_2, ge451_2⟩ := k38_openF hMe451; have hv451_2 := hcc451 2 _ rfl; rw [add_field _ _ 2 (by omega)] at hv451_2; replace hv451_2 := Option.some.inj (hv451_2.symm.trans hx451_2); injection hv451_2 with hva_ hvn_ hvc_; rw [hva_] at ge451_2; rw [hvc_] at ul451_2; have HL451_2 := AK (show Kd.V (Kd.int .i64) 3 _ w.heap.size _ _ ((rd_T38 l0_0 a1).f2) from Kd.V_mk ul451_2 ge451_2); clear hva_ hvn_ hvc_ ge451_2 ul451_2; clear hcc451 hce451; have HR451_2 := AK hi451_2; have HC451_2 := AK hl451_2; clear hi451_2 hl451_2; replace p451 := eq_true p451; replace q451 := eq_true q451) | ((with_reducible refine gate_dst (N := 5) rfl ?_); refine box_event ?hg (N := 5) ?hd (cs := #[.int .i64 0, .string (⟨#[]⟩ : ByteArray), .slice none 0 0]) (t := 38) ?hr ?_; (case hd => rfl); (case hg => rfl); (case hr => first | (go_simp; done) | (go_simp; rfl)); intro gb452 hg w36 hbox hb; have n0_ := AK (Kd.V_below (Kd.V_elderB (by (with_reducible repeat (first | apply Kd.V_alloc | apply Kd.V_drewN | apply Kd.V_drew)); exact HO0_0.out) gb452 (Nat.le_of_eq hg.symm)) hb); have n1_ := AK (Kd.V_below (Kd.V_elderB (by (with_reducible repeat (first | apply Kd.V_alloc | apply Kd.V_drewN | apply Kd.V_drew)); exact HL451_2.out) gb452 (Nat.le_of_eq hg.symm)) hb); have n2_ := AK (bbl (zK BK450) hb); have n3_ := AK (Kd.C_below (by repeat (first | (with_reducible exact HR451_2.out) | (with_reducible refine Kd.C_alloc ?_ _) | (with_reducible refine Kd.C_drewN ?_ _) | (with_reducible refine Kd.C_drew ?_) | exact HR451_2.out)) hb); have n4_ := AK (bst zB hb); have n5_ := AK (hbox); have n6_ := AK ((zG hg : w.heap.size ≤ gb452)); have n7_ := AK ((zG hg : w.heap.size ≤ gb452)); have n8_ := AK (zN hg BK450); have n9_ := AK (zM hg BK450); clear HO0_0; clear HL451_2; clear BK450; clear HR451_2; clear HB; have HO0_0 := n0_; have HL451_2 := n1_; have BK450 := n2_; have HR451_2 := n3_; have HB := n4_; have BK452 := n5_; have GW452 := n6_; have GE452 := n7_; have NB450_452 := n8_; have NB452_450 := n9_; clear n0_ n1_ n2_ n3_ n4_ n5_ n6_ n7_ n8_ n9_; clear hb hbox hg; have hnb37 := NB452_450.out; have hnc37 := NB450_452.out; have hcz38_0 : w36.cell? ⟨gb452, 0, none⟩ = some (.int .i64 0) := (bcl BK452.out 0).trans rfl; have hcz38_1 : w36.cell? ⟨gb452, 1, none⟩ = some (.string (⟨#[]⟩ : ByteArray)) := (bcl BK452.out 1).trans rfl; have hcz38_2 : w36.cell? ⟨gb452, 2, none⟩ = some (.slice none 0 0) := (bcl BK452.out 2).trans rfl; have hfz38_0 := bfz BK452.out 0; have hfz38_1 := bfz BK452.out 1; have hfz38_2 := bfz BK452.out 2))
     go_ret
     exact ⟨_, by first | rfl | (simp [errW_none, errW_some] <;> rfl) | (simp [*, errW_none, errW_some] <;> rfl), by (with_reducible repeat (first | apply Kd.V_alloc | apply Kd.V_drewN | apply Kd.V_drew)); exact Kd.V_mono (Kd.V_far (p := ⟨gb452, 2, none⟩) (Kd.V_far (p := ⟨gb452, 1, none⟩) (Kd.V_far (p := ⟨gb452, 0, none⟩) (Kd.V_mono HL451_2.out (fun k_ hk => (⟨hk, hk.2⟩ : _ ∧ k_ ≠ gb452))) (fun _ hk => hk.2) (.int .i64 ((rd_T38 l0_0 a1).f0))) (fun _ hk => hk.2) (.string ((rd_T38 l0_0 a1).f1))) (fun _ hk => hk.2) (.slice A451_2 ((rd_T38 l0_0 a1).f2).length c451_2)) (fun _ hk => hk.1.1.1), zB⟩
  ·rw [if_neg c4] at H
   exact absurd H (by simp)
 ·rw [if_neg c3] at H
  exact absurd H (by simp)

/-! ### spec_l2Trace: function 118 -/
mutual
def spec_l2Trace.l0 : Nat → List Int → Int → List (S38) → List Int → List (S60) → List (S60) → Option (List Int)
 | 0, _, _, _, _, _, _ => none
 | k + 1, x1, x5, x467000, x467001, x467002, x467003 => if x5 < (x1.length : Int) then (if 0 ≤ x5 then ((spec_l2Next.f k x467000 x467001 x467002 x467003 (rd x1 x5)).bind fun t468 => (spec_l2Trace.l1 k x1 x5 t468 0 x467000 x467001 x467002 x467003)) else (none)) else (some x1)
def spec_l2Trace.l1 : Nat → List Int → Int → List Int → Int → List (S38) → List Int → List (S60) → List (S60) → Option (List Int)
 | 0, _, _, _, _, _, _, _, _ => none
 | k + 1, x1, x5, x6, x7, x467000, x467001, x467002, x467003 => if x7 < (x6.length : Int) then (if 0 ≤ x7 then ((spec_l2Put.f k x1 (rd x6 x7)).bind fun t472 => (spec_l2Trace.l1 k t472 x5 x6 (wrap64 (x7 + 1)) x467000 x467001 x467002 x467003)) else (none)) else (spec_l2Trace.l0 k x1 (wrap64 (x5 + 1)) x467000 x467001 x467002 x467003)
end
def spec_l2Trace.f (k : Nat) (l0_0 : List (S38)) (l0_1 : List Int) (l0_2 : List (S60)) (l0_3 : List (S60)) (l1 : List Int) : Option (List Int) := spec_l2Trace.l0 k l1 0 l0_0 l0_1 l0_2 l0_3
set_option maxHeartbeats 8000000 in
set_option maxRecDepth 100000 in
theorem spec_l2Trace.calls (k : Nat) (P0_0_ : Nat → Prop) (A0_0 : Option Addr) (c0_0 : Nat) (l0_0 : List (S38)) (A0_1 : Option Addr) (c0_1 : Nat) (l0_1 : List Int) (A0_2 : Option Addr) (c0_2 : Nat) (l0_2 : List (S60)) (A0_3 : Option Addr) (c0_3 : Nat) (l0_3 : List (S60)) (P1_ : Nat → Prop) (u9000_ : Value) (l1 : List Int) (r : List Int) (w0 w : World) (hB : Below w0.heap.size w0 w) (hs0_0 : Kd.V k38 38 w w0.heap.size (fun k_ => P0_0_ k_ ∧ some k_ ≠ (u9000_ : Value).ownBlock) (.slice A0_0 l0_0.length c0_0) l0_0) (hr0_1 : ∀ W_, Kept w W_ (fun k_ => P1_ k_) → Kd.C (Kd.int .i64) W_ A0_1 l0_1.length l0_1) (hc0_1 : l0_1.length ≤ c0_1) (hr0_2 : ∀ W_, Kept w W_ (fun k_ => P1_ k_) → Kd.C k60 W_ A0_2 l0_2.length l0_2) (hc0_2 : l0_2.length ≤ c0_2) (hr0_3 : ∀ W_, Kept w W_ (fun k_ => P1_ k_) → Kd.C k60 W_ A0_3 l0_3.length l0_3) (hc0_3 : l0_3.length ≤ c0_3) (ho1 : Kd.R (Kd.int .i64) 3 w w0.heap.size P1_ u9000_ l1) (h : spec_l2Trace.f k l0_0 l0_1 l0_2 l0_3 l1 = some r) :
  Calls Try.prog 118 #[.agg #[.slice A0_0 l0_0.length c0_0, .slice A0_1 l0_1.length c0_1, .slice A0_2 l0_2.length c0_2, .slice A0_3 l0_3.length c0_3], u9000_] w fun e w' => ∃ v0_ : Value, e = .returned (v0_) ∧ Kd.R (Kd.int .i64) 3 w' w0.heap.size (fun k_ => (P1_ k_ ∨ w.heap.size ≤ k_)) v0_ r ∧ Below w0.heap.size w0 w' ∧ Kept w w' (fun k_ => P1_ k_) := by
 have hu28 := Try.underlying28
 have HO0_0 := AK (show Kd.V k38 38 w w0.heap.size (fun k_ => ((P1_ k_ ∨ P0_0_ k_) ∨ w.heap.size ≤ k_) ∧ some k_ ≠ (u9000_ : Value).ownBlock) (.slice A0_0 l0_0.length c0_0) l0_0 from Kd.V_mono hs0_0 (fun k_ hk => ⟨.inl (.inr hk.1), hk.2⟩))
 have HR0_1 := AK hr0_1
 have HC0_1 := AK hc0_1
 clear hr0_1 hc0_1
 have HR0_2 := AK hr0_2
 have HC0_2 := AK hc0_2
 clear hr0_2 hc0_2
 have HR0_3 := AK hr0_3
 have HC0_3 := AK hc0_3
 clear hr0_3 hc0_3
 have HO1 := AK (show Kd.R (Kd.int .i64) 3 w w0.heap.size (fun k_ => (P1_ k_ ∨ w.heap.size ≤ k_)) u9000_ l1 from Kd.R_mono ho1 (fun k_ hk => (.inl hk)))
 have HK := AK (Kept.refl w (fun k_ => P1_ k_))
 have HW0 := AK hB.size
 have HB := AK hB
 clear hB
 have H : (spec_l2Trace.l0 k l1 0 l0_0 l0_1 l0_2 l0_3) = some r := h
 clear h
 have H' := AK H
 clear H
 go_enter Try.func118, Try.ntmps118
 go_wp2_with (first | ((with_reducible refine gate_dst (N := 2) rfl ?_); refine box_event ?hg (N := 2) ?hd (cs := #[.slice A0_0 l0_0.length c0_0, .slice A0_1 l0_1.length c0_1, .slice A0_2 l0_2.length c0_2, .slice A0_3 l0_3.length c0_3]) (t := 28) ?hr ?_; (case hd => rfl); (case hg => rfl); (case hr => first | (go_simp; done) | (go_simp; rfl)); intro gb466 hg w3 hbox hb; have n0_ := AK (Kd.R_below (by (with_reducible repeat (first | apply Kd.R_alloc | apply Kd.R_drewN | apply Kd.R_drew)); exact HO1.out) hb); have n1_ := AK (Kd.V_below (Kd.V_elderB (by (with_reducible repeat (first | apply Kd.V_alloc | apply Kd.V_drewN | apply Kd.V_drew)); exact HO0_0.out) gb466 (Nat.le_of_eq hg.symm)) hb); have n2_ := AK (Kept.below (S := (fun k_ => P1_ k_)) (by repeat (first | (with_reducible first | exact HK.out | apply Kept.alloc | apply Kept.drewN | apply Kept.drew) | exact HK.out)) hb); have n3_ := AK (bst zB hb); have n4_ := AK (hbox); have n5_ := AK ((by rw [hg]; exact (by first | exact HK.out.1 | exact (show Kept w _ (fun k_ => P1_ k_) from by repeat (first | (with_reducible first | exact HK.out | apply Kept.alloc | apply Kept.drewN | apply Kept.drew) | exact HK.out)).1) : w.heap.size ≤ gb466)); have n6_ := AK ((zG hg : w0.heap.size ≤ gb466)); clear HO1; clear HO0_0; clear HK; clear HB; have HO1 := n0_; have HO0_0 := n1_; have HK := n2_; have HB := n3_; have BK466 := n4_; have GW466 := n5_; have GE466 := n6_; clear n0_ n1_ n2_ n3_ n4_ n5_ n6_; clear hb hbox hg))
 go_loopg [1, 5] k (fun kq v1 v5 w' => ∃ (x1_1 : List Int) (x5_1 : Int), v5 = .int .i64 x5_1 ∧ Aside0 (spec_l2Trace.l0 kq x1_1 x5_1 l0_0 l0_1 l0_2 l0_3 = some r) ∧ Aside0 (kq ≤ k) ∧ Aside0 (Kd.R (Kd.int .i64) 3 w' w0.heap.size (fun k_ => (P1_ k_ ∨ w.heap.size ≤ k_)) v1 x1_1) ∧ Aside0 (Kd.V k38 38 w' w0.heap.size (fun k_ => ((P1_ k_ ∨ P0_0_ k_) ∨ w.heap.size ≤ k_) ∧ some k_ ≠ (v1 : Value).ownBlock ∧ k_ ≠ gb466) (.slice A0_0 l0_0.length c0_0) l0_0) ∧ Aside0 (w'.heap[gb466]? = some (.cells #[(.slice A0_0 l0_0.length c0_0), (.slice A0_1 l0_1.length c0_1), (.slice A0_2 l0_2.length c0_2), (.slice A0_3 l0_3.length c0_3)] 28 (0, 0))) ∧ Aside0 (Kept w w' (fun k_ => P1_ k_)) ∧ Aside0 (Below w0.heap.size w0 w'))
 case atStart => exact ⟨(l1), (0), (by first | rfl | (simp; done) | (simp [*]; done)), H', ⟨Nat.le_refl _⟩, ⟨by (with_reducible repeat (first | apply Kd.R_alloc | apply Kd.R_drewN | apply Kd.R_drew)); exact HO1.out⟩, ⟨by (with_reducible repeat (first | apply Kd.V_alloc | apply Kd.V_drewN | apply Kd.V_drew)); exact Kd.V_mono HO0_0.out (fun _ hk => ⟨hk.1.1, ⟨hk.1.2, hk.2⟩⟩)⟩, ⟨by (with_reducible repeat (first | refine blk_drewN ?_ _ | refine blk_drew ?_ | refine blk_alloc ?_ _)); exact BK466.out⟩, ⟨by repeat (first | (with_reducible first | exact HK.out | apply Kept.alloc | apply Kept.drewN | apply Kept.drew | refine Kept.setCell ?_ (.inr GW466.out) _) | exact HK.out)⟩, ⟨zB⟩⟩
 case round =>
  clear H'
  try clear c1
  try clear p2
  obtain ⟨x1_1, x5_1, rfl, HA, HK1, HO_1, HO_467000, BK466, HK, HB⟩ := hrel
  cases gk with
  | zero => exact absurd HA.out (by simp [spec_l2Trace.l0])
  | succ k1 =>
   have H := HA.out
   clear HA
   simp only [spec_l2Trace.l0] at H
   by_cases c4 : x5_1 < (x1_1.length : Int)
   ·rw [if_pos c4] at H
    have c4b0 : decide (x5_1 < (x1_1.length : Int)) = true := deT c4
    clear c4
    by_cases c5 : 0 ≤ x5_1
    ·rw [if_pos c5] at H
     have c5b0 : decide (0 ≤ x5_1) = true := deT c5
     clear c5
     replace H := Option.bind_eq_some_iff.mp H
     obtain ⟨t468, A60, H⟩ := H
     replace H : (spec_l2Trace.l1 k1 x1_1 x5_1 t468 0 l0_0 l0_1 l0_2 l0_3) = some r := H
     have A6 := AK A60
     clear A60
     have H' := AK H
     clear H
     obtain ⟨Ao7, co7, eo7⟩ := Kd.R_slice HO_1.out
     subst eo7
     try go_wp2
     have n0_ := AK (Kd.R_drew HO_1.out)
     have n1_ := AK (Kd.V_drew HO_467000.out)
     have n2_ := AK (blk_drew BK466.out)
     have n3_ := AK (Kept.drew HK.out)
     have n4_ := AK (below_drew1 HB.out)
     clear HO_1
     clear HO_467000
     clear BK466
     clear HK
     clear HB
     have HO_1 := n0_
     have HO_467000 := n1_
     have BK466 := n2_
     have HK := n3_
     have HB := n4_
     clear n0_ n1_ n2_ n3_ n4_
     have p467 : 0 ≤ (x5_1 : Int) := of_decide_eq_true zA
     have q467 : x5_1 < (x1_1.length : Int) := of_decide_eq_true zA
     obtain ⟨ad467, e467, hx467_0⟩ := Kd.at_int (Kd.R_reads' HO_1.out).2.2 x5_1 p467 q467
     cases e467
     replace p467 := eq_true p467
     replace q467 := eq_true q467
     refine start_ (n := 7) (S := fun w' => w'.cell? ⟨gb466, 0, none⟩ = some (.slice A0_0 l0_0.length c0_0) ∧ w'.cell? ⟨gb466, 1, none⟩ = some (.slice A0_1 l0_1.length c0_1) ∧ w'.cell? ⟨gb466, 2, none⟩ = some (.slice A0_2 l0_2.length c0_2) ∧ w'.cell? ⟨gb466, 3, none⟩ = some (.slice A0_3 l0_3.length c0_3) ∧ w'.cell? (ad467.add (x5_1).toNat) = some (.int .i64 (rd x1_1 x5_1))) (ds := []) #[fF,fF,fF,fF,fF,fF,fF] (by kernel_rfl) rfl rfl ⟨(bcl BK466.out 0).trans rfl, (bcl BK466.out 1).trans rfl, (bcl BK466.out 2).trans rfl, (bcl BK466.out 3).trans rfl, hx467_0⟩ (fun hHeld => ?_)
     generalize wr.drew = w8 at HO_1 HO_467000 BK466 HK HB hx467_0 hHeld ⊢
     refine pure_ (i := 1) (N := some 15) (v := ?_) (a' := ?_) #[fF,tT,fF,fF,fF,fF,fF] rfl rfl (by kernel_rfl) (fun _ _ _ h => h) (Or.inl ⟨by rfl, ?_⟩) ?_ ?_
     rotate_left
     ·intro w'
      go_simp
      with_reducible rfl
     rotate_left
     ·exact zP
     refine pure_ (i := 2) (N := some 16) (v := ?_) (a' := ?_) #[fF,tT,tT,fF,fF,fF,fF] rfl rfl (by kernel_rfl) (fun _ _ _ h => h) (Or.inl ⟨by rfl, ?_⟩) ?_ ?_
     rotate_left
     ·intro w'
      go_simp
      with_reducible rfl
     rotate_left
     ·exact zP
     refine pure_ (i := 3) (N := some 17) (v := ?_) (a' := ?_) #[fF,tT,tT,tT,fF,fF,fF] rfl rfl (by kernel_rfl) (fun _ _ _ h => h) (Or.inl ⟨by rfl, ?_⟩) ?_ ?_
     rotate_left
     ·intro w'
      go_simp
      with_reducible rfl
     rotate_left
     ·exact zP
     refine take_ (i := 0) (N := some 14) (v := ?_) (a' := ?_) #[tT,tT,tT,tT,fF,fF,fF] rfl rfl (by kernel_rfl) (fun _ _ _ h => h) (Or.inl ⟨by rfl, ?_⟩) hHeld ?_ ?_
     rotate_left
     ·rintro w' ⟨s0, s1, s2, s3, s4⟩
      go_simp
      with_reducible rfl
     rotate_left
     ·exact zP
     refine take_ (i := 4) (N := some 18) (v := ?_) (a' := ?_) #[tT,tT,tT,tT,tT,fF,fF] rfl rfl (by kernel_rfl) (fun _ _ _ h => h) (Or.inl ⟨by rfl, ?_⟩) hHeld ?_ ?_
     rotate_left
     ·rintro w' ⟨s0, s1, s2, s3, s4⟩
      go_simp
      with_reducible rfl
     rotate_left
     ·exact zP
     refine one_ (i := 5) (N := some 19) #[tT,tT,tT,tT,tT,tT,fF] rfl rfl (by kernel_rfl) (by decide) (fun K hK => ?_)
     refine goes_ Try.func132 (by kernel_rfl) rfl #[.agg #[.slice A0_0 l0_0.length c0_0, .slice A0_1 l0_1.length c0_1, .slice A0_2 l0_2.length c0_2, .slice A0_3 l0_3.length c0_3], .int .i64 (rd x1_1 x5_1)] (by rfl) rfl rfl zI ?_
     with_reducible refine (spec_l2Next.calls k1 (fun k_ => (((P1_ k_ ∨ P0_0_ k_) ∨ w.heap.size ≤ k_) ∧ (some k_ ≠ (.slice (some ad467) x1_1.length co7 : Value).ownBlock ∧ k_ ≠ gb466))) _ _ l0_0 _ _ l0_1 _ _ l0_2 _ _ l0_3 (rd x1_1 x5_1) t468 _ ?side1 ?side2 ?side3 ?side4 ?side5 ?side6 ?side7 A6.out).mono ?_
     (case side1 => exact HO_467000.out)
     (case side2 => exact Kd.C_kept_now HR0_1.out (by repeat (first | (with_reducible first | exact HK.out | apply Kept.alloc | apply Kept.drewN | apply Kept.drew | refine Kept.setCell ?_ (.inr GW466.out) _) | exact HK.out)))
     (case side3 => exact HC0_1.out)
     (case side4 => exact Kd.C_kept_now HR0_2.out (by repeat (first | (with_reducible first | exact HK.out | apply Kept.alloc | apply Kept.drewN | apply Kept.drew | refine Kept.setCell ?_ (.inr GW466.out) _) | exact HK.out)))
     (case side5 => exact HC0_2.out)
     (case side6 => exact Kd.C_kept_now HR0_3.out (by repeat (first | (with_reducible first | exact HK.out | apply Kept.alloc | apply Kept.drewN | apply Kept.drew | refine Kept.setCell ?_ (.inr GW466.out) _) | exact HK.out)))
     (case side7 => exact HC0_3.out)
     rintro e w9 ⟨v469, rfl, ho0, hb⟩
     have HS4_ := (hb.cell (World.block_lt_of_cell? _ _ (hHeld.2.2.2.2))).trans (hHeld.2.2.2.2)
     refine ⟨_, rfl, ?_⟩
     have n0_ := AK (Kd.R_below (by (with_reducible repeat (first | apply Kd.R_alloc | apply Kd.R_drewN | apply Kd.R_drew)); exact HO_1.out) hb)
     have n1_ := AK (Kd.V_below (by (with_reducible repeat (first | apply Kd.V_alloc | apply Kd.V_drewN | apply Kd.V_drew)); exact HO_467000.out) hb)
     have n2_ := AK (Kd.V_lower (Kd.V_mono (ok' := fun k_ => ((P1_ k_ ∨ P0_0_ k_) ∨ w.heap.size ≤ k_) ∧ some k_ ≠ (.slice (some ad467) x1_1.length co7 : Value).ownBlock ∧ k_ ≠ gb466) ho0 (fun k_ hk_ => ⟨Or.elim hk_ (fun hs_ => hs_.1) (fun hn_ => (.inr (Nat.le_trans (by first | exact HK.out.1 | exact (show Kept w _ (fun k_ => P1_ k_) from by repeat (first | (with_reducible first | exact HK.out | apply Kept.alloc | apply Kept.drewN | apply Kept.drew | refine Kept.setCell ?_ (.inr GW466.out) _) | exact HK.out)).1) hn_))), Or.elim hk_ (fun hs_ => hs_.2.1) (fun hn_ => (Kd.fresh' (Kd.R_lt (by (with_reducible repeat (first | apply Kd.R_alloc | apply Kd.R_drewN | apply Kd.R_drew)); exact HO_1.out)) k_ hn_)), Or.elim hk_ (fun hs_ => hs_.2.2) (fun hn_ => (Kd.freshB (zK BK466) k_ hn_))⟩)) (below_size zB))
     have n3_ := AK (bbl (zK BK466) hb)
     have n4_ := AK (Kept.below (S := (fun k_ => P1_ k_)) (by repeat (first | (with_reducible first | exact HK.out | apply Kept.alloc | apply Kept.drewN | apply Kept.drew | refine Kept.setCell ?_ (.inr GW466.out) _) | exact HK.out)) hb)
     have n5_ := AK (bst zB hb)
     clear HO_1
     clear HO_467000
     clear BK466
     clear HK
     clear HB
     have HO_1 := n0_
     have HO_467000 := n1_
     have HO470 := n2_
     have BK466 := n3_
     have HK := n4_
     have HB := n5_
     clear n0_ n1_ n2_ n3_ n4_ n5_
     (try clear hb)
     (try clear hb2)
     (try clear hk)
     (try clear hi)
     (try clear ho0)
     refine hK.out _ _ ⟨(bcl BK466.out 0).trans rfl, (bcl BK466.out 1).trans rfl, (bcl BK466.out 2).trans rfl, (bcl BK466.out 3).trans rfl, HS4_⟩ (fun hHeld => ?_)
     clear hK K
     refine norm_ (a' := ?_) ?_ ?_
     rotate_left
     ·show Act.put _ (some 19) _ = _
      exact zP
     refine pure_ (i := 6) (N := some 6) (v := ?_) (a' := ?_) #[tT,tT,tT,tT,tT,tT,tT] rfl rfl (by kernel_rfl) (fun _ _ _ h => h) (Or.inl ⟨by rfl, ?_⟩) ?_ ?_
     rotate_left
     ·intro w'
      go_simp
      with_reducible rfl
     rotate_left
     ·exact zP
     refine done_ (by kernel_rfl) ?_
     try go_wp2
     go_loopg [1, 7] k1 (fun kq v1 v7 w' => ∃ (x1_2 : List Int) (x7_2 : Int), v7 = .int .i64 x7_2 ∧ Aside0 (spec_l2Trace.l1 kq x1_2 x5_1 t468 x7_2 l0_0 l0_1 l0_2 l0_3 = some r) ∧ Aside0 (kq ≤ k1) ∧ Aside0 (Kd.R (Kd.int .i64) 3 w' w0.heap.size (fun k_ => (P1_ k_ ∨ w.heap.size ≤ k_)) v1 x1_2) ∧ Aside0 (Kd.V (Kd.int .i64) 3 w' w0.heap.size (fun k_ => ((P1_ k_ ∨ P0_0_ k_) ∨ w.heap.size ≤ k_) ∧ some k_ ≠ (v1 : Value).ownBlock ∧ k_ ≠ gb466) v469 t468) ∧ Aside0 (Kd.V k38 38 w' w0.heap.size (fun k_ => ((P1_ k_ ∨ P0_0_ k_) ∨ w.heap.size ≤ k_) ∧ some k_ ≠ (v1 : Value).ownBlock ∧ k_ ≠ gb466) (.slice A0_0 l0_0.length c0_0) l0_0) ∧ Aside0 (w'.heap[gb466]? = some (.cells #[(.slice A0_0 l0_0.length c0_0), (.slice A0_1 l0_1.length c0_1), (.slice A0_2 l0_2.length c0_2), (.slice A0_3 l0_3.length c0_3)] 28 (0, 0))) ∧ Aside0 (Kept w w' (fun k_ => P1_ k_)) ∧ Aside0 (Below w0.heap.size w0 w'))
     case atStart => exact ⟨(x1_1), (0), (by first | rfl | (simp; done) | (simp [*]; done)), H', ⟨Nat.le_refl _⟩, ⟨by (with_reducible repeat (first | apply Kd.R_alloc | apply Kd.R_drewN | apply Kd.R_drew)); exact HO_1.out⟩, ⟨by (with_reducible repeat (first | apply Kd.V_alloc | apply Kd.V_drewN | apply Kd.V_drew)); exact HO470.out⟩, ⟨by (with_reducible repeat (first | apply Kd.V_alloc | apply Kd.V_drewN | apply Kd.V_drew)); exact HO_467000.out⟩, ⟨by (with_reducible repeat (first | refine blk_drewN ?_ _ | refine blk_drew ?_ | refine blk_alloc ?_ _)); exact BK466.out⟩, ⟨by repeat (first | (with_reducible first | exact HK.out | apply Kept.alloc | apply Kept.drewN | apply Kept.drew | refine Kept.setCell ?_ (.inr GW466.out) _) | exact HK.out)⟩, ⟨zB⟩⟩
     case round =>
      clear H'
      try clear c1
      try clear p2
      try clear c4
      try clear c4b0
      try clear p4
      try clear q4
      try clear hx4
      try clear c5
      try clear c5b0
      try clear hx467_0
      try clear p2
      try clear p467
      try clear q467
      obtain ⟨x1_2, x7_2, rfl, HA, HK2, HO_1, HO_6, HO_467000, BK466, HK, HB⟩ := hrel
      cases gk with
      | zero => exact absurd HA.out (by simp [spec_l2Trace.l1])
      | succ k2 =>
       have H := HA.out
       clear HA
       simp only [spec_l2Trace.l1] at H
       by_cases c10 : x7_2 < (t468.length : Int)
       ·rw [if_pos c10] at H
        have c10b0 : decide (x7_2 < (t468.length : Int)) = true := deT c10
        clear c10
        by_cases c11 : 0 ≤ x7_2
        ·rw [if_pos c11] at H
         have c11b0 : decide (0 ≤ x7_2) = true := deT c11
         clear c11
         replace H := Option.bind_eq_some_iff.mp H
         obtain ⟨t472, A120, H⟩ := H
         replace H : (spec_l2Trace.l1 k2 t472 x5_1 t468 (wrap64 (x7_2 + 1)) l0_0 l0_1 l0_2 l0_3) = some r := H
         have A12 := AK A120
         clear A120
         have H' := AK H
         clear H
         obtain ⟨Ao13, co13, eo13⟩ := Kd.V_slice HO_6.out
         subst eo13
         have p471 : 0 ≤ (x7_2 : Int) := of_decide_eq_true zA
         have q471 : x7_2 < (t468.length : Int) := of_decide_eq_true zA
         obtain ⟨ad471, e471, hx471_0⟩ := Kd.at_int (Kd.V_reads' HO_6.out).2.2 x7_2 p471 q471
         cases e471
         replace p471 := eq_true p471
         replace q471 := eq_true q471
         obtain ⟨Ao14, co14, eo14⟩ := Kd.R_slice HO_1.out
         subst eo14
         go_wp2_with (first | ((with_reducible refine gate_callee (f := 117) rfl ?_); refine goesL_ (some 31) rfl rfl Try.func117 (by kernel_rfl) rfl #[.slice Ao14 x1_2.length co14, .int .i64 (rd t468 x7_2)] rfl zI ?_; (with_reducible refine (spec_l2Put.calls k2 (fun k_ => some k_ = (.slice Ao14 x1_2.length co14 : Value).ownBlock) (.slice Ao14 x1_2.length co14) x1_2 (rd t468 x7_2) t472 w0 _ ?side1 ?side2 A12.out).mono ?_); (case side1 => repeat (first | (with_reducible first | exact HB.out | apply below_alloc | apply pw_below_drewN | apply below_drew1 | refine below_set ?_ GE466.out) | exact HB.out)); (case side2 => exact Kd.R_tight rfl HO_1.out); rintro e w15 ⟨v473, rfl, ho0, hb, hkp⟩; refine ⟨_, rfl, ?_⟩; have n0_ := AK (Kd.V_mono (ok' := fun k_ => ((P1_ k_ ∨ P0_0_ k_) ∨ w.heap.size ≤ k_) ∧ k_ ≠ gb466 ∧ some k_ ≠ (v473 : Value).ownBlock) (Kd.V_keptB (HO_6.out) hkp (fun k_ hk_ hs_ => (hk_.2.1) hs_)) (fun k_ hk_ => ⟨hk_.1.1, hk_.1.2.2, fun e_ => Or.elim (ho0.1 k_ e_.symm) (fun hs_ => hk_.2.1 hs_) (fun hn_ => Nat.not_le.2 hk_.2.2 hn_)⟩)); have n1_ := AK (Kd.V_mono (ok' := fun k_ => ((P1_ k_ ∨ P0_0_ k_) ∨ w.heap.size ≤ k_) ∧ k_ ≠ gb466 ∧ some k_ ≠ (v473 : Value).ownBlock) (Kd.V_keptB (HO_467000.out) hkp (fun k_ hk_ hs_ => (hk_.2.1) hs_)) (fun k_ hk_ => ⟨hk_.1.1, hk_.1.2.2, fun e_ => Or.elim (ho0.1 k_ e_.symm) (fun hs_ => hk_.2.1 hs_) (fun hn_ => Nat.not_le.2 hk_.2.2 hn_)⟩)); have n2_ := AK (blk_kept (zK BK466) hkp (fun hs_ => (fun e_ => (Kd.R_ne HO_1.out BK466.out (by decide)) e_) hs_)); have n3_ := AK (Kd.R_mono (ok' := fun k_ => (P1_ k_ ∨ w.heap.size ≤ k_)) ho0 (fun k_ hk_ => Or.elim hk_ (fun hs_ => (HO_1.out.1 k_ (hs_).symm)) (fun hn_ => (.inr (Nat.le_trans (by first | exact HK.out.1 | exact (show Kept w _ (fun k_ => P1_ k_) from by repeat (first | (with_reducible first | exact HK.out | apply Kept.alloc | apply Kept.drewN | apply Kept.drew | refine Kept.setCell ?_ (.inr GW466.out) _) | exact HK.out)).1) hn_))))); have n4_ := AK (Kept.then_ (S := (fun k_ => P1_ k_)) (by repeat (first | (with_reducible first | exact HK.out | apply Kept.alloc | apply Kept.drewN | apply Kept.drew | refine Kept.setCell ?_ (.inr GW466.out) _) | exact HK.out)) hkp (fun k_ hs_ => (fun e_ => (HO_1.out.1 k_ e_.symm)) hs_)); have n5_ := AK (hb); clear HO_6; clear HO_467000; clear BK466; clear HK; clear HB; clear HO_1; have HO_6 := n0_; have HO_467000 := n1_; have BK466 := n2_; have HO474 := n3_; have HK := n4_; have HB := n5_; clear n0_ n1_ n2_ n3_ n4_ n5_; (try clear hb); (try clear hkp); (try clear ho0)))
         go_roundg k2
         case measure => have := HK1.out; have := HK2.out; omega
         case rel => exact ⟨(t472), (wrap64 (x7_2 + 1)), (by first | rfl | (simp; done) | (simp [*]; done)), H', ⟨by have := HK1.out; have := HK2.out; omega⟩, ⟨by (with_reducible repeat (first | apply Kd.R_alloc | apply Kd.R_drewN | apply Kd.R_drew)); exact HO474.out⟩, ⟨by (with_reducible repeat (first | apply Kd.V_alloc | apply Kd.V_drewN | apply Kd.V_drew)); exact Kd.V_mono HO_6.out (fun _ hk => ⟨hk.1, ⟨hk.2.2, hk.2.1⟩⟩)⟩, ⟨by (with_reducible repeat (first | apply Kd.V_alloc | apply Kd.V_drewN | apply Kd.V_drew)); exact Kd.V_mono HO_467000.out (fun _ hk => ⟨hk.1, ⟨hk.2.2, hk.2.1⟩⟩)⟩, ⟨by (with_reducible repeat (first | refine blk_drewN ?_ _ | refine blk_drew ?_ | refine blk_alloc ?_ _)); exact BK466.out⟩, ⟨by repeat (first | (with_reducible first | exact HK.out | apply Kept.alloc | apply Kept.drewN | apply Kept.drew | refine Kept.setCell ?_ (.inr GW466.out) _) | exact HK.out)⟩, ⟨zB⟩⟩
        ·rw [if_neg c11] at H
         exact absurd H (by simp)
       ·rw [if_neg c10] at H
        have c10b0 : decide (x7_2 < (t468.length : Int)) = false := deF c10
        clear c10
        have H' := AK H
        clear H
        obtain ⟨Ao16, co16, eo16⟩ := Kd.V_slice HO_6.out
        subst eo16
        go_wp2
        go_roundg k2
        case measure => have := HK1.out; have := HK2.out; omega
        case rel => exact ⟨(x1_2), (wrap64 (x5_1 + 1)), (by first | rfl | (simp; done) | (simp [*]; done)), H', ⟨by have := HK1.out; have := HK2.out; omega⟩, ⟨by (with_reducible repeat (first | apply Kd.R_alloc | apply Kd.R_drewN | apply Kd.R_drew)); exact HO_1.out⟩, ⟨by (with_reducible repeat (first | apply Kd.V_alloc | apply Kd.V_drewN | apply Kd.V_drew)); exact HO_467000.out⟩, ⟨by (with_reducible repeat (first | refine blk_drewN ?_ _ | refine blk_drew ?_ | refine blk_alloc ?_ _)); exact BK466.out⟩, ⟨by repeat (first | (with_reducible first | exact HK.out | apply Kept.alloc | apply Kept.drewN | apply Kept.drew | refine Kept.setCell ?_ (.inr GW466.out) _) | exact HK.out)⟩, ⟨zB⟩⟩
    ·rw [if_neg c5] at H
     exact absurd H (by simp)
   ·rw [if_neg c4] at H
    have c4b0 : decide (x5_1 < (x1_1.length : Int)) = false := deF c4
    clear c4
    obtain rfl := Option.some.inj H
    obtain ⟨Ao17, co17, eo17⟩ := Kd.R_slice HO_1.out
    subst eo17
    go_wp2
    go_ret
    exact ⟨_, by first | rfl | (simp [errW_none, errW_some] <;> rfl) | (simp [*, errW_none, errW_some] <;> rfl), by (with_reducible repeat (first | apply Kd.R_alloc | apply Kd.R_drewN | apply Kd.R_drew)); exact HO_1.out, zB, by repeat (first | (with_reducible first | exact HK.out | apply Kept.alloc | apply Kept.drewN | apply Kept.drew | refine Kept.setCell ?_ (.inr GW466.out) _) | exact HK.out)⟩

/-! ### spec_l2Reach: function 86 -/
def spec_l2Reach.l0 : Nat → List Int → Int → List (S38) → List Int → List (S60) → List (S60) → Option (List Int)
 | 0, _, _, _, _, _, _ => none
 | k + 1, x3, x4, x476000, x476001, x476002, x476003 => if x4 < (x476001.length : Int) then (if 0 ≤ x4 then ((spec_l2Put.f k x3 (rd x476001 x4)).bind fun t480 => (spec_l2Reach.l0 k t480 (wrap64 (x4 + 1)) x476000 x476001 x476002 x476003)) else (none)) else ((spec_l2Trace.f k x476000 x476001 x476002 x476003 x3).bind fun t483 => (some t483))
def spec_l2Reach.f (k : Nat) (l0_0 : List (S38)) (l0_1 : List Int) (l0_2 : List (S60)) (l0_3 : List (S60)) : Option (List Int) := spec_l2Reach.l0 k (([] : List Int)) 0 l0_0 l0_1 l0_2 l0_3
set_option maxHeartbeats 8000000 in
set_option maxRecDepth 100000 in
theorem spec_l2Reach.calls (k : Nat) (A0_0 : Option Addr) (c0_0 : Nat) (l0_0 : List (S38)) (A0_1 : Option Addr) (c0_1 : Nat) (l0_1 : List Int) (A0_2 : Option Addr) (c0_2 : Nat) (l0_2 : List (S60)) (A0_3 : Option Addr) (c0_3 : Nat) (l0_3 : List (S60)) (r : List Int) (w : World) (hr0_0 : Kd.C k38 w A0_0 l0_0.length l0_0) (hc0_0 : l0_0.length ≤ c0_0) (hr0_1 : Kd.C (Kd.int .i64) w A0_1 l0_1.length l0_1) (hc0_1 : l0_1.length ≤ c0_1) (hr0_2 : Kd.C k60 w A0_2 l0_2.length l0_2) (hc0_2 : l0_2.length ≤ c0_2) (hr0_3 : Kd.C k60 w A0_3 l0_3.length l0_3) (hc0_3 : l0_3.length ≤ c0_3) (h : spec_l2Reach.f k l0_0 l0_1 l0_2 l0_3 = some r) :
  Calls Try.prog 86 #[.agg #[.slice A0_0 l0_0.length c0_0, .slice A0_1 l0_1.length c0_1, .slice A0_2 l0_2.length c0_2, .slice A0_3 l0_3.length c0_3]] w fun e w' => ∃ v0_ : Value, e = .returned (v0_) ∧ Kd.R (Kd.int .i64) 3 w' w.heap.size (fun _ => True) v0_ r ∧ Below w.heap.size w w' := by
 have hu28 := Try.underlying28
 have HR0_0 := AK hr0_0
 have HC0_0 := AK hc0_0
 clear hr0_0 hc0_0
 have HR0_1 := AK hr0_1
 have HC0_1 := AK hc0_1
 clear hr0_1 hc0_1
 have HR0_2 := AK hr0_2
 have HC0_2 := AK hc0_2
 clear hr0_2 hc0_2
 have HR0_3 := AK hr0_3
 have HC0_3 := AK hc0_3
 clear hr0_3 hc0_3
 have HB := AK (Below.refl w.heap.size w)
 have H : (spec_l2Reach.l0 k (([] : List Int)) 0 l0_0 l0_1 l0_2 l0_3) = some r := h
 clear h
 obtain ⟨y476, hy476⟩ : ∃ y_ : List Int, y_ = (([] : List Int)) := ⟨_, rfl⟩
 replace H : (spec_l2Reach.l0 k y476 0 l0_0 l0_1 l0_2 l0_3) = some r := by first | (rw [hy476]; with_reducible exact H) | (have H2_ := (Option.bind_some _ _).symm.trans H; rw [hy476]; with_reducible exact H2_) | (have H2_ := (Option.bind_some _ _).symm.trans H; with_reducible exact H2_) | with_reducible exact H | (rw [hy476]; exact H) | exact H
 have Ny476 := AK hy476
 clear hy476
 have H' := AK H
 clear H
 go_enter Try.func86, Try.ntmps86
 go_wp2_with (first | ((with_reducible refine gate_dst (N := 1) rfl ?_); refine box_event ?hg (N := 1) ?hd (cs := #[.slice A0_0 l0_0.length c0_0, .slice A0_1 l0_1.length c0_1, .slice A0_2 l0_2.length c0_2, .slice A0_3 l0_3.length c0_3]) (t := 28) ?hr ?_; (case hd => rfl); (case hg => rfl); (case hr => first | (go_simp; done) | (go_simp; rfl)); intro gb475 hg w2 hbox hb; have n0_ := AK (bst zB hb); have n1_ := AK (hbox); have n2_ := AK ((zG hg : w.heap.size ≤ gb475)); have n3_ := AK ((zG hg : w.heap.size ≤ gb475)); clear HB; have HB := n0_; have BK475 := n1_; have GW475 := n2_; have GE475 := n3_; clear n0_ n1_ n2_ n3_; clear hb hbox hg) | ((with_reducible refine gate_dst (N := 5) rfl ?_); refine Kd.R_lit (Kd.int .i64) _ 3 ?hg (N := 5) ?hd (xs := ([] : List Int)) (inner := []) (ok := fun _ => True) (okp := fun _ => True) ?hr ?hp (fun _ hk => hk) trivial (Below.refl _ _) (Nat.le_refl _) (by simp) ?_; (case hd => rfl); (case hg => rfl); (case hr => first | (go_simp; done) | (go_simp; rfl)); (case hp => exact (Reps.none _ _)); intro v477 w3 ho4 hb hg_ hnew_; clear hg_ hnew_; (first | rw [← Ny476.out] at ho4 | (simp only [Int.reduceToNat] at ho4; rw [← Ny476.out] at ho4)); have n0_ := AK (Kd.R_lower ho4 (below_size zB)); have n1_ := AK (bbl (zK BK475) hb); have n2_ := AK (bst zB hb); clear BK475; clear HB; have HO478 := n0_; have BK475 := n1_; have HB := n2_; clear n0_ n1_ n2_; clear hb ho4))
 go_loopg [3, 4] k (fun kq v3 v4 w' => ∃ (x3_1 : List Int) (x4_1 : Int), v4 = .int .i64 x4_1 ∧ Aside0 (spec_l2Reach.l0 kq x3_1 x4_1 l0_0 l0_1 l0_2 l0_3 = some r) ∧ Aside0 (kq ≤ k) ∧ Aside0 (Kd.R (Kd.int .i64) 3 w' w.heap.size (fun _ => True) v3 x3_1) ∧ Aside0 (w'.heap[gb475]? = some (.cells #[(.slice A0_0 l0_0.length c0_0), (.slice A0_1 l0_1.length c0_1), (.slice A0_2 l0_2.length c0_2), (.slice A0_3 l0_3.length c0_3)] 28 (0, 0))) ∧ Aside0 (Below w.heap.size w w'))
 case atStart => exact ⟨(y476), (0), (by first | rfl | (simp; done) | (simp [*]; done)), H', ⟨Nat.le_refl _⟩, ⟨by (with_reducible repeat (first | apply Kd.R_alloc | apply Kd.R_drewN | apply Kd.R_drew)); exact HO478.out⟩, ⟨by (with_reducible repeat (first | refine blk_drewN ?_ _ | refine blk_drew ?_ | refine blk_alloc ?_ _)); exact BK475.out⟩, ⟨zB⟩⟩
 case round =>
  clear H'
  try clear p2
  obtain ⟨x3_1, x4_1, rfl, HA, HK1, HO_3, BK475, HB⟩ := hrel
  cases gk with
  | zero => exact absurd HA.out (by simp [spec_l2Reach.l0])
  | succ k1 =>
   have H := HA.out
   clear HA
   simp only [spec_l2Reach.l0] at H
   by_cases c5 : x4_1 < (l0_1.length : Int)
   ·rw [if_pos c5] at H
    have c5b0 : decide (x4_1 < (l0_1.length : Int)) = true := deT c5
    clear c5
    by_cases c6 : 0 ≤ x4_1
    ·rw [if_pos c6] at H
     have c6b0 : decide (0 ≤ x4_1) = true := deT c6
     clear c6
     replace H := Option.bind_eq_some_iff.mp H
     obtain ⟨t480, A70, H⟩ := H
     replace H : (spec_l2Reach.l0 k1 t480 (wrap64 (x4_1 + 1)) l0_0 l0_1 l0_2 l0_3) = some r := H
     have A7 := AK A70
     clear A70
     have H' := AK H
     clear H
     have hcz8_0 : wr.cell? ⟨gb475, 0, none⟩ = some (.slice A0_0 l0_0.length c0_0) := (bcl BK475.out 0).trans rfl
     have hcz8_1 : wr.cell? ⟨gb475, 1, none⟩ = some (.slice A0_1 l0_1.length c0_1) := (bcl BK475.out 1).trans rfl
     have hcz8_2 : wr.cell? ⟨gb475, 2, none⟩ = some (.slice A0_2 l0_2.length c0_2) := (bcl BK475.out 2).trans rfl
     have hcz8_3 : wr.cell? ⟨gb475, 3, none⟩ = some (.slice A0_3 l0_3.length c0_3) := (bcl BK475.out 3).trans rfl
     have hfz8_0 := bfz BK475.out 0
     have hfz8_1 := bfz BK475.out 1
     have hfz8_2 := bfz BK475.out 2
     have hfz8_3 := bfz BK475.out 3
     have p479 : 0 ≤ (x4_1 : Int) := of_decide_eq_true zA
     have q479 : x4_1 < (l0_1.length : Int) := of_decide_eq_true zA
     obtain ⟨ad479, e479, hx479_0⟩ := Kd.at_int HR0_1.out x4_1 p479 q479
     cases e479
     replace hx479_0 := (HB.out.cell (World.block_lt_of_cell? w _ hx479_0)).trans hx479_0
     replace p479 := eq_true p479
     replace q479 := eq_true q479
     obtain ⟨Ao9, co9, eo9⟩ := Kd.R_slice HO_3.out
     subst eo9
     go_wp2_with (first | ((with_reducible refine gate_callee (f := 117) rfl ?_); refine goesL_ (some 19) rfl rfl Try.func117 (by kernel_rfl) rfl #[.slice Ao9 x3_1.length co9, .int .i64 (rd l0_1 x4_1)] rfl zI ?_; (with_reducible refine (spec_l2Put.calls k1 (fun k_ => some k_ = (.slice Ao9 x3_1.length co9 : Value).ownBlock) (.slice Ao9 x3_1.length co9) x3_1 (rd l0_1 x4_1) t480 w _ ?side1 ?side2 A7.out).mono ?_); (case side1 => repeat (first | (with_reducible first | exact HB.out | apply below_alloc | apply pw_below_drewN | apply below_drew1 | refine below_set ?_ GE475.out) | exact HB.out)); (case side2 => exact Kd.R_tight rfl HO_3.out); rintro e w10 ⟨v481, rfl, ho0, hb, hkp⟩; refine ⟨_, rfl, ?_⟩; have n0_ := AK (blk_kept (zK BK475) hkp (fun hs_ => (fun e_ => (Kd.R_ne HO_3.out BK475.out (by decide)) e_) hs_)); have n1_ := AK (Kd.R_mono (ok' := fun k_ => True) ho0 (fun k_ hk_ => trivial)); have n2_ := AK (hb); clear BK475; clear HB; clear HO_3; have BK475 := n0_; have HO482 := n1_; have HB := n2_; clear n0_ n1_ n2_; (try clear hb); (try clear hkp); (try clear ho0)))
     go_roundg k1
     case measure => have := HK1.out; omega
     case rel => exact ⟨(t480), (wrap64 (x4_1 + 1)), (by first | rfl | (simp; done) | (simp [*]; done)), H', ⟨by have := HK1.out; omega⟩, ⟨by (with_reducible repeat (first | apply Kd.R_alloc | apply Kd.R_drewN | apply Kd.R_drew)); exact HO482.out⟩, ⟨by (with_reducible repeat (first | refine blk_drewN ?_ _ | refine blk_drew ?_ | refine blk_alloc ?_ _)); exact BK475.out⟩, ⟨zB⟩⟩
    ·rw [if_neg c6] at H
     exact absurd H (by simp)
   ·rw [if_neg c5] at H
    have c5b0 : decide (x4_1 < (l0_1.length : Int)) = false := deF c5
    clear c5
    replace H := Option.bind_eq_some_iff.mp H
    obtain ⟨t483, A110, H⟩ := H
    replace H : (some t483) = some r := H
    have A11 := AK A110
    clear A110
    obtain rfl := Option.some.inj H
    have hcz12_0 : wr.cell? ⟨gb475, 0, none⟩ = some (.slice A0_0 l0_0.length c0_0) := (bcl BK475.out 0).trans rfl
    have hcz12_1 : wr.cell? ⟨gb475, 1, none⟩ = some (.slice A0_1 l0_1.length c0_1) := (bcl BK475.out 1).trans rfl
    have hcz12_2 : wr.cell? ⟨gb475, 2, none⟩ = some (.slice A0_2 l0_2.length c0_2) := (bcl BK475.out 2).trans rfl
    have hcz12_3 : wr.cell? ⟨gb475, 3, none⟩ = some (.slice A0_3 l0_3.length c0_3) := (bcl BK475.out 3).trans rfl
    have hfz12_0 := bfz BK475.out 0
    have hfz12_1 := bfz BK475.out 1
    have hfz12_2 := bfz BK475.out 2
    have hfz12_3 := bfz BK475.out 3
    obtain ⟨Ao13, co13, eo13⟩ := Kd.R_slice HO_3.out
    subst eo13
    go_wp2_with (first | ((with_reducible refine gate_callee (f := 118) rfl ?_); refine goesL_ (some 22) rfl rfl Try.func118 (by kernel_rfl) rfl #[.agg #[.slice A0_0 l0_0.length c0_0, .slice A0_1 l0_1.length c0_1, .slice A0_2 l0_2.length c0_2, .slice A0_3 l0_3.length c0_3], .slice Ao13 x3_1.length co13] rfl zI ?_; (with_reducible refine (spec_l2Trace.calls k1 (fun k_ => k_ < w.heap.size) _ _ l0_0 _ _ l0_1 _ _ l0_2 _ _ l0_3 (fun k_ => some k_ = (.slice Ao13 x3_1.length co13 : Value).ownBlock) (.slice Ao13 x3_1.length co13) x3_1 t483 w _ ?side1 ?side2 ?side3 ?side4 ?side5 ?side6 ?side7 ?side8 ?side9 A11.out).mono ?_); (case side1 => repeat (first | (with_reducible first | exact HB.out | apply below_alloc | apply pw_below_drewN | apply below_drew1 | refine below_set ?_ GE475.out) | exact HB.out)); (case side2 => exact Kd.V_mono (Kd.V_mk HC0_0.out (Kd.F_below (Kd.C_F k38_heap HR0_0.out) zB)) (fun k_ hk_ => ⟨hk_, fun e_ => Nat.not_le.2 hk_ (Kd.R_base HO_3.out k_ e_.symm)⟩)); (case side3 => exact Kd.C_kept_came (Kd.heap_int .i64) HR0_1.out zB (fun k_ hs_ => (fun e_ => Kd.R_base HO_3.out k_ e_.symm) hs_)); (case side4 => exact HC0_1.out); (case side5 => exact Kd.C_kept_came k60_heap HR0_2.out zB (fun k_ hs_ => (fun e_ => Kd.R_base HO_3.out k_ e_.symm) hs_)); (case side6 => exact HC0_2.out); (case side7 => exact Kd.C_kept_came k60_heap HR0_3.out zB (fun k_ hs_ => (fun e_ => Kd.R_base HO_3.out k_ e_.symm) hs_)); (case side8 => exact HC0_3.out); (case side9 => exact Kd.R_tight rfl HO_3.out); rintro e w14 ⟨v484, rfl, ho0, hb, hkp⟩; refine ⟨_, rfl, ?_⟩; have n0_ := AK (blk_kept (zK BK475) hkp (fun hs_ => (fun e_ => (Kd.R_ne HO_3.out BK475.out (by decide)) e_) hs_)); have n1_ := AK (Kd.R_mono (ok' := fun k_ => True) ho0 (fun k_ hk_ => trivial)); have n2_ := AK (hb); clear BK475; clear HB; clear HO_3; have BK475 := n0_; have HO485 := n1_; have HB := n2_; clear n0_ n1_ n2_; (try clear hb); (try clear hkp); (try clear ho0)))
    go_ret
    exact ⟨_, by first | rfl | (simp [errW_none, errW_some] <;> rfl) | (simp [*, errW_none, errW_some] <;> rfl), by (with_reducible repeat (first | apply Kd.R_alloc | apply Kd.R_drewN | apply Kd.R_drew)); exact HO485.out, zB⟩

/-! ### spec_MemReach: function 27 -/
end Go.Proofs.Ytigjhfijkdlldaa.Q
