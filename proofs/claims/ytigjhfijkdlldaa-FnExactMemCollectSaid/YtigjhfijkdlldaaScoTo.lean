-- Made by a program of this session (wip/prt.sh, wip/fakes.py, wip/post.py) that calls the kit's print.py and packs what it wrote.
import Derived.Test.YtigjhfijkdlldaaScoT
namespace Go.Proofs.Ytigjhfijkdlldaa.Q
open Go.RowKit Go.Proofs.YtigjhfijkdlldaaW.PrintWords Go.Proofs.YtigjhfijkdlldaaW.PrintLast Go.Proofs.YtigjhfijkdlldaaW.PrintMore
attribute [local go_sem] max2_int min2_int max_two min_two max_three min_three max_four min_four
set_option linter.unusedVariables false
set_option linter.unusedSimpArgs false

/-! ### laws_toIntS: function 80 -/
def laws_toIntS.l0 : Nat → List Int → List Int → Int → Option (List Int)
 | 0, _, _, _ => none
 | k + 1, x0, x3, x4 => if x4 < (x0.length : Int) then (if 0 ≤ x4 then (if x4 < (x3.length : Int) then (laws_toIntS.l0 k x0 (x3.set (x4 : Int).toNat (rd x0 x4)) (wrap64 (x4 + 1))) else (none)) else (none)) else (some x3)
def laws_toIntS.f (k : Nat) (l0 : List Int) : Option (List Int) := if 0 ≤ (l0.length : Int) then (if ((l0.length : Int) : Int).toNat ≤ 35184372088832 then (laws_toIntS.l0 k l0 (List.replicate ((l0.length : Int) : Int).toNat 0) 0) else (none)) else (none)
set_option maxHeartbeats 8000000 in
set_option maxRecDepth 100000 in
theorem laws_toIntS.calls (k : Nat) (A0 : Option Addr) (c0 : Nat) (l0 : List Int) (r : List Int) (w : World) (hr0 : Kd.C (Kd.int .i64) w A0 l0.length l0) (hc0 : l0.length ≤ c0) (h : laws_toIntS.f k l0 = some r) :
  Calls Try.prog 80 #[.slice A0 l0.length c0] w fun e w' => ∃ v0_ : Value, e = .returned (v0_) ∧ Kd.R (Kd.int .i64) 3 w' w.heap.size (fun _ => True) v0_ r ∧ Below w.heap.size w w' := by
 have HR0 := AK hr0
 have HC0 := AK hc0
 clear hr0 hc0
 have HB := AK (Below.refl w.heap.size w)
 have H : (if 0 ≤ (l0.length : Int) then (if ((l0.length : Int) : Int).toNat ≤ 35184372088832 then (laws_toIntS.l0 k l0 (List.replicate ((l0.length : Int) : Int).toNat 0) 0) else (none)) else (none)) = some r := h
 clear h
 by_cases c2 : 0 ≤ (l0.length : Int)
 ·rw [if_pos c2] at H
  have c2b0 := eq_true c2
  have c2b1 : decide (0 ≤ (l0.length : Int)) = true := deT c2
  clear c2
  by_cases c3 : ((l0.length : Int) : Int).toNat ≤ 35184372088832
  ·rw [if_pos c3] at H
   have c3b0 := eq_true c3
   have c3b1 : decide (((l0.length : Int) : Int).toNat ≤ 35184372088832) = true := deT c3
   clear c3
   obtain ⟨y549, hy549⟩ : ∃ y_ : List Int, y_ = (List.replicate ((l0.length : Int) : Int).toNat 0) := ⟨_, rfl⟩
   replace H : (laws_toIntS.l0 k l0 y549 0) = some r := by first | (rw [hy549]; with_reducible exact H) | (have H2_ := (Option.bind_some _ _).symm.trans H; rw [hy549]; with_reducible exact H2_) | (have H2_ := (Option.bind_some _ _).symm.trans H; with_reducible exact H2_) | with_reducible exact H | (rw [hy549]; exact H) | exact H
   have Ny549 := AK hy549
   clear hy549
   have H' := AK H
   clear H
   go_enter Try.func80, Try.ntmps80
   go_wp2_with (first | ((with_reducible refine gate_dst (N := 7) rfl ?_); refine Kd.R_make (Kd.int .i64) _ 3 rfl (N := 7) rfl 25 _ _ rfl (l0.length : Int) rfl rfl Try.underlying25 (.int .i64 0) 8 info3 rfl (by decide) (by omega) 0 (ok := fun _ => True) (okp := fun _ => True) rfl (fun _ hk => hk) trivial (of_decide_eq_true zA) (Nat.le_trans (Nat.mul_le_mul_right _ (of_decide_eq_true zA : (l0.length : Int).toNat ≤ 35184372088832)) (by omega)) (Below.refl _ _) (Nat.le_refl _) ?_; intro v550 w4 ho5 hb hg_ hnew_; clear hg_ hnew_; (first | rw [← Ny549.out] at ho5 | (simp only [Int.reduceToNat] at ho5; rw [← Ny549.out] at ho5)); have n0_ := AK (Kd.R_lower ho5 (below_size zB)); have n1_ := AK (bst zB hb); clear HB; have HO551 := n0_; have HB := n1_; clear n0_ n1_; clear hb ho5))
   go_loopg [4] k (fun kq v4 w' => ∃ (x3_1 : List Int) (x4_1 : Int), v4 = .int .i64 x4_1 ∧ Aside0 (laws_toIntS.l0 kq l0 x3_1 x4_1 = some r) ∧ Aside0 (kq ≤ k) ∧ Aside0 (Kd.R (Kd.int .i64) 3 w' w.heap.size (fun _ => True) v550 x3_1) ∧ Aside0 (Below w.heap.size w w'))
   case atStart => exact ⟨(y549), (0), (by first | rfl | (simp; done) | (simp [*]; done)), H', ⟨Nat.le_refl _⟩, ⟨by (with_reducible repeat (first | apply Kd.R_alloc | apply Kd.R_drewN | apply Kd.R_drew)); exact HO551.out⟩, ⟨zB⟩⟩
   case round =>
    clear H'
    try clear c2
    try clear c2b0
    try clear c2b1
    try clear p2
    try clear c3
    try clear c3b0
    try clear c3b1
    obtain ⟨x3_1, x4_1, rfl, HA, HK1, HO_3, HB⟩ := hrel
    cases gk with
    | zero => exact absurd HA.out (by simp [laws_toIntS.l0])
    | succ k1 =>
     have H := HA.out
     clear HA
     simp only [laws_toIntS.l0] at H
     by_cases c6 : x4_1 < (l0.length : Int)
     ·rw [if_pos c6] at H
      have c6b0 : decide (x4_1 < (l0.length : Int)) = true := deT c6
      clear c6
      by_cases c7 : 0 ≤ x4_1
      ·rw [if_pos c7] at H
       have c7b0 : decide (0 ≤ x4_1) = true := deT c7
       clear c7
       by_cases c8 : x4_1 < (x3_1.length : Int)
       ·rw [if_pos c8] at H
        have c8b0 : decide (x4_1 < (x3_1.length : Int)) = true := deT c8
        clear c8
        obtain ⟨y553, hy553⟩ : ∃ y_ : List Int, y_ = (x3_1.set (x4_1 : Int).toNat (rd l0 x4_1)) := ⟨_, rfl⟩
        replace H : (laws_toIntS.l0 k1 l0 y553 (wrap64 (x4_1 + 1))) = some r := by first | (rw [hy553]; with_reducible exact H) | (have H2_ := (Option.bind_some _ _).symm.trans H; rw [hy553]; with_reducible exact H2_) | (have H2_ := (Option.bind_some _ _).symm.trans H; with_reducible exact H2_) | with_reducible exact H | (rw [hy553]; exact H) | exact H
        have Ny553 := AK hy553
        clear hy553
        have H' := AK H
        clear H
        have p552 : 0 ≤ (x4_1 : Int) := of_decide_eq_true zA
        have q552 : x4_1 < (l0.length : Int) := of_decide_eq_true zA
        obtain ⟨ad552, e552, hx552_0⟩ := Kd.at_int HR0.out x4_1 p552 q552
        cases e552
        replace hx552_0 := (HB.out.cell (World.block_lt_of_cell? w _ hx552_0)).trans hx552_0
        replace p552 := eq_true p552
        replace q552 := eq_true q552
        have p9 : 0 ≤ (x4_1 : Int) := of_decide_eq_true zA
        have q9 : (x4_1 : Int) < ((x3_1.length : Int) : Int) := of_decide_eq_true zA
        obtain ⟨go9, co9, eo9, gb9, gl9, cl9, HG9⟩ := Kd.R_form HO_3.out (by omega)
        (first | cases eo9 | (injection eo9 with ea_ en_ ec_; (first | subst ea_ | (injection ea_ with ea_; subst ea_)); subst ec_; clear en_))
        have GB9 := AK gb9
        have GG9 := AK HG9
        clear gb9 gl9 HG9
        obtain ⟨hx9_0, hf9_0⟩ := Kd.R_celln 0 HO_3.out (x4_1 : Int) p9 q9
        replace p9 := eq_true p9
        replace q9 := eq_true q9
        have HP10 := Kd.R_putg HO_3.out (x4_1 : Int) (rd l0 x4_1)
        go_wp2_with (first | ((with_reducible refine gate_store (t := 3) (p := 20) rfl ?_); refine store_event (t := 3) (p := 20) (v := ?vo_w11) (w1 := (wr.setCell ⟨go9, (x4_1 : Int).toNat, none⟩ (.int .i64 (rd l0 x4_1)))) ?hg ?ho ?hn ?hr ?_; (case ho => rfl); (case hg => rfl); (case hn => rfl); (case hr => first | (go_simp; done) | (go_simp; rfl)); intro w11 hw; have hg : wr.grownBy w11 (some go9) := (by rw [hw]; exact HP10.2); have hp_ : Kd.R (Kd.int .i64) 3 w11 w.heap.size (fun _ => True) (.slice (some ⟨go9, 0, none⟩) x3_1.length co9) y553 := (by rw [hw, Ny553.out]; exact HP10.1); clear HP10; have n0_ := AK (hp_); have n1_ := AK ((by rw [hw]; exact below_set (HB.out) GB9.out : Below w.heap.size w w11)); clear HO_3; clear HB; have HO_3 := n0_; have HB := n1_; clear n0_ n1_; clear hg hw hp_))
        go_roundg k1
        case measure => have := HK1.out; omega
        case rel => exact ⟨(y553), (wrap64 (x4_1 + 1)), (by first | rfl | (simp; done) | (simp [*]; done)), H', ⟨by have := HK1.out; omega⟩, ⟨by (with_reducible repeat (first | apply Kd.R_alloc | apply Kd.R_drewN | apply Kd.R_drew)); exact HO_3.out⟩, ⟨zB⟩⟩
       ·rw [if_neg c8] at H
        exact absurd H (by simp)
      ·rw [if_neg c7] at H
       exact absurd H (by simp)
     ·rw [if_neg c6] at H
      have c6b0 : decide (x4_1 < (l0.length : Int)) = false := deF c6
      clear c6
      obtain rfl := Option.some.inj H
      go_wp2
      go_ret
      exact ⟨_, by first | rfl | (simp [errW_none, errW_some] <;> rfl) | (simp [*, errW_none, errW_some] <;> rfl), by (with_reducible repeat (first | apply Kd.R_alloc | apply Kd.R_drewN | apply Kd.R_drew)); exact HO_3.out, zB⟩
  ·rw [if_neg c3] at H
   exact absurd H (by simp)
 ·rw [if_neg c2] at H
  exact absurd H (by simp)

/-! ### laws_toMemObj: function 109 -/
def laws_toMemObj.f (k : Nat) (a0_0 : Int) (a0_1 : ByteArray) (l0_2 : List Int) : Option (Int × ByteArray × List Int) := (laws_toIntS.f k l0_2).bind fun t557 => (some (a0_0, a0_1, t557))
set_option maxHeartbeats 8000000 in
set_option maxRecDepth 100000 in
theorem laws_toMemObj.calls (k : Nat) (a0_0 : Int) (a0_1 : ByteArray) (A0_2 : Option Addr) (c0_2 : Nat) (l0_2 : List Int) (r1 : Int) (r2 : ByteArray) (r3 : List Int) (w : World) (hr0_2 : Kd.C (Kd.int .i64) w A0_2 l0_2.length l0_2) (hc0_2 : l0_2.length ≤ c0_2) (h : laws_toMemObj.f k a0_0 a0_1 l0_2 = some (r1, r2, r3)) :
  Calls Try.prog 109 #[.agg #[.int .i64 a0_0, .string a0_1, .slice A0_2 l0_2.length c0_2]] w fun e w' => ∃ v2_ : Value, e = .returned (.agg #[.int .i64 r1, .string r2, v2_]) ∧ Kd.R (Kd.int .i64) 3 w' w.heap.size (fun _ => True) v2_ r3 ∧ Below w.heap.size w w' := by
 have hu72 := Try.underlying72
 have hu38 := Try.underlying38
 have HR0_2 := AK hr0_2
 have HC0_2 := AK hc0_2
 clear hr0_2 hc0_2
 have HB := AK (Below.refl w.heap.size w)
 have H : ((laws_toIntS.f k l0_2).bind fun t557 => (some (a0_0, a0_1, t557))) = some (r1, r2, r3) := h
 clear h
 replace H := Option.bind_eq_some_iff.mp H
 obtain ⟨t557, A20, H⟩ := H
 replace H : (some (a0_0, a0_1, t557)) = some (r1, r2, r3) := H
 have A2 := AK A20
 clear A20
 simp only [Option.some.injEq, Prod.mk.injEq] at H
 obtain ⟨rfl, rfl, rfl⟩ := H
 go_enter Try.func109, Try.ntmps109
 go_wp2_with (first | ((with_reducible refine gate_dst (N := 1) rfl ?_); refine box_event ?hg (N := 1) ?hd (cs := #[.int .i64 a0_0, .string a0_1, .slice A0_2 l0_2.length c0_2]) (t := 72) ?hr ?_; (case hd => rfl); (case hg => rfl); (case hr => first | (go_simp; done) | (go_simp; rfl)); intro gb554 hg w3 hbox hb; have n0_ := AK (bst zB hb); have n1_ := AK (hbox); have n2_ := AK ((zG hg : w.heap.size ≤ gb554)); have n3_ := AK ((zG hg : w.heap.size ≤ gb554)); clear HB; have HB := n0_; have BK554 := n1_; have GW554 := n2_; have GE554 := n3_; clear n0_ n1_ n2_ n3_; clear hb hbox hg) | ((with_reducible refine gate_dst (N := 2) rfl ?_); refine box_event ?hg (N := 2) ?hd (cs := #[.int .i64 0, .string (⟨#[]⟩ : ByteArray), .slice none 0 0]) (t := 38) ?hr ?_; (case hd => rfl); (case hg => rfl); (case hr => first | (go_simp; done) | (go_simp; rfl)); intro gb555 hg w4 hbox hb; have n0_ := AK (bbl (zK BK554) hb); have n1_ := AK (bst zB hb); have n2_ := AK (hbox); have n3_ := AK ((zG hg : w.heap.size ≤ gb555)); have n4_ := AK ((zG hg : w.heap.size ≤ gb555)); have n5_ := AK (zN hg BK554); have n6_ := AK (zM hg BK554); clear BK554; clear HB; have BK554 := n0_; have HB := n1_; have BK555 := n2_; have GW555 := n3_; have GE555 := n4_; have NB554_555 := n5_; have NB555_554 := n6_; clear n0_ n1_ n2_ n3_ n4_ n5_ n6_; clear hb hbox hg) | ((with_reducible refine gate_dst (N := 3) rfl ?_); refine box_event ?hg (N := 3) ?hd (cs := #[.int .i64 0, .string (⟨#[]⟩ : ByteArray), .slice none 0 0]) (t := 38) ?hr ?_; (case hd => rfl); (case hg => rfl); (case hr => first | (go_simp; done) | (go_simp; rfl)); intro gb556 hg w5 hbox hb; have n0_ := AK (bbl (zK BK554) hb); have n1_ := AK (bbl (zK BK555) hb); have n2_ := AK (bst zB hb); have n3_ := AK (hbox); have n4_ := AK ((zG hg : w.heap.size ≤ gb556)); have n5_ := AK ((zG hg : w.heap.size ≤ gb556)); have n6_ := AK (zN hg BK554); have n7_ := AK (zM hg BK554); have n8_ := AK (zN hg BK555); have n9_ := AK (zM hg BK555); clear BK554; clear BK555; clear HB; have BK554 := n0_; have BK555 := n1_; have HB := n2_; have BK556 := n3_; have GW556 := n4_; have GE556 := n5_; have NB554_556 := n6_; have NB556_554 := n7_; have NB555_556 := n8_; have NB556_555 := n9_; clear n0_ n1_ n2_ n3_ n4_ n5_ n6_ n7_ n8_ n9_; clear hb hbox hg; have hnb6 := NB554_555.out; have hnc6 := NB555_554.out; have hnb7 := NB554_556.out; have hnc7 := NB556_554.out; have hcz8_0 : w5.cell? ⟨gb554, 0, none⟩ = some (.int .i64 a0_0) := (bcl BK554.out 0).trans rfl; have hcz8_1 : w5.cell? ⟨gb554, 1, none⟩ = some (.string a0_1) := (bcl BK554.out 1).trans rfl; have hcz8_2 : w5.cell? ⟨gb554, 2, none⟩ = some (.slice A0_2 l0_2.length c0_2) := (bcl BK554.out 2).trans rfl; have hfz8_0 := bfz BK554.out 0; have hfz8_1 := bfz BK554.out 1; have hfz8_2 := bfz BK554.out 2; have hnb9 := NB556_555.out; have hnc9 := NB555_556.out; have hcz10_0 : w5.cell? ⟨gb556, 0, none⟩ = some (.int .i64 0) := (bcl BK556.out 0).trans rfl; have hcz10_1 : w5.cell? ⟨gb556, 1, none⟩ = some (.string (⟨#[]⟩ : ByteArray)) := (bcl BK556.out 1).trans rfl; have hcz10_2 : w5.cell? ⟨gb556, 2, none⟩ = some (.slice none 0 0) := (bcl BK556.out 2).trans rfl; have hfz10_0 := bfz BK556.out 0; have hfz10_1 := bfz BK556.out 1; have hfz10_2 := bfz BK556.out 2) | ((with_reducible refine gate_callee (f := 80) rfl ?_); refine goesL_ (some 12) rfl rfl Try.func80 (by kernel_rfl) rfl #[.slice A0_2 l0_2.length c0_2] rfl zI ?_; (with_reducible refine (laws_toIntS.calls k _ _ l0_2 t557 _ ?side1 ?side2 A2.out).mono ?_); (case side1 => exact Kd.C_below HR0_2.out zB); (case side2 => exact HC0_2.out); rintro e w11 ⟨v558, rfl, ho0, hb⟩; refine ⟨_, rfl, ?_⟩; have n0_ := AK (Kd.R_lower ho0 (below_size zB)); have n1_ := AK (bbl (g := gb554) (o := .cells #[.int .i64 a0_0, .string a0_1, .slice A0_2 l0_2.length c0_2] 72 (0, 0)) (by (with_reducible repeat (first | refine blk_drewN ?_ _ | refine blk_drew ?_ | refine blk_alloc ?_ _)); refine blk_far ?_ NB554_556.out _; (with_reducible repeat (first | refine blk_drewN ?_ _ | refine blk_drew ?_ | refine blk_alloc ?_ _)); refine blk_far ?_ NB554_556.out _; (with_reducible repeat (first | refine blk_drewN ?_ _ | refine blk_drew ?_ | refine blk_alloc ?_ _)); exact BK554.out) hb); have n2_ := AK (bbl (g := gb555) (o := .cells #[.int .i64 0, .string (⟨#[]⟩ : ByteArray), .slice none 0 0] 38 (0, 0)) (by (with_reducible repeat (first | refine blk_drewN ?_ _ | refine blk_drew ?_ | refine blk_alloc ?_ _)); refine blk_far ?_ NB555_556.out _; (with_reducible repeat (first | refine blk_drewN ?_ _ | refine blk_drew ?_ | refine blk_alloc ?_ _)); refine blk_far ?_ NB555_556.out _; (with_reducible repeat (first | refine blk_drewN ?_ _ | refine blk_drew ?_ | refine blk_alloc ?_ _)); exact BK555.out) hb); have n3_ := AK (bbl (g := gb556) (o := .cells #[.int .i64 a0_0, .string a0_1, .slice none 0 0] 38 (0, 0)) (by (with_reducible repeat (first | refine blk_drewN ?_ _ | refine blk_drew ?_ | refine blk_alloc ?_ _)); refine blk_put (cs := #[.int .i64 a0_0, .string (⟨#[]⟩ : ByteArray), .slice none 0 0]) ?_ 1 _ rfl; (with_reducible repeat (first | refine blk_drewN ?_ _ | refine blk_drew ?_ | refine blk_alloc ?_ _)); refine blk_put (cs := #[.int .i64 0, .string (⟨#[]⟩ : ByteArray), .slice none 0 0]) ?_ 0 _ rfl; (with_reducible repeat (first | refine blk_drewN ?_ _ | refine blk_drew ?_ | refine blk_alloc ?_ _)); exact BK556.out) hb); have n4_ := AK (bst zB hb); clear BK554; clear BK555; clear BK556; clear HB; have HO559 := n0_; have BK554 := n1_; have BK555 := n2_; have BK556 := n3_; have HB := n4_; clear n0_ n1_ n2_ n3_ n4_; (try clear hb); (try clear hb2); (try clear hk); (try clear hi); (try clear ho0); obtain ⟨Ao12, co12, eo12⟩ := Kd.R_slice HO559.out; subst eo12; have hcz13_0 : w11.cell? ⟨gb556, 0, none⟩ = some (.int .i64 a0_0) := (bcl BK556.out 0).trans rfl; have hcz13_1 : w11.cell? ⟨gb556, 1, none⟩ = some (.string a0_1) := (bcl BK556.out 1).trans rfl; have hcz13_2 : w11.cell? ⟨gb556, 2, none⟩ = some (.slice none 0 0) := (bcl BK556.out 2).trans rfl; have hfz13_0 := bfz BK556.out 0; have hfz13_1 := bfz BK556.out 1; have hfz13_2 := bfz BK556.out 2; have hcz14_0 : w11.cell? ⟨gb555, 0, none⟩ = some (.int .i64 0) := (bcl BK555.out 0).trans rfl; have hcz14_1 : w11.cell? ⟨gb555, 1, none⟩ = some (.string (⟨#[]⟩ : ByteArray)) := (bcl BK555.out 1).trans rfl; have hcz14_2 : w11.cell? ⟨gb555, 2, none⟩ = some (.slice none 0 0) := (bcl BK555.out 2).trans rfl; have hfz14_0 := bfz BK555.out 0; have hfz14_1 := bfz BK555.out 1; have hfz14_2 := bfz BK555.out 2))
 refine bodyPost_ret (results_cell_row rfl _ _ gb555 38 #[.int .i64 a0_0, .string a0_1, .slice Ao12 t557.length co12] (0, 0) _ rfl (by (with_reducible repeat (first | refine blk_drewN ?_ _ | refine blk_drew ?_ | refine blk_alloc ?_ _)); refine blk_put (cs := #[.int .i64 a0_0, .string a0_1, .slice none 0 0]) ?_ 2 _ rfl; (with_reducible repeat (first | refine blk_drewN ?_ _ | refine blk_drew ?_ | refine blk_alloc ?_ _)); refine blk_put (cs := #[.int .i64 a0_0, .string (⟨#[]⟩ : ByteArray), .slice none 0 0]) ?_ 1 _ rfl; (with_reducible repeat (first | refine blk_drewN ?_ _ | refine blk_drew ?_ | refine blk_alloc ?_ _)); refine blk_put (cs := #[.int .i64 0, .string (⟨#[]⟩ : ByteArray), .slice none 0 0]) ?_ 0 _ rfl; (with_reducible repeat (first | refine blk_drewN ?_ _ | refine blk_drew ?_ | refine blk_alloc ?_ _)); refine blk_far ?_ NB555_556.out _; (with_reducible repeat (first | refine blk_drewN ?_ _ | refine blk_drew ?_ | refine blk_alloc ?_ _)); exact BK555.out) Try.underlying38 rfl (by kernel_rfl)) rfl ?_
 exact ⟨_, by first | rfl | (simp [errW_none, errW_some] <;> rfl) | (simp [*, errW_none, errW_some] <;> rfl), by (with_reducible repeat (first | apply Kd.R_alloc | apply Kd.R_drewN | apply Kd.R_drew)); exact Kd.R_mono (Kd.R_far (p := ⟨gb555, 2, none⟩) (Kd.R_far (p := ⟨gb555, 1, none⟩) (Kd.R_far (p := ⟨gb555, 0, none⟩) (Kd.R_far (p := ⟨gb556, 2, none⟩) (Kd.R_types (Kd.R_types HO559.out BK556.out (by decide)) BK555.out (by decide)) (fun _ hk => hk.1.2) (.slice Ao12 t557.length co12)) (fun _ hk => hk.2) (.int .i64 a0_0)) (fun _ hk => hk.2) (.string a0_1)) (fun _ hk => hk.2) (.slice Ao12 t557.length co12)) (fun _ hk => trivial), zB⟩

/-! ### laws_toMemObjS: function 79 -/
def laws_toMemObjS.l0 : Nat → List (S72) → List (S38) → Int → Option ((List (S38)))
 | 0, _, _, _ => none
 | k + 1, x0, x3, x4 => if x4 < (x0.length : Int) then (if 0 ≤ x4 then ((laws_toMemObj.f k ((rd_T72 x0 x4).f0) ((rd_T72 x0 x4).f1) ((rd_T72 x0 x4).f2)).bind fun bt564 => (if x4 < (x3.length : Int) then (laws_toMemObjS.l0 k x0 (x3.set (x4 : Int).toNat (⟨bt564.1, bt564.2.1, bt564.2.2⟩ : S38)) (wrap64 (x4 + 1))) else (none))) else (none)) else (some x3)
def laws_toMemObjS.f (k : Nat) (l0 : List (S72)) : Option ((List (S38))) := if 0 ≤ (l0.length : Int) then (if ((l0.length : Int) : Int).toNat ≤ 5864062014805 then (laws_toMemObjS.l0 k l0 (List.replicate ((l0.length : Int) : Int).toNat z38) 0) else (none)) else (none)
set_option maxHeartbeats 8000000 in
set_option maxRecDepth 100000 in
theorem laws_toMemObjS.calls (k : Nat) (A0 : Option Addr) (c0 : Nat) (l0 : List (S72)) (r : List (S38)) (w : World) (hr0 : Kd.C k72 w A0 l0.length l0) (hc0 : l0.length ≤ c0) (h : laws_toMemObjS.f k l0 = some r) :
  Calls Try.prog 79 #[.slice A0 l0.length c0] w fun e w' => ∃ v0_ : Value, e = .returned (v0_) ∧ Kd.S k38 38 w' w.heap.size (fun _ => True) v0_ r ∧ Below w.heap.size w w' := by
 have hu72 := Try.underlying72
 have hu38 := Try.underlying38
 have HR0 := AK hr0
 have HC0 := AK hc0
 clear hr0 hc0
 have HB := AK (Below.refl w.heap.size w)
 have H : (if 0 ≤ (l0.length : Int) then (if ((l0.length : Int) : Int).toNat ≤ 5864062014805 then (laws_toMemObjS.l0 k l0 (List.replicate ((l0.length : Int) : Int).toNat z38) 0) else (none)) else (none)) = some r := h
 clear h
 by_cases c2 : 0 ≤ (l0.length : Int)
 ·rw [if_pos c2] at H
  have c2b0 := eq_true c2
  have c2b1 : decide (0 ≤ (l0.length : Int)) = true := deT c2
  clear c2
  by_cases c3 : ((l0.length : Int) : Int).toNat ≤ 5864062014805
  ·rw [if_pos c3] at H
   have c3b0 := eq_true c3
   have c3b1 : decide (((l0.length : Int) : Int).toNat ≤ 5864062014805) = true := deT c3
   clear c3
   obtain ⟨y560, hy560⟩ : ∃ y_ : List (S38), y_ = (List.replicate ((l0.length : Int) : Int).toNat z38) := ⟨_, rfl⟩
   replace H : (laws_toMemObjS.l0 k l0 y560 0) = some r := by first | (rw [hy560]; with_reducible exact H) | (have H2_ := (Option.bind_some _ _).symm.trans H; rw [hy560]; with_reducible exact H2_) | (have H2_ := (Option.bind_some _ _).symm.trans H; with_reducible exact H2_) | with_reducible exact H | (rw [hy560]; exact H) | exact H
   have Ny560 := AK hy560
   clear hy560
   have H' := AK H
   clear H
   go_enter Try.func79, Try.ntmps79
   go_wp2_with (first | ((with_reducible refine gate_dst (N := 7) rfl ?_); refine Kd.S_make k38 _ 38 rfl (N := 7) rfl 24 _ _ rfl (l0.length : Int) rfl rfl Try.underlying24 (.agg #[(.int .i64 0), (.string ⟨#[]⟩), (.slice none 0 0)]) 48 info38 rfl (by decide) (by omega) z38 (ok := fun _ => True) (okp := fun _ => True) (k38_mkM _ _ _ z38 (Kd.R_nil _ _ _ _ _)) (fun _ hk => hk) trivial (of_decide_eq_true zA) (Nat.le_trans (Nat.mul_le_mul_right _ (of_decide_eq_true zA : (l0.length : Int).toNat ≤ 5864062014805)) (by omega)) (Below.refl _ _) (Nat.le_refl _) ?_; intro v561 w4 ho5 hb hg_ hnew_; clear hg_ hnew_; (first | rw [← Ny560.out] at ho5 | (simp only [Int.reduceToNat] at ho5; rw [← Ny560.out] at ho5)); have n0_ := AK (Kd.S_lower ho5 (below_size zB)); have n1_ := AK (bst zB hb); clear HB; have HO562 := n0_; have HB := n1_; clear n0_ n1_; clear hb ho5))
   go_loopg [4] k (fun kq v4 w' => ∃ (x3_1 : List (S38)) (x4_1 : Int), v4 = .int .i64 x4_1 ∧ Aside0 (laws_toMemObjS.l0 kq l0 x3_1 x4_1 = some r) ∧ Aside0 (kq ≤ k) ∧ Aside0 (Kd.S k38 38 w' w.heap.size (fun _ => True) v561 x3_1) ∧ Aside0 (Below w.heap.size w w'))
   case atStart => exact ⟨(y560), (0), (by first | rfl | (simp; done) | (simp [*]; done)), H', ⟨Nat.le_refl _⟩, ⟨by (with_reducible repeat (first | apply Kd.S_alloc | apply Kd.S_drewN | apply Kd.S_drew)); exact HO562.out⟩, ⟨zB⟩⟩
   case round =>
    clear H'
    try clear c2
    try clear c2b0
    try clear c2b1
    try clear p2
    try clear c3
    try clear c3b0
    try clear c3b1
    obtain ⟨x3_1, x4_1, rfl, HA, HK1, HO_3, HB⟩ := hrel
    cases gk with
    | zero => exact absurd HA.out (by simp [laws_toMemObjS.l0])
    | succ k1 =>
     have H := HA.out
     clear HA
     simp only [laws_toMemObjS.l0] at H
     by_cases c6 : x4_1 < (l0.length : Int)
     ·rw [if_pos c6] at H
      have c6b0 : decide (x4_1 < (l0.length : Int)) = true := deT c6
      clear c6
      by_cases c7 : 0 ≤ x4_1
      ·rw [if_pos c7] at H
       have c7b0 : decide (0 ≤ x4_1) = true := deT c7
       clear c7
       replace H := Option.bind_eq_some_iff.mp H
       obtain ⟨⟨t564, t565, t566⟩, A80, H⟩ := H
       replace H : (if x4_1 < (x3_1.length : Int) then (laws_toMemObjS.l0 k1 l0 (x3_1.set (x4_1 : Int).toNat (⟨t564, t565, t566⟩ : S38)) (wrap64 (x4_1 + 1))) else (none)) = some r := H
       have A8 := AK A80
       clear A80
       by_cases c9 : x4_1 < (x3_1.length : Int)
       ·rw [if_pos c9] at H
        have c9b0 : decide (x4_1 < (x3_1.length : Int)) = true := deT c9
        clear c9
        obtain ⟨y569, hy569⟩ : ∃ y_ : List (S38), y_ = (x3_1.set (x4_1 : Int).toNat (⟨t564, t565, t566⟩ : S38)) := ⟨_, rfl⟩
        replace H : (laws_toMemObjS.l0 k1 l0 y569 (wrap64 (x4_1 + 1))) = some r := by first | (rw [hy569]; with_reducible exact H) | (have H2_ := (Option.bind_some _ _).symm.trans H; rw [hy569]; with_reducible exact H2_) | (have H2_ := (Option.bind_some _ _).symm.trans H; with_reducible exact H2_) | with_reducible exact H | (rw [hy569]; exact H) | exact H
        have Ny569 := AK hy569
        clear hy569
        have H' := AK H
        clear H
        have p563 : 0 ≤ (x4_1 : Int) := of_decide_eq_true zA
        have q563 : x4_1 < (l0.length : Int) := of_decide_eq_true zA
        obtain ⟨ad563, A563_2, c563_2, e563, hx563_0, hx563_1, hx563_2, hl563_2, hi563_2⟩ := at_T72 HR0.out x4_1 p563 q563
        cases e563
        replace hx563_0 := (HB.out.cell (World.block_lt_of_cell? w _ hx563_0)).trans hx563_0
        replace hx563_1 := (HB.out.cell (World.block_lt_of_cell? w _ hx563_1)).trans hx563_1
        replace hx563_2 := (HB.out.cell (World.block_lt_of_cell? w _ hx563_2)).trans hx563_2
        have HR563_2 := AK hi563_2
        have HC563_2 := AK hl563_2
        clear hi563_2 hl563_2
        replace p563 := eq_true p563
        replace q563 := eq_true q563
        go_wp2_with (first | ((with_reducible refine gate_callee (f := 109) rfl ?_); refine goesL_ (some 20) rfl rfl Try.func109 (by kernel_rfl) rfl #[.agg #[.int .i64 ((rd_T72 l0 x4_1).f0), .string ((rd_T72 l0 x4_1).f1), .slice A563_2 ((rd_T72 l0 x4_1).f2).length c563_2]] rfl zI ?_; (with_reducible refine (laws_toMemObj.calls k1 ((rd_T72 l0 x4_1).f0) ((rd_T72 l0 x4_1).f1) _ _ ((rd_T72 l0 x4_1).f2) t564 t565 t566 _ ?side1 ?side2 A8.out).mono ?_); (case side1 => repeat (first | exact (Kd.C_below HR563_2.out HB.out) | (with_reducible refine Kd.C_alloc ?_ _) | (with_reducible refine Kd.C_drewN ?_ _) | (with_reducible refine Kd.C_drew ?_))); (case side2 => exact HC563_2.out); rintro e w11 ⟨v567, rfl, ho0, hb⟩; refine ⟨_, rfl, ?_⟩; obtain ⟨Av_, cv_, ev_⟩ := Kd.R_slice ho0; subst ev_; have n0_ := AK (Kd.S_elder' (by (with_reducible repeat (first | apply Kd.S_alloc | apply Kd.S_drewN | apply Kd.S_drew)); exact HO_3.out) (Kd.R_base ho0) hb); have n1_ := AK (Kd.R_lower ho0 (below_size zB)); have n2_ := AK (bst zB hb); clear HO_3; clear HB; have HO_3 := n0_; have HO568 := n1_; have HB := n2_; clear n0_ n1_ n2_; (try clear hb); (try clear hb2); (try clear hk); (try clear hi); (try clear ho0); have p10 : 0 ≤ (x4_1 : Int) := of_decide_eq_true zA; have q10 : (x4_1 : Int) < ((x3_1.length : Int) : Int) := of_decide_eq_true zA; obtain ⟨go10, co10, eo10, gb10, gl10, cl10, HG10⟩ := Kd.S_form HO_3.out (by omega); (first | cases eo10 | (injection eo10 with ea_ en_ ec_; (first | subst ea_ | (injection ea_ with ea_; subst ea_)); subst ec_; clear en_)); have GB10 := AK gb10; have GG10 := AK HG10; clear gb10 gl10 HG10; obtain ⟨_, ce10, hcl10, hM10, hcc10, hfr10, _, _⟩ := Kd.S_elem HO_3.out z38 (x4_1 : Int) p10 q10; obtain ⟨ve10_2, rfl, ge10_2⟩ := k38_openM hM10; have hx10_0 : w11.cell? ⟨go10, (x4_1 : Int).toNat * 3, none⟩ = some (.int .i64 ((rd_T38 x3_1 x4_1).f0)) := hcc10 0 _ rfl; have hx10_1 : w11.cell? ⟨go10, (x4_1 : Int).toNat * 3 + 1, none⟩ = some (.string ((rd_T38 x3_1 x4_1).f1)) := hcc10 1 _ rfl; have hx10_2 : w11.cell? ⟨go10, (x4_1 : Int).toNat * 3 + 2, none⟩ = some (ve10_2) := hcc10 2 _ rfl; have hf10_0 : w11.frozen? ⟨go10, (x4_1 : Int).toNat * 3, none⟩ = false := hfr10 0; have hf10_1 : w11.frozen? ⟨go10, (x4_1 : Int).toNat * 3 + 1, none⟩ = false := hfr10 1; have hf10_2 : w11.frozen? ⟨go10, (x4_1 : Int).toNat * 3 + 2, none⟩ = false := hfr10 2; clear hcl10 hcc10 hfr10 hM10; replace p10 := eq_true p10; replace q10 := eq_true q10; have n_ := AK (Kd.S_mono (ok' := (fun k_ => some k_ ≠ (Value.slice Av_ t566.length cv_).ownBlock)) HO_3.out (fun k_ hk => hk.2)); clear HO_3; have HO_3 := n_; clear n_; have HX12 := AK (show Kd.S k38 38 w11 w.heap.size (fun k_ => ((fun _ => True)) k_ ∧ ¬ ((fun k_ => some k_ = (Value.slice Av_ t566.length cv_).ownBlock)) k_) (.slice (some ⟨go10, 0, none⟩) x3_1.length co10) x3_1 from (by (with_reducible repeat (first | apply Kd.S_alloc | apply Kd.S_drewN | apply Kd.S_drew)); exact Kd.S_mono HO_3.out (fun k_ hk => ⟨trivial, fun e_ => hk e_⟩))); obtain ⟨oki12, ce12, hcl12, hM12, hcc12, hfr12, hoki12, hH12⟩ := Kd.S_elem HX12.out z38 (x4_1 : Int) (of_decide_eq_true zA) (by have h_ : (x4_1 : Int) < ((x3_1.length : Int) : Int) := of_decide_eq_true zA; first | exact h_ | (have e_ := (Kd.S_reads' HO_3.out).1; omega) | simpa using h_); obtain ⟨ve12_2, rfl, ge12_2⟩ := k38_openM hM12; have HP12 := Kd.S_seg hH12 (of_decide_eq_true zA) (by have h_ : (x4_1 : Int) < ((x3_1.length : Int) : Int) := of_decide_eq_true zA; first | exact h_ | (have e_ := (Kd.S_reads' HO_3.out).1; omega) | simpa using h_) (seg := [.int .i64 t564, .string t565, (Value.slice Av_ t566.length cv_)]) (j := 0) (show 3 ≤ 3 from by decide) (x' := (⟨t564, t565, t566⟩ : S38)) (k38_mkM _ _ _ (⟨t564, t565, t566⟩ : S38) (Kd.R_mono (Kd.R_tight rfl (Kd.R_mono (ok' := fun k_ => ((fun _ => True)) k_ ∧ k_ ≠ go10) (Kd.R_apart' (HO568.out) (Kd.S_typed HO_3.out) (by decide)) (fun k_ hk => ⟨trivial, fun e_ => (hk.2) (by rw [e_]; rfl)⟩))) (fun _ h_ => Or.inr (h_)))) (fun _ hk => hk) (fun k_ hk_ => ((Kd.R_mono (ok' := fun k_ => ((fun _ => True)) k_ ∧ k_ ≠ go10) (Kd.R_apart' (HO568.out) (Kd.S_typed HO_3.out) (by decide)) (fun k_ hk => ⟨trivial, fun e_ => (hk.2) (by rw [e_]; rfl)⟩))).1 k_ hk_.symm); have hx12_0 := hcc12 0 _ rfl; (try simp only [show (k38).sz = 3 from rfl, Nat.mul_one, Nat.add_zero] at hx12_0); have hf12_0 := hfr12 0; (try simp only [show (k38).sz = 3 from rfl, Nat.mul_one, Nat.add_zero] at hf12_0); have hx12_1 := hcc12 1 _ rfl; (try simp only [show (k38).sz = 3 from rfl, Nat.mul_one, Nat.add_zero] at hx12_1); have hf12_1 := hfr12 1; (try simp only [show (k38).sz = 3 from rfl, Nat.mul_one, Nat.add_zero] at hf12_1); have hx12_2 := hcc12 2 _ rfl; (try simp only [show (k38).sz = 3 from rfl, Nat.mul_one, Nat.add_zero] at hx12_2); have hf12_2 := hfr12 2; (try simp only [show (k38).sz = 3 from rfl, Nat.mul_one, Nat.add_zero] at hf12_2); clear hcl12 hcc12 hfr12 hM12 hoki12 hH12) | ((with_reducible refine gate_store (t := 38) (p := 21) rfl ?_); refine store_event (t := 38) (p := 21) (v := ?vo_w13) (w1 := (((w11.setCell ⟨go10, (x4_1 : Int).toNat * 3, none⟩ (.int .i64 t564)).setCell ⟨go10, (x4_1 : Int).toNat * 3 + 1, none⟩ (.string t565)).setCell ⟨go10, (x4_1 : Int).toNat * 3 + 2, none⟩ ((Value.slice Av_ t566.length cv_)))) ?hg ?ho ?hn ?hr ?_; (case ho => rfl); (case hg => rfl); (case hn => rfl); (case hr => first | (go_simp; done) | (go_simp; rfl)); intro w13 hw; have hg : w11.grownBy w13 (some go10) := (by rw [hw]; exact HP12.2); have hp_ : Kd.S k38 38 w13 w.heap.size (fun _ => True) (.slice (some ⟨go10, 0, none⟩) x3_1.length co10) y569 := (by rw [hw, Ny569.out]; exact HP12.1); clear HP12; have n0_ := AK (hp_); have n1_ := AK ((by rw [hw]; exact below_set (below_set (below_set (HB.out) GB10.out) GB10.out) GB10.out : Below w.heap.size w w13)); clear HO_3; clear HB; clear HO568; have HO_3 := n0_; have HB := n1_; clear n0_ n1_; clear hg hw hp_))
        go_roundg k1
        case measure => have := HK1.out; omega
        case rel => exact ⟨(y569), (wrap64 (x4_1 + 1)), (by first | rfl | (simp; done) | (simp [*]; done)), H', ⟨by have := HK1.out; omega⟩, ⟨by (with_reducible repeat (first | apply Kd.S_alloc | apply Kd.S_drewN | apply Kd.S_drew)); exact HO_3.out⟩, ⟨zB⟩⟩
       ·rw [if_neg c9] at H
        exact absurd H (by simp)
      ·rw [if_neg c7] at H
       exact absurd H (by simp)
     ·rw [if_neg c6] at H
      have c6b0 : decide (x4_1 < (l0.length : Int)) = false := deF c6
      clear c6
      obtain rfl := Option.some.inj H
      go_wp2
      go_ret
      exact ⟨_, by first | rfl | (simp [errW_none, errW_some] <;> rfl) | (simp [*, errW_none, errW_some] <;> rfl), by (with_reducible repeat (first | apply Kd.S_alloc | apply Kd.S_drewN | apply Kd.S_drew)); exact HO_3.out, zB⟩
  ·rw [if_neg c3] at H
   exact absurd H (by simp)
 ·rw [if_neg c2] at H
  exact absurd H (by simp)

/-! ### laws_toMemWatch: function 115 -/
def laws_toMemWatch.f (a0_0 : Int) (a0_1 : Int) : Option (Int × Int) := some (a0_0, a0_1)
set_option maxHeartbeats 8000000 in
set_option maxRecDepth 100000 in
theorem laws_toMemWatch.calls (a0_0 : Int) (a0_1 : Int) (r1 : Int) (r2 : Int) (w : World) (h : laws_toMemWatch.f a0_0 a0_1 = some (r1, r2)) :
  Calls Try.prog 115 #[.agg #[.int .i64 a0_0, .int .i64 a0_1]] w fun e w' => e = .returned (.agg #[.int .i64 r1, .int .i64 r2]) ∧ Below w.heap.size w w' := by
 have hu126 := Try.underlying126
 have hu60 := Try.underlying60
 have HB := AK (Below.refl w.heap.size w)
 have H : (some (a0_0, a0_1)) = some (r1, r2) := h
 clear h
 simp only [Option.some.injEq, Prod.mk.injEq] at H
 obtain ⟨rfl, rfl⟩ := H
 go_enter Try.func115, Try.ntmps115
 go_wp2_with (first | ((with_reducible refine gate_dst (N := 1) rfl ?_); refine box_event ?hg (N := 1) ?hd (cs := #[.int .i64 a0_0, .int .i64 a0_1]) (t := 126) ?hr ?_; (case hd => rfl); (case hg => rfl); (case hr => first | (go_simp; done) | (go_simp; rfl)); intro gb570 hg w2 hbox hb; have n0_ := AK (bst zB hb); have n1_ := AK (hbox); have n2_ := AK ((zG hg : w.heap.size ≤ gb570)); have n3_ := AK ((zG hg : w.heap.size ≤ gb570)); clear HB; have HB := n0_; have BK570 := n1_; have GW570 := n2_; have GE570 := n3_; clear n0_ n1_ n2_ n3_; clear hb hbox hg) | ((with_reducible refine gate_dst (N := 2) rfl ?_); refine box_event ?hg (N := 2) ?hd (cs := #[.int .i64 0, .int .i64 0]) (t := 60) ?hr ?_; (case hd => rfl); (case hg => rfl); (case hr => first | (go_simp; done) | (go_simp; rfl)); intro gb571 hg w3 hbox hb; have n0_ := AK (bbl (zK BK570) hb); have n1_ := AK (bst zB hb); have n2_ := AK (hbox); have n3_ := AK ((zG hg : w.heap.size ≤ gb571)); have n4_ := AK ((zG hg : w.heap.size ≤ gb571)); have n5_ := AK (zN hg BK570); have n6_ := AK (zM hg BK570); clear BK570; clear HB; have BK570 := n0_; have HB := n1_; have BK571 := n2_; have GW571 := n3_; have GE571 := n4_; have NB570_571 := n5_; have NB571_570 := n6_; clear n0_ n1_ n2_ n3_ n4_ n5_ n6_; clear hb hbox hg) | ((with_reducible refine gate_dst (N := 3) rfl ?_); refine box_event ?hg (N := 3) ?hd (cs := #[.int .i64 0, .int .i64 0]) (t := 60) ?hr ?_; (case hd => rfl); (case hg => rfl); (case hr => first | (go_simp; done) | (go_simp; rfl)); intro gb572 hg w4 hbox hb; have n0_ := AK (bbl (zK BK570) hb); have n1_ := AK (bbl (zK BK571) hb); have n2_ := AK (bst zB hb); have n3_ := AK (hbox); have n4_ := AK ((zG hg : w.heap.size ≤ gb572)); have n5_ := AK ((zG hg : w.heap.size ≤ gb572)); have n6_ := AK (zN hg BK570); have n7_ := AK (zM hg BK570); have n8_ := AK (zN hg BK571); have n9_ := AK (zM hg BK571); clear BK570; clear BK571; clear HB; have BK570 := n0_; have BK571 := n1_; have HB := n2_; have BK572 := n3_; have GW572 := n4_; have GE572 := n5_; have NB570_572 := n6_; have NB572_570 := n7_; have NB571_572 := n8_; have NB572_571 := n9_; clear n0_ n1_ n2_ n3_ n4_ n5_ n6_ n7_ n8_ n9_; clear hb hbox hg; have hnb5 := NB570_571.out; have hnc5 := NB571_570.out; have hnb6 := NB570_572.out; have hnc6 := NB572_570.out; have hcz7_0 : w4.cell? ⟨gb570, 0, none⟩ = some (.int .i64 a0_0) := (bcl BK570.out 0).trans rfl; have hcz7_1 : w4.cell? ⟨gb570, 1, none⟩ = some (.int .i64 a0_1) := (bcl BK570.out 1).trans rfl; have hfz7_0 := bfz BK570.out 0; have hfz7_1 := bfz BK570.out 1; have hnb8 := NB572_571.out; have hnc8 := NB571_572.out; have hcz9_0 : w4.cell? ⟨gb572, 0, none⟩ = some (.int .i64 0) := (bcl BK572.out 0).trans rfl; have hcz9_1 : w4.cell? ⟨gb572, 1, none⟩ = some (.int .i64 0) := (bcl BK572.out 1).trans rfl; have hfz9_0 := bfz BK572.out 0; have hfz9_1 := bfz BK572.out 1; have hcz10_0 : w4.cell? ⟨gb571, 0, none⟩ = some (.int .i64 0) := (bcl BK571.out 0).trans rfl; have hcz10_1 : w4.cell? ⟨gb571, 1, none⟩ = some (.int .i64 0) := (bcl BK571.out 1).trans rfl; have hfz10_0 := bfz BK571.out 0; have hfz10_1 := bfz BK571.out 1))
 refine bodyPost_ret (results_cell_row rfl _ _ gb571 60 #[.int .i64 a0_0, .int .i64 a0_1] (0, 0) _ rfl (by (with_reducible repeat (first | refine blk_drewN ?_ _ | refine blk_drew ?_ | refine blk_alloc ?_ _)); refine blk_put (cs := #[.int .i64 a0_0, .int .i64 0]) ?_ 1 _ rfl; (with_reducible repeat (first | refine blk_drewN ?_ _ | refine blk_drew ?_ | refine blk_alloc ?_ _)); refine blk_put (cs := #[.int .i64 0, .int .i64 0]) ?_ 0 _ rfl; (with_reducible repeat (first | refine blk_drewN ?_ _ | refine blk_drew ?_ | refine blk_alloc ?_ _)); refine blk_far ?_ NB571_572.out _; (with_reducible repeat (first | refine blk_drewN ?_ _ | refine blk_drew ?_ | refine blk_alloc ?_ _)); refine blk_far ?_ NB571_572.out _; (with_reducible repeat (first | refine blk_drewN ?_ _ | refine blk_drew ?_ | refine blk_alloc ?_ _)); exact BK571.out) Try.underlying60 rfl (by kernel_rfl)) rfl ?_
 exact ⟨by first | rfl | (simp [errW_none, errW_some] <;> rfl) | (simp [*, errW_none, errW_some] <;> rfl), zB⟩

/-! ### laws_toMemWatchS: function 81 -/
def laws_toMemWatchS.l0 : Nat → List (S126) → List (S60) → Int → Option ((List (S60)))
 | 0, _, _, _ => none
 | k + 1, x0, x3, x4 => if x4 < (x0.length : Int) then (if 0 ≤ x4 then ((laws_toMemWatch.f ((rd_T126 x0 x4).f0) ((rd_T126 x0 x4).f1)).bind fun bt577 => (if x4 < (x3.length : Int) then (laws_toMemWatchS.l0 k x0 (x3.set (x4 : Int).toNat (⟨bt577.1, bt577.2⟩ : S60)) (wrap64 (x4 + 1))) else (none))) else (none)) else (some x3)
def laws_toMemWatchS.f (k : Nat) (l0 : List (S126)) : Option ((List (S60))) := if 0 ≤ (l0.length : Int) then (if ((l0.length : Int) : Int).toNat ≤ 17592186044416 then (laws_toMemWatchS.l0 k l0 (List.replicate ((l0.length : Int) : Int).toNat z60) 0) else (none)) else (none)
set_option maxHeartbeats 8000000 in
set_option maxRecDepth 100000 in
theorem laws_toMemWatchS.calls (k : Nat) (A0 : Option Addr) (c0 : Nat) (l0 : List (S126)) (r : List (S60)) (w : World) (hr0 : Kd.C k126 w A0 l0.length l0) (hc0 : l0.length ≤ c0) (h : laws_toMemWatchS.f k l0 = some r) :
  Calls Try.prog 81 #[.slice A0 l0.length c0] w fun e w' => ∃ v0_ : Value, e = .returned (v0_) ∧ Kd.R k60 60 w' w.heap.size (fun _ => True) v0_ r ∧ Below w.heap.size w w' := by
 have hu126 := Try.underlying126
 have hu60 := Try.underlying60
 have HR0 := AK hr0
 have HC0 := AK hc0
 clear hr0 hc0
 have HB := AK (Below.refl w.heap.size w)
 have H : (if 0 ≤ (l0.length : Int) then (if ((l0.length : Int) : Int).toNat ≤ 17592186044416 then (laws_toMemWatchS.l0 k l0 (List.replicate ((l0.length : Int) : Int).toNat z60) 0) else (none)) else (none)) = some r := h
 clear h
 by_cases c2 : 0 ≤ (l0.length : Int)
 ·rw [if_pos c2] at H
  have c2b0 := eq_true c2
  have c2b1 : decide (0 ≤ (l0.length : Int)) = true := deT c2
  clear c2
  by_cases c3 : ((l0.length : Int) : Int).toNat ≤ 17592186044416
  ·rw [if_pos c3] at H
   have c3b0 := eq_true c3
   have c3b1 : decide (((l0.length : Int) : Int).toNat ≤ 17592186044416) = true := deT c3
   clear c3
   obtain ⟨y573, hy573⟩ : ∃ y_ : List (S60), y_ = (List.replicate ((l0.length : Int) : Int).toNat z60) := ⟨_, rfl⟩
   replace H : (laws_toMemWatchS.l0 k l0 y573 0) = some r := by first | (rw [hy573]; with_reducible exact H) | (have H2_ := (Option.bind_some _ _).symm.trans H; rw [hy573]; with_reducible exact H2_) | (have H2_ := (Option.bind_some _ _).symm.trans H; with_reducible exact H2_) | with_reducible exact H | (rw [hy573]; exact H) | exact H
   have Ny573 := AK hy573
   clear hy573
   have H' := AK H
   clear H
   go_enter Try.func81, Try.ntmps81
   go_wp2_with (first | ((with_reducible refine gate_dst (N := 7) rfl ?_); refine Kd.R_make k60 _ 60 rfl (N := 7) rfl 26 _ _ rfl (l0.length : Int) rfl rfl Try.underlying26 (.agg #[(.int .i64 0), (.int .i64 0)]) 16 info60 rfl (by decide) (by omega) z60 (ok := fun _ => True) (okp := fun _ => True) (k60_mkM _ _ _ z60 ) (fun _ hk => hk) trivial (of_decide_eq_true zA) (Nat.le_trans (Nat.mul_le_mul_right _ (of_decide_eq_true zA : (l0.length : Int).toNat ≤ 17592186044416)) (by omega)) (Below.refl _ _) (Nat.le_refl _) ?_; intro v574 w4 ho5 hb hg_ hnew_; clear hg_ hnew_; (first | rw [← Ny573.out] at ho5 | (simp only [Int.reduceToNat] at ho5; rw [← Ny573.out] at ho5)); have n0_ := AK (Kd.R_lower ho5 (below_size zB)); have n1_ := AK (bst zB hb); clear HB; have HO575 := n0_; have HB := n1_; clear n0_ n1_; clear hb ho5))
   go_loopg [4] k (fun kq v4 w' => ∃ (x3_1 : List (S60)) (x4_1 : Int), v4 = .int .i64 x4_1 ∧ Aside0 (laws_toMemWatchS.l0 kq l0 x3_1 x4_1 = some r) ∧ Aside0 (kq ≤ k) ∧ Aside0 (Kd.R k60 60 w' w.heap.size (fun _ => True) v574 x3_1) ∧ Aside0 (Below w.heap.size w w'))
   case atStart => exact ⟨(y573), (0), (by first | rfl | (simp; done) | (simp [*]; done)), H', ⟨Nat.le_refl _⟩, ⟨by (with_reducible repeat (first | apply Kd.R_alloc | apply Kd.R_drewN | apply Kd.R_drew)); exact HO575.out⟩, ⟨zB⟩⟩
   case round =>
    clear H'
    try clear c2
    try clear c2b0
    try clear c2b1
    try clear p2
    try clear c3
    try clear c3b0
    try clear c3b1
    obtain ⟨x3_1, x4_1, rfl, HA, HK1, HO_3, HB⟩ := hrel
    cases gk with
    | zero => exact absurd HA.out (by simp [laws_toMemWatchS.l0])
    | succ k1 =>
     have H := HA.out
     clear HA
     simp only [laws_toMemWatchS.l0] at H
     by_cases c6 : x4_1 < (l0.length : Int)
     ·rw [if_pos c6] at H
      have c6b0 : decide (x4_1 < (l0.length : Int)) = true := deT c6
      clear c6
      by_cases c7 : 0 ≤ x4_1
      ·rw [if_pos c7] at H
       have c7b0 : decide (0 ≤ x4_1) = true := deT c7
       clear c7
       replace H := Option.bind_eq_some_iff.mp H
       obtain ⟨⟨t577, t578⟩, A80, H⟩ := H
       replace H : (if x4_1 < (x3_1.length : Int) then (laws_toMemWatchS.l0 k1 l0 (x3_1.set (x4_1 : Int).toNat (⟨t577, t578⟩ : S60)) (wrap64 (x4_1 + 1))) else (none)) = some r := H
       have A8 := AK A80
       clear A80
       by_cases c9 : x4_1 < (x3_1.length : Int)
       ·rw [if_pos c9] at H
        have c9b0 : decide (x4_1 < (x3_1.length : Int)) = true := deT c9
        clear c9
        obtain ⟨y579, hy579⟩ : ∃ y_ : List (S60), y_ = (x3_1.set (x4_1 : Int).toNat (⟨t577, t578⟩ : S60)) := ⟨_, rfl⟩
        replace H : (laws_toMemWatchS.l0 k1 l0 y579 (wrap64 (x4_1 + 1))) = some r := by first | (rw [hy579]; with_reducible exact H) | (have H2_ := (Option.bind_some _ _).symm.trans H; rw [hy579]; with_reducible exact H2_) | (have H2_ := (Option.bind_some _ _).symm.trans H; with_reducible exact H2_) | with_reducible exact H | (rw [hy579]; exact H) | exact H
        have Ny579 := AK hy579
        clear hy579
        have H' := AK H
        clear H
        have p576 : 0 ≤ (x4_1 : Int) := of_decide_eq_true zA
        have q576 : x4_1 < (l0.length : Int) := of_decide_eq_true zA
        obtain ⟨ad576, e576, hx576_0, hx576_1⟩ := at_T126 HR0.out x4_1 p576 q576
        cases e576
        replace hx576_0 := (HB.out.cell (World.block_lt_of_cell? w _ hx576_0)).trans hx576_0
        replace hx576_1 := (HB.out.cell (World.block_lt_of_cell? w _ hx576_1)).trans hx576_1
        replace p576 := eq_true p576
        replace q576 := eq_true q576
        go_wp2_with (first | ((with_reducible refine gate_callee (f := 115) rfl ?_); refine goesL_ (some 20) rfl rfl Try.func115 (by kernel_rfl) rfl #[.agg #[.int .i64 ((rd_T126 l0 x4_1).f0), .int .i64 ((rd_T126 l0 x4_1).f1)]] rfl zI ?_; (with_reducible refine (laws_toMemWatch.calls ((rd_T126 l0 x4_1).f0) ((rd_T126 l0 x4_1).f1) t577 t578 _ A8.out).mono ?_); rintro e w11 ⟨rfl, hb⟩; refine ⟨_, rfl, ?_⟩; have n0_ := AK (Kd.R_below (by (with_reducible repeat (first | apply Kd.R_alloc | apply Kd.R_drewN | apply Kd.R_drew)); exact HO_3.out) hb); have n1_ := AK (bst zB hb); clear HO_3; clear HB; have HO_3 := n0_; have HB := n1_; clear n0_ n1_; (try clear hb); (try clear hb2); (try clear hk); (try clear hi); have p10 : 0 ≤ (x4_1 : Int) := of_decide_eq_true zA; have q10 : (x4_1 : Int) < ((x3_1.length : Int) : Int) := of_decide_eq_true zA; obtain ⟨go10, co10, eo10, gb10, gl10, cl10, HG10⟩ := Kd.R_form HO_3.out (by omega); (first | cases eo10 | (injection eo10 with ea_ en_ ec_; (first | subst ea_ | (injection ea_ with ea_; subst ea_)); subst ec_; clear en_)); have GB10 := AK gb10; have GG10 := AK HG10; clear gb10 gl10 HG10; obtain ⟨ce10, hcl10, hM10, hcc10, hfr10⟩ := Kd.R_elem HO_3.out z60 (x4_1 : Int) p10 q10; obtain rfl := k60_openM hM10; have hx10_0 : w11.cell? ⟨go10, (x4_1 : Int).toNat * 2, none⟩ = some (.int .i64 ((rd_T60 x3_1 x4_1).f0)) := hcc10 0 _ rfl; have hx10_1 : w11.cell? ⟨go10, (x4_1 : Int).toNat * 2 + 1, none⟩ = some (.int .i64 ((rd_T60 x3_1 x4_1).f1)) := hcc10 1 _ rfl; have hf10_0 : w11.frozen? ⟨go10, (x4_1 : Int).toNat * 2, none⟩ = false := hfr10 0; have hf10_1 : w11.frozen? ⟨go10, (x4_1 : Int).toNat * 2 + 1, none⟩ = false := hfr10 1; clear hcl10 hcc10 hfr10 hM10; replace p10 := eq_true p10; replace q10 := eq_true q10; have HX12 := AK (show Kd.R k60 60 w11 w.heap.size (fun _ => True) (.slice (some ⟨go10, 0, none⟩) x3_1.length co10) x3_1 from (by (with_reducible repeat (first | apply Kd.R_alloc | apply Kd.R_drewN | apply Kd.R_drew)); exact HO_3.out)); obtain ⟨ce12, hcl12, hM12, hcc12, hfr12⟩ := Kd.R_elem HX12.out z60 (x4_1 : Int) (of_decide_eq_true zA) (by have h_ : (x4_1 : Int) < ((x3_1.length : Int) : Int) := of_decide_eq_true zA; first | exact h_ | (have e_ := (Kd.R_reads' HO_3.out).1; omega) | simpa using h_); obtain rfl := k60_openM hM12; have HP12 := Kd.R_seg HX12.out (x4_1 : Int) (of_decide_eq_true zA) (by have h_ : (x4_1 : Int) < ((x3_1.length : Int) : Int) := of_decide_eq_true zA; first | exact h_ | (have e_ := (Kd.R_reads' HO_3.out).1; omega) | simpa using h_) (seg := [.int .i64 t577, .int .i64 t578]) (j := 0) hcl12 hcc12 (show 2 ≤ 2 from by decide) (x' := (⟨t577, t578⟩ : S60)) (k60_mkM _ _ _ (⟨t577, t578⟩ : S60) ) (fun _ hk => hk); have hx12_0 := hcc12 0 _ rfl; (try simp only [show (k60).sz = 2 from rfl, Nat.mul_one, Nat.add_zero] at hx12_0); have hf12_0 := hfr12 0; (try simp only [show (k60).sz = 2 from rfl, Nat.mul_one, Nat.add_zero] at hf12_0); have hx12_1 := hcc12 1 _ rfl; (try simp only [show (k60).sz = 2 from rfl, Nat.mul_one, Nat.add_zero] at hx12_1); have hf12_1 := hfr12 1; (try simp only [show (k60).sz = 2 from rfl, Nat.mul_one, Nat.add_zero] at hf12_1); clear hcl12 hcc12 hfr12 hM12) | ((with_reducible refine gate_store (t := 60) (p := 21) rfl ?_); refine store_event (t := 60) (p := 21) (v := ?vo_w13) (w1 := ((w11.setCell ⟨go10, (x4_1 : Int).toNat * 2, none⟩ (.int .i64 t577)).setCell ⟨go10, (x4_1 : Int).toNat * 2 + 1, none⟩ (.int .i64 t578))) ?hg ?ho ?hn ?hr ?_; (case ho => rfl); (case hg => rfl); (case hn => rfl); (case hr => first | (go_simp; done) | (go_simp; rfl)); intro w13 hw; have hg : w11.grownBy w13 (some go10) := (by rw [hw]; exact HP12.2); have hp_ : Kd.R k60 60 w13 w.heap.size (fun _ => True) (.slice (some ⟨go10, 0, none⟩) x3_1.length co10) y579 := (by rw [hw, Ny579.out]; exact HP12.1); clear HP12; have n0_ := AK (hp_); have n1_ := AK ((by rw [hw]; exact below_set (below_set (HB.out) GB10.out) GB10.out : Below w.heap.size w w13)); clear HO_3; clear HB; have HO_3 := n0_; have HB := n1_; clear n0_ n1_; clear hg hw hp_))
        go_roundg k1
        case measure => have := HK1.out; omega
        case rel => exact ⟨(y579), (wrap64 (x4_1 + 1)), (by first | rfl | (simp; done) | (simp [*]; done)), H', ⟨by have := HK1.out; omega⟩, ⟨by (with_reducible repeat (first | apply Kd.R_alloc | apply Kd.R_drewN | apply Kd.R_drew)); exact HO_3.out⟩, ⟨zB⟩⟩
       ·rw [if_neg c9] at H
        exact absurd H (by simp)
      ·rw [if_neg c7] at H
       exact absurd H (by simp)
     ·rw [if_neg c6] at H
      have c6b0 : decide (x4_1 < (l0.length : Int)) = false := deF c6
      clear c6
      obtain rfl := Option.some.inj H
      go_wp2
      go_ret
      exact ⟨_, by first | rfl | (simp [errW_none, errW_some] <;> rfl) | (simp [*, errW_none, errW_some] <;> rfl), by (with_reducible repeat (first | apply Kd.R_alloc | apply Kd.R_drewN | apply Kd.R_drew)); exact HO_3.out, zB⟩
  ·rw [if_neg c3] at H
   exact absurd H (by simp)
 ·rw [if_neg c2] at H
  exact absurd H (by simp)

/-! ### laws_toMemHeap: function 24 -/
def laws_toMemHeap.f (k : Nat) (l0_0 : List (S72)) (l0_1 : List Int) (l0_2 : List (S126)) (l0_3 : List (S126)) : Option ((List (S38)) × List Int × (List (S60)) × (List (S60))) := (laws_toMemObjS.f k l0_0).bind fun t583 => ((laws_toIntS.f k l0_1).bind fun t586 => ((laws_toMemWatchS.f k l0_2).bind fun t589 => ((laws_toMemWatchS.f k l0_3).bind fun t592 => (some (t583, t586, t589, t592)))))
set_option maxHeartbeats 8000000 in
set_option maxRecDepth 100000 in
theorem laws_toMemHeap.calls (k : Nat) (A0_0 : Option Addr) (c0_0 : Nat) (l0_0 : List (S72)) (A0_1 : Option Addr) (c0_1 : Nat) (l0_1 : List Int) (A0_2 : Option Addr) (c0_2 : Nat) (l0_2 : List (S126)) (A0_3 : Option Addr) (c0_3 : Nat) (l0_3 : List (S126)) (r1 : List (S38)) (r2 : List Int) (r3 : List (S60)) (r4 : List (S60)) (w : World) (hr0_0 : Kd.C k72 w A0_0 l0_0.length l0_0) (hc0_0 : l0_0.length ≤ c0_0) (hr0_1 : Kd.C (Kd.int .i64) w A0_1 l0_1.length l0_1) (hc0_1 : l0_1.length ≤ c0_1) (hr0_2 : Kd.C k126 w A0_2 l0_2.length l0_2) (hc0_2 : l0_2.length ≤ c0_2) (hr0_3 : Kd.C k126 w A0_3 l0_3.length l0_3) (hc0_3 : l0_3.length ≤ c0_3) (h : laws_toMemHeap.f k l0_0 l0_1 l0_2 l0_3 = some (r1, r2, r3, r4)) :
  Calls Try.prog 24 #[.agg #[.slice A0_0 l0_0.length c0_0, .slice A0_1 l0_1.length c0_1, .slice A0_2 l0_2.length c0_2, .slice A0_3 l0_3.length c0_3]] w fun e w' => ∃ v0_ v1_ v2_ v3_ : Value, e = .returned (.agg #[v0_, v1_, v2_, v3_]) ∧ Kd.S k38 38 w' w.heap.size (fun k_ => some k_ ≠ (v1_ : Value).ownBlock) v0_ r1 ∧ Kd.R (Kd.int .i64) 3 w' w.heap.size (fun _ => True) v1_ r2 ∧ Kd.R k60 60 w' w.heap.size (fun k_ => some k_ ≠ (v3_ : Value).ownBlock) v2_ r3 ∧ Kd.R k60 60 w' w.heap.size (fun k_ => some k_ ≠ (v2_ : Value).ownBlock) v3_ r4 ∧ Below w.heap.size w w' := by
 have hu45 := Try.underlying45
 have hu28 := Try.underlying28
 have HR0_0 := AK hr0_0
 have HC0_0 := AK hc0_0
 clear hr0_0 hc0_0
 have HR0_1 := AK hr0_1
 have HC0_1 := AK hc0_1
 clear hr0_1 hc0_1
 have HR0_2 := AK hr0_2
 have HC0_2 := AK hc0_2
 clear hr0_2 hc0_2
 have HR0_3 := AK hr0_3
 have HC0_3 := AK hc0_3
 clear hr0_3 hc0_3
 have HB := AK (Below.refl w.heap.size w)
 have H : ((laws_toMemObjS.f k l0_0).bind fun t583 => ((laws_toIntS.f k l0_1).bind fun t586 => ((laws_toMemWatchS.f k l0_2).bind fun t589 => ((laws_toMemWatchS.f k l0_3).bind fun t592 => (some (t583, t586, t589, t592)))))) = some (r1, r2, r3, r4) := h
 clear h
 replace H := Option.bind_eq_some_iff.mp H
 obtain ⟨t583, A20, H⟩ := H
 replace H : ((laws_toIntS.f k l0_1).bind fun t586 => ((laws_toMemWatchS.f k l0_2).bind fun t589 => ((laws_toMemWatchS.f k l0_3).bind fun t592 => (some (t583, t586, t589, t592))))) = some (r1, r2, r3, r4) := H
 have A2 := AK A20
 clear A20
 replace H := Option.bind_eq_some_iff.mp H
 obtain ⟨t586, A30, H⟩ := H
 replace H : ((laws_toMemWatchS.f k l0_2).bind fun t589 => ((laws_toMemWatchS.f k l0_3).bind fun t592 => (some (t583, t586, t589, t592)))) = some (r1, r2, r3, r4) := H
 have A3 := AK A30
 clear A30
 replace H := Option.bind_eq_some_iff.mp H
 obtain ⟨t589, A40, H⟩ := H
 replace H : ((laws_toMemWatchS.f k l0_3).bind fun t592 => (some (t583, t586, t589, t592))) = some (r1, r2, r3, r4) := H
 have A4 := AK A40
 clear A40
 replace H := Option.bind_eq_some_iff.mp H
 obtain ⟨t592, A50, H⟩ := H
 replace H : (some (t583, t586, t589, t592)) = some (r1, r2, r3, r4) := H
 have A5 := AK A50
 clear A50
 simp only [Option.some.injEq, Prod.mk.injEq] at H
 obtain ⟨rfl, rfl, rfl, rfl⟩ := H
 go_enter Try.func24, Try.ntmps24
 go_wp2_with (first | ((with_reducible refine gate_dst (N := 1) rfl ?_); refine box_event ?hg (N := 1) ?hd (cs := #[.slice A0_0 l0_0.length c0_0, .slice A0_1 l0_1.length c0_1, .slice A0_2 l0_2.length c0_2, .slice A0_3 l0_3.length c0_3]) (t := 45) ?hr ?_; (case hd => rfl); (case hg => rfl); (case hr => first | (go_simp; done) | (go_simp; rfl)); intro gb580 hg w6 hbox hb; have n0_ := AK (bst zB hb); have n1_ := AK (hbox); have n2_ := AK ((zG hg : w.heap.size ≤ gb580)); have n3_ := AK ((zG hg : w.heap.size ≤ gb580)); clear HB; have HB := n0_; have BK580 := n1_; have GW580 := n2_; have GE580 := n3_; clear n0_ n1_ n2_ n3_; clear hb hbox hg) | ((with_reducible refine gate_dst (N := 2) rfl ?_); refine box_event ?hg (N := 2) ?hd (cs := #[.slice none 0 0, .slice none 0 0, .slice none 0 0, .slice none 0 0]) (t := 28) ?hr ?_; (case hd => rfl); (case hg => rfl); (case hr => first | (go_simp; done) | (go_simp; rfl)); intro gb581 hg w7 hbox hb; have n0_ := AK (bbl (zK BK580) hb); have n1_ := AK (bst zB hb); have n2_ := AK (hbox); have n3_ := AK ((zG hg : w.heap.size ≤ gb581)); have n4_ := AK ((zG hg : w.heap.size ≤ gb581)); have n5_ := AK (zN hg BK580); have n6_ := AK (zM hg BK580); clear BK580; clear HB; have BK580 := n0_; have HB := n1_; have BK581 := n2_; have GW581 := n3_; have GE581 := n4_; have NB580_581 := n5_; have NB581_580 := n6_; clear n0_ n1_ n2_ n3_ n4_ n5_ n6_; clear hb hbox hg) | ((with_reducible refine gate_dst (N := 3) rfl ?_); refine box_event ?hg (N := 3) ?hd (cs := #[.slice none 0 0, .slice none 0 0, .slice none 0 0, .slice none 0 0]) (t := 28) ?hr ?_; (case hd => rfl); (case hg => rfl); (case hr => first | (go_simp; done) | (go_simp; rfl)); intro gb582 hg w8 hbox hb; have n0_ := AK (bbl (zK BK580) hb); have n1_ := AK (bbl (zK BK581) hb); have n2_ := AK (bst zB hb); have n3_ := AK (hbox); have n4_ := AK ((zG hg : w.heap.size ≤ gb582)); have n5_ := AK ((zG hg : w.heap.size ≤ gb582)); have n6_ := AK (zN hg BK580); have n7_ := AK (zM hg BK580); have n8_ := AK (zN hg BK581); have n9_ := AK (zM hg BK581); clear BK580; clear BK581; clear HB; have BK580 := n0_; have BK581 := n1_; have HB := n2_; have BK582 := n3_; have GW582 := n4_; have GE582 := n5_; have NB580_582 := n6_; have NB582_580 := n7_; have NB581_582 := n8_; have NB582_581 := n9_; clear n0_ n1_ n2_ n3_ n4_ n5_ n6_ n7_ n8_ n9_; clear hb hbox hg; have hnb9 := NB580_581.out; have hnc9 := NB581_580.out; have hnb10 := NB580_582.out; have hnc10 := NB582_580.out; have hcz11_0 : w8.cell? ⟨gb580, 0, none⟩ = some (.slice A0_0 l0_0.length c0_0) := (bcl BK580.out 0).trans rfl; have hcz11_1 : w8.cell? ⟨gb580, 1, none⟩ = some (.slice A0_1 l0_1.length c0_1) := (bcl BK580.out 1).trans rfl; have hcz11_2 : w8.cell? ⟨gb580, 2, none⟩ = some (.slice A0_2 l0_2.length c0_2) := (bcl BK580.out 2).trans rfl; have hcz11_3 : w8.cell? ⟨gb580, 3, none⟩ = some (.slice A0_3 l0_3.length c0_3) := (bcl BK580.out 3).trans rfl; have hfz11_0 := bfz BK580.out 0; have hfz11_1 := bfz BK580.out 1; have hfz11_2 := bfz BK580.out 2; have hfz11_3 := bfz BK580.out 3) | ((with_reducible refine gate_callee (f := 79) rfl ?_); refine goesL_ (some 6) rfl rfl Try.func79 (by kernel_rfl) rfl #[.slice A0_0 l0_0.length c0_0] rfl zI ?_; (with_reducible refine (laws_toMemObjS.calls k _ _ l0_0 t583 _ ?side1 ?side2 A2.out).mono ?_); (case side1 => repeat (first | exact (Kd.C_below HR0_0.out HB.out) | (with_reducible refine Kd.C_alloc ?_ _) | (with_reducible refine Kd.C_drewN ?_ _) | (with_reducible refine Kd.C_drew ?_))); (case side2 => exact HC0_0.out); rintro e w12 ⟨v584, rfl, ho0, hb⟩; refine ⟨_, rfl, ?_⟩; have n0_ := AK (Kd.S_lower ho0 (below_size zB)); have n1_ := AK (bbl (zK BK580) hb); have n2_ := AK (bbl (zK BK581) hb); have n3_ := AK (bbl (zK BK582) hb); have n4_ := AK (bst zB hb); clear BK580; clear BK581; clear BK582; clear HB; have HO585 := n0_; have BK580 := n1_; have BK581 := n2_; have BK582 := n3_; have HB := n4_; clear n0_ n1_ n2_ n3_ n4_; (try clear hb); (try clear hb2); (try clear hk); (try clear hi); (try clear ho0); obtain ⟨Ao13, co13, eo13⟩ := Kd.S_slice HO585.out; subst eo13; have hnb14 := NB582_581.out; have hnc14 := NB581_582.out; have hcz15_0 : w12.cell? ⟨gb582, 0, none⟩ = some (.slice none 0 0) := (bcl BK582.out 0).trans rfl; have hcz15_1 : w12.cell? ⟨gb582, 1, none⟩ = some (.slice none 0 0) := (bcl BK582.out 1).trans rfl; have hcz15_2 : w12.cell? ⟨gb582, 2, none⟩ = some (.slice none 0 0) := (bcl BK582.out 2).trans rfl; have hcz15_3 : w12.cell? ⟨gb582, 3, none⟩ = some (.slice none 0 0) := (bcl BK582.out 3).trans rfl; have hfz15_0 := bfz BK582.out 0; have hfz15_1 := bfz BK582.out 1; have hfz15_2 := bfz BK582.out 2; have hfz15_3 := bfz BK582.out 3; have hcz16_0 : w12.cell? ⟨gb580, 0, none⟩ = some (.slice A0_0 l0_0.length c0_0) := (bcl BK580.out 0).trans rfl; have hcz16_1 : w12.cell? ⟨gb580, 1, none⟩ = some (.slice A0_1 l0_1.length c0_1) := (bcl BK580.out 1).trans rfl; have hcz16_2 : w12.cell? ⟨gb580, 2, none⟩ = some (.slice A0_2 l0_2.length c0_2) := (bcl BK580.out 2).trans rfl; have hcz16_3 : w12.cell? ⟨gb580, 3, none⟩ = some (.slice A0_3 l0_3.length c0_3) := (bcl BK580.out 3).trans rfl; have hfz16_0 := bfz BK580.out 0; have hfz16_1 := bfz BK580.out 1; have hfz16_2 := bfz BK580.out 2; have hfz16_3 := bfz BK580.out 3) | ((with_reducible refine gate_callee (f := 80) rfl ?_); refine goesL_ (some 10) rfl rfl Try.func80 (by kernel_rfl) rfl #[.slice A0_1 l0_1.length c0_1] rfl zI ?_; (with_reducible refine (laws_toIntS.calls k _ _ l0_1 t586 _ ?side1 ?side2 A3.out).mono ?_); (case side1 => exact Kd.C_below HR0_1.out zB); (case side2 => exact HC0_1.out); rintro e w17 ⟨v587, rfl, ho0, hb⟩; refine ⟨_, rfl, ?_⟩; have n0_ := AK (Kd.S_elder' (by (with_reducible repeat (first | apply Kd.S_alloc | apply Kd.S_drewN | apply Kd.S_drew)); exact (Kd.S_mono (Kd.S_far (p := ⟨gb582, 0, none⟩) (Kd.S_types HO585.out BK582.out (by decide)) (fun _ hk => hk.2) (.slice Ao13 t583.length co13)) (fun _ h_ => h_.1))) (Kd.R_base ho0) hb); have n1_ := AK (Kd.R_lower ho0 (below_size zB)); have n2_ := AK (bbl (g := gb580) (o := .cells #[.slice A0_0 l0_0.length c0_0, .slice A0_1 l0_1.length c0_1, .slice A0_2 l0_2.length c0_2, .slice A0_3 l0_3.length c0_3] 45 (0, 0)) (by (with_reducible repeat (first | refine blk_drewN ?_ _ | refine blk_drew ?_ | refine blk_alloc ?_ _)); refine blk_far ?_ NB580_582.out _; (with_reducible repeat (first | refine blk_drewN ?_ _ | refine blk_drew ?_ | refine blk_alloc ?_ _)); exact BK580.out) hb); have n3_ := AK (bbl (g := gb581) (o := .cells #[.slice none 0 0, .slice none 0 0, .slice none 0 0, .slice none 0 0] 28 (0, 0)) (by (with_reducible repeat (first | refine blk_drewN ?_ _ | refine blk_drew ?_ | refine blk_alloc ?_ _)); refine blk_far ?_ NB581_582.out _; (with_reducible repeat (first | refine blk_drewN ?_ _ | refine blk_drew ?_ | refine blk_alloc ?_ _)); exact BK581.out) hb); have n4_ := AK (bbl (g := gb582) (o := .cells #[.slice Ao13 t583.length co13, .slice none 0 0, .slice none 0 0, .slice none 0 0] 28 (0, 0)) (by (with_reducible repeat (first | refine blk_drewN ?_ _ | refine blk_drew ?_ | refine blk_alloc ?_ _)); refine blk_put (cs := #[.slice none 0 0, .slice none 0 0, .slice none 0 0, .slice none 0 0]) ?_ 0 _ rfl; (with_reducible repeat (first | refine blk_drewN ?_ _ | refine blk_drew ?_ | refine blk_alloc ?_ _)); exact BK582.out) hb); have n5_ := AK (bst zB hb); clear HO585; clear BK580; clear BK581; clear BK582; clear HB; have HO585 := n0_; have HO588 := n1_; have BK580 := n2_; have BK581 := n3_; have BK582 := n4_; have HB := n5_; clear n0_ n1_ n2_ n3_ n4_ n5_; (try clear hb); (try clear hb2); (try clear hk); (try clear hi); (try clear ho0); obtain ⟨Ao18, co18, eo18⟩ := Kd.R_slice HO588.out; subst eo18; have hcz19_0 : w17.cell? ⟨gb582, 0, none⟩ = some (.slice Ao13 t583.length co13) := (bcl BK582.out 0).trans rfl; have hcz19_1 : w17.cell? ⟨gb582, 1, none⟩ = some (.slice none 0 0) := (bcl BK582.out 1).trans rfl; have hcz19_2 : w17.cell? ⟨gb582, 2, none⟩ = some (.slice none 0 0) := (bcl BK582.out 2).trans rfl; have hcz19_3 : w17.cell? ⟨gb582, 3, none⟩ = some (.slice none 0 0) := (bcl BK582.out 3).trans rfl; have hfz19_0 := bfz BK582.out 0; have hfz19_1 := bfz BK582.out 1; have hfz19_2 := bfz BK582.out 2; have hfz19_3 := bfz BK582.out 3; have hcz20_0 : w17.cell? ⟨gb580, 0, none⟩ = some (.slice A0_0 l0_0.length c0_0) := (bcl BK580.out 0).trans rfl; have hcz20_1 : w17.cell? ⟨gb580, 1, none⟩ = some (.slice A0_1 l0_1.length c0_1) := (bcl BK580.out 1).trans rfl; have hcz20_2 : w17.cell? ⟨gb580, 2, none⟩ = some (.slice A0_2 l0_2.length c0_2) := (bcl BK580.out 2).trans rfl; have hcz20_3 : w17.cell? ⟨gb580, 3, none⟩ = some (.slice A0_3 l0_3.length c0_3) := (bcl BK580.out 3).trans rfl; have hfz20_0 := bfz BK580.out 0; have hfz20_1 := bfz BK580.out 1; have hfz20_2 := bfz BK580.out 2; have hfz20_3 := bfz BK580.out 3) | ((with_reducible refine gate_callee (f := 81) rfl ?_); refine goesL_ (some 14) rfl rfl Try.func81 (by kernel_rfl) rfl #[.slice A0_2 l0_2.length c0_2] rfl zI ?_; (with_reducible refine (laws_toMemWatchS.calls k _ _ l0_2 t589 _ ?side1 ?side2 A4.out).mono ?_); (case side1 => exact Kd.C_below HR0_2.out zB); (case side2 => exact HC0_2.out); rintro e w21 ⟨v590, rfl, ho0, hb⟩; refine ⟨_, rfl, ?_⟩; have n0_ := AK (Kd.S_below (by (with_reducible repeat (first | apply Kd.S_alloc | apply Kd.S_drewN | apply Kd.S_drew)); exact (Kd.S_mono (Kd.S_far (p := ⟨gb582, 1, none⟩) (Kd.S_types HO585.out BK582.out (by decide)) (fun _ hk => hk.2) (.slice Ao18 t586.length co18)) (fun _ h_ => h_.1))) hb); have n1_ := AK (Kd.R_below (by (with_reducible repeat (first | apply Kd.R_alloc | apply Kd.R_drewN | apply Kd.R_drew)); exact (Kd.R_mono (Kd.R_far (p := ⟨gb582, 1, none⟩) (Kd.R_types HO588.out BK582.out (by decide)) (fun _ hk => hk.2) (.slice Ao18 t586.length co18)) (fun _ h_ => h_.1))) hb); have n2_ := AK (Kd.R_lower ho0 (below_size zB)); have n3_ := AK (bbl (g := gb580) (o := .cells #[.slice A0_0 l0_0.length c0_0, .slice A0_1 l0_1.length c0_1, .slice A0_2 l0_2.length c0_2, .slice A0_3 l0_3.length c0_3] 45 (0, 0)) (by (with_reducible repeat (first | refine blk_drewN ?_ _ | refine blk_drew ?_ | refine blk_alloc ?_ _)); refine blk_far ?_ NB580_582.out _; (with_reducible repeat (first | refine blk_drewN ?_ _ | refine blk_drew ?_ | refine blk_alloc ?_ _)); exact BK580.out) hb); have n4_ := AK (bbl (g := gb581) (o := .cells #[.slice none 0 0, .slice none 0 0, .slice none 0 0, .slice none 0 0] 28 (0, 0)) (by (with_reducible repeat (first | refine blk_drewN ?_ _ | refine blk_drew ?_ | refine blk_alloc ?_ _)); refine blk_far ?_ NB581_582.out _; (with_reducible repeat (first | refine blk_drewN ?_ _ | refine blk_drew ?_ | refine blk_alloc ?_ _)); exact BK581.out) hb); have n5_ := AK (bbl (g := gb582) (o := .cells #[.slice Ao13 t583.length co13, .slice Ao18 t586.length co18, .slice none 0 0, .slice none 0 0] 28 (0, 0)) (by (with_reducible repeat (first | refine blk_drewN ?_ _ | refine blk_drew ?_ | refine blk_alloc ?_ _)); refine blk_put (cs := #[.slice Ao13 t583.length co13, .slice none 0 0, .slice none 0 0, .slice none 0 0]) ?_ 1 _ rfl; (with_reducible repeat (first | refine blk_drewN ?_ _ | refine blk_drew ?_ | refine blk_alloc ?_ _)); exact BK582.out) hb); have n6_ := AK (bst zB hb); clear HO585; clear HO588; clear BK580; clear BK581; clear BK582; clear HB; have HO585 := n0_; have HO588 := n1_; have HO591 := n2_; have BK580 := n3_; have BK581 := n4_; have BK582 := n5_; have HB := n6_; clear n0_ n1_ n2_ n3_ n4_ n5_ n6_; (try clear hb); (try clear hb2); (try clear hk); (try clear hi); (try clear ho0); obtain ⟨Ao22, co22, eo22⟩ := Kd.R_slice HO591.out; subst eo22; have hcz23_0 : w21.cell? ⟨gb582, 0, none⟩ = some (.slice Ao13 t583.length co13) := (bcl BK582.out 0).trans rfl; have hcz23_1 : w21.cell? ⟨gb582, 1, none⟩ = some (.slice Ao18 t586.length co18) := (bcl BK582.out 1).trans rfl; have hcz23_2 : w21.cell? ⟨gb582, 2, none⟩ = some (.slice none 0 0) := (bcl BK582.out 2).trans rfl; have hcz23_3 : w21.cell? ⟨gb582, 3, none⟩ = some (.slice none 0 0) := (bcl BK582.out 3).trans rfl; have hfz23_0 := bfz BK582.out 0; have hfz23_1 := bfz BK582.out 1; have hfz23_2 := bfz BK582.out 2; have hfz23_3 := bfz BK582.out 3; have hcz24_0 : w21.cell? ⟨gb580, 0, none⟩ = some (.slice A0_0 l0_0.length c0_0) := (bcl BK580.out 0).trans rfl; have hcz24_1 : w21.cell? ⟨gb580, 1, none⟩ = some (.slice A0_1 l0_1.length c0_1) := (bcl BK580.out 1).trans rfl; have hcz24_2 : w21.cell? ⟨gb580, 2, none⟩ = some (.slice A0_2 l0_2.length c0_2) := (bcl BK580.out 2).trans rfl; have hcz24_3 : w21.cell? ⟨gb580, 3, none⟩ = some (.slice A0_3 l0_3.length c0_3) := (bcl BK580.out 3).trans rfl; have hfz24_0 := bfz BK580.out 0; have hfz24_1 := bfz BK580.out 1; have hfz24_2 := bfz BK580.out 2; have hfz24_3 := bfz BK580.out 3) | ((with_reducible refine gate_callee (f := 81) rfl ?_); refine goesL_ (some 18) rfl rfl Try.func81 (by kernel_rfl) rfl #[.slice A0_3 l0_3.length c0_3] rfl zI ?_; (with_reducible refine (laws_toMemWatchS.calls k _ _ l0_3 t592 _ ?side1 ?side2 A5.out).mono ?_); (case side1 => exact Kd.C_below HR0_3.out zB); (case side2 => exact HC0_3.out); rintro e w25 ⟨v593, rfl, ho0, hb⟩; refine ⟨_, rfl, ?_⟩; have n0_ := AK (Kd.S_below (by (with_reducible repeat (first | apply Kd.S_alloc | apply Kd.S_drewN | apply Kd.S_drew)); exact (Kd.S_mono (Kd.S_far (p := ⟨gb582, 2, none⟩) (Kd.S_types HO585.out BK582.out (by decide)) (fun _ hk => hk.2) (.slice Ao22 t589.length co22)) (fun _ h_ => h_.1))) hb); have n1_ := AK (Kd.R_below (by (with_reducible repeat (first | apply Kd.R_alloc | apply Kd.R_drewN | apply Kd.R_drew)); exact (Kd.R_mono (Kd.R_far (p := ⟨gb582, 2, none⟩) (Kd.R_types HO588.out BK582.out (by decide)) (fun _ hk => hk.2) (.slice Ao22 t589.length co22)) (fun _ h_ => h_.1))) hb); have n2_ := AK (Kd.R_elder' (by (with_reducible repeat (first | apply Kd.R_alloc | apply Kd.R_drewN | apply Kd.R_drew)); exact (Kd.R_mono (Kd.R_far (p := ⟨gb582, 2, none⟩) (Kd.R_types HO591.out BK582.out (by decide)) (fun _ hk => hk.2) (.slice Ao22 t589.length co22)) (fun _ h_ => h_.1))) (Kd.R_base ho0) hb); have n3_ := AK (Kd.R_lower (Kd.R_new' ho0 (Kd.R_lt (by (with_reducible repeat (first | apply Kd.R_alloc | apply Kd.R_drewN | apply Kd.R_drew)); exact (Kd.R_mono (Kd.R_far (p := ⟨gb582, 2, none⟩) (Kd.R_types HO591.out BK582.out (by decide)) (fun _ hk => hk.2) (.slice Ao22 t589.length co22)) (fun _ h_ => h_.1))))) (below_size zB)); have n4_ := AK (bbl (g := gb580) (o := .cells #[.slice A0_0 l0_0.length c0_0, .slice A0_1 l0_1.length c0_1, .slice A0_2 l0_2.length c0_2, .slice A0_3 l0_3.length c0_3] 45 (0, 0)) (by (with_reducible repeat (first | refine blk_drewN ?_ _ | refine blk_drew ?_ | refine blk_alloc ?_ _)); refine blk_far ?_ NB580_582.out _; (with_reducible repeat (first | refine blk_drewN ?_ _ | refine blk_drew ?_ | refine blk_alloc ?_ _)); exact BK580.out) hb); have n5_ := AK (bbl (g := gb581) (o := .cells #[.slice none 0 0, .slice none 0 0, .slice none 0 0, .slice none 0 0] 28 (0, 0)) (by (with_reducible repeat (first | refine blk_drewN ?_ _ | refine blk_drew ?_ | refine blk_alloc ?_ _)); refine blk_far ?_ NB581_582.out _; (with_reducible repeat (first | refine blk_drewN ?_ _ | refine blk_drew ?_ | refine blk_alloc ?_ _)); exact BK581.out) hb); have n6_ := AK (bbl (g := gb582) (o := .cells #[.slice Ao13 t583.length co13, .slice Ao18 t586.length co18, .slice Ao22 t589.length co22, .slice none 0 0] 28 (0, 0)) (by (with_reducible repeat (first | refine blk_drewN ?_ _ | refine blk_drew ?_ | refine blk_alloc ?_ _)); refine blk_put (cs := #[.slice Ao13 t583.length co13, .slice Ao18 t586.length co18, .slice none 0 0, .slice none 0 0]) ?_ 2 _ rfl; (with_reducible repeat (first | refine blk_drewN ?_ _ | refine blk_drew ?_ | refine blk_alloc ?_ _)); exact BK582.out) hb); have n7_ := AK (bst zB hb); clear HO585; clear HO588; clear HO591; clear BK580; clear BK581; clear BK582; clear HB; have HO585 := n0_; have HO588 := n1_; have HO591 := n2_; have HO594 := n3_; have BK580 := n4_; have BK581 := n5_; have BK582 := n6_; have HB := n7_; clear n0_ n1_ n2_ n3_ n4_ n5_ n6_ n7_; (try clear hb); (try clear hb2); (try clear hk); (try clear hi); (try clear ho0); obtain ⟨Ao26, co26, eo26⟩ := Kd.R_slice HO594.out; subst eo26; have hcz27_0 : w25.cell? ⟨gb582, 0, none⟩ = some (.slice Ao13 t583.length co13) := (bcl BK582.out 0).trans rfl; have hcz27_1 : w25.cell? ⟨gb582, 1, none⟩ = some (.slice Ao18 t586.length co18) := (bcl BK582.out 1).trans rfl; have hcz27_2 : w25.cell? ⟨gb582, 2, none⟩ = some (.slice Ao22 t589.length co22) := (bcl BK582.out 2).trans rfl; have hcz27_3 : w25.cell? ⟨gb582, 3, none⟩ = some (.slice none 0 0) := (bcl BK582.out 3).trans rfl; have hfz27_0 := bfz BK582.out 0; have hfz27_1 := bfz BK582.out 1; have hfz27_2 := bfz BK582.out 2; have hfz27_3 := bfz BK582.out 3; have hcz28_0 : w25.cell? ⟨gb581, 0, none⟩ = some (.slice none 0 0) := (bcl BK581.out 0).trans rfl; have hcz28_1 : w25.cell? ⟨gb581, 1, none⟩ = some (.slice none 0 0) := (bcl BK581.out 1).trans rfl; have hcz28_2 : w25.cell? ⟨gb581, 2, none⟩ = some (.slice none 0 0) := (bcl BK581.out 2).trans rfl; have hcz28_3 : w25.cell? ⟨gb581, 3, none⟩ = some (.slice none 0 0) := (bcl BK581.out 3).trans rfl; have hfz28_0 := bfz BK581.out 0; have hfz28_1 := bfz BK581.out 1; have hfz28_2 := bfz BK581.out 2; have hfz28_3 := bfz BK581.out 3))
 refine bodyPost_ret (results_cell_row rfl _ _ gb581 28 #[.slice Ao13 t583.length co13, .slice Ao18 t586.length co18, .slice Ao22 t589.length co22, .slice Ao26 t592.length co26] (0, 0) _ rfl (by (with_reducible repeat (first | refine blk_drewN ?_ _ | refine blk_drew ?_ | refine blk_alloc ?_ _)); refine blk_put (cs := #[.slice Ao13 t583.length co13, .slice Ao18 t586.length co18, .slice Ao22 t589.length co22, .slice none 0 0]) ?_ 3 _ rfl; (with_reducible repeat (first | refine blk_drewN ?_ _ | refine blk_drew ?_ | refine blk_alloc ?_ _)); refine blk_put (cs := #[.slice Ao13 t583.length co13, .slice Ao18 t586.length co18, .slice none 0 0, .slice none 0 0]) ?_ 2 _ rfl; (with_reducible repeat (first | refine blk_drewN ?_ _ | refine blk_drew ?_ | refine blk_alloc ?_ _)); refine blk_put (cs := #[.slice Ao13 t583.length co13, .slice none 0 0, .slice none 0 0, .slice none 0 0]) ?_ 1 _ rfl; (with_reducible repeat (first | refine blk_drewN ?_ _ | refine blk_drew ?_ | refine blk_alloc ?_ _)); refine blk_put (cs := #[.slice none 0 0, .slice none 0 0, .slice none 0 0, .slice none 0 0]) ?_ 0 _ rfl; (with_reducible repeat (first | refine blk_drewN ?_ _ | refine blk_drew ?_ | refine blk_alloc ?_ _)); refine blk_far ?_ NB581_582.out _; (with_reducible repeat (first | refine blk_drewN ?_ _ | refine blk_drew ?_ | refine blk_alloc ?_ _)); exact BK581.out) Try.underlying28 rfl (by kernel_rfl)) rfl ?_
 exact ⟨_, _, _, _, by first | rfl | (simp [errW_none, errW_some] <;> rfl) | (simp [*, errW_none, errW_some] <;> rfl), by (with_reducible repeat (first | apply Kd.S_alloc | apply Kd.S_drewN | apply Kd.S_drew)); exact Kd.S_mono (Kd.S_far (p := ⟨gb581, 3, none⟩) (Kd.S_far (p := ⟨gb581, 2, none⟩) (Kd.S_far (p := ⟨gb581, 1, none⟩) (Kd.S_far (p := ⟨gb581, 0, none⟩) (Kd.S_far (p := ⟨gb582, 3, none⟩) (Kd.S_types (Kd.S_types HO585.out BK582.out (by decide)) BK581.out (by decide)) (fun _ hk => hk.1.2) (.slice Ao26 t592.length co26)) (fun _ hk => hk.2) (.slice Ao13 t583.length co13)) (fun _ hk => hk.2) (.slice Ao18 t586.length co18)) (fun _ hk => hk.2) (.slice Ao22 t589.length co22)) (fun _ hk => hk.2) (.slice Ao26 t592.length co26)) (fun _ hk => hk.1.1.2), by (with_reducible repeat (first | apply Kd.R_alloc | apply Kd.R_drewN | apply Kd.R_drew)); exact Kd.R_mono (Kd.R_far (p := ⟨gb581, 3, none⟩) (Kd.R_far (p := ⟨gb581, 2, none⟩) (Kd.R_far (p := ⟨gb581, 1, none⟩) (Kd.R_far (p := ⟨gb581, 0, none⟩) (Kd.R_far (p := ⟨gb582, 3, none⟩) (Kd.R_types (Kd.R_types HO588.out BK582.out (by decide)) BK581.out (by decide)) (fun _ hk => hk.1.2) (.slice Ao26 t592.length co26)) (fun _ hk => hk.2) (.slice Ao13 t583.length co13)) (fun _ hk => hk.2) (.slice Ao18 t586.length co18)) (fun _ hk => hk.2) (.slice Ao22 t589.length co22)) (fun _ hk => hk.2) (.slice Ao26 t592.length co26)) (fun _ hk => trivial), by (with_reducible repeat (first | apply Kd.R_alloc | apply Kd.R_drewN | apply Kd.R_drew)); exact Kd.R_mono (Kd.R_far (p := ⟨gb581, 3, none⟩) (Kd.R_far (p := ⟨gb581, 2, none⟩) (Kd.R_far (p := ⟨gb581, 1, none⟩) (Kd.R_far (p := ⟨gb581, 0, none⟩) (Kd.R_far (p := ⟨gb582, 3, none⟩) (Kd.R_types (Kd.R_types HO591.out BK582.out (by decide)) BK581.out (by decide)) (fun _ hk => hk.1.2) (.slice Ao26 t592.length co26)) (fun _ hk => hk.2) (.slice Ao13 t583.length co13)) (fun _ hk => hk.2) (.slice Ao18 t586.length co18)) (fun _ hk => hk.2) (.slice Ao22 t589.length co22)) (fun _ hk => hk.2) (.slice Ao26 t592.length co26)) (fun _ hk => hk.1.1.2), by (with_reducible repeat (first | apply Kd.R_alloc | apply Kd.R_drewN | apply Kd.R_drew)); exact Kd.R_mono (Kd.R_far (p := ⟨gb581, 3, none⟩) (Kd.R_far (p := ⟨gb581, 2, none⟩) (Kd.R_far (p := ⟨gb581, 1, none⟩) (Kd.R_far (p := ⟨gb581, 0, none⟩) (Kd.R_far (p := ⟨gb582, 3, none⟩) (Kd.R_types (Kd.R_types HO594.out BK582.out (by decide)) BK581.out (by decide)) (fun _ hk => hk.1.2) (.slice Ao26 t592.length co26)) (fun _ hk => hk.2) (.slice Ao13 t583.length co13)) (fun _ hk => hk.2) (.slice Ao18 t586.length co18)) (fun _ hk => hk.2) (.slice Ao22 t589.length co22)) (fun _ hk => hk.2) (.slice Ao26 t592.length co26)) (fun _ hk => hk.1.1.2), zB⟩

end Go.Proofs.Ytigjhfijkdlldaa.Q
