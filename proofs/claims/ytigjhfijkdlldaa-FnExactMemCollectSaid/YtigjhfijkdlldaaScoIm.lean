-- Made by a program of this session (wip/prt.sh, wip/fakes.py, wip/post.py) that calls the kit's print.py and packs what it wrote.
import Derived.Test.YtigjhfijkdlldaaScoT
namespace Go.Proofs.Ytigjhfijkdlldaa.Q
open Go.RowKit Go.Proofs.YtigjhfijkdlldaaW.PrintWords Go.Proofs.YtigjhfijkdlldaaW.PrintLast Go.Proofs.YtigjhfijkdlldaaW.PrintMore
attribute [local go_sem] max2_int min2_int max_two min_two max_three min_three max_four min_four
set_option linter.unusedVariables false
set_option linter.unusedSimpArgs false

/-! ### impl_memObjOk: function 83 -/
def impl_memObjOk.l0 : Nat → Int → Int → Int → ByteArray → List Int → Option (Bool)
 | 0, _, _, _, _, _ => none
 | k + 1, x11, x12, x456000, x456001, x456002 => if x12 < x11 then (if 0 ≤ x12 then (if x12 < (x456001.size : Int) then (if (bt x456001 x12) < 97 then (if (bt x456001 x12) < 48 then (some false) else (if (bt x456001 x12) > 57 then (some false) else (impl_memObjOk.l0 k x11 (wrap64 (x12 + 1)) x456000 x456001 x456002))) else (if (bt x456001 x12) > 122 then (if (bt x456001 x12) < 48 then (some false) else (if (bt x456001 x12) > 57 then (some false) else (impl_memObjOk.l0 k x11 (wrap64 (x12 + 1)) x456000 x456001 x456002))) else (impl_memObjOk.l0 k x11 (wrap64 (x12 + 1)) x456000 x456001 x456002))) else (none)) else (none)) else (if (x456001.size : Int) ≥ 1 then (if (x456001.size : Int) ≤ 12 then (some ((x456002.length : Int) == 0)) else (some false)) else (some false))
def impl_memObjOk.f (k : Nat) (a0_0 : Int) (a0_1 : ByteArray) (l0_2 : List Int) : Option (Bool) := if a0_0 = 1 then (impl_memObjOk.l0 k (a0_1.size : Int) 0 a0_0 a0_1 l0_2) else (if a0_0 = 2 then (if a0_1.toList = ([] : List UInt8) then (some (decide ((l0_2.length : Int) ≤ 6))) else (some false)) else (if a0_0 = 3 then (if a0_1.toList = ([] : List UInt8) then (some ((l0_2.length : Int) == 2)) else (some false)) else (if a0_0 = 4 then (if a0_1.toList = ([] : List UInt8) then (some ((l0_2.length : Int) == 0)) else (some false)) else (some false))))
set_option maxHeartbeats 8000000 in
set_option maxRecDepth 100000 in
theorem impl_memObjOk.calls (k : Nat) (a0_0 : Int) (a0_1 : ByteArray) (A0_2 : Option Addr) (c0_2 : Nat) (l0_2 : List Int) (r : Bool) (w : World) (hr0_2 : Kd.C (Kd.int .i64) w A0_2 l0_2.length l0_2) (hc0_2 : l0_2.length ≤ c0_2) (h : impl_memObjOk.f k a0_0 a0_1 l0_2 = some r) :
  Calls Try.prog 83 #[.agg #[.int .i64 a0_0, .string a0_1, .slice A0_2 l0_2.length c0_2]] w fun e w' => e = .returned (.bool r) ∧ Below w.heap.size w w' := by
 have hu38 := Try.underlying38
 have HR0_2 := AK hr0_2
 have HC0_2 := AK hc0_2
 clear hr0_2 hc0_2
 have HB := AK (Below.refl w.heap.size w)
 have H : (if a0_0 = 1 then (impl_memObjOk.l0 k (a0_1.size : Int) 0 a0_0 a0_1 l0_2) else (if a0_0 = 2 then (if a0_1.toList = ([] : List UInt8) then (some (decide ((l0_2.length : Int) ≤ 6))) else (some false)) else (if a0_0 = 3 then (if a0_1.toList = ([] : List UInt8) then (some ((l0_2.length : Int) == 2)) else (some false)) else (if a0_0 = 4 then (if a0_1.toList = ([] : List UInt8) then (some ((l0_2.length : Int) == 0)) else (some false)) else (some false))))) = some r := h
 clear h
 by_cases c2 : a0_0 = 1
 ·rw [if_pos c2] at H
  have c2b0 : (a0_0 == 1) = true := beq_iff_eq.mpr c2
  have c2b1 : (a0_0 != 1) = false := bne_eq_false_iff_eq.mpr c2
  clear c2
  have H' := AK H
  clear H
  go_enter Try.func83, Try.ntmps83
  go_wp2_with (first | ((with_reducible refine gate_dst (N := 1) rfl ?_); (try (refine gate_guard (by rfl) ?_; dsimp only)); refine box_event ?hg (N := 1) ?hd (cs := #[.int .i64 a0_0, .string a0_1, .slice A0_2 l0_2.length c0_2]) (t := 38) ?hr ?_; (case hd => rfl); (case hg => rfl); (case hr => first | (go_simp; done) | (go_simp; rfl)); intro gb455 hg w3 hbox hb; have n0_ := AK (bst zB hb); have n1_ := AK (hbox); have n2_ := AK ((zG hg : w.heap.size ≤ gb455)); have n3_ := AK ((zG hg : w.heap.size ≤ gb455)); clear HB; have HB := n0_; have BK455 := n1_; have GW455 := n2_; have GE455 := n3_; clear n0_ n1_ n2_ n3_; clear hb hbox hg; have hcz4_0 : w3.cell? ⟨gb455, 0, none⟩ = some (.int .i64 a0_0) := (bcl BK455.out 0).trans rfl; have hcz4_1 : w3.cell? ⟨gb455, 1, none⟩ = some (.string a0_1) := (bcl BK455.out 1).trans rfl; have hcz4_2 : w3.cell? ⟨gb455, 2, none⟩ = some (.slice A0_2 l0_2.length c0_2) := (bcl BK455.out 2).trans rfl; have hfz4_0 := bfz BK455.out 0; have hfz4_1 := bfz BK455.out 1; have hfz4_2 := bfz BK455.out 2))
  go_loopg [12] k (fun kq v12 w' => ∃ (x12_1 : Int), v12 = .int .i64 x12_1 ∧ Aside0 (impl_memObjOk.l0 kq (a0_1.size : Int) x12_1 a0_0 a0_1 l0_2 = some r) ∧ Aside0 (kq ≤ k) ∧ Aside0 (w'.heap[gb455]? = some (.cells #[.int .i64 a0_0, .string a0_1, (.slice A0_2 l0_2.length c0_2)] 38 (0, 0))) ∧ Aside0 (Below w.heap.size w w'))
  case atStart => exact ⟨(0), (by first | rfl | (simp; done) | (simp [*]; done)), H', ⟨Nat.le_refl _⟩, ⟨by (with_reducible repeat (first | refine blk_drewN ?_ _ | refine blk_drew ?_ | refine blk_alloc ?_ _)); exact BK455.out⟩, ⟨zB⟩⟩
  case round =>
   clear H'
   try clear c2
   try clear c2b0
   try clear c2b1
   try clear p2
   try clear hcz4_0
   try clear hcz4_1
   try clear hcz4_2
   try clear hfz4_0
   try clear hfz4_1
   try clear hfz4_2
   obtain ⟨x12_1, rfl, HA, HK1, BK455, HB⟩ := hrel
   cases gk with
   | zero => exact absurd HA.out (by simp [impl_memObjOk.l0])
   | succ k1 =>
    have H := HA.out
    clear HA
    simp only [impl_memObjOk.l0] at H
    by_cases c5 : x12_1 < (a0_1.size : Int)
    ·rw [if_pos c5] at H
     have c5b0 : decide (x12_1 < (a0_1.size : Int)) = true := deT c5
     clear c5
     by_cases c6 : 0 ≤ x12_1
     ·rw [if_pos c6] at H
      have c6b0 : decide (0 ≤ x12_1) = true := deT c6
      clear c6
      by_cases c7 : x12_1 < (a0_1.size : Int)
      ·rw [if_pos c7] at H
       have c7b0 : decide (x12_1 < (a0_1.size : Int)) = true := deT c7
       clear c7
       by_cases c9 : (bt a0_1 x12_1) < 97
       ·rw [if_pos c9] at H
        have c9b0 : decide ((bt a0_1 x12_1) < 97) = true := deT c9
        clear c9
        by_cases c10 : (bt a0_1 x12_1) < 48
        ·rw [if_pos c10] at H
         have c10b0 : decide ((bt a0_1 x12_1) < 48) = true := deT c10
         clear c10
         obtain rfl := Option.some.inj H
         have hcz11_0 : wr.cell? ⟨gb455, 0, none⟩ = some (.int .i64 a0_0) := (bcl BK455.out 0).trans rfl
         have hcz11_1 : wr.cell? ⟨gb455, 1, none⟩ = some (.string a0_1) := (bcl BK455.out 1).trans rfl
         have hcz11_2 : wr.cell? ⟨gb455, 2, none⟩ = some (.slice A0_2 l0_2.length c0_2) := (bcl BK455.out 2).trans rfl
         have hfz11_0 := bfz BK455.out 0
         have hfz11_1 := bfz BK455.out 1
         have hfz11_2 := bfz BK455.out 2
         have p8 : 0 ≤ (x12_1 : Int) := of_decide_eq_true zA
         have q8 : x12_1 < (a0_1.size : Int) := of_decide_eq_true zA
         have hx8 := bt_at a0_1 x12_1
         replace p8 := eq_true p8
         replace q8 := eq_true q8
         go_wp2
         go_ret
         exact ⟨by first | rfl | (simp [errW_none, errW_some] <;> rfl) | (simp [*, errW_none, errW_some] <;> rfl), zB⟩
        ·rw [if_neg c10] at H
         have c10b0 : decide ((bt a0_1 x12_1) < 48) = false := deF c10
         clear c10
         by_cases c12 : (bt a0_1 x12_1) > 57
         ·rw [if_pos c12] at H
          have c12b0 : decide (57 < (bt a0_1 x12_1)) = true := deT c12
          clear c12
          obtain rfl := Option.some.inj H
          have hcz13_0 : wr.cell? ⟨gb455, 0, none⟩ = some (.int .i64 a0_0) := (bcl BK455.out 0).trans rfl
          have hcz13_1 : wr.cell? ⟨gb455, 1, none⟩ = some (.string a0_1) := (bcl BK455.out 1).trans rfl
          have hcz13_2 : wr.cell? ⟨gb455, 2, none⟩ = some (.slice A0_2 l0_2.length c0_2) := (bcl BK455.out 2).trans rfl
          have hfz13_0 := bfz BK455.out 0
          have hfz13_1 := bfz BK455.out 1
          have hfz13_2 := bfz BK455.out 2
          have p8 : 0 ≤ (x12_1 : Int) := of_decide_eq_true zA
          have q8 : x12_1 < (a0_1.size : Int) := of_decide_eq_true zA
          have hx8 := bt_at a0_1 x12_1
          replace p8 := eq_true p8
          replace q8 := eq_true q8
          go_wp2
          go_ret
          exact ⟨by first | rfl | (simp [errW_none, errW_some] <;> rfl) | (simp [*, errW_none, errW_some] <;> rfl), zB⟩
         ·rw [if_neg c12] at H
          have c12b0 : decide (57 < (bt a0_1 x12_1)) = false := deF c12
          clear c12
          have H' := AK H
          clear H
          have hcz14_0 : wr.cell? ⟨gb455, 0, none⟩ = some (.int .i64 a0_0) := (bcl BK455.out 0).trans rfl
          have hcz14_1 : wr.cell? ⟨gb455, 1, none⟩ = some (.string a0_1) := (bcl BK455.out 1).trans rfl
          have hcz14_2 : wr.cell? ⟨gb455, 2, none⟩ = some (.slice A0_2 l0_2.length c0_2) := (bcl BK455.out 2).trans rfl
          have hfz14_0 := bfz BK455.out 0
          have hfz14_1 := bfz BK455.out 1
          have hfz14_2 := bfz BK455.out 2
          have p8 : 0 ≤ (x12_1 : Int) := of_decide_eq_true zA
          have q8 : x12_1 < (a0_1.size : Int) := of_decide_eq_true zA
          have hx8 := bt_at a0_1 x12_1
          replace p8 := eq_true p8
          replace q8 := eq_true q8
          go_wp2
          go_roundg k1
          case measure => have := HK1.out; omega
          case rel => exact ⟨(wrap64 (x12_1 + 1)), (by first | rfl | (simp; done) | (simp [*]; done)), H', ⟨by have := HK1.out; omega⟩, ⟨by (with_reducible repeat (first | refine blk_drewN ?_ _ | refine blk_drew ?_ | refine blk_alloc ?_ _)); exact BK455.out⟩, ⟨zB⟩⟩
       ·rw [if_neg c9] at H
        have c9b0 : decide ((bt a0_1 x12_1) < 97) = false := deF c9
        clear c9
        by_cases c15 : (bt a0_1 x12_1) > 122
        ·rw [if_pos c15] at H
         have c15b0 : decide (122 < (bt a0_1 x12_1)) = true := deT c15
         clear c15
         by_cases c16 : (bt a0_1 x12_1) < 48
         ·rw [if_pos c16] at H
          have c16b0 : decide ((bt a0_1 x12_1) < 48) = true := deT c16
          clear c16
          obtain rfl := Option.some.inj H
          have hcz17_0 : wr.cell? ⟨gb455, 0, none⟩ = some (.int .i64 a0_0) := (bcl BK455.out 0).trans rfl
          have hcz17_1 : wr.cell? ⟨gb455, 1, none⟩ = some (.string a0_1) := (bcl BK455.out 1).trans rfl
          have hcz17_2 : wr.cell? ⟨gb455, 2, none⟩ = some (.slice A0_2 l0_2.length c0_2) := (bcl BK455.out 2).trans rfl
          have hfz17_0 := bfz BK455.out 0
          have hfz17_1 := bfz BK455.out 1
          have hfz17_2 := bfz BK455.out 2
          have p8 : 0 ≤ (x12_1 : Int) := of_decide_eq_true zA
          have q8 : x12_1 < (a0_1.size : Int) := of_decide_eq_true zA
          have hx8 := bt_at a0_1 x12_1
          replace p8 := eq_true p8
          replace q8 := eq_true q8
          go_wp2
          go_ret
          exact ⟨by first | rfl | (simp [errW_none, errW_some] <;> rfl) | (simp [*, errW_none, errW_some] <;> rfl), zB⟩
         ·rw [if_neg c16] at H
          have c16b0 : decide ((bt a0_1 x12_1) < 48) = false := deF c16
          clear c16
          by_cases c18 : (bt a0_1 x12_1) > 57
          ·rw [if_pos c18] at H
           have c18b0 : decide (57 < (bt a0_1 x12_1)) = true := deT c18
           clear c18
           obtain rfl := Option.some.inj H
           have hcz19_0 : wr.cell? ⟨gb455, 0, none⟩ = some (.int .i64 a0_0) := (bcl BK455.out 0).trans rfl
           have hcz19_1 : wr.cell? ⟨gb455, 1, none⟩ = some (.string a0_1) := (bcl BK455.out 1).trans rfl
           have hcz19_2 : wr.cell? ⟨gb455, 2, none⟩ = some (.slice A0_2 l0_2.length c0_2) := (bcl BK455.out 2).trans rfl
           have hfz19_0 := bfz BK455.out 0
           have hfz19_1 := bfz BK455.out 1
           have hfz19_2 := bfz BK455.out 2
           have p8 : 0 ≤ (x12_1 : Int) := of_decide_eq_true zA
           have q8 : x12_1 < (a0_1.size : Int) := of_decide_eq_true zA
           have hx8 := bt_at a0_1 x12_1
           replace p8 := eq_true p8
           replace q8 := eq_true q8
           go_wp2
           go_ret
           exact ⟨by first | rfl | (simp [errW_none, errW_some] <;> rfl) | (simp [*, errW_none, errW_some] <;> rfl), zB⟩
          ·rw [if_neg c18] at H
           have c18b0 : decide (57 < (bt a0_1 x12_1)) = false := deF c18
           clear c18
           have H' := AK H
           clear H
           have hcz20_0 : wr.cell? ⟨gb455, 0, none⟩ = some (.int .i64 a0_0) := (bcl BK455.out 0).trans rfl
           have hcz20_1 : wr.cell? ⟨gb455, 1, none⟩ = some (.string a0_1) := (bcl BK455.out 1).trans rfl
           have hcz20_2 : wr.cell? ⟨gb455, 2, none⟩ = some (.slice A0_2 l0_2.length c0_2) := (bcl BK455.out 2).trans rfl
           have hfz20_0 := bfz BK455.out 0
           have hfz20_1 := bfz BK455.out 1
           have hfz20_2 := bfz BK455.out 2
           have p8 : 0 ≤ (x12_1 : Int) := of_decide_eq_true zA
           have q8 : x12_1 < (a0_1.size : Int) := of_decide_eq_true zA
           have hx8 := bt_at a0_1 x12_1
           replace p8 := eq_true p8
           replace q8 := eq_true q8
           go_wp2
           go_roundg k1
           case measure => have := HK1.out; omega
           case rel => exact ⟨(wrap64 (x12_1 + 1)), (by first | rfl | (simp; done) | (simp [*]; done)), H', ⟨by have := HK1.out; omega⟩, ⟨by (with_reducible repeat (first | refine blk_drewN ?_ _ | refine blk_drew ?_ | refine blk_alloc ?_ _)); exact BK455.out⟩, ⟨zB⟩⟩
        ·rw [if_neg c15] at H
         have c15b0 : decide (122 < (bt a0_1 x12_1)) = false := deF c15
         clear c15
         have H' := AK H
         clear H
         have hcz21_0 : wr.cell? ⟨gb455, 0, none⟩ = some (.int .i64 a0_0) := (bcl BK455.out 0).trans rfl
         have hcz21_1 : wr.cell? ⟨gb455, 1, none⟩ = some (.string a0_1) := (bcl BK455.out 1).trans rfl
         have hcz21_2 : wr.cell? ⟨gb455, 2, none⟩ = some (.slice A0_2 l0_2.length c0_2) := (bcl BK455.out 2).trans rfl
         have hfz21_0 := bfz BK455.out 0
         have hfz21_1 := bfz BK455.out 1
         have hfz21_2 := bfz BK455.out 2
         have p8 : 0 ≤ (x12_1 : Int) := of_decide_eq_true zA
         have q8 : x12_1 < (a0_1.size : Int) := of_decide_eq_true zA
         have hx8 := bt_at a0_1 x12_1
         replace p8 := eq_true p8
         replace q8 := eq_true q8
         go_wp2
         go_roundg k1
         case measure => have := HK1.out; omega
         case rel => exact ⟨(wrap64 (x12_1 + 1)), (by first | rfl | (simp; done) | (simp [*]; done)), H', ⟨by have := HK1.out; omega⟩, ⟨by (with_reducible repeat (first | refine blk_drewN ?_ _ | refine blk_drew ?_ | refine blk_alloc ?_ _)); exact BK455.out⟩, ⟨zB⟩⟩
      ·rw [if_neg c7] at H
       exact absurd H (by simp)
     ·rw [if_neg c6] at H
      exact absurd H (by simp)
    ·rw [if_neg c5] at H
     have c5b0 : decide (x12_1 < (a0_1.size : Int)) = false := deF c5
     clear c5
     by_cases c22 : (a0_1.size : Int) ≥ 1
     ·rw [if_pos c22] at H
      have c22b0 : decide (1 ≤ (a0_1.size : Int)) = true := deT c22
      have c22b1 : decide (1 ≤ a0_1.size) = true := deT (by omega)
      clear c22
      by_cases c23 : (a0_1.size : Int) ≤ 12
      ·rw [if_pos c23] at H
       have c23b0 : decide ((a0_1.size : Int) ≤ 12) = true := deT c23
       have c23b1 : decide (a0_1.size ≤ 12) = true := deT (by omega)
       clear c23
       obtain rfl := Option.some.inj H
       have hcz24_0 : wr.cell? ⟨gb455, 0, none⟩ = some (.int .i64 a0_0) := (bcl BK455.out 0).trans rfl
       have hcz24_1 : wr.cell? ⟨gb455, 1, none⟩ = some (.string a0_1) := (bcl BK455.out 1).trans rfl
       have hcz24_2 : wr.cell? ⟨gb455, 2, none⟩ = some (.slice A0_2 l0_2.length c0_2) := (bcl BK455.out 2).trans rfl
       have hfz24_0 := bfz BK455.out 0
       have hfz24_1 := bfz BK455.out 1
       have hfz24_2 := bfz BK455.out 2
       go_wp2
       go_ret
       exact ⟨by first | rfl | (simp [errW_none, errW_some] <;> rfl) | (simp [*, errW_none, errW_some] <;> rfl), zB⟩
      ·rw [if_neg c23] at H
       have c23b0 : decide ((a0_1.size : Int) ≤ 12) = false := deF c23
       have c23b1 : decide (a0_1.size ≤ 12) = false := deF (by omega)
       clear c23
       obtain rfl := Option.some.inj H
       have hcz25_0 : wr.cell? ⟨gb455, 0, none⟩ = some (.int .i64 a0_0) := (bcl BK455.out 0).trans rfl
       have hcz25_1 : wr.cell? ⟨gb455, 1, none⟩ = some (.string a0_1) := (bcl BK455.out 1).trans rfl
       have hcz25_2 : wr.cell? ⟨gb455, 2, none⟩ = some (.slice A0_2 l0_2.length c0_2) := (bcl BK455.out 2).trans rfl
       have hfz25_0 := bfz BK455.out 0
       have hfz25_1 := bfz BK455.out 1
       have hfz25_2 := bfz BK455.out 2
       go_wp2
       go_ret
       exact ⟨by first | rfl | (simp [errW_none, errW_some] <;> rfl) | (simp [*, errW_none, errW_some] <;> rfl), zB⟩
     ·rw [if_neg c22] at H
      have c22b0 : decide (1 ≤ (a0_1.size : Int)) = false := deF c22
      have c22b1 : decide (1 ≤ a0_1.size) = false := deF (by omega)
      clear c22
      obtain rfl := Option.some.inj H
      have hcz26_0 : wr.cell? ⟨gb455, 0, none⟩ = some (.int .i64 a0_0) := (bcl BK455.out 0).trans rfl
      have hcz26_1 : wr.cell? ⟨gb455, 1, none⟩ = some (.string a0_1) := (bcl BK455.out 1).trans rfl
      have hcz26_2 : wr.cell? ⟨gb455, 2, none⟩ = some (.slice A0_2 l0_2.length c0_2) := (bcl BK455.out 2).trans rfl
      have hfz26_0 := bfz BK455.out 0
      have hfz26_1 := bfz BK455.out 1
      have hfz26_2 := bfz BK455.out 2
      go_wp2
      go_ret
      exact ⟨by first | rfl | (simp [errW_none, errW_some] <;> rfl) | (simp [*, errW_none, errW_some] <;> rfl), zB⟩
 ·rw [if_neg c2] at H
  have c2b0 : (a0_0 == 1) = false := beq_eq_false_iff_ne.mpr c2
  have c2b1 : (a0_0 != 1) = true := bne_iff_ne.mpr c2
  by_cases c27 : a0_0 = 2
  ·rw [if_pos c27] at H
   have c27b0 : (a0_0 == 2) = true := beq_iff_eq.mpr c27
   have c27b1 : (a0_0 != 2) = false := bne_eq_false_iff_eq.mpr c27
   clear c27
   by_cases c28 : a0_1.toList = ([] : List UInt8)
   ·rw [if_pos c28] at H
    have c28b0 : (a0_1.toList == ([] : List UInt8)) = true := beq_iff_eq.mpr c28
    have c28b1 : (a0_1.toList != ([] : List UInt8)) = false := bne_eq_false_iff_eq.mpr c28
    clear c28
    obtain rfl := Option.some.inj H
    go_enter Try.func83, Try.ntmps83
    go_wp2_with (first | ((with_reducible refine gate_dst (N := 1) rfl ?_); (try (refine gate_guard (by rfl) ?_; dsimp only)); refine box_event ?hg (N := 1) ?hd (cs := #[.int .i64 a0_0, .string a0_1, .slice A0_2 l0_2.length c0_2]) (t := 38) ?hr ?_; (case hd => rfl); (case hg => rfl); (case hr => first | (go_simp; done) | (go_simp; rfl)); intro gb455 hg w29 hbox hb; have n0_ := AK (bst zB hb); have n1_ := AK (hbox); have n2_ := AK ((zG hg : w.heap.size ≤ gb455)); have n3_ := AK ((zG hg : w.heap.size ≤ gb455)); clear HB; have HB := n0_; have BK455 := n1_; have GW455 := n2_; have GE455 := n3_; clear n0_ n1_ n2_ n3_; clear hb hbox hg; have hcz30_0 : w29.cell? ⟨gb455, 0, none⟩ = some (.int .i64 a0_0) := (bcl BK455.out 0).trans rfl; have hcz30_1 : w29.cell? ⟨gb455, 1, none⟩ = some (.string a0_1) := (bcl BK455.out 1).trans rfl; have hcz30_2 : w29.cell? ⟨gb455, 2, none⟩ = some (.slice A0_2 l0_2.length c0_2) := (bcl BK455.out 2).trans rfl; have hfz30_0 := bfz BK455.out 0; have hfz30_1 := bfz BK455.out 1; have hfz30_2 := bfz BK455.out 2))
    go_ret
    exact ⟨by first | rfl | (simp [errW_none, errW_some] <;> rfl) | (simp [*, errW_none, errW_some] <;> rfl), zB⟩
   ·rw [if_neg c28] at H
    have c28b0 : (a0_1.toList == ([] : List UInt8)) = false := beq_eq_false_iff_ne.mpr c28
    have c28b1 : (a0_1.toList != ([] : List UInt8)) = true := bne_iff_ne.mpr c28
    obtain rfl := Option.some.inj H
    go_enter Try.func83, Try.ntmps83
    go_wp2_with (first | ((with_reducible refine gate_dst (N := 1) rfl ?_); (try (refine gate_guard (by rfl) ?_; dsimp only)); refine box_event ?hg (N := 1) ?hd (cs := #[.int .i64 a0_0, .string a0_1, .slice A0_2 l0_2.length c0_2]) (t := 38) ?hr ?_; (case hd => rfl); (case hg => rfl); (case hr => first | (go_simp; done) | (go_simp; rfl)); intro gb455 hg w31 hbox hb; have n0_ := AK (bst zB hb); have n1_ := AK (hbox); have n2_ := AK ((zG hg : w.heap.size ≤ gb455)); have n3_ := AK ((zG hg : w.heap.size ≤ gb455)); clear HB; have HB := n0_; have BK455 := n1_; have GW455 := n2_; have GE455 := n3_; clear n0_ n1_ n2_ n3_; clear hb hbox hg; have hcz32_0 : w31.cell? ⟨gb455, 0, none⟩ = some (.int .i64 a0_0) := (bcl BK455.out 0).trans rfl; have hcz32_1 : w31.cell? ⟨gb455, 1, none⟩ = some (.string a0_1) := (bcl BK455.out 1).trans rfl; have hcz32_2 : w31.cell? ⟨gb455, 2, none⟩ = some (.slice A0_2 l0_2.length c0_2) := (bcl BK455.out 2).trans rfl; have hfz32_0 := bfz BK455.out 0; have hfz32_1 := bfz BK455.out 1; have hfz32_2 := bfz BK455.out 2))
    go_ret
    exact ⟨by first | rfl | (simp [errW_none, errW_some] <;> rfl) | (simp [*, errW_none, errW_some] <;> rfl), zB⟩
  ·rw [if_neg c27] at H
   have c27b0 : (a0_0 == 2) = false := beq_eq_false_iff_ne.mpr c27
   have c27b1 : (a0_0 != 2) = true := bne_iff_ne.mpr c27
   by_cases c33 : a0_0 = 3
   ·rw [if_pos c33] at H
    have c33b0 : (a0_0 == 3) = true := beq_iff_eq.mpr c33
    have c33b1 : (a0_0 != 3) = false := bne_eq_false_iff_eq.mpr c33
    clear c33
    by_cases c34 : a0_1.toList = ([] : List UInt8)
    ·rw [if_pos c34] at H
     have c34b0 : (a0_1.toList == ([] : List UInt8)) = true := beq_iff_eq.mpr c34
     have c34b1 : (a0_1.toList != ([] : List UInt8)) = false := bne_eq_false_iff_eq.mpr c34
     clear c34
     obtain rfl := Option.some.inj H
     go_enter Try.func83, Try.ntmps83
     go_wp2_with (first | ((with_reducible refine gate_dst (N := 1) rfl ?_); (try (refine gate_guard (by rfl) ?_; dsimp only)); refine box_event ?hg (N := 1) ?hd (cs := #[.int .i64 a0_0, .string a0_1, .slice A0_2 l0_2.length c0_2]) (t := 38) ?hr ?_; (case hd => rfl); (case hg => rfl); (case hr => first | (go_simp; done) | (go_simp; rfl)); intro gb455 hg w35 hbox hb; have n0_ := AK (bst zB hb); have n1_ := AK (hbox); have n2_ := AK ((zG hg : w.heap.size ≤ gb455)); have n3_ := AK ((zG hg : w.heap.size ≤ gb455)); clear HB; have HB := n0_; have BK455 := n1_; have GW455 := n2_; have GE455 := n3_; clear n0_ n1_ n2_ n3_; clear hb hbox hg; have hcz36_0 : w35.cell? ⟨gb455, 0, none⟩ = some (.int .i64 a0_0) := (bcl BK455.out 0).trans rfl; have hcz36_1 : w35.cell? ⟨gb455, 1, none⟩ = some (.string a0_1) := (bcl BK455.out 1).trans rfl; have hcz36_2 : w35.cell? ⟨gb455, 2, none⟩ = some (.slice A0_2 l0_2.length c0_2) := (bcl BK455.out 2).trans rfl; have hfz36_0 := bfz BK455.out 0; have hfz36_1 := bfz BK455.out 1; have hfz36_2 := bfz BK455.out 2))
     go_ret
     exact ⟨by first | rfl | (simp [errW_none, errW_some] <;> rfl) | (simp [*, errW_none, errW_some] <;> rfl), zB⟩
    ·rw [if_neg c34] at H
     have c34b0 : (a0_1.toList == ([] : List UInt8)) = false := beq_eq_false_iff_ne.mpr c34
     have c34b1 : (a0_1.toList != ([] : List UInt8)) = true := bne_iff_ne.mpr c34
     obtain rfl := Option.some.inj H
     go_enter Try.func83, Try.ntmps83
     go_wp2_with (first | ((with_reducible refine gate_dst (N := 1) rfl ?_); (try (refine gate_guard (by rfl) ?_; dsimp only)); refine box_event ?hg (N := 1) ?hd (cs := #[.int .i64 a0_0, .string a0_1, .slice A0_2 l0_2.length c0_2]) (t := 38) ?hr ?_; (case hd => rfl); (case hg => rfl); (case hr => first | (go_simp; done) | (go_simp; rfl)); intro gb455 hg w37 hbox hb; have n0_ := AK (bst zB hb); have n1_ := AK (hbox); have n2_ := AK ((zG hg : w.heap.size ≤ gb455)); have n3_ := AK ((zG hg : w.heap.size ≤ gb455)); clear HB; have HB := n0_; have BK455 := n1_; have GW455 := n2_; have GE455 := n3_; clear n0_ n1_ n2_ n3_; clear hb hbox hg; have hcz38_0 : w37.cell? ⟨gb455, 0, none⟩ = some (.int .i64 a0_0) := (bcl BK455.out 0).trans rfl; have hcz38_1 : w37.cell? ⟨gb455, 1, none⟩ = some (.string a0_1) := (bcl BK455.out 1).trans rfl; have hcz38_2 : w37.cell? ⟨gb455, 2, none⟩ = some (.slice A0_2 l0_2.length c0_2) := (bcl BK455.out 2).trans rfl; have hfz38_0 := bfz BK455.out 0; have hfz38_1 := bfz BK455.out 1; have hfz38_2 := bfz BK455.out 2))
     go_ret
     exact ⟨by first | rfl | (simp [errW_none, errW_some] <;> rfl) | (simp [*, errW_none, errW_some] <;> rfl), zB⟩
   ·rw [if_neg c33] at H
    have c33b0 : (a0_0 == 3) = false := beq_eq_false_iff_ne.mpr c33
    have c33b1 : (a0_0 != 3) = true := bne_iff_ne.mpr c33
    by_cases c39 : a0_0 = 4
    ·rw [if_pos c39] at H
     have c39b0 : (a0_0 == 4) = true := beq_iff_eq.mpr c39
     have c39b1 : (a0_0 != 4) = false := bne_eq_false_iff_eq.mpr c39
     clear c39
     by_cases c40 : a0_1.toList = ([] : List UInt8)
     ·rw [if_pos c40] at H
      have c40b0 : (a0_1.toList == ([] : List UInt8)) = true := beq_iff_eq.mpr c40
      have c40b1 : (a0_1.toList != ([] : List UInt8)) = false := bne_eq_false_iff_eq.mpr c40
      clear c40
      obtain rfl := Option.some.inj H
      go_enter Try.func83, Try.ntmps83
      go_wp2_with (first | ((with_reducible refine gate_dst (N := 1) rfl ?_); (try (refine gate_guard (by rfl) ?_; dsimp only)); refine box_event ?hg (N := 1) ?hd (cs := #[.int .i64 a0_0, .string a0_1, .slice A0_2 l0_2.length c0_2]) (t := 38) ?hr ?_; (case hd => rfl); (case hg => rfl); (case hr => first | (go_simp; done) | (go_simp; rfl)); intro gb455 hg w41 hbox hb; have n0_ := AK (bst zB hb); have n1_ := AK (hbox); have n2_ := AK ((zG hg : w.heap.size ≤ gb455)); have n3_ := AK ((zG hg : w.heap.size ≤ gb455)); clear HB; have HB := n0_; have BK455 := n1_; have GW455 := n2_; have GE455 := n3_; clear n0_ n1_ n2_ n3_; clear hb hbox hg; have hcz42_0 : w41.cell? ⟨gb455, 0, none⟩ = some (.int .i64 a0_0) := (bcl BK455.out 0).trans rfl; have hcz42_1 : w41.cell? ⟨gb455, 1, none⟩ = some (.string a0_1) := (bcl BK455.out 1).trans rfl; have hcz42_2 : w41.cell? ⟨gb455, 2, none⟩ = some (.slice A0_2 l0_2.length c0_2) := (bcl BK455.out 2).trans rfl; have hfz42_0 := bfz BK455.out 0; have hfz42_1 := bfz BK455.out 1; have hfz42_2 := bfz BK455.out 2))
      go_ret
      exact ⟨by first | rfl | (simp [errW_none, errW_some] <;> rfl) | (simp [*, errW_none, errW_some] <;> rfl), zB⟩
     ·rw [if_neg c40] at H
      have c40b0 : (a0_1.toList == ([] : List UInt8)) = false := beq_eq_false_iff_ne.mpr c40
      have c40b1 : (a0_1.toList != ([] : List UInt8)) = true := bne_iff_ne.mpr c40
      obtain rfl := Option.some.inj H
      go_enter Try.func83, Try.ntmps83
      go_wp2_with (first | ((with_reducible refine gate_dst (N := 1) rfl ?_); (try (refine gate_guard (by rfl) ?_; dsimp only)); refine box_event ?hg (N := 1) ?hd (cs := #[.int .i64 a0_0, .string a0_1, .slice A0_2 l0_2.length c0_2]) (t := 38) ?hr ?_; (case hd => rfl); (case hg => rfl); (case hr => first | (go_simp; done) | (go_simp; rfl)); intro gb455 hg w43 hbox hb; have n0_ := AK (bst zB hb); have n1_ := AK (hbox); have n2_ := AK ((zG hg : w.heap.size ≤ gb455)); have n3_ := AK ((zG hg : w.heap.size ≤ gb455)); clear HB; have HB := n0_; have BK455 := n1_; have GW455 := n2_; have GE455 := n3_; clear n0_ n1_ n2_ n3_; clear hb hbox hg; have hcz44_0 : w43.cell? ⟨gb455, 0, none⟩ = some (.int .i64 a0_0) := (bcl BK455.out 0).trans rfl; have hcz44_1 : w43.cell? ⟨gb455, 1, none⟩ = some (.string a0_1) := (bcl BK455.out 1).trans rfl; have hcz44_2 : w43.cell? ⟨gb455, 2, none⟩ = some (.slice A0_2 l0_2.length c0_2) := (bcl BK455.out 2).trans rfl; have hfz44_0 := bfz BK455.out 0; have hfz44_1 := bfz BK455.out 1; have hfz44_2 := bfz BK455.out 2))
      go_ret
      exact ⟨by first | rfl | (simp [errW_none, errW_some] <;> rfl) | (simp [*, errW_none, errW_some] <;> rfl), zB⟩
    ·rw [if_neg c39] at H
     have c39b0 : (a0_0 == 4) = false := beq_eq_false_iff_ne.mpr c39
     have c39b1 : (a0_0 != 4) = true := bne_iff_ne.mpr c39
     obtain rfl := Option.some.inj H
     go_enter Try.func83, Try.ntmps83
     go_wp2_with (first | ((with_reducible refine gate_dst (N := 1) rfl ?_); (try (refine gate_guard (by rfl) ?_; dsimp only)); refine box_event ?hg (N := 1) ?hd (cs := #[.int .i64 a0_0, .string a0_1, .slice A0_2 l0_2.length c0_2]) (t := 38) ?hr ?_; (case hd => rfl); (case hg => rfl); (case hr => first | (go_simp; done) | (go_simp; rfl)); intro gb455 hg w45 hbox hb; have n0_ := AK (bst zB hb); have n1_ := AK (hbox); have n2_ := AK ((zG hg : w.heap.size ≤ gb455)); have n3_ := AK ((zG hg : w.heap.size ≤ gb455)); clear HB; have HB := n0_; have BK455 := n1_; have GW455 := n2_; have GE455 := n3_; clear n0_ n1_ n2_ n3_; clear hb hbox hg; have hcz46_0 : w45.cell? ⟨gb455, 0, none⟩ = some (.int .i64 a0_0) := (bcl BK455.out 0).trans rfl; have hcz46_1 : w45.cell? ⟨gb455, 1, none⟩ = some (.string a0_1) := (bcl BK455.out 1).trans rfl; have hcz46_2 : w45.cell? ⟨gb455, 2, none⟩ = some (.slice A0_2 l0_2.length c0_2) := (bcl BK455.out 2).trans rfl; have hfz46_0 := bfz BK455.out 0; have hfz46_1 := bfz BK455.out 1; have hfz46_2 := bfz BK455.out 2))
     go_ret
     exact ⟨by first | rfl | (simp [errW_none, errW_some] <;> rfl) | (simp [*, errW_none, errW_some] <;> rfl), zB⟩

-- NOT PRINTED: function 25 (impl_MemOk)

-- NOT PRINTED: function 64 (impl_memCopy)

-- NOT PRINTED: function 67 (impl_memReach)

/-! ### impl_memAt: function 70 -/
def impl_memAt.f (l0 : List Int) (a1 : Int) : Option (Int) := if a1 < 0 then (some (-1)) else (if 0 ≤ a1 then (if a1 < (l0.length : Int) then (some (rd l0 a1)) else (none)) else (none))
set_option maxHeartbeats 8000000 in
set_option maxRecDepth 100000 in
theorem impl_memAt.calls (A0 : Option Addr) (c0 : Nat) (l0 : List Int) (a1 : Int) (r : Int) (w : World) (hr0 : Kd.C (Kd.int .i64) w A0 l0.length l0) (hc0 : l0.length ≤ c0) (h : impl_memAt.f l0 a1 = some r) :
  Calls Try.prog 70 #[.slice A0 l0.length c0, .int .i64 a1] w fun e w' => e = .returned (.int .i64 r) ∧ Drawn0 w w' := by
 have HR0 := AK hr0
 have HC0 := AK hc0
 clear hr0 hc0
 have H : (if a1 < 0 then (some (-1)) else (if 0 ≤ a1 then (if a1 < (l0.length : Int) then (some (rd l0 a1)) else (none)) else (none))) = some r := h
 clear h
 by_cases c3 : a1 < 0
 ·rw [if_pos c3] at H
  have c3b0 : decide (a1 < 0) = true := deT c3
  clear c3
  obtain rfl := Option.some.inj H
  go_enter Try.func70, Try.ntmps70
  go_wp2
  go_ret
  exact ⟨by first | rfl | (simp; done) | (simp [*]; done), by repeat (first | exact Drawn0.refl _ | apply Drawn0.step)⟩
 ·rw [if_neg c3] at H
  have c3b0 : decide (a1 < 0) = false := deF c3
  clear c3
  by_cases c4 : 0 ≤ a1
  ·rw [if_pos c4] at H
   have c4b0 : decide (0 ≤ a1) = true := deT c4
   clear c4
   by_cases c5 : a1 < (l0.length : Int)
   ·rw [if_pos c5] at H
    have c5b0 : decide (a1 < (l0.length : Int)) = true := deT c5
    clear c5
    obtain rfl := Option.some.inj H
    have p470 : 0 ≤ (a1 : Int) := of_decide_eq_true zA
    have q470 : a1 < (l0.length : Int) := of_decide_eq_true zA
    obtain ⟨ad470, e470, hx470_0⟩ := Kd.at_int HR0.out a1 p470 q470
    cases e470
    replace p470 := eq_true p470
    replace q470 := eq_true q470
    go_enter Try.func70, Try.ntmps70
    go_wp2
    go_ret
    exact ⟨by first | rfl | (simp; done) | (simp [*]; done), by repeat (first | exact Drawn0.refl _ | apply Drawn0.step)⟩
   ·rw [if_neg c5] at H
    exact absurd H (by simp)
  ·rw [if_neg c4] at H
   exact absurd H (by simp)

-- NOT PRINTED: function 39 (impl_MemCollect)

-- NOT PRINTED: function 125 (impl_memSeen)

-- NOT PRINTED: function 106 (impl_memStep)

-- NOT PRINTED: function 46 (impl_MemStep)

-- NOT PRINTED: function 17 (impl_MemPlay)

-- NOT PRINTED: function 18 (spec_MemPlay)

end Go.Proofs.Ytigjhfijkdlldaa.Q
