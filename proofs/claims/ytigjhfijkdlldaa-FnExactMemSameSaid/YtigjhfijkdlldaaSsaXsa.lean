/- The law FnExactMemSame, walked: for every two heaps it answers true. -/
import Derived.Test.YtigjhfijkdlldaaSsaHss
namespace Go.Proofs.Ytigjhfijkdlldaa.H
open Go.RowKit Go.Proofs.YtigjhfijkdlldaaW.PrintWords Go.Proofs.YtigjhfijkdlldaaW.PrintLast Go.Proofs.YtigjhfijkdlldaaW.PrintMore Go.Proofs.Ytigjhfijkdlldaa.Q
set_option linter.unusedVariables false
set_option linter.unusedSimpArgs false
theorem lsame8_tab : rtab .any (opsOf Try.f7 8) = (true, [([], []), ([0], [0]), ([], []), ([2, 1], [2]), ([1, 3, 3], [1, 3]), ([4, 4, 0, 1, 2, 3, 4], [4])]) := by kernel_rfl
theorem lsame8_bits : waitsOk [([], []), ([0], [0]), ([], []), ([2, 1], [2]), ([1, 3, 3], [1, 3]), ([4, 4, 0, 1, 2, 3, 4], [4])] [0, 1, 0, 7, 15, 31] = true := by kernel_rfl
theorem lsame14_tab : rtab .any (opsOf Try.f7 14) = (true, [([], []), ([], []), ([1], [1]), ([0, 2, 2], [0, 2]), ([3], [3])]) := by kernel_rfl
theorem lsame14_bits : waitsOk [([], []), ([], []), ([1], [1]), ([0, 2, 2], [0, 2]), ([3], [3])] [0, 0, 2, 7, 15] = true := by kernel_rfl
theorem lsame16_tab : rtab .any (opsOf Try.f7 16) = (true, [([], []), ([], []), ([1], [1]), ([0, 2, 2], [0, 2]), ([3], [3])]) := by kernel_rfl
theorem lsame16_bits : waitsOk [([], []), ([], []), ([1], [1]), ([0, 2, 2], [0, 2]), ([3], [3])] [0, 0, 2, 7, 15] = true := by kernel_rfl
set_option maxHeartbeats 4000000 in
set_option maxRecDepth 100000 in
theorem FnExactMemSame_walk (A0 A1 A2 A3 B0 B1 B2 B3 : Option Addr) (c0 c1 c2 c3 d0 d1 d2 d3 : Nat) (l0 : List S72) (l1 : List Int) (l2 l3 : List S126) (m0 : List S72) (m1 : List Int) (m2 m3 : List S126) (w : World)
    (h : InL w A0 c0 A1 c1 A2 c2 A3 c3 l0 l1 l2 l3) (hf : ∀ x ∈ l0, Fits x.f1 x.f2) (h' : InL w B0 d0 B1 d1 B2 d2 B3 d3 m0 m1 m2 m3) (hf' : ∀ x ∈ m0, Fits x.f1 x.f2) :
    Calls Try.prog 7 #[.agg #[.slice A0 l0.length c0, .slice A1 l1.length c1, .slice A2 l2.length c2, .slice A3 l3.length c3], .agg #[.slice B0 m0.length d0, .slice B1 m1.length d1, .slice B2 m2.length d2, .slice B3 m3.length d3]] w fun e w' => e = .returned (.bool true) ∧ Below w.heap.size w w' := by
  obtain ⟨r, hr, hr1, hr2, hsm⟩ := szMemHeap_f l0 l1 l2 l3 1048576 (by omega) (C_max h.r0) hf (C_max h.r1) (C_max h.r2) (C_max h.r3)
  have HR := Aside0.mk (hr (l0.length + 1) (by omega))
  have HI0 := Aside0.mk h
  have HJ0 := Aside0.mk h'
  have HSM := Aside0.mk hsm
  have HW1 := Aside0.mk (show Below w.heap.size w ((w.alloc (.cells #[.slice A0 l0.length c0, .slice A1 l1.length c1, .slice A2 l2.length c2, .slice A3 l3.length c3] 45 (0, 0))).alloc (.cells #[.slice B0 m0.length d0, .slice B1 m1.length d1, .slice B2 m2.length d2, .slice B3 m3.length d3] 45 (0, 0))) ∧ ((w.alloc (.cells #[.slice A0 l0.length c0, .slice A1 l1.length c1, .slice A2 l2.length c2, .slice A3 l3.length c3] 45 (0, 0))).alloc (.cells #[.slice B0 m0.length d0, .slice B1 m1.length d1, .slice B2 m2.length d2, .slice B3 m3.length d3] 45 (0, 0))).heap[w.heap.size]? = some (.cells #[.slice A0 l0.length c0, .slice A1 l1.length c1, .slice A2 l2.length c2, .slice A3 l3.length c3] 45 (0, 0)) ∧ ((w.alloc (.cells #[.slice A0 l0.length c0, .slice A1 l1.length c1, .slice A2 l2.length c2, .slice A3 l3.length c3] 45 (0, 0))).alloc (.cells #[.slice B0 m0.length d0, .slice B1 m1.length d1, .slice B2 m2.length d2, .slice B3 m3.length d3] 45 (0, 0))).heap[w.heap.size + 1]? = some (.cells #[.slice B0 m0.length d0, .slice B1 m1.length d1, .slice B2 m2.length d2, .slice B3 m3.length d3] 45 (0, 0)) from ⟨below_alloc (below_alloc (Below.refl w.heap.size w) _) _, blk_alloc (blk_new w _) _, blk_new2 w _ _⟩)
  have HFF := Aside0.mk hf'
  have HRR := Aside0.mk (And.intro hr1 hr2)
  clear hr h h' hf hf' hsm hr1 hr2
  go_enter Try.func7, Try.ntmps7
  go_wp2_with fail
  generalize ((w.alloc (.cells #[.slice A0 l0.length c0, .slice A1 l1.length c1, .slice A2 l2.length c2, .slice A3 l3.length c3] 45 (0, 0))).alloc (.cells #[.slice B0 m0.length d0, .slice B1 m1.length d1, .slice B2 m2.length d2, .slice B3 m3.length d3] 45 (0, 0))) = w1 at HW1 ⊢
  have HB := Aside0.mk (Below.refl w1.heap.size w1)
  refine (laws_szMemHeap.calls _ A0 c0 l0 A1 c1 l1 A2 c2 l2 A3 c3 l3 1048576 r _ (HI0.out.below HW1.out.1).r0 HI0.out.k0 (HI0.out.below HW1.out.1).r1 HI0.out.k1 (HI0.out.below HW1.out.1).r2 HI0.out.k2 (HI0.out.below HW1.out.1).r3 HI0.out.k3 HR.out).mono ?_
  rintro e w2 ⟨rfl, hb⟩
  replace HB := Aside0.mk (below_step HB.out hb)
  clear hb
  by_cases hc : r < 0
  case pos =>
    have cb : decide (r < 0) = true := decide_eq_true hc
    clear hc
    go_wp2
    go_ret
    exact ⟨rfl, below_step HW1.out.1 HB.out⟩
  have cb : decide (r < 0) = false := decide_eq_false hc
  have HS := Aside0.mk (HSM.out (by omega))
  obtain ⟨r', hr', _, _, hsm'⟩ := szMemHeap_f m0 m1 m2 m3 r (by have := HRR.out; omega) (C_max HJ0.out.r0) HFF.out (C_max HJ0.out.r1) (C_max HJ0.out.r2) (C_max HJ0.out.r3)
  have HR' := Aside0.mk (hr' (m0.length + 1) (by omega))
  have HSM' := Aside0.mk hsm'
  clear HSM hr' hsm' hc
  obtain ⟨y0, y1, y2, y3⟩ := box4 (blk_below HW1.out.2.2 HB.out)
  go_wp2_with fail
  clear y0 y1 y2 y3
  refine (laws_szMemHeap.calls _ B0 d0 m0 B1 d1 m1 B2 d2 m2 B3 d3 m3 r r' _ (HJ0.out.below (below_step HW1.out.1 HB.out)).r0 HJ0.out.k0 (HJ0.out.below (below_step HW1.out.1 HB.out)).r1 HJ0.out.k1 (HJ0.out.below (below_step HW1.out.1 HB.out)).r2 HJ0.out.k2 (HJ0.out.below (below_step HW1.out.1 HB.out)).r3 HJ0.out.k3 HR'.out).mono ?_
  rintro e w3 ⟨rfl, hb⟩
  replace HB := Aside0.mk (below_step HB.out hb)
  clear hb
  by_cases hc : r' < 0
  case pos =>
    have cb' : decide (r' < 0) = true := decide_eq_true hc
    clear hc
    go_wp2
    go_ret
    exact ⟨rfl, below_step HW1.out.1 HB.out⟩
  have cb' : decide (r' < 0) = false := decide_eq_false hc
  have HS' := Aside0.mk (HSM'.out (by omega))
  clear HSM' hc
  obtain ⟨p0, e0⟩ : ∃ p0, p0 = l0.map cO := ⟨_, rfl⟩
  obtain ⟨p2, e2⟩ : ∃ p2, p2 = l2.map cW := ⟨_, rfl⟩
  obtain ⟨p3, e3⟩ : ∃ p3, p3 = l3.map cW := ⟨_, rfl⟩
  obtain ⟨q0, g0⟩ : ∃ q0, q0 = m0.map cO := ⟨_, rfl⟩
  obtain ⟨q2, g2⟩ : ∃ q2, q2 = m2.map cW := ⟨_, rfl⟩
  obtain ⟨q3, g3⟩ : ∃ q3, q3 = m3.map cW := ⟨_, rfl⟩
  have E0 := Aside0.mk e0
  have E2 := Aside0.mk e2
  have E3 := Aside0.mk e3
  have G0 := Aside0.mk g0
  have G2 := Aside0.mk g2
  have G3 := Aside0.mk g3
  have HF := Aside0.mk (small_fine e0 e2 e3 HS.out)
  have HG := Aside0.mk (small_fine g0 g2 g3 HS'.out)
  obtain ⟨b, eb⟩ : ∃ b, b = sameB p0 l1 p2 p3 q0 m1 q2 q3 := ⟨_, rfl⟩
  have EB := Aside0.mk eb
  have hbb : (b != b) = false := by simp
  have hbb2 : decide (b = b) = true := by simp
  clear e0 e2 e3 g0 g2 g3 eb
  have CA := Aside0.mk (box4 HW1.out.2.1)
  have CB := Aside0.mk (box4 HW1.out.2.2)
  go_wp2_with fail
  replace HB := Aside0.mk (below_step HB.out (below_drew1 (Below.refl _ _)))
  refine start_ (n := 6) (S := (fun w' => (w'.cell? ⟨w.heap.size, 0, none⟩ = some (.slice A0 l0.length c0) ∧ w'.cell? ⟨w.heap.size, 1, none⟩ = some (.slice A1 l1.length c1) ∧ w'.cell? ⟨w.heap.size, 2, none⟩ = some (.slice A2 l2.length c2) ∧ w'.cell? ⟨w.heap.size, 3, none⟩ = some (.slice A3 l3.length c3)) ∧ w'.cell? ⟨w.heap.size + 1, 0, none⟩ = some (.slice B0 m0.length d0) ∧ w'.cell? ⟨w.heap.size + 1, 1, none⟩ = some (.slice B1 m1.length d1) ∧ w'.cell? ⟨w.heap.size + 1, 2, none⟩ = some (.slice B2 m2.length d2) ∧ w'.cell? ⟨w.heap.size + 1, 3, none⟩ = some (.slice B3 m3.length d3))) (ds := []) #[false, false, false, false, false, false] (by kernel_rfl) rfl rfl ⟨⟨pw_cell_below HB.out CA.out.1, pw_cell_below HB.out CA.out.2.1, pw_cell_below HB.out CA.out.2.2.1, pw_cell_below HB.out CA.out.2.2.2⟩, ⟨pw_cell_below HB.out CB.out.1, pw_cell_below HB.out CB.out.2.1, pw_cell_below HB.out CB.out.2.2.1, pw_cell_below HB.out CB.out.2.2.2⟩⟩ (fun hHeld => ?_); refine with_tabW lsame8_tab lsame8_bits (fun HT_ HW_ => ?_)
  generalize w3.drew = w_ at HB hHeld ⊢
  refine take_ (i := 0) (N := some 20) (v := ?_) (a' := ?_) #[true, false, false, false, false, false] rfl rfl (take_ofW HT_.out HW_.out (by kernel_rfl)) (fun _ _ _ h => h) (Or.inl ⟨by rfl, ?_⟩) hHeld ?_ ?_
  rotate_left
  · rintro w' ⟨⟨s0, s1, s2, s3⟩, s4, s5, s6, s7⟩
    go_simp
    with_reducible rfl
  rotate_left
  · simp only [Act.put, List.setIfInBounds_toArray, List.set_cons_zero, List.set_cons_succ, i64_w, i32_w]
    rfl
  refine take_ (i := 2) (N := some 22) (v := ?_) (a' := ?_) #[true, false, true, false, false, false] rfl rfl (take_ofW HT_.out HW_.out (by kernel_rfl)) (fun _ _ _ h => h) (Or.inl ⟨by rfl, ?_⟩) hHeld ?_ ?_
  rotate_left
  · rintro w' ⟨⟨s0, s1, s2, s3⟩, s4, s5, s6, s7⟩
    go_simp
    with_reducible rfl
  rotate_left
  · simp only [Act.put, List.setIfInBounds_toArray, List.set_cons_zero, List.set_cons_succ, i64_w, i32_w]
    rfl
  refine one_ (i := 1) (N := some 21) #[true, true, true, false, false, false] rfl rfl (one_of HT_.out (by kernel_rfl)) (by decide) (fun K hK => ?_)
  refine goes_ Try.func24 (by kernel_rfl) rfl #[.agg #[.slice A0 l0.length c0, .slice A1 l1.length c1, .slice A2 l2.length c2, .slice A3 l3.length c3]] (by rfl) rfl rfl (by (try simp only [List.map_toArray, List.map_cons, List.map_nil]); first | done | rfl) ?_
  refine (toHeap_c E0.out E2.out E3.out HS.out (HI0.out.below (below_step HW1.out.1 HB.out))).mono ?_
  rintro e vP ⟨P0, kP0, P1, kP1, P2, kP2, P3, kP3, rfl, hO, hb⟩
  refine ⟨_, rfl, ?_⟩
  replace HB := Aside0.mk (below_step HB.out hb)
  have HP := Aside0.mk hO
  clear hO hb
  refine hK.out _ _ ⟨⟨pw_cell_below HB.out CA.out.1, pw_cell_below HB.out CA.out.2.1, pw_cell_below HB.out CA.out.2.2.1, pw_cell_below HB.out CA.out.2.2.2⟩, ⟨pw_cell_below HB.out CB.out.1, pw_cell_below HB.out CB.out.2.1, pw_cell_below HB.out CB.out.2.2.1, pw_cell_below HB.out CB.out.2.2.2⟩⟩ (fun hHeld => ?_)
  clear hK K
  refine norm_ (a' := ?_) ?_ ?_
  rotate_left
  · show Act.put _ (some 21) _ = _
    simp only [Act.put, List.setIfInBounds_toArray, List.set_cons_zero, List.set_cons_succ, i64_w, i32_w]
    rfl
  refine one_ (i := 3) (N := some 23) #[true, true, true, true, false, false] rfl rfl (one_of HT_.out (by kernel_rfl)) (by decide) (fun K hK => ?_)
  refine goes_ Try.func24 (by kernel_rfl) rfl #[.agg #[.slice B0 m0.length d0, .slice B1 m1.length d1, .slice B2 m2.length d2, .slice B3 m3.length d3]] (by rfl) rfl rfl (by (try simp only [List.map_toArray, List.map_cons, List.map_nil]); first | done | rfl) ?_
  refine (toHeap_c G0.out G2.out G3.out HS'.out (HJ0.out.below (below_step HW1.out.1 HB.out))).mono ?_
  rintro e vQ ⟨Q0, kQ0, Q1, kQ1, Q2, kQ2, Q3, kQ3, rfl, hO, hb⟩
  refine ⟨_, rfl, ?_⟩
  replace HB := Aside0.mk (below_step HB.out hb)
  replace HP := Aside0.mk (HP.out.below hb)
  have HQ := Aside0.mk hO
  clear hO hb
  refine hK.out _ _ ⟨⟨pw_cell_below HB.out CA.out.1, pw_cell_below HB.out CA.out.2.1, pw_cell_below HB.out CA.out.2.2.1, pw_cell_below HB.out CA.out.2.2.2⟩, ⟨pw_cell_below HB.out CB.out.1, pw_cell_below HB.out CB.out.2.1, pw_cell_below HB.out CB.out.2.2.1, pw_cell_below HB.out CB.out.2.2.2⟩⟩ (fun hHeld => ?_)
  clear hK K
  refine norm_ (a' := ?_) ?_ ?_
  rotate_left
  · show Act.put _ (some 23) _ = _
    simp only [Act.put, List.setIfInBounds_toArray, List.set_cons_zero, List.set_cons_succ, i64_w, i32_w]
    rfl
  refine one_ (i := 4) (N := some 24) #[true, true, true, true, true, false] rfl rfl (one_of HT_.out (by kernel_rfl)) (by decide) (fun K hK => ?_)
  refine goes_ Try.func33 (by kernel_rfl) rfl #[.agg #[.slice P0 p0.length kP0, .slice P1 l1.length kP1, .slice P2 p2.length kP2, .slice P3 p3.length kP3], .agg #[.slice Q0 q0.length kQ0, .slice Q1 m1.length kQ1, .slice Q2 q2.length kQ2, .slice Q3 q3.length kQ3]] (by rfl) rfl rfl (by (try simp only [List.map_toArray, List.map_cons, List.map_nil]); first | done | rfl) ?_
  refine (specSame_calls _ _ _ _ _ _ _ _ _ _ _ _ _ _ _ _ _ _ _ _ _ _ _ _ _ HP.out.reads HQ.out.reads HF.out HG.out).mono ?_
  rintro e v8 ⟨rfl, hb⟩
  rw [← EB.out]
  refine ⟨_, rfl, ?_⟩
  clear HP HQ
  replace HB := Aside0.mk (below_step HB.out hb)
  clear hb
  refine hK.out _ _ ⟨⟨pw_cell_below HB.out CA.out.1, pw_cell_below HB.out CA.out.2.1, pw_cell_below HB.out CA.out.2.2.1, pw_cell_below HB.out CA.out.2.2.2⟩, ⟨pw_cell_below HB.out CB.out.1, pw_cell_below HB.out CB.out.2.1, pw_cell_below HB.out CB.out.2.2.1, pw_cell_below HB.out CB.out.2.2.2⟩⟩ (fun hHeld => ?_)
  clear hK K
  refine norm_ (a' := ?_) ?_ ?_
  rotate_left
  · show Act.put _ (some 24) _ = _
    simp only [Act.put, List.setIfInBounds_toArray, List.set_cons_zero, List.set_cons_succ, i64_w, i32_w]
    rfl
  refine pure_ (i := 5) (N := some 6) (v := ?_) (a' := ?_) #[true, true, true, true, true, true] rfl rfl (any_of HT_.out (by kernel_rfl)) (fun _ _ _ h => h) (Or.inl ⟨by rfl, ?_⟩) ?_ ?_
  rotate_left
  · intro w'
    go_simp
    with_reducible rfl
  rotate_left
  · simp only [Act.put, List.setIfInBounds_toArray, List.set_cons_zero, List.set_cons_succ, i64_w, i32_w]
    rfl
  refine done_ (done_of HT_.out (by kernel_rfl)) ?_
  clear HT_ HW_ hHeld
  obtain ⟨y0, y1, y2, y3⟩ := box4 (blk_below HW1.out.2.1 HB.out)
  go_wp2_with fail
  clear y0 y1 y2 y3
  refine (toHeap_c E0.out E2.out E3.out HS.out (HI0.out.below (below_step HW1.out.1 HB.out))).mono ?_
  rintro e w5 ⟨X0, kX0, X1, kX1, X2, kX2, X3, kX3, rfl, hO, hb⟩
  replace HB := Aside0.mk (below_step HB.out hb)
  have HX := Aside0.mk hO
  clear hO hb
  obtain ⟨y0, y1, y2, y3⟩ := box4 (blk_below HW1.out.2.2 HB.out)
  have hz := blk_lt (blk_below HW1.out.2.2 HB.out)
  go_wp2_with fail
  clear hz
  clear y0 y1 y2 y3
  have KX := Aside0.mk (blk_new w5 (.cells #[.slice X0 p0.length kX0, .slice X1 l1.length kX1, .slice X2 p2.length kX2, .slice X3 p3.length kX3] 28 (0, 0)))
  replace HB := Aside0.mk (below_step HB.out (below_alloc (Below.refl _ _) (.cells #[.slice X0 p0.length kX0, .slice X1 l1.length kX1, .slice X2 p2.length kX2, .slice X3 p3.length kX3] 28 (0, 0))))
  replace HX := Aside0.mk (HX.out.below (below_alloc (Below.refl _ _) (.cells #[.slice X0 p0.length kX0, .slice X1 l1.length kX1, .slice X2 p2.length kX2, .slice X3 p3.length kX3] 28 (0, 0))))
  generalize e5 : w5.alloc (.cells #[.slice X0 p0.length kX0, .slice X1 l1.length kX1, .slice X2 p2.length kX2, .slice X3 p3.length kX3] 28 (0, 0)) = w6 at HB HX KX ⊢
  clear e5
  refine (toHeap_c G0.out G2.out G3.out HS'.out (HJ0.out.below (below_step HW1.out.1 HB.out))).mono ?_
  rintro e w7 ⟨Y0, kY0, Y1, kY1, Y2, kY2, Y3, kY3, rfl, hO, hb⟩
  replace HB := Aside0.mk (below_step HB.out hb)
  replace HX := Aside0.mk (HX.out.below hb)
  replace KX := Aside0.mk (blk_below KX.out hb)
  have HY := Aside0.mk hO
  clear hO hb
  obtain ⟨y0, y1, y2, y3⟩ := box4 KX.out
  have hz := blk_lt KX.out
  go_wp2_with fail
  clear hz
  clear y0 y1 y2 y3
  have KY := Aside0.mk (blk_new w7 (.cells #[.slice Y0 q0.length kY0, .slice Y1 m1.length kY1, .slice Y2 q2.length kY2, .slice Y3 q3.length kY3] 28 (0, 0)))
  replace HB := Aside0.mk (below_step HB.out (below_alloc (Below.refl _ _) (.cells #[.slice Y0 q0.length kY0, .slice Y1 m1.length kY1, .slice Y2 q2.length kY2, .slice Y3 q3.length kY3] 28 (0, 0))))
  replace HX := Aside0.mk (HX.out.below (below_alloc (Below.refl _ _) (.cells #[.slice Y0 q0.length kY0, .slice Y1 m1.length kY1, .slice Y2 q2.length kY2, .slice Y3 q3.length kY3] 28 (0, 0))))
  replace KX := Aside0.mk (blk_below KX.out (below_alloc (Below.refl _ _) (.cells #[.slice Y0 q0.length kY0, .slice Y1 m1.length kY1, .slice Y2 q2.length kY2, .slice Y3 q3.length kY3] 28 (0, 0))))
  replace HY := Aside0.mk (HY.out.below (below_alloc (Below.refl _ _) (.cells #[.slice Y0 q0.length kY0, .slice Y1 m1.length kY1, .slice Y2 q2.length kY2, .slice Y3 q3.length kY3] 28 (0, 0))))
  generalize e7 : w7.alloc (.cells #[.slice Y0 q0.length kY0, .slice Y1 m1.length kY1, .slice Y2 q2.length kY2, .slice Y3 q3.length kY3] 28 (0, 0)) = w8 at HB HX KX HY KY ⊢
  clear e7
  refine (MemSame_calls _ _ _ _ _ _ _ _ _ _ _ _ _ _ _ _ _ _ _ _ _ _ _ _ _ HX.out.reads HY.out.reads ⟨by have := HF.out.w; omega, HF.out.f⟩ ⟨by have := HG.out.w; omega, HG.out.f⟩).mono ?_
  rintro e w9 ⟨rfl, hb⟩
  rw [← EB.out]
  replace HB := Aside0.mk (below_step HB.out hb)
  replace HX := Aside0.mk (HX.out.below hb)
  replace KX := Aside0.mk (blk_below KX.out hb)
  replace HY := Aside0.mk (HY.out.below hb)
  replace KY := Aside0.mk (blk_below KY.out hb)
  clear hb
  go_wp2_with fail
  replace HB := Aside0.mk (below_step HB.out (below_drew1 (Below.refl _ _)))
  replace HX := Aside0.mk (HX.out.below (below_drew1 (Below.refl _ _)))
  replace KX := Aside0.mk (blk_below KX.out (below_drew1 (Below.refl _ _)))
  replace HY := Aside0.mk (HY.out.below (below_drew1 (Below.refl _ _)))
  replace KY := Aside0.mk (blk_below KY.out (below_drew1 (Below.refl _ _)))
  refine start_ (n := 5) (S := (fun w' => (w'.cell? ⟨w5.heap.size, 0, none⟩ = some (.slice X0 p0.length kX0) ∧ w'.cell? ⟨w5.heap.size, 1, none⟩ = some (.slice X1 l1.length kX1) ∧ w'.cell? ⟨w5.heap.size, 2, none⟩ = some (.slice X2 p2.length kX2) ∧ w'.cell? ⟨w5.heap.size, 3, none⟩ = some (.slice X3 p3.length kX3)) ∧ w'.cell? ⟨w.heap.size, 0, none⟩ = some (.slice A0 l0.length c0) ∧ w'.cell? ⟨w.heap.size, 1, none⟩ = some (.slice A1 l1.length c1) ∧ w'.cell? ⟨w.heap.size, 2, none⟩ = some (.slice A2 l2.length c2) ∧ w'.cell? ⟨w.heap.size, 3, none⟩ = some (.slice A3 l3.length c3))) (ds := []) #[false, false, false, false, false] (by kernel_rfl) rfl rfl ⟨box4 KX.out, box4 (blk_below HW1.out.2.1 HB.out)⟩ (fun hHeld => ?_); refine with_tabW lsame14_tab lsame14_bits (fun HT_ HW_ => ?_)
  generalize w9.drew = w_ at HB HX KX HY KY hHeld ⊢
  refine take_ (i := 0) (N := some 35) (v := ?_) (a' := ?_) #[true, false, false, false, false] rfl rfl (take_ofW HT_.out HW_.out (by kernel_rfl)) (fun _ _ _ h => h) (Or.inl ⟨by rfl, ?_⟩) hHeld ?_ ?_
  rotate_left
  · rintro w' ⟨⟨s0, s1, s2, s3⟩, s4, s5, s6, s7⟩
    go_simp
    with_reducible rfl
  rotate_left
  · simp only [Act.put, List.setIfInBounds_toArray, List.set_cons_zero, List.set_cons_succ, i64_w, i32_w]
    rfl
  refine take_ (i := 1) (N := some 36) (v := ?_) (a' := ?_) #[true, true, false, false, false] rfl rfl (take_ofW HT_.out HW_.out (by kernel_rfl)) (fun _ _ _ h => h) (Or.inl ⟨by rfl, ?_⟩) hHeld ?_ ?_
  rotate_left
  · rintro w' ⟨⟨s0, s1, s2, s3⟩, s4, s5, s6, s7⟩
    go_simp
    with_reducible rfl
  rotate_left
  · simp only [Act.put, List.setIfInBounds_toArray, List.set_cons_zero, List.set_cons_succ, i64_w, i32_w]
    rfl
  refine one_ (i := 2) (N := some 37) #[true, true, true, false, false] rfl rfl (one_of HT_.out (by kernel_rfl)) (by decide) (fun K hK => ?_)
  refine goes_ Try.func24 (by kernel_rfl) rfl #[.agg #[.slice A0 l0.length c0, .slice A1 l1.length c1, .slice A2 l2.length c2, .slice A3 l3.length c3]] (by rfl) rfl rfl (by (try simp only [List.map_toArray, List.map_cons, List.map_nil]); first | done | rfl) ?_
  refine (toHeap_c E0.out E2.out E3.out HS.out (HI0.out.below (below_step HW1.out.1 HB.out))).mono ?_
  rintro e vZ ⟨Z0, kZ0, Z1, kZ1, Z2, kZ2, Z3, kZ3, rfl, hO, hb⟩
  refine ⟨_, rfl, ?_⟩
  replace HB := Aside0.mk (below_step HB.out hb)
  replace HX := Aside0.mk (HX.out.below hb)
  replace KX := Aside0.mk (blk_below KX.out hb)
  replace HY := Aside0.mk (HY.out.below hb)
  replace KY := Aside0.mk (blk_below KY.out hb)
  have HZ := Aside0.mk hO
  clear hO hb
  refine hK.out _ _ ⟨box4 KX.out, box4 (blk_below HW1.out.2.1 HB.out)⟩ (fun hHeld => ?_)
  clear hK K
  refine norm_ (a' := ?_) ?_ ?_
  rotate_left
  · show Act.put _ (some 37) _ = _
    simp only [Act.put, List.setIfInBounds_toArray, List.set_cons_zero, List.set_cons_succ, i64_w, i32_w]
    rfl
  refine one_ (i := 3) (N := some 38) #[true, true, true, true, false] rfl rfl (one_of HT_.out (by kernel_rfl)) (by decide) (fun K hK => ?_)
  refine goes_ Try.func26 (by kernel_rfl) rfl #[.agg #[.slice X0 p0.length kX0, .slice X1 l1.length kX1, .slice X2 p2.length kX2, .slice X3 p3.length kX3], .agg #[.slice Z0 p0.length kZ0, .slice Z1 l1.length kZ1, .slice Z2 p2.length kZ2, .slice Z3 p3.length kZ3]] (by rfl) rfl rfl (by (try simp only [List.map_toArray, List.map_cons, List.map_nil]); first | done | rfl) ?_
  refine (eqHeap_c HX.out.reads HZ.out.reads (fun x hx => by have := (HF.out.f x hx).2; omega)).mono ?_
  rintro e v9 ⟨rfl, hb⟩
  refine ⟨_, rfl, ?_⟩
  clear HX HZ
  replace HB := Aside0.mk (below_step HB.out hb)
  replace KX := Aside0.mk (blk_below KX.out hb)
  replace HY := Aside0.mk (HY.out.below hb)
  replace KY := Aside0.mk (blk_below KY.out hb)
  clear hb
  refine hK.out _ _ ⟨box4 KX.out, box4 (blk_below HW1.out.2.1 HB.out)⟩ (fun hHeld => ?_)
  clear hK K
  refine norm_ (a' := ?_) ?_ ?_
  rotate_left
  · show Act.put _ (some 38) _ = _
    simp only [Act.put, List.setIfInBounds_toArray, List.set_cons_zero, List.set_cons_succ, i64_w, i32_w]
    rfl
  refine pure_ (i := 4) (N := some 39) (v := ?_) (a' := ?_) #[true, true, true, true, true] rfl rfl (any_of HT_.out (by kernel_rfl)) (fun _ _ _ h => h) (Or.inl ⟨by rfl, ?_⟩) ?_ ?_
  rotate_left
  · intro w'
    go_simp
    with_reducible rfl
  rotate_left
  · simp only [Act.put, List.setIfInBounds_toArray, List.set_cons_zero, List.set_cons_succ, i64_w, i32_w]
    rfl
  refine done_ (done_of HT_.out (by kernel_rfl)) ?_
  clear HT_ HW_ hHeld
  go_wp2_with fail
  replace HB := Aside0.mk (below_step HB.out (below_drew1 (Below.refl _ _)))
  replace KX := Aside0.mk (blk_below KX.out (below_drew1 (Below.refl _ _)))
  replace HY := Aside0.mk (HY.out.below (below_drew1 (Below.refl _ _)))
  replace KY := Aside0.mk (blk_below KY.out (below_drew1 (Below.refl _ _)))
  refine start_ (n := 5) (S := (fun w' => (w'.cell? ⟨w7.heap.size, 0, none⟩ = some (.slice Y0 q0.length kY0) ∧ w'.cell? ⟨w7.heap.size, 1, none⟩ = some (.slice Y1 m1.length kY1) ∧ w'.cell? ⟨w7.heap.size, 2, none⟩ = some (.slice Y2 q2.length kY2) ∧ w'.cell? ⟨w7.heap.size, 3, none⟩ = some (.slice Y3 q3.length kY3)) ∧ w'.cell? ⟨w.heap.size + 1, 0, none⟩ = some (.slice B0 m0.length d0) ∧ w'.cell? ⟨w.heap.size + 1, 1, none⟩ = some (.slice B1 m1.length d1) ∧ w'.cell? ⟨w.heap.size + 1, 2, none⟩ = some (.slice B2 m2.length d2) ∧ w'.cell? ⟨w.heap.size + 1, 3, none⟩ = some (.slice B3 m3.length d3))) (ds := []) #[false, false, false, false, false] (by kernel_rfl) rfl rfl ⟨box4 KY.out, box4 (blk_below HW1.out.2.2 HB.out)⟩ (fun hHeld => ?_); refine with_tabW lsame16_tab lsame16_bits (fun HT_ HW_ => ?_)
  generalize v9.drew = w_ at HB KX HY KY hHeld ⊢
  refine take_ (i := 0) (N := some 40) (v := ?_) (a' := ?_) #[true, false, false, false, false] rfl rfl (take_ofW HT_.out HW_.out (by kernel_rfl)) (fun _ _ _ h => h) (Or.inl ⟨by rfl, ?_⟩) hHeld ?_ ?_
  rotate_left
  · rintro w' ⟨⟨s0, s1, s2, s3⟩, s4, s5, s6, s7⟩
    go_simp
    with_reducible rfl
  rotate_left
  · simp only [Act.put, List.setIfInBounds_toArray, List.set_cons_zero, List.set_cons_succ, i64_w, i32_w]
    rfl
  refine take_ (i := 1) (N := some 41) (v := ?_) (a' := ?_) #[true, true, false, false, false] rfl rfl (take_ofW HT_.out HW_.out (by kernel_rfl)) (fun _ _ _ h => h) (Or.inl ⟨by rfl, ?_⟩) hHeld ?_ ?_
  rotate_left
  · rintro w' ⟨⟨s0, s1, s2, s3⟩, s4, s5, s6, s7⟩
    go_simp
    with_reducible rfl
  rotate_left
  · simp only [Act.put, List.setIfInBounds_toArray, List.set_cons_zero, List.set_cons_succ, i64_w, i32_w]
    rfl
  refine one_ (i := 2) (N := some 42) #[true, true, true, false, false] rfl rfl (one_of HT_.out (by kernel_rfl)) (by decide) (fun K hK => ?_)
  refine goes_ Try.func24 (by kernel_rfl) rfl #[.agg #[.slice B0 m0.length d0, .slice B1 m1.length d1, .slice B2 m2.length d2, .slice B3 m3.length d3]] (by rfl) rfl rfl (by (try simp only [List.map_toArray, List.map_cons, List.map_nil]); first | done | rfl) ?_
  refine (toHeap_c G0.out G2.out G3.out HS'.out (HJ0.out.below (below_step HW1.out.1 HB.out))).mono ?_
  rintro e vV ⟨V0, kV0, V1, kV1, V2, kV2, V3, kV3, rfl, hO, hb⟩
  refine ⟨_, rfl, ?_⟩
  replace HB := Aside0.mk (below_step HB.out hb)
  replace KX := Aside0.mk (blk_below KX.out hb)
  replace HY := Aside0.mk (HY.out.below hb)
  replace KY := Aside0.mk (blk_below KY.out hb)
  have HV := Aside0.mk hO
  clear hO hb
  refine hK.out _ _ ⟨box4 KY.out, box4 (blk_below HW1.out.2.2 HB.out)⟩ (fun hHeld => ?_)
  clear hK K
  refine norm_ (a' := ?_) ?_ ?_
  rotate_left
  · show Act.put _ (some 42) _ = _
    simp only [Act.put, List.setIfInBounds_toArray, List.set_cons_zero, List.set_cons_succ, i64_w, i32_w]
    rfl
  refine one_ (i := 3) (N := some 43) #[true, true, true, true, false] rfl rfl (one_of HT_.out (by kernel_rfl)) (by decide) (fun K hK => ?_)
  refine goes_ Try.func26 (by kernel_rfl) rfl #[.agg #[.slice Y0 q0.length kY0, .slice Y1 m1.length kY1, .slice Y2 q2.length kY2, .slice Y3 q3.length kY3], .agg #[.slice V0 q0.length kV0, .slice V1 m1.length kV1, .slice V2 q2.length kV2, .slice V3 q3.length kV3]] (by rfl) rfl rfl (by (try simp only [List.map_toArray, List.map_cons, List.map_nil]); first | done | rfl) ?_
  refine (eqHeap_c HY.out.reads HV.out.reads (fun x hx => by have := (HG.out.f x hx).2; omega)).mono ?_
  rintro e v9 ⟨rfl, hb⟩
  refine ⟨_, rfl, ?_⟩
  clear HY HV
  replace HB := Aside0.mk (below_step HB.out hb)
  replace KX := Aside0.mk (blk_below KX.out hb)
  replace KY := Aside0.mk (blk_below KY.out hb)
  clear hb
  refine hK.out _ _ ⟨box4 KY.out, box4 (blk_below HW1.out.2.2 HB.out)⟩ (fun hHeld => ?_)
  clear hK K
  refine norm_ (a' := ?_) ?_ ?_
  rotate_left
  · show Act.put _ (some 43) _ = _
    simp only [Act.put, List.setIfInBounds_toArray, List.set_cons_zero, List.set_cons_succ, i64_w, i32_w]
    rfl
  refine pure_ (i := 4) (N := some 44) (v := ?_) (a' := ?_) #[true, true, true, true, true] rfl rfl (any_of HT_.out (by kernel_rfl)) (fun _ _ _ h => h) (Or.inl ⟨by rfl, ?_⟩) ?_ ?_
  rotate_left
  · intro w'
    go_simp
    with_reducible rfl
  rotate_left
  · simp only [Act.put, List.setIfInBounds_toArray, List.set_cons_zero, List.set_cons_succ, i64_w, i32_w]
    rfl
  refine done_ (done_of HT_.out (by kernel_rfl)) ?_
  clear HT_ HW_ hHeld
  go_wp2
  go_ret
  exact ⟨rfl, below_step HW1.out.1 HB.out⟩
end Go.Proofs.Ytigjhfijkdlldaa.H
