/- The law FnExactMemOk, walked: for every argument it answers true. -/
import Derived.Test.YtigjhfijkdlldaaC
import Derived.Test.YtigjhfijkdlldaaHok
namespace Go.Proofs.Ytigjhfijkdlldaa.H
open Go.RowKit Go.Proofs.YtigjhfijkdlldaaW.PrintWords Go.Proofs.YtigjhfijkdlldaaW.PrintLast Go.Proofs.YtigjhfijkdlldaaW.PrintMore Go.Proofs.Ytigjhfijkdlldaa.Q
set_option linter.unusedVariables false
set_option maxHeartbeats 1000000 in
set_option maxRecDepth 100000 in
theorem FnExactMemOk_walk (A0 A1 A2 A3 : Option Addr) (c0 c1 c2 c3 : Nat) (l0 : List S72) (l1 : List Int) (l2 l3 : List S126) (w : World) (h : InL w A0 c0 A1 c1 A2 c2 A3 c3 l0 l1 l2 l3) (hf : ∀ x ∈ l0, Fits x.f1 x.f2) :
    Calls Try.prog 5 #[.agg #[.slice A0 l0.length c0, .slice A1 l1.length c1, .slice A2 l2.length c2, .slice A3 l3.length c3]] w fun e w' => e = .returned (.bool true) ∧ Below w.heap.size w w' := by
  obtain ⟨r, hr, hr1, hr2, hsm⟩ := szMemHeap_f l0 l1 l2 l3 1048576 (by omega) (C_max h.r0) hf (C_max h.r1) (C_max h.r2) (C_max h.r3)
  have HR := Aside0.mk (hr (l0.length + 1) (by omega))
  have HI := Aside0.mk h
  have HSM := Aside0.mk hsm
  clear hr h hf hsm
  have HB := Aside0.mk (Below.refl w.heap.size w)
  by_cases c : r < 0
  · have cb : decide (r < 0) = true := decide_eq_true c
    go_enter Try.func5, Try.ntmps5
    go_wp2_with (go_at_call 22; refine (laws_szMemHeap.calls _ A0 c0 l0 A1 c1 l1 A2 c2 l2 A3 c3 l3 1048576 r _ (Kd.C_alloc HI.out.r0 _) HI.out.k0 (Kd.C_alloc HI.out.r1 _) HI.out.k1 (Kd.C_alloc HI.out.r2 _) HI.out.k2 (Kd.C_alloc HI.out.r3 _) HI.out.k3 HR.out).mono ?_; rintro e w1 ⟨rfl, hb⟩; have HB1 := Aside0.mk (below_step (below_alloc HB.out _) hb); clear hb)
    go_ret
    exact ⟨rfl, HB1.out⟩
  have cb : decide (r < 0) = false := decide_eq_false c
  have HS := Aside0.mk (HSM.out (by omega))
  clear HSM
  obtain ⟨m0, e0⟩ : ∃ m0, m0 = l0.map cO := ⟨_, rfl⟩
  obtain ⟨m2, e2⟩ : ∃ m2, m2 = l2.map cW := ⟨_, rfl⟩
  obtain ⟨m3, e3⟩ : ∃ m3, m3 = l3.map cW := ⟨_, rfl⟩
  have E0 := Aside0.mk e0
  have E2 := Aside0.mk e2
  have E3 := Aside0.mk e3
  have HF := Aside0.mk (small_fine e0 e2 e3 HS.out)
  clear e0 e2 e3
  obtain ⟨b, hb0⟩ : ∃ b, b = okB m0 l1 m2 m3 := ⟨_, rfl⟩
  have HO := Aside0.mk hb0
  have hne : (b != b) = false := by cases b <;> rfl
  clear hb0
  go_enter Try.func5, Try.ntmps5
  go_wp2_with (go_at_call 22; refine (laws_szMemHeap.calls _ A0 c0 l0 A1 c1 l1 A2 c2 l2 A3 c3 l3 1048576 r _ (Kd.C_alloc HI.out.r0 _) HI.out.k0 (Kd.C_alloc HI.out.r1 _) HI.out.k1 (Kd.C_alloc HI.out.r2 _) HI.out.k2 (Kd.C_alloc HI.out.r3 _) HI.out.k3 HR.out).mono ?_; rintro e w1 ⟨rfl, hb⟩; have HB1 := Aside0.mk (below_step (below_alloc HB.out _) hb); have HX1 := Aside0.mk (blk_below (blk_new w _) hb); obtain ⟨q0, q1, q2, q3⟩ := box4 HX1.out; clear hb)
  clear q0 q1 q2 q3
  refine (toHeap_c E0.out E2.out E3.out HS.out (HI.out.below HB1.out)).mono ?_
  rintro e w2 ⟨B0, d0, B1, d1, B2, d2, B3, d3, rfl, hO, hb⟩
  have HB2 := Aside0.mk (below_step HB1.out hb)
  have HX2 := Aside0.mk (blk_below HX1.out hb)
  have HO2 := Aside0.mk hO
  clear hO hb HB1 HX1
  go_wp2_with fail
  refine (specOk_c HO2.out.reads (by have := HF.out.o; omega) HF.out.f (by have := HF.out.r; omega) (by have := HF.out.w; omega)).mono ?_
  rintro e w3 ⟨rfl, hb⟩
  rw [← HO.out]
  have HB3 := Aside0.mk (below_step HB2.out hb)
  have HX3 := Aside0.mk (blk_below HX2.out hb)
  clear hb HB2 HX2 HO2
  obtain ⟨q0, q1, q2, q3⟩ := box4 HX3.out
  go_wp2_with fail
  refine (toHeap_c E0.out E2.out E3.out HS.out (HI.out.below HB3.out)).mono ?_
  rintro e w4 ⟨B0, d0, B1, d1, B2, d2, B3, d3, rfl, hO, hb⟩
  have HB4 := Aside0.mk (below_step HB3.out hb)
  have HX4 := Aside0.mk (blk_below HX3.out hb)
  have HO4 := Aside0.mk hO
  clear hO hb HB3 HX3 q0 q1 q2 q3
  obtain ⟨q0, q1, q2, q3⟩ := box4 HX4.out
  go_wp2_with fail
  refine (MemOk_calls _ _ _ _ _ _ _ _ _ _ _ _ _ (Kd.C_alloc HO4.out.reads.r0 _) (Kd.C_alloc HO4.out.reads.r1 _) (Kd.C_alloc HO4.out.reads.r2 _) (Kd.C_alloc HO4.out.reads.r3 _) (by have := HF.out.w; omega) HF.out.f).mono ?_
  rintro e w5 ⟨rfl, hb⟩
  rw [← HO.out]
  have HB5 := Aside0.mk (below_step (below_alloc HB4.out _) hb)
  have HX5 := Aside0.mk (blk_below (blk_alloc HX4.out _) hb)
  have HY5 := Aside0.mk (blk_below (blk_new w4 _) hb)
  have HO5 := Aside0.mk ((HO4.out.below (below_alloc (Below.refl _ _) _)).below hb)
  clear hb HB4 HX4 HO4 q0 q1 q2 q3
  obtain ⟨q0, q1, q2, q3⟩ := box4 HX5.out
  obtain ⟨p0, p1, p2, p3⟩ := box4 HY5.out
  go_wp2_with fail
  clear q0 q1 q2 q3 p0 p1 p2 p3
  go_region_held3 (fun w' => (w'.cell? ⟨w.heap.size, 0, none⟩ = some (.slice A0 l0.length c0) ∧ w'.cell? ⟨w.heap.size, 1, none⟩ = some (.slice A1 l1.length c1) ∧ w'.cell? ⟨w.heap.size, 2, none⟩ = some (.slice A2 l2.length c2) ∧ w'.cell? ⟨w.heap.size, 3, none⟩ = some (.slice A3 l3.length c3)) ∧ w'.cell? ⟨w4.heap.size, 0, none⟩ = some (.slice B0 m0.length d0) ∧ w'.cell? ⟨w4.heap.size, 1, none⟩ = some (.slice B1 l1.length d1) ∧ w'.cell? ⟨w4.heap.size, 2, none⟩ = some (.slice B2 m2.length d2) ∧ w'.cell? ⟨w4.heap.size, 3, none⟩ = some (.slice B3 m3.length d3))
    (first | exact ⟨box4 HX5.out, box4 HY5.out⟩ | exact ⟨box4 HX6.out, box4 HY6.out⟩ | exact ⟨box4 HX7.out, box4 HY7.out⟩)
    (first | (go_at_call 24; refine (toHeap_c E0.out E2.out E3.out HS.out (HI.out.below (below_drew1 HB5.out))).mono ?_; rintro e w6 ⟨B0', d0', B1', d1', B2', d2', B3', d3', rfl, hO, hb⟩; have HB6 := Aside0.mk (below_step (below_drew1 HB5.out) hb); have HX6 := Aside0.mk (blk_below (blk_drew HX5.out) hb); have HY6 := Aside0.mk (blk_below (blk_drew HY5.out) hb); have HO6 := Aside0.mk ((HO5.out.below (below_drew1 (Below.refl _ _))).below hb); have HP6 := Aside0.mk hO; clear hO hb) | (go_at_call 26; refine (eqHeap_c HO6.out.reads HP6.out.reads (fun x hx => by have := (HF.out.f x hx).2; omega)).mono ?_; rintro e w7 ⟨rfl, hb⟩; have HB7 := Aside0.mk (below_step HB6.out hb); have HX7 := Aside0.mk (blk_below HX6.out hb); have HY7 := Aside0.mk (blk_below HY6.out hb); clear hb))
  go_wp2
  go_ret
  exact ⟨rfl, HB7.out⟩
end Go.Proofs.Ytigjhfijkdlldaa.H
