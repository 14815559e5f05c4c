/- The law FnExactMemReach, walked. -/
import Derived.Test.YtigjhfijkdlldaaSreHmr
import Derived.Test.YtigjhfijkdlldaaSreHmh
import Derived.Test.YtigjhfijkdlldaaSreMk
import Derived.Deep.RegionHeld3
namespace Go.Proofs.Ytigjhfijkdlldaa.H
open Go.RowKit Go.Proofs.YtigjhfijkdlldaaW.PrintWords Go.Proofs.YtigjhfijkdlldaaW.PrintLast Go.Proofs.YtigjhfijkdlldaaW.PrintMore Go.Proofs.Ytigjhfijkdlldaa.Q
set_option linter.unusedVariables false
/-- A row of ints of the law's own, by its blocks' numbers. -/
theorem RI_kept {w w1 : World} {lo hi : Nat} {S : Nat → Prop} {v : Value} {xs : List Int} (h : Kd.R (Kd.int .i64) 3 w lo (fun k => k < hi) v xs) (hk : Kept w w1 S) (hS : ∀ k, lo ≤ k → k < hi → ¬ S k) : Kd.R (Kd.int .i64) 3 w1 lo (fun k => k < hi) v xs :=
  Kd.R_mono (Kd.R_kept (Kd.R_bound h) hk (fun k h1 => hS k h1.2.1 h1.1)) (fun _ h1 => h1.1)
theorem RI_new {w : World} {lo : Nat} {v : Value} {xs : List Int} {ok : Nat → Prop} (h : Kd.R (Kd.int .i64) 3 w lo ok v xs) : Kd.R (Kd.int .i64) 3 w lo (fun k => k < w.heap.size) v xs := Kd.R_mono (Kd.R_bound h) (fun _ h1 => h1.2.2.1)
theorem eqInt_c {w : World} {u v : Value} {xs : List Int} {lo lo' : Nat} {ok ok' : Nat → Prop} (h : Kd.R (Kd.int .i64) 3 w lo ok u xs) (h' : Kd.R (Kd.int .i64) 3 w lo' ok' v xs) :
    Calls Try.prog 29 #[u, v] w fun e w' => e = .returned (.bool true) ∧ Drawn0 w w' := by
  obtain ⟨A, c, rfl⟩ := Kd.R_slice h
  obtain ⟨A', c', rfl⟩ := Kd.R_slice h'
  have r := Kd.R_reads' h
  have r' := Kd.R_reads' h'
  exact laws_eqIntS.calls (xs.length + 1) A c xs A' c' xs true w r.2.2 r.2.1 r'.2.2 r'.2.1 (eqIntS_f xs (C_max r.2.2) _ (by omega))
theorem heldInt_c {w : World} {u : Value} {a : Int} {n : Nat} {lo : Nat} {ok : Nat → Prop} (h : Kd.R (Kd.int .i64) 3 w lo ok u (marksI a n)) (ha : 0 ≤ a) (hn : a + n ≤ 1152921504606846976) :
    Calls Try.prog 32 #[u, .int .i64 a] w fun e w' => e = .returned (.int .i64 (a + n)) ∧ Drawn0 w w' := by
  obtain ⟨A, c, rfl⟩ := Kd.R_slice h
  have r := Kd.R_reads' h
  exact laws_heldIntS.calls (n + 1) A c (marksI a n) a _ w r.2.2 r.2.1 (heldIntS_f a ha n hn _ (by omega))
theorem cntO_le (l : List S38) (B : Nat) (h : ∀ x ∈ l, x.f2.length ≤ B) : cntO l ≤ l.length * (2 + B) := by
  induction l with
  | nil => simp [cntO]
  | cons x l ih =>
    have h1 := h x (List.mem_cons_self ..)
    have h2 := ih (fun y hy => h y (List.mem_cons_of_mem _ hy))
    simp only [cntO, List.length_cons]
    have : ((l.length + 1 : Nat) : Int) * (2 + B) = l.length * (2 + B) + (2 + B) := by rw [Int.natCast_add, Int.add_mul]; simp
    rw [this]; omega
theorem cntH_fine {l0 : List S72} {l1 : List Int} {l2 l3 : List S126} (h : Small l0 l1 l2 l3) : cntH (l0.map cO) l1 (l2.map cW) (l3.map cW) ≤ 1099517927424 := by
  have h1 := cntO_le (l0.map cO) 1048576 (fun x hx => by obtain ⟨y, hy, rfl⟩ := List.mem_map.1 hx; exact (h.t y hy).2)
  have h2 := h.o; have h3 := h.r; have h4 := h.w
  unfold cntH
  simp only [List.length_map] at *
  have : (l0.length : Int) * (2 + (1048576 : Nat)) ≤ 1048576 * (2 + (1048576 : Nat)) := Int.mul_le_mul_of_nonneg_right (by omega) (by omega)
  omega
set_option maxHeartbeats 4000000 in
set_option maxRecDepth 100000 in
theorem FnExactMemReach_walk (A0 A1 A2 A3 : Option Addr) (c0 c1 c2 c3 : Nat) (l0 : List S72) (l1 : List Int) (l2 l3 : List S126) (w : World) (h : InL w A0 c0 A1 c1 A2 c2 A3 c3 l0 l1 l2 l3) (hf : ∀ x ∈ l0, Fits x.f1 x.f2) :
    Calls Try.prog 6 #[.agg #[.slice A0 l0.length c0, .slice A1 l1.length c1, .slice A2 l2.length c2, .slice A3 l3.length c3]] w fun e w' => e = .returned (.bool true) ∧ Below w.heap.size w w' := by
  obtain ⟨r, hr, hr1, hr2, hsm⟩ := szMemHeap_f l0 l1 l2 l3 1048576 (by omega) (C_max h.r0) hf (C_max h.r1) (C_max h.r2) (C_max h.r3)
  have HR := Aside0.mk (hr (l0.length + 1) (by omega))
  have HI := Aside0.mk h
  have HSM := Aside0.mk hsm
  clear hr h hf hsm
  have HB := Aside0.mk (Below.refl w.heap.size w)
  by_cases c : r < 0
  · have cb : decide (r < 0) = true := decide_eq_true c
    go_enter Try.func6, Try.ntmps6
    go_wp2_with (go_at_call 22; refine (laws_szMemHeap.calls _ A0 c0 l0 A1 c1 l1 A2 c2 l2 A3 c3 l3 1048576 r _ (Kd.C_alloc HI.out.r0 _) HI.out.k0 (Kd.C_alloc HI.out.r1 _) HI.out.k1 (Kd.C_alloc HI.out.r2 _) HI.out.k2 (Kd.C_alloc HI.out.r3 _) HI.out.k3 HR.out).mono ?_; rintro e w1 ⟨rfl, hb⟩; have HB1 := Aside0.mk (below_step (below_alloc HB.out _) hb); clear hb)
    go_ret
    exact ⟨rfl, HB1.out⟩
  have cb : decide (r < 0) = false := decide_eq_false c
  have HS := Aside0.mk (HSM.out (by omega))
  clear HSM
  obtain ⟨m0, e0⟩ : ∃ m0, m0 = l0.map cO := ⟨_, rfl⟩
  obtain ⟨m2, e2⟩ : ∃ m2, m2 = l2.map cW := ⟨_, rfl⟩
  obtain ⟨m3, e3⟩ : ∃ m3, m3 = l3.map cW := ⟨_, rfl⟩
  have E0 := Aside0.mk e0
  have E2 := Aside0.mk e2
  have E3 := Aside0.mk e3
  have HF := Aside0.mk (small_fine e0 e2 e3 HS.out)
  have hcn : cntH m0 l1 m2 m3 ≤ 1099517927424 := by rw [e0, e2, e3]; exact cntH_fine HS.out
  have hc0 : 0 ≤ cntH m0 l1 m2 m3 := by have := cntO_nonneg m0; unfold cntH; omega
  obtain ⟨R, eR⟩ : ∃ R, R = reachA m0 l1 m2 m3 := ⟨_, rfl⟩
  have HRL : R.length ≤ 60 := by rw [eR]; exact reachA_len ..
  have ER := Aside0.mk eR
  obtain ⟨kk, ekk⟩ : ∃ kk, kk = 1 + cntH m0 l1 m2 m3 := ⟨_, rfl⟩
  have hk0 : decide (kk < 0) = false := decide_eq_false (by omega)
  have EK := Aside0.mk ekk
  obtain ⟨g, eg⟩ : ∃ g : Int, g = 1 + R.length := ⟨_, rfl⟩
  have hg0 : decide (g < 0) = false := decide_eq_false (by omega)
  have hgg : (g != g) = false := by simp
  have EG := Aside0.mk eg
  have HCN := Aside0.mk hcn
  have HRL := Aside0.mk HRL
  clear e0 e2 e3 eR ekk eg hcn hc0
  go_enter Try.func6, Try.ntmps6
  go_wp2_with (go_at_call 22; refine (laws_szMemHeap.calls _ A0 c0 l0 A1 c1 l1 A2 c2 l2 A3 c3 l3 1048576 r _ (Kd.C_alloc HI.out.r0 _) HI.out.k0 (Kd.C_alloc HI.out.r1 _) HI.out.k1 (Kd.C_alloc HI.out.r2 _) HI.out.k2 (Kd.C_alloc HI.out.r3 _) HI.out.k3 HR.out).mono ?_; rintro e w1 ⟨rfl, hb⟩; have HB1 := Aside0.mk (below_step (below_alloc HB.out _) hb); have HX1 := Aside0.mk (blk_below (blk_new w _) hb); obtain ⟨q0, q1, q2, q3⟩ := box4 HX1.out; clear hb)
  clear q0 q1 q2 q3
  refine (toHeap_c E0.out E2.out E3.out HS.out (HI.out.below HB1.out)).mono ?_
  rintro e w2 ⟨B0, d0, B1, d1, B2, d2, B3, d3, rfl, hO, hb⟩
  have HB2 := Aside0.mk (below_step HB1.out hb)
  have HX2 := Aside0.mk (blk_below HX1.out hb)
  have HO2 := Aside0.mk hO
  clear hO hb HB1 HX1
  go_wp2_with fail
  refine (specReach_c HO2.out.reads (by have := HF.out.o; omega) HF.out.f (by have := HF.out.r; omega) (by have := HF.out.w; omega)).mono ?_
  rintro e w3 ⟨v0, rfl, hr, hb⟩
  have HB3 := Aside0.mk (below_step HB2.out hb)
  have HX3 := Aside0.mk (blk_below HX2.out hb)
  have HV0 := Aside0.mk (RI_new hr)
  rw [← ER.out] at HV0
  clear hr hb HB2 HX2 HO2
  obtain ⟨q0, q1, q2, q3⟩ := box4 HX3.out
  go_wp2_with fail
  refine (toHeap_c E0.out E2.out E3.out HS.out (HI.out.below HB3.out)).mono ?_
  rintro e w4 ⟨B0, d0, B1, d1, B2, d2, B3, d3, rfl, hO, hb⟩
  have HB4 := Aside0.mk (below_step HB3.out hb)
  have HX4 := Aside0.mk (blk_below HX3.out hb)
  have HO4 := Aside0.mk hO.bound
  have HT4 := Aside0.mk hb
  have HLT := Aside0.mk (blk_lt HX3.out)
  have HV4 := Aside0.mk (Kd.R_below HV0.out hb)
  clear hO hb HX3 q0 q1 q2 q3 HV0
  obtain ⟨q0, q1, q2, q3⟩ := box4 HX4.out
  go_wp2_with fail
  have HW4 := Aside0.mk (show (w4.alloc (.cells #[.slice B0 m0.length d0, .slice B1 l1.length d1, .slice B2 m2.length d2, .slice B3 m3.length d3] 28 (0, 0))).heap.size = w4.heap.size + 1 from Array.size_push ..)
  have HS4 := Aside0.mk (And.intro HB3.out.size HT4.out.size)
  refine (MemReach_calls _ _ _ _ _ _ _ _ _ _ _ _ _ (HO4.out.below (below_alloc (Below.refl _ _) _)).reads (by have := HF.out.w; omega) HF.out.f).mono ?_
  rintro e w5 ⟨v1, rfl, hr, hb⟩
  have HB5 := Aside0.mk (below_step (below_alloc HB4.out _) hb)
  have HT5 := Aside0.mk (below_step (below_alloc HT4.out _) hb)
  have HX5 := Aside0.mk (blk_below (blk_alloc HX4.out _) hb)
  have HY5 := Aside0.mk (blk_below (blk_new w4 _) hb)
  have HO5 := Aside0.mk ((HO4.out.below (below_alloc (Below.refl _ _) _)).below hb)
  have HV5 := Aside0.mk (Kd.R_below (Kd.R_below HV4.out (below_alloc (Below.refl _ _) _)) hb)
  have HG5 := Aside0.mk (RI_new hr)
  rw [← ER.out] at HG5
  have HS5 := Aside0.mk hb.size
  clear hr hb HX4 HO4 HT4 HV4 q0 q1 q2 q3
  go_wp2_with fail
  refine (eqInt_c HG5.out HV5.out).mono ?_
  rintro e w6 ⟨rfl, hd⟩
  have hb := hd.below
  have HB6 := Aside0.mk (below_step HB5.out hb)
  have HT6 := Aside0.mk (below_step HT5.out hb)
  have HX6 := Aside0.mk (blk_below HX5.out hb)
  have HY6 := Aside0.mk (blk_below HY5.out hb)
  have HO6 := Aside0.mk (HO5.out.below hb)
  have HV6 := Aside0.mk (Kd.R_below HV5.out hb)
  have HG6 := Aside0.mk (Kd.R_below HG5.out hb)
  have HS6 := Aside0.mk hb.size
  clear hb hd HB5 HT5 HX5 HY5 HO5 HV5 HG5
  obtain ⟨q0, q1, q2, q3⟩ := box4 HX6.out
  obtain ⟨p0, p1, p2, p3⟩ := box4 HY6.out
  go_wp2_with fail
  clear q0 q1 q2 q3 p0 p1 p2 p3
  go_region_held3 (fun w' => (w'.cell? ⟨w.heap.size, 0, none⟩ = some (.slice A0 l0.length c0) ∧ w'.cell? ⟨w.heap.size, 1, none⟩ = some (.slice A1 l1.length c1) ∧ w'.cell? ⟨w.heap.size, 2, none⟩ = some (.slice A2 l2.length c2) ∧ w'.cell? ⟨w.heap.size, 3, none⟩ = some (.slice A3 l3.length c3)) ∧ w'.cell? ⟨w4.heap.size, 0, none⟩ = some (.slice B0 m0.length d0) ∧ w'.cell? ⟨w4.heap.size, 1, none⟩ = some (.slice B1 l1.length d1) ∧ w'.cell? ⟨w4.heap.size, 2, none⟩ = some (.slice B2 m2.length d2) ∧ w'.cell? ⟨w4.heap.size, 3, none⟩ = some (.slice B3 m3.length d3))
    (first | exact ⟨box4 HX6.out, box4 HY6.out⟩ | exact ⟨box4 HX7.out, box4 HY7.out⟩ | exact ⟨box4 HX8.out, box4 HY8.out⟩)
    (first | (go_at_call 24; refine (toHeap_c E0.out E2.out E3.out HS.out (HI.out.below (below_drew1 HB6.out))).mono ?_; rintro e w7 ⟨B0', d0', B1', d1', B2', d2', B3', d3', rfl, hO, hb⟩; have HB7 := Aside0.mk (below_step (below_drew1 HB6.out) hb); have HT7 := Aside0.mk (below_step (below_drew1 HT6.out) hb); have HX7 := Aside0.mk (blk_below (blk_drew HX6.out) hb); have HY7 := Aside0.mk (blk_below (blk_drew HY6.out) hb); have HO7 := Aside0.mk ((HO6.out.below (below_drew1 (Below.refl _ _))).below hb); have HV7 := Aside0.mk (Kd.R_below (Kd.R_below HV6.out (below_drew1 (Below.refl _ _))) hb); have HG7 := Aside0.mk (Kd.R_below (Kd.R_below HG6.out (below_drew1 (Below.refl _ _))) hb); have HS7 := Aside0.mk hb.size; have HP7 := Aside0.mk hO; clear hO hb) | (go_at_call 26; refine (eqHeap_c HO7.out.reads HP7.out.reads (fun x hx => by have := (HF.out.f x hx).2; omega)).mono ?_; rintro e w8 ⟨rfl, hb⟩; have HB8 := Aside0.mk (below_step HB7.out hb); have HT8 := Aside0.mk (below_step HT7.out hb); have HX8 := Aside0.mk (blk_below HX7.out hb); have HY8 := Aside0.mk (blk_below HY7.out hb); have HO8 := Aside0.mk (HO7.out.below hb); have HV8 := Aside0.mk (Kd.R_below HV7.out hb); have HG8 := Aside0.mk (Kd.R_below HG7.out hb); have HS8 := Aside0.mk hb.size; clear hb))
  clear HB6 HT6 HX6 HY6 HO6 HV6 HG6 HB7 HT7 HX7 HY7 HO7 HV7 HG7 HP7
  obtain ⟨q0, q1, q2, q3⟩ := box4 HX8.out
  obtain ⟨p0, p1, p2, p3⟩ := box4 HY8.out
  go_wp2_with fail
  have hle : w4.heap.size ≤ w8.heap.size := by have h1 := HW4.out; have h2 := HS5.out; have h3 := HS6.out; have h4 : w6.heap.size ≤ w7.heap.size := HS7.out; have h5 := HS8.out; omega
  refine (markMemHeap_calls 1 w4.heap.size w3 w8 _ _ _ _ _ _ _ _ _ _ _ _ HT8.out HO8.out hle (by omega) (by have := HCN.out; omega) (by have := HF.out.o; omega)).mono ?_
  rintro e w9 ⟨rfl, _, _, _, _, hb, hk⟩
  rw [← EK.out]
  have HB9 := Aside0.mk (below_step HB3.out hb)
  have HC9 := Aside0.mk hb
  have HX9 := Aside0.mk (blk_kept HX8.out hk (fun h1 => by have h2 := HLT.out; have h3 := h1.1; omega))
  have HV9 := Aside0.mk (RI_kept HV8.out hk (fun k h1 h2 h3 => by have h4 := h3.1; omega))
  have HG9 := Aside0.mk (RI_kept HG8.out hk (fun k h1 h2 h3 => by have h4 := h3.2; have h5 := HW4.out; omega))
  clear hb hk HB8 HT8 HX8 HY8 HO8 HV8 HG8 hle q0 q1 q2 q3 p0 p1 p2 p3
  obtain ⟨q0, q1, q2, q3⟩ := box4 HX9.out
  go_wp2_with fail
  refine (eqInt_c HG9.out HV9.out).mono ?_
  rintro e w10 ⟨rfl, hd⟩
  have hb := hd.below
  have HB10 := Aside0.mk (below_step HB9.out hb)
  have HC10 := Aside0.mk (below_step HC9.out hb)
  have HX10 := Aside0.mk (blk_below HX9.out hb)
  have HV10 := Aside0.mk (Kd.R_below HV9.out hb)
  have HG10 := Aside0.mk (Kd.R_below HG9.out hb)
  clear hb hd HB9 HX9 HV9 HG9 q0 q1 q2 q3
  obtain ⟨q0, q1, q2, q3⟩ := box4 HX10.out
  go_wp2_with fail
  have HP := Aside0.mk (Kd.R_lower (Kd.R_mono (Kd.R_bound HG10.out) (ok' := fun k => w4.heap.size < k ∧ k < w10.heap.size) (fun k h1 => ⟨by have h2 := h1.2.1; have h3 := HW4.out; omega, h1.2.2.1⟩)) (show w3.heap.size ≤ _ by have h2 := HS4.out.2; have h3 := HW4.out; omega))
  have hgm : 1 + (R.length : Int) ≤ 1152921504606846976 := by have := HRL.out; omega
  refine (laws_markIntS.calls (R.length + 1) _ _ R 1 _ _ w3 _ HC10.out HP.out (markIntS_f 1 (by omega) R hgm _ (by omega))).mono ?_
  rintro e w11 ⟨rfl, hr, hb, hk⟩
  rw [← EG.out]
  have HZ10 := Aside0.mk HC10.out.size
  have HB11 := Aside0.mk (below_step HB3.out hb)
  have HX11 := Aside0.mk (blk_kept HX10.out hk (fun h1 => by have h2 := HLT.out; have h3 := h1.1; have h4 := HS4.out.2; omega))
  have HV11 := Aside0.mk (RI_kept HV10.out hk (fun k h1 h2 h3 => by have h4 := h3.1; have h5 := HS4.out.2; omega))
  have HG11 := Aside0.mk hr
  clear hr hb hk HB10 HC10 HX10 HV10 HG10 HP q0 q1 q2 q3
  obtain ⟨q0, q1, q2, q3⟩ := box4 HX11.out
  go_wp2_with fail
  refine (heldInt_c HG11.out (by omega) hgm).mono ?_
  rintro e w12 ⟨rfl, hd⟩
  rw [← EG.out]
  have hb := hd.below
  have HB12 := Aside0.mk (below_step HB11.out hb)
  have HX12 := Aside0.mk (blk_below HX11.out hb)
  have HV12 := Aside0.mk (Kd.R_below HV11.out hb)
  have HG12 := Aside0.mk (Kd.R_below HG11.out hb)
  clear hb hd HB11 HX11 HV11 HG11 q0 q1 q2 q3
  obtain ⟨q0, q1, q2, q3⟩ := box4 HX12.out
  go_wp2_with fail
  refine (toHeap_c E0.out E2.out E3.out HS.out (HI.out.below HB12.out)).mono ?_
  rintro e w13 ⟨B0, d0, B1, d1, B2, d2, B3, d3, rfl, hO, hb⟩
  have HB13 := Aside0.mk (below_step HB12.out hb)
  have HV13 := Aside0.mk (Kd.R_below HV12.out hb)
  have HG13 := Aside0.mk (Kd.R_below HG12.out hb)
  have HO13 := Aside0.mk hO
  clear hO hb HB12 HX12 HV12 HG12 q0 q1 q2 q3
  go_wp2_with fail
  refine (MemReach_calls _ _ _ _ _ _ _ _ _ _ _ _ _ HO13.out.reads (by have := HF.out.w; omega) HF.out.f).mono ?_
  rintro e w14 ⟨v2, rfl, hr, hb⟩
  have HB14 := Aside0.mk (below_step HB13.out hb)
  have HV14 := Aside0.mk (Kd.R_below HV13.out hb)
  have HG14 := Aside0.mk (Kd.R_below HG13.out hb)
  rw [← ER.out] at hr
  have HH14 := Aside0.mk hr
  clear hr hb HB13 HV13 HG13 HO13
  go_wp2_with fail
  refine (eqInt_c HH14.out HV14.out).mono ?_
  rintro e w15 ⟨rfl, hd⟩
  have HB15 := Aside0.mk (below_step HB14.out hd.below)
  have HG15 := Aside0.mk (Kd.R_below HG14.out hd.below)
  clear hd HB14 HV14 HG14 HH14
  go_wp2_with fail
  refine (heldInt_c HG15.out (by omega) hgm).mono ?_
  rintro e w16 ⟨rfl, hd⟩
  rw [← EG.out]
  have HB16 := Aside0.mk (below_step HB15.out hd.below)
  clear hd HB15 HG15
  go_wp2
  go_ret
  exact ⟨rfl, HB16.out⟩
end Go.Proofs.Ytigjhfijkdlldaa.H
