/- The law FnExactMemCollect, walked: for every heap it answers true. -/
import Derived.Test.YtigjhfijkdlldaaScoPg
namespace Go.Proofs.Ytigjhfijkdlldaa.H
open Go.RowKit Go.Proofs.YtigjhfijkdlldaaW.PrintWords Go.Proofs.YtigjhfijkdlldaaW.PrintLast Go.Proofs.YtigjhfijkdlldaaW.PrintMore Go.Proofs.Ytigjhfijkdlldaa.Q
set_option linter.unusedVariables false
set_option linter.unusedSimpArgs false
theorem lco10_tab : rtab .any (opsOf Try.f9 10) = (true, [([], []), ([], []), ([1], [1]), ([0, 2, 2], [0, 2]), ([3], [3])]) := by kernel_rfl
theorem lco10_bits : waitsOk [([], []), ([], []), ([1], [1]), ([0, 2, 2], [0, 2]), ([3], [3])] [0, 0, 2, 7, 15] = true := by kernel_rfl
set_option maxHeartbeats 4000000 in
set_option maxRecDepth 100000 in
theorem FnExactMemCollect_walk (A0 A1 A2 A3 : Option Addr) (c0 c1 c2 c3 : Nat) (l0 : List S72) (l1 : List Int) (l2 l3 : List S126) (w : World) (h : InL w A0 c0 A1 c1 A2 c2 A3 c3 l0 l1 l2 l3) (hf : ∀ x ∈ l0, Fits x.f1 x.f2) :
  Calls Try.prog 9 #[.agg #[.slice A0 l0.length c0, .slice A1 l1.length c1, .slice A2 l2.length c2, .slice A3 l3.length c3]] w fun e w' => e = .returned (.bool true) ∧ Below w.heap.size w w' := by
 obtain ⟨r, hr, hr1, hr2, hsm⟩ := szMemHeap_f l0 l1 l2 l3 1048576 (by omega) (C_max h.r0) hf (C_max h.r1) (C_max h.r2) (C_max h.r3)
 have HR := AK (hr (l0.length + 1) (by omega))
 have HI0 := AK h
 have HSM := AK hsm
 have HW1 := AK (show Below w.heap.size w (w.alloc (.cells #[.slice A0 l0.length c0, .slice A1 l1.length c1, .slice A2 l2.length c2, .slice A3 l3.length c3] 45 (0, 0))) ∧ (w.alloc (.cells #[.slice A0 l0.length c0, .slice A1 l1.length c1, .slice A2 l2.length c2, .slice A3 l3.length c3] 45 (0, 0))).heap[w.heap.size]? = some (.cells #[.slice A0 l0.length c0, .slice A1 l1.length c1, .slice A2 l2.length c2, .slice A3 l3.length c3] 45 (0, 0)) from ⟨below_alloc (Below.refl w.heap.size w) _, blk_new w _⟩)
 clear hr h hf hsm hr1 hr2
 go_enter Try.func9, Try.ntmps9
 go_wp2_with fail
 generalize w.alloc (.cells #[.slice A0 l0.length c0, .slice A1 l1.length c1, .slice A2 l2.length c2, .slice A3 l3.length c3] 45 (0, 0)) = w1 at HW1 ⊢
 have HB := AK (Below.refl w1.heap.size w1)
 refine (laws_szMemHeap.calls _ A0 c0 l0 A1 c1 l1 A2 c2 l2 A3 c3 l3 1048576 r _ (HI0.out.below HW1.out.1).r0 HI0.out.k0 (HI0.out.below HW1.out.1).r1 HI0.out.k1 (HI0.out.below HW1.out.1).r2 HI0.out.k2 (HI0.out.below HW1.out.1).r3 HI0.out.k3 HR.out).mono ?_
 rintro e w2 ⟨rfl, hb⟩
 replace HB := AK (bst HB.out hb)
 clear hb
 by_cases hc : r < 0
 case pos =>
  have cb : decide (r < 0) = true := deT hc
  clear hc
  go_wp2
  go_ret
  exact ⟨rfl, bst HW1.out.1 HB.out⟩
 have cb : decide (r < 0) = false := deF hc
 have HS := AK (HSM.out (by omega))
 clear HSM hc
 obtain ⟨p0, e0⟩ : ∃ p0, p0 = l0.map cO := ⟨_, rfl⟩
 obtain ⟨p2, e2⟩ : ∃ p2, p2 = l2.map cW := ⟨_, rfl⟩
 obtain ⟨p3, e3⟩ : ∃ p3, p3 = l3.map cW := ⟨_, rfl⟩
 have E0 := AK e0
 have E2 := AK e2
 have E3 := AK e3
 have HF := AK (small_fine e0 e2 e3 HS.out)
 have hcn : cntHP p0 l1 p2 p3 ≤ 1099517927424 := by rw [e0, e2, e3]; exact cntHP_fine HS.out
 have hc0 : 0 ≤ cntHP p0 l1 p2 p3 := by have := cntO_nonneg p0; unfold cntHP; omega
 obtain ⟨G, mv, hG⟩ : ∃ G mv, (G, mv) = collectB ⟨p0, l1, p2, p3⟩ := ⟨_, _, rfl⟩
 have HCO := AK hG
 have HSG := AK (collect_small hG)
 have hcg := HSG.out.1.cnt
 obtain ⟨kk, ekk⟩ : ∃ kk, kk = 1 + cntHP p0 l1 p2 p3 := ⟨_, rfl⟩
 have hk0 : decide (kk < 0) = false := deF (by omega)
 have EK := AK ekk
 obtain ⟨m1, em1⟩ : ∃ m1, m1 = 1 + cntHP G.o G.r G.w G.d := ⟨_, rfl⟩
 have hm1 : decide (m1 < 0) = false := deF (by omega)
 have EM1 := AK em1
 obtain ⟨m2, em2⟩ : ∃ m2 : Int, m2 = m1 + mv.length := ⟨_, rfl⟩
 have hm2 : decide (m2 < 0) = false := deF (by omega)
 have hmm : (m2 != m2) = false := by simp
 have EM2 := AK em2
 have HCN := AK (And.intro hcn hc0)
 have HM := AK (show 0 ≤ m1 ∧ m1 ≤ 529 ∧ mv.length ≤ 60 from ⟨by omega, by omega, HSG.out.2⟩)
 clear e0 e2 e3 hcn hc0 hG hcg ekk em1 em2
 obtain ⟨y0, y1, y2, y3⟩ := box4 (bbl HW1.out.2 HB.out)
 go_wp2_with fail
 clear y0 y1 y2 y3
 refine (toHeap_c E0.out E2.out E3.out HS.out (HI0.out.below (bst HW1.out.1 HB.out))).mono ?_
 rintro e w3 ⟨P0, kP0, P1, kP1, P2, kP2, P3, kP3, rfl, hO, hb⟩
 replace HB := AK (bst HB.out hb)
 have HP := AK hO
 clear hO hb
 go_wp2_with fail
 refine (specCollect_calls _ _ _ _ _ _ _ _ _ _ _ _ _ HP.out.reads HF.out G mv HCO.out).mono ?_
 rintro e w4 ⟨Q0, kQ0, Q1, kQ1, Q2, kQ2, Q3, kQ3, Ew, kew, rfl, hM, hb⟩
 clear HP
 replace HB := AK (bst HB.out hb)
 have HWG := AK (OwnM.toP (lo := w3.heap.size) (P := fun k => k < w4.heap.size) hM (Nat.le_refl _) (fun k _ hk _ => hk))
 have HWM := AK (OwnM.mv (lo := w3.heap.size) (P := fun k => k < w4.heap.size) hM (Nat.le_refl _) (fun k _ hk _ => hk))
 clear hM hb
 obtain ⟨y0, y1, y2, y3⟩ := box4 (bbl HW1.out.2 HB.out)
 have hz := blk_lt (bbl HW1.out.2 HB.out)
 go_wp2_with fail
 clear hz
 clear y0 y1 y2 y3
 have KW := AK (blk_new w4 (.cells #[.slice Q0 G.o.length kQ0, .slice Q1 G.r.length kQ1, .slice Q2 G.w.length kQ2, .slice Q3 G.d.length kQ3] 28 (0, 0)))
 replace HB := AK (bst HB.out (below_alloc (Below.refl _ _) (.cells #[.slice Q0 G.o.length kQ0, .slice Q1 G.r.length kQ1, .slice Q2 G.w.length kQ2, .slice Q3 G.d.length kQ3] 28 (0, 0))))
 replace HWG := AK (HWG.out.below (below_alloc (Below.refl _ _) (.cells #[.slice Q0 G.o.length kQ0, .slice Q1 G.r.length kQ1, .slice Q2 G.w.length kQ2, .slice Q3 G.d.length kQ3] 28 (0, 0))))
 replace HWM := AK (Kd.R_below HWM.out (below_alloc (Below.refl _ _) (.cells #[.slice Q0 G.o.length kQ0, .slice Q1 G.r.length kQ1, .slice Q2 G.w.length kQ2, .slice Q3 G.d.length kQ3] 28 (0, 0))))
 have hsz_w5 : (w4.alloc (.cells #[.slice Q0 G.o.length kQ0, .slice Q1 G.r.length kQ1, .slice Q2 G.w.length kQ2, .slice Q3 G.d.length kQ3] 28 (0, 0))).heap.size = w4.heap.size + 1 := Array.size_push ..
 generalize e_w5 : w4.alloc (.cells #[.slice Q0 G.o.length kQ0, .slice Q1 G.r.length kQ1, .slice Q2 G.w.length kQ2, .slice Q3 G.d.length kQ3] 28 (0, 0)) = w5 at HB HWG HWM KW hsz_w5 ⊢
 clear e_w5
 have HZ_w5 := AK hsz_w5
 clear hsz_w5
 have HBA := AK HB.out
 have HT := AK (Below.refl w5.heap.size w5)
 refine (toHeap_c E0.out E2.out E3.out HS.out (HI0.out.below (bst HW1.out.1 HB.out))).mono ?_
 rintro e w6 ⟨X0, kX0, X1, kX1, X2, kX2, X3, kX3, rfl, hO, hb⟩
 replace HB := AK (bst HB.out hb)
 replace HWG := AK (HWG.out.below hb)
 replace HWM := AK (Kd.R_below HWM.out hb)
 replace KW := AK (bbl KW.out hb)
 replace HT := AK (bst HT.out hb)
 have HX := AK hO
 have HXO := AK (OwnH.toP (P := fun k => k < w6.heap.size) hO (fun k _ hk => hk))
 have HZ_65 := AK hb.size
 clear hO hb HX
 obtain ⟨y0, y1, y2, y3⟩ := box4 (bbl HW1.out.2 HB.out)
 have hz := blk_lt (bbl HW1.out.2 HB.out)
 go_wp2_with fail
 clear hz
 clear y0 y1 y2 y3
 have KX := AK (blk_new w6 (.cells #[.slice X0 p0.length kX0, .slice X1 l1.length kX1, .slice X2 p2.length kX2, .slice X3 p3.length kX3] 28 (0, 0)))
 replace HB := AK (bst HB.out (below_alloc (Below.refl _ _) (.cells #[.slice X0 p0.length kX0, .slice X1 l1.length kX1, .slice X2 p2.length kX2, .slice X3 p3.length kX3] 28 (0, 0))))
 replace HWG := AK (HWG.out.below (below_alloc (Below.refl _ _) (.cells #[.slice X0 p0.length kX0, .slice X1 l1.length kX1, .slice X2 p2.length kX2, .slice X3 p3.length kX3] 28 (0, 0))))
 replace HWM := AK (Kd.R_below HWM.out (below_alloc (Below.refl _ _) (.cells #[.slice X0 p0.length kX0, .slice X1 l1.length kX1, .slice X2 p2.length kX2, .slice X3 p3.length kX3] 28 (0, 0))))
 replace KW := AK (bbl KW.out (below_alloc (Below.refl _ _) (.cells #[.slice X0 p0.length kX0, .slice X1 l1.length kX1, .slice X2 p2.length kX2, .slice X3 p3.length kX3] 28 (0, 0))))
 replace HT := AK (bst HT.out (below_alloc (Below.refl _ _) (.cells #[.slice X0 p0.length kX0, .slice X1 l1.length kX1, .slice X2 p2.length kX2, .slice X3 p3.length kX3] 28 (0, 0))))
 replace HXO := AK (HXO.out.below (below_alloc (Below.refl _ _) (.cells #[.slice X0 p0.length kX0, .slice X1 l1.length kX1, .slice X2 p2.length kX2, .slice X3 p3.length kX3] 28 (0, 0))))
 have hsz_w7 : (w6.alloc (.cells #[.slice X0 p0.length kX0, .slice X1 l1.length kX1, .slice X2 p2.length kX2, .slice X3 p3.length kX3] 28 (0, 0))).heap.size = w6.heap.size + 1 := Array.size_push ..
 generalize e_w7 : w6.alloc (.cells #[.slice X0 p0.length kX0, .slice X1 l1.length kX1, .slice X2 p2.length kX2, .slice X3 p3.length kX3] 28 (0, 0)) = w7 at HB HWG HWM KW HT HXO KX hsz_w7 ⊢
 clear e_w7
 have HZ_w7 := AK hsz_w7
 clear hsz_w7
 refine (MemCollect_calls _ _ _ _ _ _ _ _ _ _ _ _ _ HXO.out.reads ⟨by have := HF.out.w; omega, HF.out.f⟩ G mv HCO.out).mono ?_
 rintro e w8 ⟨Y0, kY0, Y1, kY1, Y2, kY2, Y3, kY3, Eg, keg, rfl, hM, hb⟩
 replace HB := AK (bst HB.out hb)
 replace HWG := AK (HWG.out.below hb)
 replace HWM := AK (Kd.R_below HWM.out hb)
 replace KW := AK (bbl KW.out hb)
 replace HT := AK (bst HT.out hb)
 replace HXO := AK (HXO.out.below hb)
 replace KX := AK (bbl KX.out hb)
 have HZ_87 := AK hb.size
 have HGO := AK (OwnM.toP (lo := w5.heap.size) (P := (fun k => w6.heap.size < k ∧ k < w8.heap.size ∧ some k ≠ (Value.slice Eg mv.length keg).ownBlock)) hM (by have := HZ_w7.out; have := HZ_65.out; omega) (fun k h1 h2 h3 => ⟨by have := HZ_w7.out; omega, h2, h3⟩))
 have HGM := AK (OwnM.mv (lo := w5.heap.size) (P := (fun k => w6.heap.size < k ∧ k < w8.heap.size ∧ some k = (Value.slice Eg mv.length keg).ownBlock)) hM (by have := HZ_w7.out; have := HZ_65.out; omega) (fun k h1 h2 h3 => ⟨by have := HZ_w7.out; omega, h2, h3⟩))
 clear hM hb
 obtain ⟨y0, y1, y2, y3⟩ := box4 KW.out
 have hz := blk_lt KW.out
 go_wp2_with fail
 clear hz
 clear y0 y1 y2 y3
 have KG := AK (blk_new w8 (.cells #[.slice Y0 G.o.length kY0, .slice Y1 G.r.length kY1, .slice Y2 G.w.length kY2, .slice Y3 G.d.length kY3] 28 (0, 0)))
 replace HB := AK (bst HB.out (below_alloc (Below.refl _ _) (.cells #[.slice Y0 G.o.length kY0, .slice Y1 G.r.length kY1, .slice Y2 G.w.length kY2, .slice Y3 G.d.length kY3] 28 (0, 0))))
 replace HWG := AK (HWG.out.below (below_alloc (Below.refl _ _) (.cells #[.slice Y0 G.o.length kY0, .slice Y1 G.r.length kY1, .slice Y2 G.w.length kY2, .slice Y3 G.d.length kY3] 28 (0, 0))))
 replace HWM := AK (Kd.R_below HWM.out (below_alloc (Below.refl _ _) (.cells #[.slice Y0 G.o.length kY0, .slice Y1 G.r.length kY1, .slice Y2 G.w.length kY2, .slice Y3 G.d.length kY3] 28 (0, 0))))
 replace KW := AK (bbl KW.out (below_alloc (Below.refl _ _) (.cells #[.slice Y0 G.o.length kY0, .slice Y1 G.r.length kY1, .slice Y2 G.w.length kY2, .slice Y3 G.d.length kY3] 28 (0, 0))))
 replace HT := AK (bst HT.out (below_alloc (Below.refl _ _) (.cells #[.slice Y0 G.o.length kY0, .slice Y1 G.r.length kY1, .slice Y2 G.w.length kY2, .slice Y3 G.d.length kY3] 28 (0, 0))))
 replace HXO := AK (HXO.out.below (below_alloc (Below.refl _ _) (.cells #[.slice Y0 G.o.length kY0, .slice Y1 G.r.length kY1, .slice Y2 G.w.length kY2, .slice Y3 G.d.length kY3] 28 (0, 0))))
 replace KX := AK (bbl KX.out (below_alloc (Below.refl _ _) (.cells #[.slice Y0 G.o.length kY0, .slice Y1 G.r.length kY1, .slice Y2 G.w.length kY2, .slice Y3 G.d.length kY3] 28 (0, 0))))
 replace HGO := AK (HGO.out.below (below_alloc (Below.refl _ _) (.cells #[.slice Y0 G.o.length kY0, .slice Y1 G.r.length kY1, .slice Y2 G.w.length kY2, .slice Y3 G.d.length kY3] 28 (0, 0))))
 replace HGM := AK (Kd.R_below HGM.out (below_alloc (Below.refl _ _) (.cells #[.slice Y0 G.o.length kY0, .slice Y1 G.r.length kY1, .slice Y2 G.w.length kY2, .slice Y3 G.d.length kY3] 28 (0, 0))))
 have hsz_w9 : (w8.alloc (.cells #[.slice Y0 G.o.length kY0, .slice Y1 G.r.length kY1, .slice Y2 G.w.length kY2, .slice Y3 G.d.length kY3] 28 (0, 0))).heap.size = w8.heap.size + 1 := Array.size_push ..
 generalize e_w9 : w8.alloc (.cells #[.slice Y0 G.o.length kY0, .slice Y1 G.r.length kY1, .slice Y2 G.w.length kY2, .slice Y3 G.d.length kY3] 28 (0, 0)) = w9 at HB HWG HWM KW HT HXO KX HGO HGM KG hsz_w9 ⊢
 clear e_w9
 have HZ_w9 := AK hsz_w9
 clear hsz_w9
 have HZ := AK (show w4.heap.size < w5.heap.size ∧ w5.heap.size ≤ w6.heap.size ∧ w6.heap.size < w7.heap.size ∧ w7.heap.size ≤ w8.heap.size ∧ w.heap.size < w1.heap.size ∧ w1.heap.size ≤ w5.heap.size from ⟨by have := HZ_w5.out; omega, HZ_65.out, by have := HZ_w7.out; omega, HZ_87.out, blk_lt HW1.out.2, HBA.out.size⟩)
 clear HZ_w5 HZ_65 HZ_w7 HZ_87 HZ_w9
 refine (eqHeap_c HGO.out.reads HWG.out.reads (fun x hx => by have := HSG.out.1.f x hx; omega)).mono ?_
 rintro e w10 ⟨rfl, hb⟩
 replace HB := AK (bst HB.out hb)
 replace HWG := AK (HWG.out.below hb)
 replace HWM := AK (Kd.R_below HWM.out hb)
 replace KW := AK (bbl KW.out hb)
 replace HT := AK (bst HT.out hb)
 replace HXO := AK (HXO.out.below hb)
 replace KX := AK (bbl KX.out hb)
 replace HGO := AK (HGO.out.below hb)
 replace HGM := AK (Kd.R_below HGM.out hb)
 replace KG := AK (bbl KG.out hb)
 clear hb
 go_wp2_with fail
 refine (eqInt_cP HGM.out HWM.out).mono ?_
 rintro e w11 ⟨rfl, hd⟩
 have hb := hd.below
 replace HB := AK (bst HB.out hb)
 replace HWG := AK (HWG.out.below hb)
 replace HWM := AK (Kd.R_below HWM.out hb)
 replace KW := AK (bbl KW.out hb)
 replace HT := AK (bst HT.out hb)
 replace HXO := AK (HXO.out.below hb)
 replace KX := AK (bbl KX.out hb)
 replace HGO := AK (HGO.out.below hb)
 replace HGM := AK (Kd.R_below HGM.out hb)
 replace KG := AK (bbl KG.out hb)
 clear hb hd
 go_wp2_with fail
 replace HB := AK (bst HB.out (below_drew1 (Below.refl _ _)))
 replace HWG := AK (HWG.out.below (below_drew1 (Below.refl _ _)))
 replace HWM := AK (Kd.R_below HWM.out (below_drew1 (Below.refl _ _)))
 replace KW := AK (bbl KW.out (below_drew1 (Below.refl _ _)))
 replace HT := AK (bst HT.out (below_drew1 (Below.refl _ _)))
 replace HXO := AK (HXO.out.below (below_drew1 (Below.refl _ _)))
 replace KX := AK (bbl KX.out (below_drew1 (Below.refl _ _)))
 replace HGO := AK (HGO.out.below (below_drew1 (Below.refl _ _)))
 replace HGM := AK (Kd.R_below HGM.out (below_drew1 (Below.refl _ _)))
 replace KG := AK (bbl KG.out (below_drew1 (Below.refl _ _)))
 refine start_ (n := 5) (S := (fun w' => (w'.cell? ⟨w6.heap.size, 0, none⟩ = some (.slice X0 p0.length kX0) ∧ w'.cell? ⟨w6.heap.size, 1, none⟩ = some (.slice X1 l1.length kX1) ∧ w'.cell? ⟨w6.heap.size, 2, none⟩ = some (.slice X2 p2.length kX2) ∧ w'.cell? ⟨w6.heap.size, 3, none⟩ = some (.slice X3 p3.length kX3)) ∧ w'.cell? ⟨w.heap.size, 0, none⟩ = some (.slice A0 l0.length c0) ∧ w'.cell? ⟨w.heap.size, 1, none⟩ = some (.slice A1 l1.length c1) ∧ w'.cell? ⟨w.heap.size, 2, none⟩ = some (.slice A2 l2.length c2) ∧ w'.cell? ⟨w.heap.size, 3, none⟩ = some (.slice A3 l3.length c3))) (ds := []) #[fF,fF,fF,fF,fF] (by kernel_rfl) rfl rfl ⟨box4 KX.out, box4 (bbl HW1.out.2 HB.out)⟩ (fun hHeld => ?_); refine with_tabW lco10_tab lco10_bits (fun HT_ HW_ => ?_)
 generalize w11.drew = w_ at HB HWG HWM KW HT HXO KX HGO HGM KG hHeld ⊢
 refine take_ (i := 0) (N := some 42) (v := ?_) (a' := ?_) #[tT,fF,fF,fF,fF] rfl rfl (take_ofW HT_.out HW_.out (by kernel_rfl)) (fun _ _ _ h => h) (Or.inl ⟨by rfl, ?_⟩) hHeld ?_ ?_
 rotate_left
 ·rintro w' ⟨⟨s0, s1, s2, s3⟩, s4, s5, s6, s7⟩
  go_simp
  with_reducible rfl
 rotate_left
 ·exact zP
 refine take_ (i := 1) (N := some 43) (v := ?_) (a' := ?_) #[tT,tT,fF,fF,fF] rfl rfl (take_ofW HT_.out HW_.out (by kernel_rfl)) (fun _ _ _ h => h) (Or.inl ⟨by rfl, ?_⟩) hHeld ?_ ?_
 rotate_left
 ·rintro w' ⟨⟨s0, s1, s2, s3⟩, s4, s5, s6, s7⟩
  go_simp
  with_reducible rfl
 rotate_left
 ·exact zP
 refine one_ (i := 2) (N := some 44) #[tT,tT,tT,fF,fF] rfl rfl (one_of HT_.out (by kernel_rfl)) (by decide) (fun K hK => ?_)
 refine goes_ Try.func24 (by kernel_rfl) rfl #[.agg #[.slice A0 l0.length c0, .slice A1 l1.length c1, .slice A2 l2.length c2, .slice A3 l3.length c3]] (by rfl) rfl rfl zI ?_
 refine (toHeap_c E0.out E2.out E3.out HS.out (HI0.out.below (bst HW1.out.1 HB.out))).mono ?_
 rintro e vz ⟨V0, kV0, V1, kV1, V2, kV2, V3, kV3, rfl, hO, hb⟩
 refine ⟨_, rfl, ?_⟩
 replace HB := AK (bst HB.out hb)
 replace HWG := AK (HWG.out.below hb)
 replace HWM := AK (Kd.R_below HWM.out hb)
 replace KW := AK (bbl KW.out hb)
 replace HT := AK (bst HT.out hb)
 replace HXO := AK (HXO.out.below hb)
 replace KX := AK (bbl KX.out hb)
 replace HGO := AK (HGO.out.below hb)
 replace HGM := AK (Kd.R_below HGM.out hb)
 replace KG := AK (bbl KG.out hb)
 have HV := AK hO
 clear hO hb
 refine hK.out _ _ ⟨box4 KX.out, box4 (bbl HW1.out.2 HB.out)⟩ (fun hHeld => ?_)
 clear hK K
 refine norm_ (a' := ?_) ?_ ?_
 rotate_left
 ·show Act.put _ (some 44) _ = _
  exact zP
 refine one_ (i := 3) (N := some 45) #[tT,tT,tT,tT,fF] rfl rfl (one_of HT_.out (by kernel_rfl)) (by decide) (fun K hK => ?_)
 refine goes_ Try.func26 (by kernel_rfl) rfl #[.agg #[.slice X0 p0.length kX0, .slice X1 l1.length kX1, .slice X2 p2.length kX2, .slice X3 p3.length kX3], .agg #[.slice V0 p0.length kV0, .slice V1 l1.length kV1, .slice V2 p2.length kV2, .slice V3 p3.length kV3]] (by rfl) rfl rfl zI ?_
 refine (eqHeap_c HXO.out.reads HV.out.reads (fun x hx => by have := (HF.out.f x hx).2; omega)).mono ?_
 rintro e ve ⟨rfl, hb⟩
 refine ⟨_, rfl, ?_⟩
 clear HV
 replace HB := AK (bst HB.out hb)
 replace HWG := AK (HWG.out.below hb)
 replace HWM := AK (Kd.R_below HWM.out hb)
 replace KW := AK (bbl KW.out hb)
 replace HT := AK (bst HT.out hb)
 replace HXO := AK (HXO.out.below hb)
 replace KX := AK (bbl KX.out hb)
 replace HGO := AK (HGO.out.below hb)
 replace HGM := AK (Kd.R_below HGM.out hb)
 replace KG := AK (bbl KG.out hb)
 clear hb
 refine hK.out _ _ ⟨box4 KX.out, box4 (bbl HW1.out.2 HB.out)⟩ (fun hHeld => ?_)
 clear hK K
 refine norm_ (a' := ?_) ?_ ?_
 rotate_left
 ·show Act.put _ (some 45) _ = _
  exact zP
 refine pure_ (i := 4) (N := some 46) (v := ?_) (a' := ?_) #[tT,tT,tT,tT,tT] rfl rfl (any_of HT_.out (by kernel_rfl)) (fun _ _ _ h => h) (Or.inl ⟨by rfl, ?_⟩) ?_ ?_
 rotate_left
 ·intro w'
  go_simp
  with_reducible rfl
 rotate_left
 ·exact zP
 refine done_ (done_of HT_.out (by kernel_rfl)) ?_
 clear HT_ HW_ hHeld
 obtain ⟨y0, y1, y2, y3⟩ := box4 KX.out
 go_wp2_with fail
 clear y0 y1 y2 y3
 refine (markHeapP_calls 1 (fun k => k < w6.heap.size) w5 ve _ _ _ _ _ _ _ _ _ _ _ _ HT.out HXO.out (fun k hk => by have h1 := blk_lt KG.out; have h2 := HZ.out; have h3 : k < w6.heap.size := hk; omega) (by omega) (by have := HCN.out; omega) (by have := HF.out.o; omega)).mono ?_
 rintro e w12 ⟨rfl, _, hb, hk⟩
 rw [← EK.out]
 clear KX HXO
 replace HT := AK (hb)
 replace HB := AK (bst HBA.out hb)
 replace KW := AK (blk_kept KW.out hk (fun h1 => by have h2 := HZ.out; have h3 := h1.1; omega))
 replace KG := AK (blk_kept KG.out hk (fun h1 => by have h2 := HZ.out; have h3 := h1.2; omega))
 replace HWG := AK (HWG.out.kept hk (fun k h1 h2 => by have h3 := HZ.out; have h4 : k < w4.heap.size := h1; have h5 := h2.1; omega))
 replace HWM := AK (RI_keptP HWM.out hk (fun k h1 h2 => by have h3 := HZ.out; have h4 : k < w4.heap.size := h1; have h5 := h2.1; omega))
 replace HGO := AK (HGO.out.kept hk (fun k h1 h2 => by have h3 := h1.1; have h4 := h2.2; omega))
 replace HGM := AK (RI_keptP HGM.out hk (fun k h1 h2 => by have h3 := h1.1; have h4 := h2.2; omega))
 clear hb hk
 obtain ⟨y0, y1, y2, y3⟩ := box4 KG.out
 obtain ⟨z0, z1, z2, z3⟩ := box4 KW.out
 go_wp2_with fail
 clear y0 y1 y2 y3 z0 z1 z2 z3
 refine (eqHeap_c HGO.out.reads HWG.out.reads (fun x hx => by have := HSG.out.1.f x hx; omega)).mono ?_
 rintro e w13 ⟨rfl, hb⟩
 replace HB := AK (bst HB.out hb)
 replace HWG := AK (HWG.out.below hb)
 replace HWM := AK (Kd.R_below HWM.out hb)
 replace KW := AK (bbl KW.out hb)
 replace HT := AK (bst HT.out hb)
 replace HGO := AK (HGO.out.below hb)
 replace HGM := AK (Kd.R_below HGM.out hb)
 replace KG := AK (bbl KG.out hb)
 clear hb
 go_wp2_with fail
 refine (eqInt_cP HGM.out HWM.out).mono ?_
 rintro e w14 ⟨rfl, hd⟩
 have hb := hd.below
 replace HB := AK (bst HB.out hb)
 replace HWG := AK (HWG.out.below hb)
 replace HWM := AK (Kd.R_below HWM.out hb)
 replace KW := AK (bbl KW.out hb)
 replace HT := AK (bst HT.out hb)
 replace HGO := AK (HGO.out.below hb)
 replace HGM := AK (Kd.R_below HGM.out hb)
 replace KG := AK (bbl KG.out hb)
 clear hb hd
 obtain ⟨y0, y1, y2, y3⟩ := box4 KG.out
 go_wp2_with fail
 clear y0 y1 y2 y3
 refine (markHeapP_calls 1 (fun k => w6.heap.size < k ∧ k < w8.heap.size ∧ some k ≠ (Value.slice Eg mv.length keg).ownBlock) w5 w14 _ _ _ _ _ _ _ _ _ _ _ _ HT.out HGO.out (fun k hk => by have h1 := blk_lt KG.out; have h2 := hk.2.1; omega) (by omega) (by rw [← EM1.out]; have := HM.out; omega) (by have := HSG.out.1.n; omega)).mono ?_
 rintro e w15 ⟨rfl, hmk, hb, hk⟩
 rw [← EM1.out]
 clear HGO
 have HMK := AK hmk
 replace HT := AK (hb)
 replace HB := AK (bst HBA.out hb)
 replace KW := AK (blk_kept KW.out hk (fun h1 => by have h2 := HZ.out; have h3 := h1.1; omega))
 replace KG := AK (blk_kept KG.out hk (fun h1 => by have h2 := h1.2.2.1; omega))
 replace HWG := AK (HWG.out.kept hk (fun k h1 h2 => by have h3 := HZ.out; have h4 : k < w4.heap.size := h1; have h5 := h2.1; omega))
 replace HWM := AK (RI_keptP HWM.out hk (fun k h1 h2 => by have h3 := HZ.out; have h4 : k < w4.heap.size := h1; have h5 := h2.1; omega))
 replace HGM := AK (RI_keptP HGM.out hk (fun k h1 h2 => h2.2.2.2 h1.2.2))
 clear hmk hb hk
 go_wp2_with fail
 refine (laws_markIntS.calls (mv.length + 1) _ _ mv m1 _ _ w5 _ HT.out HGM.out (markIntS_f m1 HM.out.1 mv (by have := HM.out; omega) _ (by omega))).mono ?_
 rintro e w16 ⟨rfl, hr, hb, hk⟩
 rw [← EM2.out]
 replace HT := AK (hb)
 replace HB := AK (bst HBA.out hb)
 replace KW := AK (blk_kept KW.out hk (fun h1 => by have h2 := HZ.out; have h3 := h1.1; omega))
 replace KG := AK (blk_kept KG.out hk (fun h1 => by have h2 := h1.2.1; omega))
 replace HWG := AK (HWG.out.kept hk (fun k h1 h2 => by have h3 := HZ.out; have h4 : k < w4.heap.size := h1; have h5 := h2.1; omega))
 replace HWM := AK (RI_keptP HWM.out hk (fun k h1 h2 => by have h3 := HZ.out; have h4 : k < w4.heap.size := h1; have h5 := h2.1; omega))
 replace HMK := AK (HMK.out.kept hk (fun k h1 h2 => h1.2.2 h2.2.2))
 replace HGM := AK (hr)
 clear hr hb hk
 obtain ⟨y0, y1, y2, y3⟩ := box4 KG.out
 go_wp2_with fail
 clear y0 y1 y2 y3
 refine (heldHeap_calls HMK.out (by omega) (by have := HSG.out.1.n; omega) m1 (by rw [EM1.out]; unfold cntHP; omega) (by have := HM.out; omega)).mono ?_
 rintro e w17 ⟨rfl, hb⟩
 replace HB := AK (bst HB.out hb)
 replace HWG := AK (HWG.out.below hb)
 replace HWM := AK (Kd.R_below HWM.out hb)
 replace KW := AK (bbl KW.out hb)
 replace HT := AK (bst HT.out hb)
 replace HGM := AK (Kd.R_below HGM.out hb)
 replace KG := AK (bbl KG.out hb)
 replace HMK := AK (HMK.out.below hb)
 clear hb
 go_wp2_with fail
 refine (heldInt_cP HGM.out HM.out.1 (by have := HM.out; omega)).mono ?_
 rintro e w18 ⟨rfl, hd⟩
 rw [← EM2.out]
 have hb := hd.below
 replace HB := AK (bst HB.out hb)
 replace HWG := AK (HWG.out.below hb)
 replace HWM := AK (Kd.R_below HWM.out hb)
 replace KW := AK (bbl KW.out hb)
 replace HT := AK (bst HT.out hb)
 replace HGM := AK (Kd.R_below HGM.out hb)
 replace KG := AK (bbl KG.out hb)
 replace HMK := AK (HMK.out.below hb)
 clear hb hd
 obtain ⟨y0, y1, y2, y3⟩ := box4 (bbl HW1.out.2 HB.out)
 go_wp2_with fail
 clear y0 y1 y2 y3
 refine (toHeap_c E0.out E2.out E3.out HS.out (HI0.out.below (bst HW1.out.1 HB.out))).mono ?_
 rintro e w19 ⟨U0, kU0, U1, kU1, U2, kU2, U3, kU3, rfl, hO, hb⟩
 replace HB := AK (bst HB.out hb)
 replace HWG := AK (HWG.out.below hb)
 replace HWM := AK (Kd.R_below HWM.out hb)
 replace KW := AK (bbl KW.out hb)
 replace HT := AK (bst HT.out hb)
 replace HGM := AK (Kd.R_below HGM.out hb)
 replace KG := AK (bbl KG.out hb)
 replace HMK := AK (HMK.out.below hb)
 have HU := AK hO
 clear hO hb
 go_wp2_with fail
 refine (MemCollect_calls _ _ _ _ _ _ _ _ _ _ _ _ _ HU.out.reads ⟨by have := HF.out.w; omega, HF.out.f⟩ G mv HCO.out).mono ?_
 rintro e w20 ⟨T0, kT0, T1, kT1, T2, kT2, T3, kT3, Eh, keh, rfl, hM, hb⟩
 clear HU
 replace HB := AK (bst HB.out hb)
 replace HWG := AK (HWG.out.below hb)
 replace HWM := AK (Kd.R_below HWM.out hb)
 replace KW := AK (bbl KW.out hb)
 replace HT := AK (bst HT.out hb)
 replace HGM := AK (Kd.R_below HGM.out hb)
 replace KG := AK (bbl KG.out hb)
 replace HMK := AK (HMK.out.below hb)
 have HHG := AK hM
 clear hM hb
 obtain ⟨y0, y1, y2, y3⟩ := box4 KW.out
 have hz := blk_lt KW.out
 go_wp2_with fail
 clear hz
 clear y0 y1 y2 y3
 have KH := AK (blk_new w20 (.cells #[.slice T0 G.o.length kT0, .slice T1 G.r.length kT1, .slice T2 G.w.length kT2, .slice T3 G.d.length kT3] 28 (0, 0)))
 replace HB := AK (bst HB.out (below_alloc (Below.refl _ _) (.cells #[.slice T0 G.o.length kT0, .slice T1 G.r.length kT1, .slice T2 G.w.length kT2, .slice T3 G.d.length kT3] 28 (0, 0))))
 replace HWG := AK (HWG.out.below (below_alloc (Below.refl _ _) (.cells #[.slice T0 G.o.length kT0, .slice T1 G.r.length kT1, .slice T2 G.w.length kT2, .slice T3 G.d.length kT3] 28 (0, 0))))
 replace HWM := AK (Kd.R_below HWM.out (below_alloc (Below.refl _ _) (.cells #[.slice T0 G.o.length kT0, .slice T1 G.r.length kT1, .slice T2 G.w.length kT2, .slice T3 G.d.length kT3] 28 (0, 0))))
 replace KW := AK (bbl KW.out (below_alloc (Below.refl _ _) (.cells #[.slice T0 G.o.length kT0, .slice T1 G.r.length kT1, .slice T2 G.w.length kT2, .slice T3 G.d.length kT3] 28 (0, 0))))
 replace HT := AK (bst HT.out (below_alloc (Below.refl _ _) (.cells #[.slice T0 G.o.length kT0, .slice T1 G.r.length kT1, .slice T2 G.w.length kT2, .slice T3 G.d.length kT3] 28 (0, 0))))
 replace HGM := AK (Kd.R_below HGM.out (below_alloc (Below.refl _ _) (.cells #[.slice T0 G.o.length kT0, .slice T1 G.r.length kT1, .slice T2 G.w.length kT2, .slice T3 G.d.length kT3] 28 (0, 0))))
 replace KG := AK (bbl KG.out (below_alloc (Below.refl _ _) (.cells #[.slice T0 G.o.length kT0, .slice T1 G.r.length kT1, .slice T2 G.w.length kT2, .slice T3 G.d.length kT3] 28 (0, 0))))
 replace HMK := AK (HMK.out.below (below_alloc (Below.refl _ _) (.cells #[.slice T0 G.o.length kT0, .slice T1 G.r.length kT1, .slice T2 G.w.length kT2, .slice T3 G.d.length kT3] 28 (0, 0))))
 replace HHG := AK (HHG.out.below (below_alloc (Below.refl _ _) (.cells #[.slice T0 G.o.length kT0, .slice T1 G.r.length kT1, .slice T2 G.w.length kT2, .slice T3 G.d.length kT3] 28 (0, 0))))
 have hsz_w21 : (w20.alloc (.cells #[.slice T0 G.o.length kT0, .slice T1 G.r.length kT1, .slice T2 G.w.length kT2, .slice T3 G.d.length kT3] 28 (0, 0))).heap.size = w20.heap.size + 1 := Array.size_push ..
 generalize e_w21 : w20.alloc (.cells #[.slice T0 G.o.length kT0, .slice T1 G.r.length kT1, .slice T2 G.w.length kT2, .slice T3 G.d.length kT3] 28 (0, 0)) = w21 at HB HWG HWM KW HT HGM KG HMK HHG KH hsz_w21 ⊢
 clear e_w21
 have HZ_w21 := AK hsz_w21
 clear hsz_w21
 refine (eqHeap_c HHG.out.own.reads HWG.out.reads (fun x hx => by have := HSG.out.1.f x hx; omega)).mono ?_
 rintro e w22 ⟨rfl, hb⟩
 replace HB := AK (bst HB.out hb)
 replace HWG := AK (HWG.out.below hb)
 replace HWM := AK (Kd.R_below HWM.out hb)
 replace KW := AK (bbl KW.out hb)
 replace HT := AK (bst HT.out hb)
 replace HGM := AK (Kd.R_below HGM.out hb)
 replace KG := AK (bbl KG.out hb)
 replace HMK := AK (HMK.out.below hb)
 replace HHG := AK (HHG.out.below hb)
 replace KH := AK (bbl KH.out hb)
 clear hb
 go_wp2_with fail
 refine (eqInt_cP HHG.out.m HWM.out).mono ?_
 rintro e w23 ⟨rfl, hd⟩
 have hb := hd.below
 replace HB := AK (bst HB.out hb)
 replace HWG := AK (HWG.out.below hb)
 replace HWM := AK (Kd.R_below HWM.out hb)
 replace KW := AK (bbl KW.out hb)
 replace HT := AK (bst HT.out hb)
 replace HGM := AK (Kd.R_below HGM.out hb)
 replace KG := AK (bbl KG.out hb)
 replace HMK := AK (HMK.out.below hb)
 replace HHG := AK (HHG.out.below hb)
 replace KH := AK (bbl KH.out hb)
 clear hb hd
 obtain ⟨y0, y1, y2, y3⟩ := box4 KG.out
 go_wp2_with fail
 clear y0 y1 y2 y3
 refine (heldHeap_calls HMK.out (by omega) (by have := HSG.out.1.n; omega) m1 (by rw [EM1.out]; unfold cntHP; omega) (by have := HM.out; omega)).mono ?_
 rintro e w24 ⟨rfl, hb⟩
 replace HB := AK (bst HB.out hb)
 replace HWG := AK (HWG.out.below hb)
 replace HWM := AK (Kd.R_below HWM.out hb)
 replace KW := AK (bbl KW.out hb)
 replace HT := AK (bst HT.out hb)
 replace HGM := AK (Kd.R_below HGM.out hb)
 replace KG := AK (bbl KG.out hb)
 replace HMK := AK (HMK.out.below hb)
 replace HHG := AK (HHG.out.below hb)
 replace KH := AK (bbl KH.out hb)
 clear hb
 go_wp2_with fail
 refine (heldInt_cP HGM.out HM.out.1 (by have := HM.out; omega)).mono ?_
 rintro e w25 ⟨rfl, hd⟩
 rw [← EM2.out]
 have hb := hd.below
 replace HB := AK (bst HB.out hb)
 replace HWG := AK (HWG.out.below hb)
 replace HWM := AK (Kd.R_below HWM.out hb)
 replace KW := AK (bbl KW.out hb)
 replace HT := AK (bst HT.out hb)
 replace HGM := AK (Kd.R_below HGM.out hb)
 replace KG := AK (bbl KG.out hb)
 replace HMK := AK (HMK.out.below hb)
 replace HHG := AK (HHG.out.below hb)
 replace KH := AK (bbl KH.out hb)
 clear hb hd
 go_wp2
 go_ret
 exact ⟨rfl, bst HW1.out.1 HB.out⟩
end Go.Proofs.Ytigjhfijkdlldaa.H
