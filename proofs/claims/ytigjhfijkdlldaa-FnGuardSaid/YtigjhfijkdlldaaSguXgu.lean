import Derived.Test.YtigjhfijkdlldaaSguYw
import Derived.Test.YtigjhfijkdlldaaSguJe
import Derived.Test.YtigjhfijkdlldaaSguHmc
import Derived.Test.YtigjhfijkdlldaaSguHsc
/- The law FnGuard, walked. -/
namespace Go.Proofs.Ytigjhfijkdlldaa.H
open Go.RowKit Go.Proofs.YtigjhfijkdlldaaW.PrintWords Go.Proofs.YtigjhfijkdlldaaW.PrintLast Go.Proofs.YtigjhfijkdlldaaW.PrintMore Go.Proofs.Ytigjhfijkdlldaa.Q
set_option linter.unusedVariables false
set_option linter.unusedSimpArgs false
theorem gu20_tab : rtab .any (opsOf Try.f11 20) = (true, [([], []), ([], []), ([1], [1]), ([0, 2], [0, 2]), ([3], [3]), ([], []), ([], []), ([6], [6]), ([5, 7], [5, 7]), ([8], [8]), ([4, 9], [4, 9]), ([], []), ([11, 10, 0, 1, 2, 3, 4, 5, 6, 7, 8, 9, 10, 11], [10, 11])]) := by kernel_rfl
theorem gu20_bits : waitsOk [([], []), ([], []), ([1], [1]), ([0, 2], [0, 2]), ([3], [3]), ([], []), ([], []), ([6], [6]), ([5, 7], [5, 7]), ([8], [8]), ([4, 9], [4, 9]), ([], []), ([11, 10, 0, 1, 2, 3, 4, 5, 6, 7, 8, 9, 10, 11], [10, 11])] [0, 0, 2, 7, 15, 0, 0, 64, 224, 480, 1023, 0, 4095] = true := by kernel_rfl

theorem gu30_tab : rtab .any (opsOf Try.f11 30) = (true, [([], []), ([], []), ([1], [1]), ([2], [2]), ([2], [2]), ([3, 4, 2], [3, 4]), ([0, 5, 5], [0, 5]), ([6, 6, 0, 1, 2, 3, 4, 5, 6], [6])]) := by kernel_rfl
theorem gu30_bits : waitsOk [([], []), ([], []), ([1], [1]), ([2], [2]), ([2], [2]), ([3, 4, 2], [3, 4]), ([0, 5, 5], [0, 5]), ([6, 6, 0, 1, 2, 3, 4, 5, 6], [6])] [0, 0, 2, 6, 6, 30, 63, 127] = true := by kernel_rfl
theorem not_more {a b c d : Nat} (h : a + b ≤ c + d) : decide ((c : Int) + (d : Int) < (a : Int) + (b : Int)) = false := deF (by omega)
theorem wrap_two {a b : Nat} (h : a ≤ 20) (h' : b ≤ 20) : wrap64 ((a : Int) + (b : Int)) = a + b := wrap_in (by omega) (by omega)
set_option maxHeartbeats 4000000 in
set_option maxRecDepth 100000 in
theorem FnGuard_walk {A : Option Addr} {c : Nat} {code : List Int} (w : World) (hr : Kd.C (Kd.int .u8) w A code.length code) (hc : code.length ≤ c) (hb : ∀ b ∈ code, 0 ≤ b ∧ b < 256) :
    Calls Try.prog 11 #[.slice A code.length c] w fun e w' => e = .returned (.bool true) ∧ Below w.heap.size w w' := by
  have HC := AK (And.intro hr (And.intro hc hb))
  clear hr hc hb
  by_cases h20 : (1048576 : Int) < (code.length : Int)
  · have c1 : decide ((1048576 : Int) < (code.length : Int)) = true := deT h20
    have c2 : decide (1048576 < code.length) = true := deT (by omega)
    have c3 := eq_true (show 1048576 < code.length by omega)
    clear h20
    go_enter Try.func11, Try.ntmps11
    go_wp2
    go_ret
    exact ⟨rfl, Below.refl _ _⟩
  have c1 : decide ((1048576 : Int) < (code.length : Int)) = false := deF h20
  have c2 : decide (1048576 < code.length) = false := deF (by omega)
  have c3 := eq_false (show ¬ 1048576 < code.length by omega)
  clear h20
  go_enter Try.func11, Try.ntmps11
  go_wp2_with fail
  clear c1 c2 c3
  refine (drawCollect_c HC.out.1 HC.out.2.1 HC.out.2.2).mono ?_
  rintro en w1 ⟨R, B0, d0, B1, d1, B2, d2, B3, d3, rfl, hg, hO, hb⟩
  have HF := AK hg.fine
  have HBD := AK hg
  have HB := AK hb
  have HI := AK hO.reads
  clear hg hO hb
  obtain ⟨bo, hbo⟩ : ∃ b, b = okB R.o R.r R.w R.d := ⟨_, rfl⟩
  have HO := AK hbo
  clear hbo
  go_upto_region 4 with fail
  have HX := AK (blk_new w1 (.cells #[.slice B0 R.o.length d0, .slice B1 R.r.length d1, .slice B2 R.w.length d2, .slice B3 R.d.length d3] 28 (0, 0)))
  replace HB := AK (bst HB.out (below_alloc (Below.refl _ _) (.cells #[.slice B0 R.o.length d0, .slice B1 R.r.length d1, .slice B2 R.w.length d2, .slice B3 R.d.length d3] 28 (0, 0))))
  replace HI := AK (HI.out.below (below_alloc (Below.refl _ _) (.cells #[.slice B0 R.o.length d0, .slice B1 R.r.length d1, .slice B2 R.w.length d2, .slice B3 R.d.length d3] 28 (0, 0))))
  generalize w1.alloc (.cells #[.slice B0 R.o.length d0, .slice B1 R.r.length d1, .slice B2 R.w.length d2, .slice B3 R.d.length d3] 28 (0, 0)) = w2 at HB HI HX ⊢
  generalize w1.heap.size = n3 at HX ⊢
  obtain ⟨p0, p1, p2, p3⟩ := box4 HX.out
  go_wp2_with fail
  clear p0 p1 p2 p3
  obtain ⟨M, mv, eM⟩ : ∃ M mv, (M, mv) = collectB R := ⟨_, _, rfl⟩
  refine (MemCollect_calls _ _ _ _ _ _ _ _ _ _ _ _ _ HI.out ⟨by have := HF.out.w; omega, HF.out.f⟩ M mv eM).mono ?_
  rintro en w3 ⟨Q0, t0, Q1, t1, Q2, t2, Q3, t3, F, fc, rfl, hO, hb⟩
  have EM := AK eM
  have HJ := AK hO.own.reads
  have HV := AK (Kd.R_reads' hO.m).2.2
  have HVC := AK (Kd.R_reads' hO.m).2.1
  replace HB := AK (bst HB.out hb)
  replace HI := AK (HI.out.below hb)
  replace HX := AK (bbl HX.out hb)
  clear hO hb eM
  go_upto_region 5 with fail
  have HY := AK (blk_new w3 (.cells #[.slice Q0 M.o.length t0, .slice Q1 M.r.length t1, .slice Q2 M.w.length t2, .slice Q3 M.d.length t3] 28 (0, 0)))
  replace HB := AK (bst HB.out (below_alloc (Below.refl _ _) (.cells #[.slice Q0 M.o.length t0, .slice Q1 M.r.length t1, .slice Q2 M.w.length t2, .slice Q3 M.d.length t3] 28 (0, 0))))
  replace HI := AK (HI.out.below (below_alloc (Below.refl _ _) (.cells #[.slice Q0 M.o.length t0, .slice Q1 M.r.length t1, .slice Q2 M.w.length t2, .slice Q3 M.d.length t3] 28 (0, 0))))
  replace HX := AK (bbl HX.out (below_alloc (Below.refl _ _) (.cells #[.slice Q0 M.o.length t0, .slice Q1 M.r.length t1, .slice Q2 M.w.length t2, .slice Q3 M.d.length t3] 28 (0, 0))))
  replace HJ := AK (HJ.out.below (below_alloc (Below.refl _ _) (.cells #[.slice Q0 M.o.length t0, .slice Q1 M.r.length t1, .slice Q2 M.w.length t2, .slice Q3 M.d.length t3] 28 (0, 0))))
  replace HV := AK (Kd.C_below HV.out (below_alloc (Below.refl _ _) (.cells #[.slice Q0 M.o.length t0, .slice Q1 M.r.length t1, .slice Q2 M.w.length t2, .slice Q3 M.d.length t3] 28 (0, 0))))
  generalize w3.alloc (.cells #[.slice Q0 M.o.length t0, .slice Q1 M.r.length t1, .slice Q2 M.w.length t2, .slice Q3 M.d.length t3] 28 (0, 0)) = w4 at HB HI HX HJ HV HY ⊢
  generalize w3.heap.size = n4 at HY ⊢
  obtain ⟨p0, p1, p2, p3⟩ := box4 HX.out
  go_wp2_with fail
  clear p0 p1 p2 p3
  refine (specOk_c HI.out (by have := HF.out.o; omega) HF.out.f (by have := HF.out.r; omega) (by have := HF.out.w; omega)).mono ?_
  rintro en w5 ⟨rfl, hb⟩
  rw [← HO.out]
  replace HB := AK (bst HB.out hb)
  replace HI := AK (HI.out.below hb)
  replace HX := AK (bbl HX.out hb)
  replace HJ := AK (HJ.out.below hb)
  replace HV := AK (Kd.C_below HV.out hb)
  replace HY := AK (bbl HY.out hb)
  clear hb
  cases bo
  case false =>
    have em : (M, mv) = (hp0, []) := by rw [EM.out]; unfold collectB; rw [if_neg (by show ¬ okB R.o R.r R.w R.d = true; rw [← HO.out]; decide)]
    injection em with em1 em2
    subst em1 em2
    obtain ⟨p0, p1, p2, p3⟩ := box4 HY.out
    go_wp2_with fail
    refine (wHeap_c (l0 := []) (l1 := []) (l2 := []) (l3 := []) HJ.out ⟨Kd.C_nil _ _, Kd.C_nil _ _, Kd.C_nil _ _, Kd.C_nil _ _, Nat.le_refl _, Nat.le_refl _, Nat.le_refl _, Nat.le_refl _⟩).mono ?_
    rintro en w6 ⟨rfl, hb⟩
    replace HB := AK (bst HB.out hb)
    clear hb
    go_wp2
    go_ret
    exact ⟨rfl, HB.out⟩
  have HK := AK (show OkH R.o R.r R.w R.d from ok_parts HO.out.symm)
  obtain ⟨p0, p1, p2, p3⟩ := box4 HX.out
  go_wp2_with fail
  clear p0 p1 p2 p3
  refine (wKnown_c HI.out HK.out).mono ?_
  rintro en w6 ⟨X, xc, x, rfl, hx, hxl, hr, hb⟩
  have HM := AK (Kd.R_reads' hr).2.2
  have HG := AK (show GF R M mv x by
    have h1 : M = (collectB R).1 := congrArg Prod.fst EM.out
    have h2 : mv = (collectB R).2 := congrArg Prod.snd EM.out
    rw [h1, h2]; exact (guard_facts HO.out.symm).congr hx)
  have HXR := AK (show ∀ p ∈ x, 0 ≤ p ∧ p < R.o.length from fun p hp => (reach_good HK.out).2 p ((hx p).1 hp))
  have HML := AK (show mv.length = R.o.length by
    have h2 : mv = (collectB R).2 := congrArg Prod.snd EM.out
    rw [h2]; exact (collect_facts HO.out.symm).len)
  replace HB := AK (bst HB.out hb)
  replace HI := AK (HI.out.below hb)
  replace HX := AK (bbl HX.out hb)
  replace HJ := AK (HJ.out.below hb)
  replace HV := AK (Kd.C_below HV.out hb)
  replace HY := AK (bbl HY.out hb)
  clear hr hb hx hxl
  have HL := AK (show R.w.length ≤ 20 ∧ R.d.length ≤ 20 by have := HK.out.w; omega)
  go_wp2_with fail
  go_loopg [7, 9] R.d.length (fun kq v7 v9 w' => ∃ i : Int, v7 = .int .i64 (cntB (fun w => decide (w.f0 ∈ x)) R.d i) ∧ v9 = .int .i64 i ∧ Aside0 (0 ≤ i ∧ i + kq = R.d.length) ∧ Aside0 (Below w.heap.size w w') ∧ Aside0 (InH w' B0 d0 B1 d1 B2 d2 B3 d3 R.o R.r R.w R.d) ∧ Aside0 (w'.heap[n3]? = some (.cells #[.slice B0 R.o.length d0, .slice B1 R.r.length d1, .slice B2 R.w.length d2, .slice B3 R.d.length d3] 28 (0, 0))) ∧ Aside0 (InH w' Q0 t0 Q1 t1 Q2 t2 Q3 t3 M.o M.r M.w M.d) ∧ Aside0 (Kd.C (Kd.int .i64) w' F mv.length mv) ∧ Aside0 (w'.heap[n4]? = some (.cells #[.slice Q0 M.o.length t0, .slice Q1 M.r.length t1, .slice Q2 M.w.length t2, .slice Q3 M.d.length t3] 28 (0, 0))) ∧ Aside0 (Kd.C (Kd.int .i64) w' X x.length x))
  case atStart => exact ⟨0, by rw [cntB_0], rfl, ⟨by omega, by omega⟩, HB, HI, HX, HJ, HV, HY, HM⟩
  case round =>
    clear HB HI HX HJ HV HY HM
    obtain ⟨i, rfl, rfl, HJ1, HB, HI, HX, HJ, HV, HY, HM⟩ := hrel
    obtain ⟨p0, p1, p2, p3⟩ := box4 HX.out
    cases gk with
    | succ k1 =>
      as_aux_lemma =>
      have c9 : decide (i < (R.d.length : Int)) = true := deT (by have := HJ1.out; omega)
      have hi0 := eq_true (show 0 ≤ i by have := HJ1.out; omega)
      have hi1 := eq_true (show i < (R.d.length : Int) by have := HJ1.out; omega)
      obtain ⟨ad, e1, y0, y1⟩ := at_T60 HI.out.r3 i (by have := HJ1.out; omega) (by have := HJ1.out; omega)
      subst e1
      have hcs := cntB_succ (fun w => decide (w.f0 ∈ x)) R.d i (by have := HJ1.out; omega) (by have := HJ1.out; omega)
      have hcl := cntB_le (fun w => decide (w.f0 ∈ x)) R.d i
      obtain ⟨z, ez⟩ : ∃ z, z = rd_T60 R.d i := ⟨_, rfl⟩
      rw [← ez] at y0 y1 hcs
      clear ez
      have HCS := AK hcs
      have HCL := AK hcl
      clear hcs hcl
      go_wp2_with fail
      refine (wHas_s HM.out z.f0).mono ?_
      rintro en w7 ⟨rfl, rfl⟩
      obtain ⟨b, hbb⟩ : ∃ b, decide (z.f0 ∈ x) = b := ⟨_, rfl⟩
      rw [hbb]
      have HBB := AK hbb
      clear hbb
      cases b
      · as_aux_lemma =>
        have hcs := HCS.out
        rw [show decide (z.f0 ∈ x) = false from HBB.out] at hcs
        go_wp2
        go_roundg k1
        case measure => omega
        case rel =>
          have h1 := HJ1.out
          have h2 := HCL.out
          have h3 := HL.out
          rw [if_neg (by decide), Int.add_zero] at hcs
          rw [wrap_succ i (by omega) (by omega), ← hcs]
          exact ⟨i + 1, rfl, rfl, ⟨by omega, by omega⟩, HB, HI, HX, HJ, HV, HY, HM⟩
      · as_aux_lemma =>
        have hcs := HCS.out
        rw [show decide (z.f0 ∈ x) = true from HBB.out] at hcs
        go_wp2
        go_roundg k1
        case measure => omega
        case rel =>
          have h1 := HJ1.out
          have h2 := HCL.out
          have h3 := HL.out
          rw [if_pos (by decide)] at hcs
          rw [wrap_in (x := cntB (fun w => decide (w.f0 ∈ x)) R.d i + 1) (by omega) (by omega), wrap_succ i (by omega) (by omega), ← hcs]
          exact ⟨i + 1, rfl, rfl, ⟨by omega, by omega⟩, HB, HI, HX, HJ, HV, HY, HM⟩
    | zero =>
      as_aux_lemma =>
      have c9 : decide (i < (R.d.length : Int)) = false := deF (by have := HJ1.out; omega)
      obtain ⟨rc, erc⟩ : ∃ rc, rc = cntB (fun w => decide (w.f0 ∈ x)) R.d i := ⟨_, rfl⟩
      rw [← erc]
      have ERC := AK (show rc = ((R.d.filter (fun w => decide (w.f0 ∈ x))).length : Int) by rw [erc]; exact cntB_all _ _ _ (by have := HJ1.out; omega))
      have HRC := AK (show 0 ≤ rc ∧ rc ≤ 20 by have := cntB_le (fun w => decide (w.f0 ∈ x)) R.d i; have := HL.out; omega)
      clear erc HJ1
      go_wp2_with fail
      clear c9 p0 p1 p2 p3
      go_loopg [7, 8, 10] R.w.length (fun kq v7 v8 v10 w' => ∃ i : Int, v7 = .int .i64 (rc + cntB (fun w => decide (w.f0 ∈ x) && !decide (w.f1 ∈ x)) R.w i) ∧ v8 = .int .i64 (cntB (fun w => decide (w.f0 ∈ x) && decide (w.f1 ∈ x)) R.w i) ∧ v10 = .int .i64 i ∧ Aside0 (0 ≤ i ∧ i + kq = R.w.length) ∧ Aside0 (Below w.heap.size w w') ∧ Aside0 (InH w' B0 d0 B1 d1 B2 d2 B3 d3 R.o R.r R.w R.d) ∧ Aside0 (w'.heap[n3]? = some (.cells #[.slice B0 R.o.length d0, .slice B1 R.r.length d1, .slice B2 R.w.length d2, .slice B3 R.d.length d3] 28 (0, 0))) ∧ Aside0 (InH w' Q0 t0 Q1 t1 Q2 t2 Q3 t3 M.o M.r M.w M.d) ∧ Aside0 (Kd.C (Kd.int .i64) w' F mv.length mv) ∧ Aside0 (w'.heap[n4]? = some (.cells #[.slice Q0 M.o.length t0, .slice Q1 M.r.length t1, .slice Q2 M.w.length t2, .slice Q3 M.d.length t3] 28 (0, 0))) ∧ Aside0 (Kd.C (Kd.int .i64) w' X x.length x))
      case atStart => exact ⟨0, by rw [cntB_0, Int.add_zero], by rw [cntB_0], rfl, ⟨by omega, by omega⟩, HB, HI, HX, HJ, HV, HY, HM⟩
      case round =>
        clear HB HI HX HJ HV HY HM
        obtain ⟨i, rfl, rfl, rfl, HJ1, HB, HI, HX, HJ, HV, HY, HM⟩ := hrel
        obtain ⟨p0, p1, p2, p3⟩ := box4 HX.out
        cases gk with
        | succ k1 =>
          as_aux_lemma =>
          have c9 : decide (i < (R.w.length : Int)) = true := deT (by have := HJ1.out; omega)
          have hi0 := eq_true (show 0 ≤ i by have := HJ1.out; omega)
          have hi1 := eq_true (show i < (R.w.length : Int) by have := HJ1.out; omega)
          obtain ⟨ad, e1, y0, y1⟩ := at_T60 HI.out.r2 i (by have := HJ1.out; omega) (by have := HJ1.out; omega)
          subst e1
          have hct := cntB_succ (fun w => decide (w.f0 ∈ x) && !decide (w.f1 ∈ x)) R.w i (by have := HJ1.out; omega) (by have := HJ1.out; omega)
          have hcs := cntB_succ (fun w => decide (w.f0 ∈ x) && decide (w.f1 ∈ x)) R.w i (by have := HJ1.out; omega) (by have := HJ1.out; omega)
          have hzm := getD_mem R.w z60 i (by have := HJ1.out; omega) (by have := HJ1.out; omega)
          rw [show R.w.getD i.toNat z60 = rd_T60 R.w i from rfl] at hzm
          obtain ⟨z, ez⟩ : ∃ z, z = rd_T60 R.w i := ⟨_, rfl⟩
          rw [← ez] at y0 y1 hct hcs hzm
          clear ez
          have HCT := AK (And.intro hct (cntB_le (fun w => decide (w.f0 ∈ x) && !decide (w.f1 ∈ x)) R.w i))
          have HCS := AK (And.intro hcs (cntB_le (fun w => decide (w.f0 ∈ x) && decide (w.f1 ∈ x)) R.w i))
          have HZM := AK hzm
          clear hct hcs hzm
          go_upto_region 19 with fail
          clear p0 p1 p2 p3 y0 y1 c9
          have HZ := AK (blk_new wr (.cells #[.int .i64 z.f0, .int .i64 z.f1] 60 (0, 0)))
          replace HB := AK (bst HB.out (below_alloc (Below.refl _ _) (.cells #[.int .i64 z.f0, .int .i64 z.f1] 60 (0, 0))))
          replace HI := AK (HI.out.below (below_alloc (Below.refl _ _) (.cells #[.int .i64 z.f0, .int .i64 z.f1] 60 (0, 0))))
          replace HX := AK (bbl HX.out (below_alloc (Below.refl _ _) (.cells #[.int .i64 z.f0, .int .i64 z.f1] 60 (0, 0))))
          replace HJ := AK (HJ.out.below (below_alloc (Below.refl _ _) (.cells #[.int .i64 z.f0, .int .i64 z.f1] 60 (0, 0))))
          replace HV := AK (Kd.C_below HV.out (below_alloc (Below.refl _ _) (.cells #[.int .i64 z.f0, .int .i64 z.f1] 60 (0, 0))))
          replace HY := AK (bbl HY.out (below_alloc (Below.refl _ _) (.cells #[.int .i64 z.f0, .int .i64 z.f1] 60 (0, 0))))
          replace HM := AK (Kd.C_below HM.out (below_alloc (Below.refl _ _) (.cells #[.int .i64 z.f0, .int .i64 z.f1] 60 (0, 0))))
          generalize wr.alloc (.cells #[.int .i64 z.f0, .int .i64 z.f1] 60 (0, 0)) = w7 at HB HI HX HJ HV HY HM HZ ⊢
          generalize wr.heap.size = n11 at HZ ⊢
          obtain ⟨q0, q1⟩ := box2 HZ.out
          obtain ⟨b0, hb0⟩ : ∃ b, decide (z.f0 ∈ x) = b := ⟨_, rfl⟩
          have HB0 := AK hb0
          go_wp2_with fail
          clear q0 q1
          refine (wHas_s HM.out z.f0).mono ?_
          rintro en w8 ⟨rfl, rfl⟩
          rw [hb0]
          clear hb0
          cases b0
          · as_aux_lemma =>
            go_wp2
            go_roundg k1
            case measure => omega
            case rel =>
              have h1 := HJ1.out
              have h2 := HCT.out.2
              have h3 := HCS.out.2
              have h4 := HL.out
              have h5 := HRC.out
              have hT := HCT.out.1
              rw [show (decide (z.f0 ∈ x) && !decide (z.f1 ∈ x)) = false by rw [HB0.out]; rfl, if_neg (by decide), Int.add_zero] at hT
              have hS := HCS.out.1
              rw [show (decide (z.f0 ∈ x) && decide (z.f1 ∈ x)) = false by rw [HB0.out]; rfl, if_neg (by decide), Int.add_zero] at hS
              rw [wrap_succ i (by omega) (by omega)]
              exact ⟨i + 1, by rw [hT], by rw [hS], rfl, ⟨by omega, by omega⟩, HB, HI, HX, HJ, HV, HY, HM⟩
          · as_aux_lemma =>
            have hg0 := HXR.out z.f0 (of_decide_eq_true HB0.out)
            have hg1 := (wt_parts (HK.out.ws z HZM.out)).2.2.2
            obtain ⟨am, e2, m0⟩ := Kd.at_int HV.out z.f0 hg0.1 (by have := HML.out; omega)
            obtain ⟨am2, e3, m1⟩ := Kd.at_int HV.out z.f1 hg1.1 (by have := HML.out; omega)
            subst e2
            injection e3 with e3
            subst e3
            have HV0 := AK m0
            have HV1 := AK m1
            have j0 := eq_true hg0.1
            have j1 := eq_true (show z.f0 < (mv.length : Int) by have := HML.out; omega)
            have j2 := eq_true hg1.1
            have j3 := eq_true (show z.f1 < (mv.length : Int) by have := HML.out; omega)
            clear hg0 hg1 m0 m1
            obtain ⟨a0, ea0⟩ : ∃ a, a = rd mv z.f0 := ⟨_, rfl⟩
            obtain ⟨a1, ea1⟩ : ∃ a, a = rd mv z.f1 := ⟨_, rfl⟩
            rw [← ea0] at HV0
            rw [← ea1] at HV1
            have EA := AK (And.intro ea0 ea1)
            clear ea0 ea1
            go_wp2_with fail
            have HK8 := AK (And.intro HB.out (And.intro HX.out (And.intro HY.out (And.intro HI.out (And.intro HJ.out (And.intro HV.out (And.intro HM.out (And.intro HZ.out (And.intro HV0.out HV1.out)))))))))
            have HW8 := AK (Below.refl (World.heap w8).size w8)
            replace HB := AK (bst HB.out (below_drew1 (Below.refl _ _)))
            replace HI := AK (HI.out.below (below_drew1 (Below.refl _ _)))
            replace HX := AK (bbl HX.out (below_drew1 (Below.refl _ _)))
            replace HJ := AK (HJ.out.below (below_drew1 (Below.refl _ _)))
            replace HV := AK (Kd.C_below HV.out (below_drew1 (Below.refl _ _)))
            replace HY := AK (bbl HY.out (below_drew1 (Below.refl _ _)))
            replace HM := AK (Kd.C_below HM.out (below_drew1 (Below.refl _ _)))
            replace HZ := AK (bbl HZ.out (below_drew1 (Below.refl _ _)))
            replace HV0 := AK (pcb (below_drew1 (Below.refl _ _)) HV0.out)
            replace HV1 := AK (pcb (below_drew1 (Below.refl _ _)) HV1.out)
            replace HW8 := AK (bst HW8.out (below_drew1 (Below.refl _ _)))
            refine start_ (n := 13) (S := (fun w' => (w'.cell? ⟨n11, 0, none⟩ = some (.int .i64 z.f0) ∧ w'.cell? ⟨n11, 1, none⟩ = some (.int .i64 z.f1)) ∧ w'.cell? (am.add z.f0.toNat) = some (.int .i64 a0) ∧ w'.cell? (am.add z.f1.toNat) = some (.int .i64 a1))) (ds := []) #[fF,fF,fF,fF,fF,fF,fF,fF,fF,fF,fF,fF,fF] (by kernel_rfl) rfl rfl ⟨box2 HZ.out, HV0.out, HV1.out⟩ (fun hHeld => ?_); refine with_tabW gu20_tab gu20_bits (fun HT_ HW_ => ?_)
            generalize World.drew w8 = v5 at HB HI HX HJ HV HY HM HZ HV0 HV1 HW8 hHeld ⊢
            refine pure_ (i := 0) (N := some 65) (v := ?_) (a' := ?_) #[tT,fF,fF,fF,fF,fF,fF,fF,fF,fF,fF,fF,fF] rfl rfl (any_of HT_.out (by kernel_rfl)) (fun _ _ _ h => h) (Or.inl ⟨by rfl, ?_⟩) ?_ ?_
            rotate_left
            · intro w'
              go_simp
              with_reducible rfl
            rotate_left
            · exact zP
            refine pure_ (i := 1) (N := some 66) (v := ?_) (a' := ?_) #[tT,tT,fF,fF,fF,fF,fF,fF,fF,fF,fF,fF,fF] rfl rfl (any_of HT_.out (by kernel_rfl)) (fun _ _ _ h => h) (Or.inl ⟨by rfl, ?_⟩) ?_ ?_
            rotate_left
            · intro w'
              go_simp
              with_reducible rfl
            rotate_left
            · exact zP
            refine take_ (i := 2) (N := some 67) (v := ?_) (a' := ?_) #[tT,tT,tT,fF,fF,fF,fF,fF,fF,fF,fF,fF,fF] rfl rfl (take_ofW HT_.out HW_.out (by kernel_rfl)) (fun _ _ _ h => h) (Or.inl ⟨by rfl, ?_⟩) hHeld ?_ ?_
            rotate_left
            · rintro w' ⟨⟨s0, s1⟩, s2, s3⟩
              go_simp
              with_reducible rfl
            rotate_left
            · exact zP
            refine pure_ (i := 3) (N := some 68) (v := ?_) (a' := ?_) #[tT,tT,tT,tT,fF,fF,fF,fF,fF,fF,fF,fF,fF] rfl rfl (any_of HT_.out (by kernel_rfl)) (fun _ _ _ h => h) (Or.inl ⟨by rfl, ?_⟩) ?_ ?_
            rotate_left
            · intro w'
              go_simp
              with_reducible rfl
            rotate_left
            · exact zP
            refine take_ (i := 4) (N := some 69) (v := ?_) (a' := ?_) #[tT,tT,tT,tT,tT,fF,fF,fF,fF,fF,fF,fF,fF] rfl rfl (take_ofW HT_.out HW_.out (by kernel_rfl)) (fun _ _ _ h => h) (Or.inl ⟨by rfl, ?_⟩) hHeld ?_ ?_
            rotate_left
            · rintro w' ⟨⟨s0, s1⟩, s2, s3⟩
              go_simp
              with_reducible rfl
            rotate_left
            · exact zP
            refine pure_ (i := 5) (N := some 70) (v := ?_) (a' := ?_) #[tT,tT,tT,tT,tT,tT,fF,fF,fF,fF,fF,fF,fF] rfl rfl (any_of HT_.out (by kernel_rfl)) (fun _ _ _ h => h) (Or.inl ⟨by rfl, ?_⟩) ?_ ?_
            rotate_left
            · intro w'
              go_simp
              with_reducible rfl
            rotate_left
            · exact zP
            refine pure_ (i := 6) (N := some 71) (v := ?_) (a' := ?_) #[tT,tT,tT,tT,tT,tT,tT,fF,fF,fF,fF,fF,fF] rfl rfl (any_of HT_.out (by kernel_rfl)) (fun _ _ _ h => h) (Or.inl ⟨by rfl, ?_⟩) ?_ ?_
            rotate_left
            · intro w'
              go_simp
              with_reducible rfl
            rotate_left
            · exact zP
            refine take_ (i := 7) (N := some 72) (v := ?_) (a' := ?_) #[tT,tT,tT,tT,tT,tT,tT,tT,fF,fF,fF,fF,fF] rfl rfl (take_ofW HT_.out HW_.out (by kernel_rfl)) (fun _ _ _ h => h) (Or.inl ⟨by rfl, ?_⟩) hHeld ?_ ?_
            rotate_left
            · rintro w' ⟨⟨s0, s1⟩, s2, s3⟩
              go_simp
              with_reducible rfl
            rotate_left
            · exact zP
            refine pure_ (i := 8) (N := some 73) (v := ?_) (a' := ?_) #[tT,tT,tT,tT,tT,tT,tT,tT,tT,fF,fF,fF,fF] rfl rfl (any_of HT_.out (by kernel_rfl)) (fun _ _ _ h => h) (Or.inl ⟨by rfl, ?_⟩) ?_ ?_
            rotate_left
            · intro w'
              go_simp
              with_reducible rfl
            rotate_left
            · exact zP
            refine take_ (i := 9) (N := some 74) (v := ?_) (a' := ?_) #[tT,tT,tT,tT,tT,tT,tT,tT,tT,tT,fF,fF,fF] rfl rfl (take_ofW HT_.out HW_.out (by kernel_rfl)) (fun _ _ _ h => h) (Or.inl ⟨by rfl, ?_⟩) hHeld ?_ ?_
            rotate_left
            · rintro w' ⟨⟨s0, s1⟩, s2, s3⟩
              go_simp
              with_reducible rfl
            rotate_left
            · exact zP
            refine pure_ (i := 10) (N := some 75) (v := ?_) (a' := ?_) #[tT,tT,tT,tT,tT,tT,tT,tT,tT,tT,tT,fF,fF] rfl rfl (any_of HT_.out (by kernel_rfl)) (fun _ _ _ h => h) (Or.inl ⟨by rfl, ?_⟩) ?_ ?_
            rotate_left
            · intro w'
              go_simp
              with_reducible rfl
            rotate_left
            · exact zP
            refine one_ (i := 11) (N := some 12) #[tT,tT,tT,tT,tT,tT,tT,tT,tT,tT,tT,tT,fF] rfl rfl (one_of HT_.out (by kernel_rfl)) (by decide) (fun K hK => ?_)
            refine box_step ?hg (N := 12) ?hd (cs := #[.int .i64 0, .int .i64 0]) (t := 60) ?hr ?_; (case hd => rfl); (case hg => rfl); (case hr => first | (go_simp; done) | (go_simp; rfl))
            intro n12 hg v6 hbox hb
            have HT0 := AK hbox
            have HW9 := AK (show Below w8.heap.size w8 v6 ∧ w8.heap.size ≤ n12 from ⟨bst HW8.out hb, by rw [hg]; exact HW8.out.size⟩)
            clear hg hbox
            replace HB := AK (bst HB.out hb)
            replace HI := AK (HI.out.below hb)
            replace HX := AK (bbl HX.out hb)
            replace HJ := AK (HJ.out.below hb)
            replace HV := AK (Kd.C_below HV.out hb)
            replace HY := AK (bbl HY.out hb)
            replace HM := AK (Kd.C_below HM.out hb)
            replace HZ := AK (bbl HZ.out hb)
            replace HV0 := AK (pcb hb HV0.out)
            replace HV1 := AK (pcb hb HV1.out)
            replace HW8 := AK (bst HW8.out hb)
            clear hb
            refine hK.out _ _ ⟨box2 HZ.out, HV0.out, HV1.out⟩ (fun hHeld => ?_)
            clear hK K
            refine norm_ (a' := ?_) ?_ ?_
            rotate_left
            · show Act.put _ (some 12) _ = _
              exact zP
            refine one_ (i := 12) (N := none) #[tT,tT,tT,tT,tT,tT,tT,tT,tT,tT,tT,tT,tT] rfl rfl (one_of HT_.out (by kernel_rfl)) (by decide) (fun K hK => ?_)
            obtain ⟨z0, z1⟩ := box2 HT0.out
            have f0 := bfz HT0.out 0
            have f1 := bfz HT0.out 1
            have NT := AK (blk_put (blk_put HT0.out 0 (.int .i64 a0) rfl) 1 (.int .i64 a1) rfl)
            have hbs : Below w8.heap.size w8 ((v6.setCell ⟨n12, 0, none⟩ (.int .i64 a0)).setCell ⟨n12, 1, none⟩ (.int .i64 a1)) := below_set (below_set HW9.out.1 HW9.out.2) HW9.out.2
            refine skip_ (w1 := ?_) (by rfl) rfl ?_ ?_
            rotate_left
            · go_simp
              rfl
            clear z0 z1 f0 f1
            generalize (v6.setCell ⟨n12, 0, none⟩ (.int .i64 a0)).setCell ⟨n12, 1, none⟩ (.int .i64 a1) = v7 at NT hbs ⊢
            obtain ⟨k0, k1_, k2, k3, k4, k5, k6, k7, k8, k9⟩ := HK8.out
            replace HB := AK (bst k0 hbs)
            replace HX := AK (bbl k1_ hbs)
            replace HY := AK (bbl k2 hbs)
            replace HI := AK (k3.below hbs)
            replace HJ := AK (k4.below hbs)
            replace HV := AK (Kd.C_below k5 hbs)
            replace HM := AK (Kd.C_below k6 hbs)
            replace HZ := AK (bbl k7 hbs)
            replace HV0 := AK (pcb hbs k8)
            replace HV1 := AK (pcb hbs k9)
            have HT := NT
            clear k0 k1_ k2 k3 k4 k5 k6 k7 k8 k9 hbs NT HT0 HW9 HK8 HW8
            refine hK.out _ _ ⟨box2 HZ.out, HV0.out, HV1.out⟩ (fun hHeld => ?_)
            clear hK K
            refine done_ (done_of HT_.out (by kernel_rfl)) ?_
            clear HT_ HW_ hHeld
            obtain ⟨q0, q1⟩ := box2 HZ.out
            obtain ⟨b1, hb1⟩ : ∃ b, decide (z.f1 ∈ x) = b := ⟨_, rfl⟩
            have HB1 := AK hb1
            go_wp2_with fail
            clear q0 q1
            refine (wHas_s HM.out z.f1).mono ?_
            rintro en w9 ⟨rfl, rfl⟩
            rw [hb1]
            clear hb1
            cases b1
            · as_aux_lemma =>
              have ham : (⟨a0, a1⟩ : S60) ∈ M.d := by rw [EA.out.1, EA.out.2]; exact HG.out.told z HZM.out (of_decide_eq_true HB0.out) (of_decide_eq_false HB1.out)
              have HAM := AK ham
              clear ham
              obtain ⟨p0, p1, p2, p3⟩ := box4 HY.out
              obtain ⟨q0, q1⟩ := box2 HT.out
              go_wp2_with fail
              clear p0 p1 p2 p3 q0 q1
              refine (wAmong_c HJ.out.r3 ⟨a0, a1⟩ HAM.out).mono ?_
              rintro en w10 ⟨rfl, hb⟩
              replace HB := AK (bst HB.out hb)
              replace HI := AK (HI.out.below hb)
              replace HX := AK (bbl HX.out hb)
              replace HJ := AK (HJ.out.below hb)
              replace HV := AK (Kd.C_below HV.out hb)
              replace HY := AK (bbl HY.out hb)
              replace HM := AK (Kd.C_below HM.out hb)
              replace HZ := AK (bbl HZ.out hb)
              replace HV0 := AK (pcb hb HV0.out)
              replace HV1 := AK (pcb hb HV1.out)
              replace HT := AK (bbl HT.out hb)
              clear hb
              go_wp2
              go_roundg k1
              case measure => omega
              case rel =>
                have h1 := HJ1.out
                have h2 := HCT.out.2
                have h3 := HCS.out.2
                have h4 := HL.out
                have h5 := HRC.out
                have hT := HCT.out.1
                rw [show (decide (z.f0 ∈ x) && !decide (z.f1 ∈ x)) = true by rw [HB0.out, HB1.out]; rfl, if_pos (by decide)] at hT
                have hS := HCS.out.1
                rw [show (decide (z.f0 ∈ x) && decide (z.f1 ∈ x)) = false by rw [HB0.out, HB1.out]; rfl, if_neg (by decide), Int.add_zero] at hS
                rw [wrap_in (x := rc + cntB (fun w => decide (w.f0 ∈ x) && !decide (w.f1 ∈ x)) R.w i + 1) (by omega) (by omega), Int.add_assoc, ← hT]
                rw [wrap_succ i (by omega) (by omega)]
                exact ⟨i + 1, rfl, by rw [hS], rfl, ⟨by omega, by omega⟩, HB, HI, HX, HJ, HV, HY, HM⟩
            · as_aux_lemma =>
              have ham : (⟨a0, a1⟩ : S60) ∈ M.w := by rw [EA.out.1, EA.out.2]; exact HG.out.stay z HZM.out (of_decide_eq_true HB0.out) (of_decide_eq_true HB1.out)
              have HAM := AK ham
              clear ham
              obtain ⟨p0, p1, p2, p3⟩ := box4 HY.out
              obtain ⟨q0, q1⟩ := box2 HT.out
              go_wp2_with fail
              clear p0 p1 p2 p3 q0 q1
              refine (wAmong_c HJ.out.r2 ⟨a0, a1⟩ HAM.out).mono ?_
              rintro en w10 ⟨rfl, hb⟩
              replace HB := AK (bst HB.out hb)
              replace HI := AK (HI.out.below hb)
              replace HX := AK (bbl HX.out hb)
              replace HJ := AK (HJ.out.below hb)
              replace HV := AK (Kd.C_below HV.out hb)
              replace HY := AK (bbl HY.out hb)
              replace HM := AK (Kd.C_below HM.out hb)
              replace HZ := AK (bbl HZ.out hb)
              replace HV0 := AK (pcb hb HV0.out)
              replace HV1 := AK (pcb hb HV1.out)
              replace HT := AK (bbl HT.out hb)
              clear hb
              go_wp2
              go_roundg k1
              case measure => omega
              case rel =>
                have h1 := HJ1.out
                have h2 := HCT.out.2
                have h3 := HCS.out.2
                have h4 := HL.out
                have h5 := HRC.out
                have hT := HCT.out.1
                rw [show (decide (z.f0 ∈ x) && !decide (z.f1 ∈ x)) = false by rw [HB0.out, HB1.out]; rfl, if_neg (by decide), Int.add_zero] at hT
                have hS := HCS.out.1
                rw [show (decide (z.f0 ∈ x) && decide (z.f1 ∈ x)) = true by rw [HB0.out, HB1.out]; rfl, if_pos (by decide)] at hS
                rw [wrap_in (x := cntB (fun w => decide (w.f0 ∈ x) && decide (w.f1 ∈ x)) R.w i + 1) (by omega) (by omega), ← hS]
                rw [wrap_succ i (by omega) (by omega)]
                exact ⟨i + 1, by rw [hT], rfl, rfl, ⟨by omega, by omega⟩, HB, HI, HX, HJ, HV, HY, HM⟩
        | zero =>
          as_aux_lemma =>
          have c9 : decide (i < (R.w.length : Int)) = false := deF (by have := HJ1.out; omega)
          obtain ⟨tc, etc⟩ : ∃ tc, tc = rc + cntB (fun w => decide (w.f0 ∈ x) && !decide (w.f1 ∈ x)) R.w i := ⟨_, rfl⟩
          obtain ⟨sc, esc⟩ : ∃ sc, sc = cntB (fun w => decide (w.f0 ∈ x) && decide (w.f1 ∈ x)) R.w i := ⟨_, rfl⟩
          rw [← etc, ← esc]
          have hT1 := cntB_all (fun w => decide (w.f0 ∈ x) && !decide (w.f1 ∈ x)) R.w i (by have := HJ1.out; omega)
          have hS1 := cntB_all (fun w => decide (w.f0 ∈ x) && decide (w.f1 ∈ x)) R.w i (by have := HJ1.out; omega)
          have hnd := HG.out.nd
          have hnw := HG.out.nw
          have hnn := HG.out.n
          have hrc := ERC.out
          have d0_ : decide ((M.d.length : Int) < tc) = false := deF (by omega)
          have d1_ : decide ((M.w.length : Int) < sc) = false := deF (by omega)
          have hmw : (M.w.length : Int) ≤ 40 ∧ (M.d.length : Int) ≤ 40 := by have := HK.out.w; omega
          have w1_ : wrap64 ((M.w.length : Int) + (M.d.length : Int)) = M.w.length + M.d.length := wrap_in (by omega) (by omega)
          have w2_ : wrap64 ((R.w.length : Int) + (R.d.length : Int)) = R.w.length + R.d.length := wrap_two HL.out.1 HL.out.2
          have d2_ : decide ((R.w.length : Int) + (R.d.length : Int) < (M.w.length : Int) + (M.d.length : Int)) = false := not_more HG.out.n
          clear hT1 hS1 hnd hnw hnn hrc etc esc hmw
          obtain ⟨r0, r1, r2, r3⟩ := box4 HY.out
          go_wp2_with fail
          clear c9 d0_ d1_ d2_ w1_ w2_ p0 p1 p2 p3 r0 r1 r2 r3
          replace HB := AK (bst HB.out (below_drew1 (Below.refl _ _)))
          replace HI := AK (HI.out.below (below_drew1 (Below.refl _ _)))
          replace HX := AK (bbl HX.out (below_drew1 (Below.refl _ _)))
          replace HJ := AK (HJ.out.below (below_drew1 (Below.refl _ _)))
          replace HV := AK (Kd.C_below HV.out (below_drew1 (Below.refl _ _)))
          replace HY := AK (bbl HY.out (below_drew1 (Below.refl _ _)))
          replace HM := AK (Kd.C_below HM.out (below_drew1 (Below.refl _ _)))
          refine start_ (n := 8) (S := (fun w' => (w'.cell? ⟨n3, 0, none⟩ = some (.slice B0 R.o.length d0) ∧ w'.cell? ⟨n3, 1, none⟩ = some (.slice B1 R.r.length d1) ∧ w'.cell? ⟨n3, 2, none⟩ = some (.slice B2 R.w.length d2) ∧ w'.cell? ⟨n3, 3, none⟩ = some (.slice B3 R.d.length d3)) ∧ w'.cell? ⟨n4, 0, none⟩ = some (.slice Q0 M.o.length t0) ∧ w'.cell? ⟨n4, 1, none⟩ = some (.slice Q1 M.r.length t1) ∧ w'.cell? ⟨n4, 2, none⟩ = some (.slice Q2 M.w.length t2) ∧ w'.cell? ⟨n4, 3, none⟩ = some (.slice Q3 M.d.length t3))) (ds := []) #[fF,fF,fF,fF,fF,fF,fF,fF] (by kernel_rfl) rfl rfl ⟨box4 HX.out, box4 HY.out⟩ (fun hHeld => ?_); refine with_tabW gu30_tab gu30_bits (fun HT_ HW_ => ?_)
          generalize World.drew wr = v5 at HB HI HX HJ HV HY HM hHeld ⊢
          refine take_ (i := 0) (N := some 123) (v := ?_) (a' := ?_) #[tT,fF,fF,fF,fF,fF,fF,fF] rfl rfl (take_ofW HT_.out HW_.out (by kernel_rfl)) (fun _ _ _ h => h) (Or.inl ⟨by rfl, ?_⟩) hHeld ?_ ?_
          rotate_left
          · rintro w' ⟨⟨s_0, s_1, s_2, s_3⟩, s_4, s_5, s_6, s_7⟩
            go_simp
            with_reducible rfl
          rotate_left
          · exact zP
          refine take_ (i := 1) (N := some 124) (v := ?_) (a' := ?_) #[tT,tT,fF,fF,fF,fF,fF,fF] rfl rfl (take_ofW HT_.out HW_.out (by kernel_rfl)) (fun _ _ _ h => h) (Or.inl ⟨by rfl, ?_⟩) hHeld ?_ ?_
          rotate_left
          · rintro w' ⟨⟨s_0, s_1, s_2, s_3⟩, s_4, s_5, s_6, s_7⟩
            go_simp
            with_reducible rfl
          rotate_left
          · exact zP
          refine one_ (i := 2) (N := some 125) #[tT,tT,tT,fF,fF,fF,fF,fF] rfl rfl (one_of HT_.out (by kernel_rfl)) (by decide) (fun K hK => ?_)
          refine goes_ Try.func38 (by kernel_rfl) rfl #[.agg #[.slice B0 R.o.length d0, .slice B1 R.r.length d1, .slice B2 R.w.length d2, .slice B3 R.d.length d3]] (by rfl) rfl rfl zI ?_
          refine (specCollect_calls _ _ _ _ _ _ _ _ _ _ _ _ _ HI.out HF.out M mv EM.out).mono ?_
          rintro en v6 ⟨U0, s0, U1, s1, U2, s2, U3, s3, F2, f2, rfl, hO, hb⟩
          refine ⟨_, rfl, ?_⟩
          have HU := AK hO.own.reads
          replace HB := AK (bst HB.out hb)
          replace HI := AK (HI.out.below hb)
          replace HX := AK (bbl HX.out hb)
          replace HJ := AK (HJ.out.below hb)
          replace HV := AK (Kd.C_below HV.out hb)
          replace HY := AK (bbl HY.out hb)
          replace HM := AK (Kd.C_below HM.out hb)
          clear hO hb
          refine hK.out _ _ ⟨box4 HX.out, box4 HY.out⟩ (fun hHeld => ?_)
          clear hK K
          refine norm_ (a' := ?_) ?_ ?_
          rotate_left
          · show Act.put _ (some 125) _ = _
            exact zP
          refine pure_ (i := 3) (N := some 126) (v := ?_) (a' := ?_) #[tT,tT,tT,tT,fF,fF,fF,fF] rfl rfl (any_of HT_.out (by kernel_rfl)) (fun _ _ _ h => h) (Or.inl ⟨by rfl, ?_⟩) ?_ ?_
          rotate_left
          · intro w'
            go_simp
            with_reducible rfl
          rotate_left
          · exact zP
          refine pure_ (i := 4) (N := some 127) (v := ?_) (a' := ?_) #[tT,tT,tT,tT,tT,fF,fF,fF] rfl rfl (any_of HT_.out (by kernel_rfl)) (fun _ _ _ h => h) (Or.inl ⟨by rfl, ?_⟩) ?_ ?_
          rotate_left
          · intro w'
            go_simp
            with_reducible rfl
          rotate_left
          · exact zP
          refine one_ (i := 5) (N := some 128) #[tT,tT,tT,tT,tT,tT,fF,fF] rfl rfl (one_of HT_.out (by kernel_rfl)) (by decide) (fun K hK => ?_)
          refine goes_ Try.func43 (by kernel_rfl) rfl #[.agg #[.slice U0 M.o.length s0, .slice U1 M.r.length s1, .slice U2 M.w.length s2, .slice U3 M.d.length s3], .slice F2 mv.length f2] (by rfl) rfl rfl zI ?_
          refine (wFirst_c (l0 := M.o) (l1 := M.r) (l2 := M.w) (l3 := M.d) (m := [])).mono ?_
          rintro en v7 ⟨rfl, hb⟩
          refine ⟨_, rfl, ?_⟩
          replace HU := AK (HU.out.below hb)
          replace HB := AK (bst HB.out hb)
          replace HI := AK (HI.out.below hb)
          replace HX := AK (bbl HX.out hb)
          replace HJ := AK (HJ.out.below hb)
          replace HV := AK (Kd.C_below HV.out hb)
          replace HY := AK (bbl HY.out hb)
          replace HM := AK (Kd.C_below HM.out hb)
          clear hb
          refine hK.out _ _ ⟨box4 HX.out, box4 HY.out⟩ (fun hHeld => ?_)
          clear hK K
          refine norm_ (a' := ?_) ?_ ?_
          rotate_left
          · show Act.put _ (some 128) _ = _
            exact zP
          refine one_ (i := 6) (N := some 129) #[tT,tT,tT,tT,tT,tT,tT,fF] rfl rfl (one_of HT_.out (by kernel_rfl)) (by decide) (fun K hK => ?_)
          refine goes_ Try.func19 (by kernel_rfl) rfl #[.agg #[.slice Q0 M.o.length t0, .slice Q1 M.r.length t1, .slice Q2 M.w.length t2, .slice Q3 M.d.length t3], .agg #[.slice U0 M.o.length s0, .slice U1 M.r.length s1, .slice U2 M.w.length s2, .slice U3 M.d.length s3]] (by rfl) rfl rfl zI ?_
          refine (wHeap_c HJ.out HU.out).mono ?_
          rintro en v8 ⟨rfl, hb⟩
          refine ⟨_, rfl, ?_⟩
          replace HB := AK (bst HB.out hb)
          replace HI := AK (HI.out.below hb)
          replace HX := AK (bbl HX.out hb)
          replace HJ := AK (HJ.out.below hb)
          replace HV := AK (Kd.C_below HV.out hb)
          replace HY := AK (bbl HY.out hb)
          replace HM := AK (Kd.C_below HM.out hb)
          clear hb
          refine hK.out _ _ ⟨box4 HX.out, box4 HY.out⟩ (fun hHeld => ?_)
          clear hK K
          refine norm_ (a' := ?_) ?_ ?_
          rotate_left
          · show Act.put _ (some 129) _ = _
            exact zP
          refine pure_ (i := 7) (N := some 2) (v := ?_) (a' := ?_) #[tT,tT,tT,tT,tT,tT,tT,tT] rfl rfl (any_of HT_.out (by kernel_rfl)) (fun _ _ _ h => h) (Or.inl ⟨by rfl, ?_⟩) ?_ ?_
          rotate_left
          · intro w'
            go_simp
            with_reducible rfl
          rotate_left
          · exact zP
          refine done_ (done_of HT_.out (by kernel_rfl)) ?_
          clear HT_ HW_ hHeld
          go_wp2
          go_ret
          exact ⟨rfl, HB.out⟩
end Go.Proofs.Ytigjhfijkdlldaa.H
