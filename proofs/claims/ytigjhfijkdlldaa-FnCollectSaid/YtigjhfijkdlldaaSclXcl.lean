import Derived.Test.YtigjhfijkdlldaaSclYw
import Derived.Test.YtigjhfijkdlldaaSclYk
import Derived.Test.YtigjhfijkdlldaaSclHmc
import Derived.Test.YtigjhfijkdlldaaSclPt
import Derived.Test.YtigjhfijkdlldaaSclHsc
/- The law FnCollect, walked. -/
namespace Go.Proofs.Ytigjhfijkdlldaa.H
open Go.RowKit Go.Proofs.YtigjhfijkdlldaaW.PrintWords Go.Proofs.YtigjhfijkdlldaaW.PrintLast Go.Proofs.YtigjhfijkdlldaaW.PrintMore Go.Proofs.Ytigjhfijkdlldaa.Q
set_option linter.unusedVariables false
set_option linter.unusedSimpArgs false
theorem wHas_n {w : World} {A : Option Addr} {c n : Nat} {x : List Int} {p : Int} {b : Bool} (h : Kd.C (Kd.int .i64) w A x.length x) (hb : decide (p ∈ x) = b) :
    Calls Try.prog 37 #[.slice A x.length c, .int .i64 p] (w.drewN n) fun e w' => e = .returned (.bool b) ∧ ∃ m, w' = w.drewN m :=
  (wHas_s (Kd.C_drewN h n) p).mono fun e w' ⟨he, hw⟩ => ⟨by rw [he, hb], ⟨n, hw⟩⟩
theorem cl10_tab : rtab .any (opsOf Try.f10 10) = (true, [([], []), ([0], [0]), ([1], [1]), ([2, 1], [2]), ([3], [3]), ([4, 3], [3, 4]), ([3], [3]), ([6, 3], [3, 6]), ([7, 3], [3, 7]), ([5, 8, 3], [3, 5, 8]), ([3, 9], [3, 9]), ([10, 3], [10]), ([11], [11]), ([12, 11, 11], [11, 12]), ([13, 11], [11, 13]), ([11], [11]), ([15, 11], [11, 15]), ([16, 11], [11, 16]), ([14, 17, 11], [11, 14, 17]), ([11, 18], [11, 18])]) := by kernel_rfl
theorem cl10_bits : waitsOk [([], []), ([0], [0]), ([1], [1]), ([2, 1], [2]), ([3], [3]), ([4, 3], [3, 4]), ([3], [3]), ([6, 3], [3, 6]), ([7, 3], [3, 7]), ([5, 8, 3], [3, 5, 8]), ([3, 9], [3, 9]), ([10, 3], [10]), ([11], [11]), ([12, 11, 11], [11, 12]), ([13, 11], [11, 13]), ([11], [11]), ([15, 11], [11, 15]), ([16, 11], [11, 16]), ([14, 17, 11], [11, 14, 17]), ([11, 18], [11, 18])] [0, 1, 3, 7, 15, 31, 15, 79, 207, 511, 1023, 2047, 4095, 8191, 16383, 4095, 36863, 102399, 262143, 524287] = true := by kernel_rfl

theorem cl19_tab : rtab .any (opsOf Try.f10 19) = (true, [([], []), ([0], [0]), ([], []), ([], []), ([2, 3], [2, 3]), ([4], [4]), ([1, 5], [1, 5]), ([6], [6]), ([], []), ([8, 7, 0, 1, 2, 3, 4, 5, 6, 7, 8], [7, 8])]) := by kernel_rfl
theorem cl19_bits : waitsOk [([], []), ([0], [0]), ([], []), ([], []), ([2, 3], [2, 3]), ([4], [4]), ([1, 5], [1, 5]), ([6], [6]), ([], []), ([8, 7, 0, 1, 2, 3, 4, 5, 6, 7, 8], [7, 8])] [0, 1, 0, 0, 12, 28, 63, 127, 0, 511] = true := by kernel_rfl
set_option maxHeartbeats 4000000 in
set_option maxRecDepth 100000 in
theorem FnCollect_walk {A : Option Addr} {c : Nat} {code : List Int} (w : World) (hr : Kd.C (Kd.int .u8) w A code.length code) (hc : code.length ≤ c) (hb : ∀ b ∈ code, 0 ≤ b ∧ b < 256) :
    Calls Try.prog 10 #[.slice A code.length c] w fun e w' => e = .returned (.bool true) ∧ Below w.heap.size w w' := by
  have HC := AK (And.intro hr (And.intro hc hb))
  clear hr hc hb
  by_cases h20 : (1048576 : Int) < (code.length : Int)
  · have c1 : decide ((1048576 : Int) < (code.length : Int)) = true := deT h20
    have c2 : decide (1048576 < code.length) = true := deT (by omega)
    have c3 := eq_true (show 1048576 < code.length by omega)
    clear h20
    go_enter Try.func10, Try.ntmps10
    go_wp2
    go_ret
    exact ⟨rfl, Below.refl _ _⟩
  have c1 : decide ((1048576 : Int) < (code.length : Int)) = false := deF h20
  have c2 : decide (1048576 < code.length) = false := deF (by omega)
  have c3 := eq_false (show ¬ 1048576 < code.length by omega)
  clear h20
  go_enter Try.func10, Try.ntmps10
  go_wp2_with fail
  clear c1 c2 c3
  refine (drawCollect_c HC.out.1 HC.out.2.1 HC.out.2.2).mono ?_
  rintro en w1 ⟨R, B0, d0, B1, d1, B2, d2, B3, d3, rfl, hg, hO, hb⟩
  have HF := AK hg.fine
  have HBD := AK hg
  have HB := AK hb
  have HI := AK hO.reads
  clear hg hO hb
  obtain ⟨bo, hbo⟩ : ∃ b, b = okB R.o R.r R.w R.d := ⟨_, rfl⟩
  have HO := AK hbo
  clear hbo
  go_upto_region 4 with fail
  have HX := AK (blk_new w1 (.cells #[.slice B0 R.o.length d0, .slice B1 R.r.length d1, .slice B2 R.w.length d2, .slice B3 R.d.length d3] 28 (0, 0)))
  replace HB := AK (bst HB.out (below_alloc (Below.refl _ _) (.cells #[.slice B0 R.o.length d0, .slice B1 R.r.length d1, .slice B2 R.w.length d2, .slice B3 R.d.length d3] 28 (0, 0))))
  replace HI := AK (HI.out.below (below_alloc (Below.refl _ _) (.cells #[.slice B0 R.o.length d0, .slice B1 R.r.length d1, .slice B2 R.w.length d2, .slice B3 R.d.length d3] 28 (0, 0))))
  generalize w1.alloc (.cells #[.slice B0 R.o.length d0, .slice B1 R.r.length d1, .slice B2 R.w.length d2, .slice B3 R.d.length d3] 28 (0, 0)) = w2 at HB HI HX ⊢
  generalize w1.heap.size = n3 at HX ⊢
  obtain ⟨p0, p1, p2, p3⟩ := box4 HX.out
  go_wp2_with fail
  clear p0 p1 p2 p3
  obtain ⟨M, mv, eM⟩ : ∃ M mv, (M, mv) = collectB R := ⟨_, _, rfl⟩
  refine (MemCollect_calls _ _ _ _ _ _ _ _ _ _ _ _ _ HI.out ⟨by have := HF.out.w; omega, HF.out.f⟩ M mv eM).mono ?_
  rintro en w3 ⟨Q0, t0, Q1, t1, Q2, t2, Q3, t3, F, fc, rfl, hO, hb⟩
  have EM := AK eM
  have HJ := AK hO.own.reads
  have HV := AK (Kd.R_reads' hO.m).2.2
  have HVC := AK (Kd.R_reads' hO.m).2.1
  replace HB := AK (bst HB.out hb)
  replace HI := AK (HI.out.below hb)
  replace HX := AK (bbl HX.out hb)
  clear hO hb eM
  go_upto_region 5 with fail
  have HY := AK (blk_new w3 (.cells #[.slice Q0 M.o.length t0, .slice Q1 M.r.length t1, .slice Q2 M.w.length t2, .slice Q3 M.d.length t3] 28 (0, 0)))
  replace HB := AK (bst HB.out (below_alloc (Below.refl _ _) (.cells #[.slice Q0 M.o.length t0, .slice Q1 M.r.length t1, .slice Q2 M.w.length t2, .slice Q3 M.d.length t3] 28 (0, 0))))
  replace HI := AK (HI.out.below (below_alloc (Below.refl _ _) (.cells #[.slice Q0 M.o.length t0, .slice Q1 M.r.length t1, .slice Q2 M.w.length t2, .slice Q3 M.d.length t3] 28 (0, 0))))
  replace HX := AK (bbl HX.out (below_alloc (Below.refl _ _) (.cells #[.slice Q0 M.o.length t0, .slice Q1 M.r.length t1, .slice Q2 M.w.length t2, .slice Q3 M.d.length t3] 28 (0, 0))))
  replace HJ := AK (HJ.out.below (below_alloc (Below.refl _ _) (.cells #[.slice Q0 M.o.length t0, .slice Q1 M.r.length t1, .slice Q2 M.w.length t2, .slice Q3 M.d.length t3] 28 (0, 0))))
  replace HV := AK (Kd.C_below HV.out (below_alloc (Below.refl _ _) (.cells #[.slice Q0 M.o.length t0, .slice Q1 M.r.length t1, .slice Q2 M.w.length t2, .slice Q3 M.d.length t3] 28 (0, 0))))
  generalize w3.alloc (.cells #[.slice Q0 M.o.length t0, .slice Q1 M.r.length t1, .slice Q2 M.w.length t2, .slice Q3 M.d.length t3] 28 (0, 0)) = w4 at HB HI HX HJ HV HY ⊢
  generalize w3.heap.size = n4 at HY ⊢
  obtain ⟨p0, p1, p2, p3⟩ := box4 HX.out
  go_wp2_with fail
  clear p0 p1 p2 p3
  refine (specCollect_calls _ _ _ _ _ _ _ _ _ _ _ _ _ HI.out HF.out M mv EM.out).mono ?_
  rintro en w5 ⟨U0, s0, U1, s1, U2, s2, U3, s3, F2, f2, rfl, hO, hb⟩
  have HU := AK hO.own.reads
  have HV2 := AK (Kd.R_reads' hO.m).2.2
  replace HB := AK (bst HB.out hb)
  replace HI := AK (HI.out.below hb)
  replace HX := AK (bbl HX.out hb)
  replace HJ := AK (HJ.out.below hb)
  replace HV := AK (Kd.C_below HV.out hb)
  replace HY := AK (bbl HY.out hb)
  clear hO hb
  go_upto_region 6 with fail
  have HZ := AK (blk_new w5 (.cells #[.slice U0 M.o.length s0, .slice U1 M.r.length s1, .slice U2 M.w.length s2, .slice U3 M.d.length s3] 28 (0, 0)))
  replace HB := AK (bst HB.out (below_alloc (Below.refl _ _) (.cells #[.slice U0 M.o.length s0, .slice U1 M.r.length s1, .slice U2 M.w.length s2, .slice U3 M.d.length s3] 28 (0, 0))))
  replace HI := AK (HI.out.below (below_alloc (Below.refl _ _) (.cells #[.slice U0 M.o.length s0, .slice U1 M.r.length s1, .slice U2 M.w.length s2, .slice U3 M.d.length s3] 28 (0, 0))))
  replace HX := AK (bbl HX.out (below_alloc (Below.refl _ _) (.cells #[.slice U0 M.o.length s0, .slice U1 M.r.length s1, .slice U2 M.w.length s2, .slice U3 M.d.length s3] 28 (0, 0))))
  replace HJ := AK (HJ.out.below (below_alloc (Below.refl _ _) (.cells #[.slice U0 M.o.length s0, .slice U1 M.r.length s1, .slice U2 M.w.length s2, .slice U3 M.d.length s3] 28 (0, 0))))
  replace HV := AK (Kd.C_below HV.out (below_alloc (Below.refl _ _) (.cells #[.slice U0 M.o.length s0, .slice U1 M.r.length s1, .slice U2 M.w.length s2, .slice U3 M.d.length s3] 28 (0, 0))))
  replace HY := AK (bbl HY.out (below_alloc (Below.refl _ _) (.cells #[.slice U0 M.o.length s0, .slice U1 M.r.length s1, .slice U2 M.w.length s2, .slice U3 M.d.length s3] 28 (0, 0))))
  replace HU := AK (HU.out.below (below_alloc (Below.refl _ _) (.cells #[.slice U0 M.o.length s0, .slice U1 M.r.length s1, .slice U2 M.w.length s2, .slice U3 M.d.length s3] 28 (0, 0))))
  replace HV2 := AK (Kd.C_below HV2.out (below_alloc (Below.refl _ _) (.cells #[.slice U0 M.o.length s0, .slice U1 M.r.length s1, .slice U2 M.w.length s2, .slice U3 M.d.length s3] 28 (0, 0))))
  generalize w5.alloc (.cells #[.slice U0 M.o.length s0, .slice U1 M.r.length s1, .slice U2 M.w.length s2, .slice U3 M.d.length s3] 28 (0, 0)) = w6 at HB HI HX HJ HV HY HU HV2 HZ ⊢
  generalize w5.heap.size = n6 at HZ ⊢
  obtain ⟨p0, p1, p2, p3⟩ := box4 HY.out
  obtain ⟨q0, q1, q2, q3⟩ := box4 HZ.out
  go_wp2_with fail
  clear p0 p1 p2 p3
  clear q0 q1 q2 q3
  refine (wHeap_c HJ.out HU.out).mono ?_
  rintro en w7 ⟨rfl, hb⟩
  replace HB := AK (bst HB.out hb)
  replace HI := AK (HI.out.below hb)
  replace HX := AK (bbl HX.out hb)
  replace HJ := AK (HJ.out.below hb)
  replace HV := AK (Kd.C_below HV.out hb)
  replace HY := AK (bbl HY.out hb)
  replace HU := AK (HU.out.below hb)
  replace HV2 := AK (Kd.C_below HV2.out hb)
  replace HZ := AK (bbl HZ.out hb)
  clear hb
  go_wp2_with fail
  refine (wInts_q HV.out HV2.out).mono ?_
  rintro en w8 ⟨rfl, hd⟩
  have hb := hd.below
  replace HB := AK (bst HB.out hb)
  replace HI := AK (HI.out.below hb)
  replace HX := AK (bbl HX.out hb)
  replace HJ := AK (HJ.out.below hb)
  replace HV := AK (Kd.C_below HV.out hb)
  replace HY := AK (bbl HY.out hb)
  replace HU := AK (HU.out.below hb)
  replace HV2 := AK (Kd.C_below HV2.out hb)
  replace HZ := AK (bbl HZ.out hb)
  clear hb hd
  clear HZ HU HV2
  obtain ⟨p0, p1, p2, p3⟩ := box4 HX.out
  go_wp2_with fail
  clear p0 p1 p2 p3
  refine (specOk_c HI.out (by have := HF.out.o; omega) HF.out.f (by have := HF.out.r; omega) (by have := HF.out.w; omega)).mono ?_
  rintro en w9 ⟨rfl, hb⟩
  rw [← HO.out]
  replace HB := AK (bst HB.out hb)
  replace HI := AK (HI.out.below hb)
  replace HX := AK (bbl HX.out hb)
  replace HJ := AK (HJ.out.below hb)
  replace HV := AK (Kd.C_below HV.out hb)
  replace HY := AK (bbl HY.out hb)
  clear hb
  cases bo
  case false =>
    have em : (M, mv) = (hp0, []) := by rw [EM.out]; unfold collectB; rw [if_neg (by show ¬ okB R.o R.r R.w R.d = true; rw [← HO.out]; decide)]
    injection em with em1 em2
    subst em1 em2
    go_wp2
    go_ret
    exact ⟨rfl, HB.out⟩
  have HK := AK (show OkH R.o R.r R.w R.d from ok_parts HO.out.symm)
  have HC := AK (show CF R M mv by
    have h1 : M = (collectB R).1 := congrArg Prod.fst EM.out
    have h2 : mv = (collectB R).2 := congrArg Prod.snd EM.out
    rw [h1, h2]; exact collect_facts HO.out.symm)
  have HMB := AK (show BdH M from bd_ok HC.out.ok (by
    have h1 : M = (collectB R).1 := congrArg Prod.fst EM.out
    rw [h1]; exact txh_collect HBD.out.t))
  have FM := AK HMB.out.fine
  have hml : ((mv.length : Int) != (R.o.length : Int)) = false := by rw [HC.out.len]; simp
  go_upto_region 10 with fail
  replace HB := AK (bst HB.out (below_drew1 (Below.refl _ _)))
  replace HI := AK (HI.out.below (below_drew1 (Below.refl _ _)))
  replace HX := AK (bbl HX.out (below_drew1 (Below.refl _ _)))
  replace HJ := AK (HJ.out.below (below_drew1 (Below.refl _ _)))
  replace HV := AK (Kd.C_below HV.out (below_drew1 (Below.refl _ _)))
  replace HY := AK (bbl HY.out (below_drew1 (Below.refl _ _)))
  refine start_ (n := 20) (S := (fun w' => (w'.cell? ⟨n4, 0, none⟩ = some (.slice Q0 M.o.length t0) ∧ w'.cell? ⟨n4, 1, none⟩ = some (.slice Q1 M.r.length t1) ∧ w'.cell? ⟨n4, 2, none⟩ = some (.slice Q2 M.w.length t2) ∧ w'.cell? ⟨n4, 3, none⟩ = some (.slice Q3 M.d.length t3)) ∧ w'.cell? ⟨n3, 0, none⟩ = some (.slice B0 R.o.length d0) ∧ w'.cell? ⟨n3, 1, none⟩ = some (.slice B1 R.r.length d1) ∧ w'.cell? ⟨n3, 2, none⟩ = some (.slice B2 R.w.length d2) ∧ w'.cell? ⟨n3, 3, none⟩ = some (.slice B3 R.d.length d3))) (ds := []) #[fF,fF,fF,fF,fF,fF,fF,fF,fF,fF,fF,fF,fF,fF,fF,fF,fF,fF,fF,fF] (by kernel_rfl) rfl rfl ⟨box4 HY.out, box4 HX.out⟩ (fun hHeld => ?_); refine with_tabW cl10_tab cl10_bits (fun HT_ HW_ => ?_)
  generalize World.drew w9 = v5 at HB HI HX HJ HV HY hHeld ⊢
  refine take_ (i := 0) (N := some 47) (v := ?_) (a' := ?_) #[tT,fF,fF,fF,fF,fF,fF,fF,fF,fF,fF,fF,fF,fF,fF,fF,fF,fF,fF,fF] rfl rfl (take_ofW HT_.out HW_.out (by kernel_rfl)) (fun _ _ _ h => h) (Or.inl ⟨by rfl, ?_⟩) hHeld ?_ ?_
  rotate_left
  · rintro w' ⟨⟨s_0, s_1, s_2, s_3⟩, s_4, s_5, s_6, s_7⟩
    go_simp
    with_reducible rfl
  rotate_left
  · exact zP
  refine one_ (i := 1) (N := some 48) #[tT,tT,fF,fF,fF,fF,fF,fF,fF,fF,fF,fF,fF,fF,fF,fF,fF,fF,fF,fF] rfl rfl (one_of HT_.out (by kernel_rfl)) (by decide) (fun K hK => ?_)
  refine goes_ Try.func25 (by kernel_rfl) rfl #[.agg #[.slice Q0 M.o.length t0, .slice Q1 M.r.length t1, .slice Q2 M.w.length t2, .slice Q3 M.d.length t3]] (by rfl) rfl rfl zI ?_
  refine (MemOk_calls _ _ _ _ _ _ _ _ _ _ _ _ _ HJ.out.r0 HJ.out.r1 HJ.out.r2 HJ.out.r3 (by have := FM.out.w; omega) FM.out.f).mono ?_
  rintro en v6 ⟨rfl, hb⟩
  rw [show okB M.o M.r M.w M.d = true from HC.out.ok]
  refine ⟨_, rfl, ?_⟩
  replace HB := AK (bst HB.out hb)
  replace HI := AK (HI.out.below hb)
  replace HX := AK (bbl HX.out hb)
  replace HJ := AK (HJ.out.below hb)
  replace HV := AK (Kd.C_below HV.out hb)
  replace HY := AK (bbl HY.out hb)
  clear hb
  refine hK.out _ _ ⟨box4 HY.out, box4 HX.out⟩ (fun hHeld => ?_)
  clear hK K
  refine norm_ (a' := ?_) ?_ ?_
  rotate_left
  · show Act.put _ (some 48) _ = _
    exact zP
  refine pure_ (i := 2) (N := some 49) (v := ?_) (a' := ?_) #[tT,tT,tT,fF,fF,fF,fF,fF,fF,fF,fF,fF,fF,fF,fF,fF,fF,fF,fF,fF] rfl rfl (any_of HT_.out (by kernel_rfl)) (fun _ _ _ h => h) (Or.inl ⟨by rfl, ?_⟩) ?_ ?_
  rotate_left
  · intro w'
    go_simp
    with_reducible rfl
  rotate_left
  · exact zP
  refine pure_ (i := 3) (N := some 50) (v := ?_) (a' := ?_) #[tT,tT,tT,tT,fF,fF,fF,fF,fF,fF,fF,fF,fF,fF,fF,fF,fF,fF,fF,fF] rfl rfl (any_of HT_.out (by kernel_rfl)) (fun _ _ _ h => h) (Or.inl ⟨by rfl, ?_⟩) ?_ ?_
  rotate_left
  · intro w'
    go_simp
    with_reducible rfl
  rotate_left
  · exact zP
  refine pure_ (i := 4) (N := some 51) (v := ?_) (a' := ?_) #[tT,tT,tT,tT,tT,fF,fF,fF,fF,fF,fF,fF,fF,fF,fF,fF,fF,fF,fF,fF] rfl rfl (any_of HT_.out (by kernel_rfl)) (fun _ _ _ h => h) (Or.inl ⟨by rfl, ?_⟩) ?_ ?_
  rotate_left
  · intro w'
    go_simp
    with_reducible rfl
  rotate_left
  · exact zP
  refine pure_ (i := 5) (N := some 52) (v := ?_) (a' := ?_) #[tT,tT,tT,tT,tT,tT,fF,fF,fF,fF,fF,fF,fF,fF,fF,fF,fF,fF,fF,fF] rfl rfl (any_of HT_.out (by kernel_rfl)) (fun _ _ _ h => h) (Or.inl ⟨by rfl, ?_⟩) ?_ ?_
  rotate_left
  · intro w'
    go_simp
    with_reducible rfl
  rotate_left
  · exact zP
  refine pure_ (i := 6) (N := some 53) (v := ?_) (a' := ?_) #[tT,tT,tT,tT,tT,tT,tT,fF,fF,fF,fF,fF,fF,fF,fF,fF,fF,fF,fF,fF] rfl rfl (any_of HT_.out (by kernel_rfl)) (fun _ _ _ h => h) (Or.inl ⟨by rfl, ?_⟩) ?_ ?_
  rotate_left
  · intro w'
    go_simp
    with_reducible rfl
  rotate_left
  · exact zP
  refine take_ (i := 7) (N := some 54) (v := ?_) (a' := ?_) #[tT,tT,tT,tT,tT,tT,tT,tT,fF,fF,fF,fF,fF,fF,fF,fF,fF,fF,fF,fF] rfl rfl (take_ofW HT_.out HW_.out (by kernel_rfl)) (fun _ _ _ h => h) (Or.inl ⟨by rfl, ?_⟩) hHeld ?_ ?_
  rotate_left
  · rintro w' ⟨⟨s_0, s_1, s_2, s_3⟩, s_4, s_5, s_6, s_7⟩
    go_simp
    with_reducible rfl
  rotate_left
  · exact zP
  refine pure_ (i := 8) (N := some 55) (v := ?_) (a' := ?_) #[tT,tT,tT,tT,tT,tT,tT,tT,tT,fF,fF,fF,fF,fF,fF,fF,fF,fF,fF,fF] rfl rfl (any_of HT_.out (by kernel_rfl)) (fun _ _ _ h => h) (Or.inl ⟨by rfl, ?_⟩) ?_ ?_
  rotate_left
  · intro w'
    go_simp
    with_reducible rfl
  rotate_left
  · exact zP
  refine pure_ (i := 9) (N := some 56) (v := ?_) (a' := ?_) #[tT,tT,tT,tT,tT,tT,tT,tT,tT,tT,fF,fF,fF,fF,fF,fF,fF,fF,fF,fF] rfl rfl (any_of HT_.out (by kernel_rfl)) (fun _ _ _ h => h) (Or.inl ⟨by rfl, ?_⟩) ?_ ?_
  rotate_left
  · intro w'
    go_simp
    with_reducible rfl
  rotate_left
  · exact zP
  refine pure_ (i := 10) (N := some 57) (v := ?_) (a' := ?_) #[tT,tT,tT,tT,tT,tT,tT,tT,tT,tT,tT,fF,fF,fF,fF,fF,fF,fF,fF,fF] rfl rfl (any_of HT_.out (by kernel_rfl)) (fun _ _ _ h => h) (Or.inl ⟨by rfl, ?_⟩) ?_ ?_
  rotate_left
  · intro w'
    go_simp
    with_reducible rfl
  rotate_left
  · exact zP
  refine pure_ (i := 11) (N := some 58) (v := ?_) (a' := ?_) #[tT,tT,tT,tT,tT,tT,tT,tT,tT,tT,tT,tT,fF,fF,fF,fF,fF,fF,fF,fF] rfl rfl (any_of HT_.out (by kernel_rfl)) (fun _ _ _ h => h) (Or.inl ⟨by rfl, ?_⟩) ?_ ?_
  rotate_left
  · intro w'
    go_simp
    with_reducible rfl
  rotate_left
  · exact zP
  refine take_ (i := 12) (N := some 59) (v := ?_) (a' := ?_) #[tT,tT,tT,tT,tT,tT,tT,tT,tT,tT,tT,tT,tT,fF,fF,fF,fF,fF,fF,fF] rfl rfl (take_ofW HT_.out HW_.out (by kernel_rfl)) (fun _ _ _ h => h) (Or.inl ⟨by rfl, ?_⟩) hHeld ?_ ?_
  rotate_left
  · rintro w' ⟨⟨s_0, s_1, s_2, s_3⟩, s_4, s_5, s_6, s_7⟩
    go_simp
    with_reducible rfl
  rotate_left
  · exact zP
  refine pure_ (i := 15) (N := some 62) (v := ?_) (a' := ?_) #[tT,tT,tT,tT,tT,tT,tT,tT,tT,tT,tT,tT,tT,fF,fF,tT,fF,fF,fF,fF] rfl rfl (any_of HT_.out (by kernel_rfl)) (fun _ _ _ h => h) (Or.inl ⟨by rfl, ?_⟩) ?_ ?_
  rotate_left
  · intro w'
    go_simp
    with_reducible rfl
  rotate_left
  · exact zP
  refine take_ (i := 16) (N := some 63) (v := ?_) (a' := ?_) #[tT,tT,tT,tT,tT,tT,tT,tT,tT,tT,tT,tT,tT,fF,fF,tT,tT,fF,fF,fF] rfl rfl (take_ofW HT_.out HW_.out (by kernel_rfl)) (fun _ _ _ h => h) (Or.inl ⟨by rfl, ?_⟩) hHeld ?_ ?_
  rotate_left
  · rintro w' ⟨⟨s_0, s_1, s_2, s_3⟩, s_4, s_5, s_6, s_7⟩
    go_simp
    with_reducible rfl
  rotate_left
  · exact zP
  refine pure_ (i := 17) (N := some 64) (v := ?_) (a' := ?_) #[tT,tT,tT,tT,tT,tT,tT,tT,tT,tT,tT,tT,tT,fF,fF,tT,tT,tT,fF,fF] rfl rfl (any_of HT_.out (by kernel_rfl)) (fun _ _ _ h => h) (Or.inl ⟨by rfl, ?_⟩) ?_ ?_
  rotate_left
  · intro w'
    go_simp
    with_reducible rfl
  rotate_left
  · exact zP
  refine one_ (i := 13) (N := some 60) #[tT,tT,tT,tT,tT,tT,tT,tT,tT,tT,tT,tT,tT,tT,fF,tT,tT,tT,fF,fF] rfl rfl (one_of HT_.out (by kernel_rfl)) (by decide) (fun K hK => ?_)
  refine goes_ Try.func28 (by kernel_rfl) rfl #[.agg #[.slice Q0 M.o.length t0, .slice Q1 M.r.length t1, .slice Q2 M.w.length t2, .slice Q3 M.d.length t3]] (by rfl) rfl rfl zI ?_
  refine (MemReach_calls _ _ _ _ _ _ _ _ _ _ _ _ _ HJ.out (by have := FM.out.w; omega) FM.out.f).mono ?_
  rintro en v7 ⟨v, rfl, hr, hb⟩
  obtain ⟨l, hl⟩ : ∃ l, l = reachA M.o M.r M.w M.d := ⟨_, rfl⟩
  rw [← hl] at hr
  have hln : ((l.length : Int) != (M.o.length : Int)) = false := by
    rw [hl]; unfold reachA
    rw [if_pos (show okB M.o M.r M.w M.d = true from HC.out.ok), HC.out.all]; simp
  obtain ⟨L, lc, ee⟩ := Kd.R_slice hr
  subst ee
  refine ⟨_, rfl, ?_⟩
  replace HB := AK (bst HB.out hb)
  replace HI := AK (HI.out.below hb)
  replace HX := AK (bbl HX.out hb)
  replace HJ := AK (HJ.out.below hb)
  replace HV := AK (Kd.C_below HV.out hb)
  replace HY := AK (bbl HY.out hb)
  clear hr hb hl
  refine hK.out _ _ ⟨box4 HY.out, box4 HX.out⟩ (fun hHeld => ?_)
  clear hK K
  refine norm_ (a' := ?_) ?_ ?_
  rotate_left
  · show Act.put _ (some 60) _ = _
    exact zP
  refine pure_ (i := 14) (N := some 61) (v := ?_) (a' := ?_) #[tT,tT,tT,tT,tT,tT,tT,tT,tT,tT,tT,tT,tT,tT,tT,tT,tT,tT,fF,fF] rfl rfl (any_of HT_.out (by kernel_rfl)) (fun _ _ _ h => h) (Or.inl ⟨by rfl, ?_⟩) ?_ ?_
  rotate_left
  · intro w'
    go_simp
    with_reducible rfl
  rotate_left
  · exact zP
  refine pure_ (i := 18) (N := some 65) (v := ?_) (a' := ?_) #[tT,tT,tT,tT,tT,tT,tT,tT,tT,tT,tT,tT,tT,tT,tT,tT,tT,tT,tT,fF] rfl rfl (any_of HT_.out (by kernel_rfl)) (fun _ _ _ h => h) (Or.inl ⟨by rfl, ?_⟩) ?_ ?_
  rotate_left
  · intro w'
    go_simp
    with_reducible rfl
  rotate_left
  · exact zP
  refine pure_ (i := 19) (N := some 66) (v := ?_) (a' := ?_) #[tT,tT,tT,tT,tT,tT,tT,tT,tT,tT,tT,tT,tT,tT,tT,tT,tT,tT,tT,tT] rfl rfl (any_of HT_.out (by kernel_rfl)) (fun _ _ _ h => h) (Or.inl ⟨by rfl, ?_⟩) ?_ ?_
  rotate_left
  · intro w'
    go_simp
    with_reducible rfl
  rotate_left
  · exact zP
  refine done_ (done_of HT_.out (by kernel_rfl)) ?_
  clear HT_ HW_ hHeld hml hln
  obtain ⟨p0, p1, p2, p3⟩ := box4 HX.out
  go_wp2_with fail
  clear p0 p1 p2 p3
  refine (wKnown_c HI.out HK.out).mono ?_
  rintro en w6 ⟨X, xc, x, rfl, hx, hxl, hr, hb⟩
  have HM := AK (Kd.R_reads' hr).2.2
  have HXK := AK hx
  replace HB := AK (bst HB.out hb)
  replace HI := AK (HI.out.below hb)
  replace HX := AK (bbl HX.out hb)
  replace HJ := AK (HJ.out.below hb)
  replace HV := AK (Kd.C_below HV.out hb)
  replace HY := AK (bbl HY.out hb)
  clear hr hb hx hxl
  have HL := AK (show R.o.length ≤ 60 ∧ M.o.length ≤ 61 ∧ mv.length = R.o.length from ⟨HK.out.n, HMB.out.n, HC.out.len⟩)
  go_wp2_with fail
  go_loopg [9] R.o.length (fun kq v9 w' => ∃ i : Int, v9 = .int .i64 i ∧ Aside0 (0 ≤ i ∧ i + kq = R.o.length) ∧ Aside0 (Below w.heap.size w w') ∧ Aside0 (InH w' B0 d0 B1 d1 B2 d2 B3 d3 R.o R.r R.w R.d) ∧ Aside0 (w'.heap[n3]? = some (.cells #[.slice B0 R.o.length d0, .slice B1 R.r.length d1, .slice B2 R.w.length d2, .slice B3 R.d.length d3] 28 (0, 0))) ∧ Aside0 (InH w' Q0 t0 Q1 t1 Q2 t2 Q3 t3 M.o M.r M.w M.d) ∧ Aside0 (Kd.C (Kd.int .i64) w' F mv.length mv) ∧ Aside0 (w'.heap[n4]? = some (.cells #[.slice Q0 M.o.length t0, .slice Q1 M.r.length t1, .slice Q2 M.w.length t2, .slice Q3 M.d.length t3] 28 (0, 0))) ∧ Aside0 (Kd.C (Kd.int .i64) w' X x.length x))
  case atStart => exact ⟨0, rfl, ⟨by omega, by omega⟩, HB, HI, HX, HJ, HV, HY, HM⟩
  case round =>
    clear HB HI HX HJ HV HY HM
    obtain ⟨i, rfl, HJ1, HB, HI, HX, HJ, HV, HY, HM⟩ := hrel
    obtain ⟨p0, p1, p2, p3⟩ := box4 HX.out
    cases gk with
    | succ k1 =>
      as_aux_lemma =>
      have c9 : decide (i < (R.o.length : Int)) = true := deT (by have := HJ1.out; omega)
      have hi0 := eq_true (show 0 ≤ i by have := HJ1.out; omega)
      have hi1 := eq_true (show i < (R.o.length : Int) by have := HJ1.out; omega)
      have hi2 := eq_true (show i < (mv.length : Int) by have := HJ1.out; have := HL.out; omega)
      obtain ⟨adr, Az, cz, e1, x0, x1, x2, _, hx⟩ := at_T38 HI.out.r0 i (by have := HJ1.out; omega) (by have := HJ1.out; omega)
      obtain ⟨am, e2, m0⟩ := Kd.at_int HV.out i (by have := HJ1.out; omega) (by have := HJ1.out; have := HL.out; omega)
      subst e1 e2
      obtain ⟨z, ez⟩ : ∃ z, z = rd_T38 R.o i := ⟨_, rfl⟩
      rw [← ez] at x0 x1 x2 hx
      obtain ⟨a, ea⟩ : ∃ a, a = rd mv i := ⟨_, rfl⟩
      rw [← ea] at m0
      have EZ := AK ez
      have EA := AK ea
      have HV1 := AK m0
      have HZ0 := AK x0
      have HZ1 := AK x1
      have HZ2 := AK x2
      have HZC := AK hx
      have ht : decide ((M.o.length : Int) ≤ a) = false := deF (by have := HC.out.top i (by have := HJ1.out; omega) (by have := HJ1.out; omega); rw [ea]; omega)
      clear ez ea x0 x1 x2 hx
      obtain ⟨b, hbb⟩ : ∃ b, decide (i ∈ x) = b := ⟨_, rfl⟩
      have HBB := AK hbb
      clear hbb
      have hneg : b = true → 0 ≤ a := fun hb => by
        rw [EA.out]
        exact HC.out.known i (by have := HJ1.out; omega) (by have := HJ1.out; omega) ((HXK.out i).1 (of_decide_eq_true (HBB.out.trans hb)))
      have HNEG := AK hneg
      clear hneg
      go_upto_region 16 with fail
      clear c9
      by_cases d : a < 0
      · as_aux_lemma =>
        have hbf : b = false := by cases b; rfl; exact absurd (HNEG.out rfl) (by omega)
        subst hbf
        have d1 : decide (a < 0) = true := deT d
        clear d
        obtain ⟨q0, q1, q2, q3⟩ := box4 HY.out
        go_quiet (refine wHas_n HM.out HBB.out)
        have hb : Below wr.heap.size wr (wr.drewN nq) := pw_below_drewN (Below.refl _ _) nq
        replace HB := AK (bst HB.out hb)
        replace HI := AK (HI.out.below hb)
        replace HX := AK (bbl HX.out hb)
        replace HJ := AK (HJ.out.below hb)
        replace HV := AK (Kd.C_below HV.out hb)
        replace HY := AK (bbl HY.out hb)
        replace HM := AK (Kd.C_below HM.out hb)
        replace HV1 := AK (pcb hb HV1.out)
        replace HZ0 := AK (pcb hb HZ0.out)
        replace HZ1 := AK (pcb hb HZ1.out)
        replace HZ2 := AK (pcb hb HZ2.out)
        replace HZC := AK (Kd.C_below HZC.out hb)
        clear hb
        generalize wr.drewN nq = w7 at HB HI HX HJ HV HY HM HV1 HZ0 HZ1 HZ2 HZC ⊢
        clear q0 q1 q2 q3 m0 p0 p1 p2 p3 ht
        have m0 := HV1.out
        go_wp2
        go_roundg k1
        case measure => omega
        case rel =>
          rw [wrap_succ i (by have := HJ1.out; omega) (by have := HJ1.out; have := HL.out; omega)]
          exact ⟨i + 1, rfl, ⟨by have := HJ1.out; omega, by have := HJ1.out; omega⟩, HB, HI, HX, HJ, HV, HY, HM⟩
      · as_aux_lemma =>
        have d1 : decide (a < 0) = false := deF d
        have hal := HC.out.top i (by have := HJ1.out; omega) (by have := HJ1.out; omega)
        rw [← EA.out] at hal
        have hj0 := eq_true (show 0 ≤ a by omega)
        have hj1 := eq_true (show a < (M.o.length : Int) by omega)
        have HA := AK (And.intro (show 0 ≤ a by omega) hal)
        obtain ⟨adm, Ay, cy, e3, y0, y1, y2, _, hy⟩ := at_T38 HJ.out.r0 a HA.out.1 HA.out.2
        subst e3
        obtain ⟨y, ey⟩ : ∃ y, y = rd_T38 M.o a := ⟨_, rfl⟩
        rw [← ey] at y0 y1 y2 hy
        have EY := AK ey
        have HY0 := AK y0
        have HY1 := AK y1
        have HY2 := AK y2
        have HXC := AK hy
        clear d hal ey y0 y1 y2 hy
        cases b
        all_goals
          obtain ⟨q0, q1, q2, q3⟩ := box4 HY.out
          go_quiet (refine wHas_n HM.out HBB.out)
          have hb : Below wr.heap.size wr (wr.drewN nq) := pw_below_drewN (Below.refl _ _) nq
          replace HB := AK (bst HB.out hb)
          replace HI := AK (HI.out.below hb)
          replace HX := AK (bbl HX.out hb)
          replace HJ := AK (HJ.out.below hb)
          replace HV := AK (Kd.C_below HV.out hb)
          replace HY := AK (bbl HY.out hb)
          replace HM := AK (Kd.C_below HM.out hb)
          replace HV1 := AK (pcb hb HV1.out)
          replace HZ0 := AK (pcb hb HZ0.out)
          replace HZ1 := AK (pcb hb HZ1.out)
          replace HZ2 := AK (pcb hb HZ2.out)
          replace HZC := AK (Kd.C_below HZC.out hb)
          replace HY0 := AK (pcb hb HY0.out)
          replace HY1 := AK (pcb hb HY1.out)
          replace HY2 := AK (pcb hb HY2.out)
          replace HXC := AK (Kd.C_below HXC.out hb)
          clear hb
          generalize wr.drewN nq = w7 at HB HI HX HJ HV HY HM HV1 HZ0 HZ1 HZ2 HZC HY0 HY1 HY2 HXC ⊢
          clear q0 q1 q2 q3 m0 p0 p1 p2 p3 ht
          have m0 := HV1.out
          go_upto_region 19 with fail
          clear m0 d1
          have HK8 := AK (And.intro HB.out ( And.intro HI.out ( And.intro HX.out ( And.intro HJ.out ( And.intro HV.out ( And.intro HY.out ( And.intro HM.out ( And.intro HV1.out ( And.intro HZ0.out ( And.intro HZ1.out ( And.intro HZ2.out ( And.intro HZC.out ( And.intro HY0.out ( And.intro HY1.out ( And.intro HY2.out (HXC.out))))))))))))))))
          have HW8 := AK (Below.refl (World.heap w7).size w7)
          replace HW8 := AK (bst HW8.out (below_drew1 (Below.refl _ _)))
          refine start_ (n := 10) (S := (fun w' => w'.cell? ⟨n4, 0, none⟩ = some (.slice (some adm) M.o.length t0) ∧ w'.cell? (am.add i.toNat) = some (.int .i64 a) ∧ w'.cell? (adm.add (a.toNat * 3)) = some (.int .i64 y.f0) ∧ w'.cell? ⟨(adm.add (a.toNat * 3)).block, (adm.add (a.toNat * 3)).off + 1, none⟩ = some (.string y.f1) ∧ w'.cell? ⟨(adm.add (a.toNat * 3)).block, (adm.add (a.toNat * 3)).off + 2, none⟩ = some (.slice Ay y.f2.length cy))) (ds := []) #[fF,fF,fF,fF,fF,fF,fF,fF,fF,fF] (by kernel_rfl) rfl rfl ⟨pcb HW8.out (box4 HY.out).1, pcb HW8.out HV1.out, pcb HW8.out HY0.out, pcb HW8.out HY1.out, pcb HW8.out HY2.out⟩ (fun hHeld => ?_); refine with_tabW cl19_tab cl19_bits (fun HT_ HW_ => ?_)
          generalize World.drew w7 = v5 at HW8 hHeld ⊢
          refine pure_ (i := 0) (N := some 101) (v := ?_) (a' := ?_) #[tT,fF,fF,fF,fF,fF,fF,fF,fF,fF] rfl rfl (any_of HT_.out (by kernel_rfl)) (fun _ _ _ h => h) (Or.inl ⟨by rfl, ?_⟩) ?_ ?_
          rotate_left
          · intro w'
            go_simp
            with_reducible rfl
          rotate_left
          · exact zP
          refine take_ (i := 1) (N := some 102) (v := ?_) (a' := ?_) #[tT,tT,fF,fF,fF,fF,fF,fF,fF,fF] rfl rfl (take_ofW HT_.out HW_.out (by kernel_rfl)) (fun _ _ _ h => h) (Or.inl ⟨by rfl, ?_⟩) hHeld ?_ ?_
          rotate_left
          · rintro w' ⟨s_0, s_1, s_2, s_3, s_4⟩
            go_simp
            with_reducible rfl
          rotate_left
          · exact zP
          refine pure_ (i := 2) (N := some 103) (v := ?_) (a' := ?_) #[tT,tT,tT,fF,fF,fF,fF,fF,fF,fF] rfl rfl (any_of HT_.out (by kernel_rfl)) (fun _ _ _ h => h) (Or.inl ⟨by rfl, ?_⟩) ?_ ?_
          rotate_left
          · intro w'
            go_simp
            with_reducible rfl
          rotate_left
          · exact zP
          refine pure_ (i := 3) (N := some 104) (v := ?_) (a' := ?_) #[tT,tT,tT,tT,fF,fF,fF,fF,fF,fF] rfl rfl (any_of HT_.out (by kernel_rfl)) (fun _ _ _ h => h) (Or.inl ⟨by rfl, ?_⟩) ?_ ?_
          rotate_left
          · intro w'
            go_simp
            with_reducible rfl
          rotate_left
          · exact zP
          refine pure_ (i := 4) (N := some 105) (v := ?_) (a' := ?_) #[tT,tT,tT,tT,tT,fF,fF,fF,fF,fF] rfl rfl (any_of HT_.out (by kernel_rfl)) (fun _ _ _ h => h) (Or.inl ⟨by rfl, ?_⟩) ?_ ?_
          rotate_left
          · intro w'
            go_simp
            with_reducible rfl
          rotate_left
          · exact zP
          refine take_ (i := 5) (N := some 106) (v := ?_) (a' := ?_) #[tT,tT,tT,tT,tT,tT,fF,fF,fF,fF] rfl rfl (take_ofW HT_.out HW_.out (by kernel_rfl)) (fun _ _ _ h => h) (Or.inl ⟨by rfl, ?_⟩) hHeld ?_ ?_
          rotate_left
          · rintro w' ⟨s_0, s_1, s_2, s_3, s_4⟩
            go_simp
            with_reducible rfl
          rotate_left
          · exact zP
          refine pure_ (i := 6) (N := some 107) (v := ?_) (a' := ?_) #[tT,tT,tT,tT,tT,tT,tT,fF,fF,fF] rfl rfl (any_of HT_.out (by kernel_rfl)) (fun _ _ _ h => h) (Or.inl ⟨by rfl, ?_⟩) ?_ ?_
          rotate_left
          · intro w'
            go_simp
            with_reducible rfl
          rotate_left
          · exact zP
          refine take_ (i := 7) (N := some 108) (v := ?_) (a' := ?_) #[tT,tT,tT,tT,tT,tT,tT,tT,fF,fF] rfl rfl (take_ofW HT_.out HW_.out (by kernel_rfl)) (fun _ _ _ h => h) (Or.inl ⟨by rfl, ?_⟩) hHeld ?_ ?_
          rotate_left
          · rintro w' ⟨s_0, s_1, s_2, s_3, s_4⟩
            go_simp
            with_reducible rfl
          rotate_left
          · exact zP
          refine one_ (i := 8) (N := some 10) #[tT,tT,tT,tT,tT,tT,tT,tT,tT,fF] rfl rfl (one_of HT_.out (by kernel_rfl)) (by decide) (fun K hK => ?_)
          refine box_step ?hg (N := 10) ?hd (cs := #[.int .i64 0, .string ⟨#[]⟩, .slice none 0 0]) (t := 38) ?hr ?_; (case hd => rfl); (case hg => rfl); (case hr => first | (go_simp; done) | (go_simp; rfl))
          intro n10 hg v6 hbox hb
          have HT0 := AK hbox
          have HW9 := AK (show Below w7.heap.size w7 v6 ∧ w7.heap.size ≤ n10 from ⟨bst HW8.out hb, by rw [hg]; exact HW8.out.size⟩)
          clear hg hbox
          replace HW8 := AK (bst HW8.out hb)
          clear hb
          refine hK.out _ _ ⟨pcb HW8.out (box4 HY.out).1, pcb HW8.out HV1.out, pcb HW8.out HY0.out, pcb HW8.out HY1.out, pcb HW8.out HY2.out⟩ (fun hHeld => ?_)
          clear hK K
          refine norm_ (a' := ?_) ?_ ?_
          rotate_left
          · show Act.put _ (some 10) _ = _
            exact zP
          refine one_ (i := 9) (N := none) #[tT,tT,tT,tT,tT,tT,tT,tT,tT,tT] rfl rfl (one_of HT_.out (by kernel_rfl)) (by decide) (fun K hK => ?_)
          obtain ⟨z0, z1, z2⟩ := box3 HT0.out
          have f0 := bfz HT0.out 0
          have f1 := bfz HT0.out 1
          have f2 := bfz HT0.out 2
          have NT := AK (show (((v6.setCell ⟨n10, 0, none⟩ (.int .i64 y.f0)).setCell ⟨n10, 1, none⟩ (.string y.f1)).setCell ⟨n10, 2, none⟩ (.slice Ay y.f2.length cy)).heap[n10]? = some (.cells #[.int .i64 y.f0, .string y.f1, .slice Ay y.f2.length cy] 38 (0, 0)) from blk_put (blk_put (blk_put HT0.out 0 _ rfl) 1 _ rfl) 2 _ rfl)
          have hbs : Below w7.heap.size w7 (((v6.setCell ⟨n10, 0, none⟩ (.int .i64 y.f0)).setCell ⟨n10, 1, none⟩ (.string y.f1)).setCell ⟨n10, 2, none⟩ (.slice Ay y.f2.length cy)) := below_set (below_set (below_set HW9.out.1 HW9.out.2) HW9.out.2) HW9.out.2
          refine skip_ (w1 := ?_) (by rfl) rfl ?_ ?_
          rotate_left
          · go_simp
            rfl
          clear z0 z1 z2 f0 f1 f2
          generalize (((v6.setCell ⟨n10, 0, none⟩ (.int .i64 y.f0)).setCell ⟨n10, 1, none⟩ (.string y.f1)).setCell ⟨n10, 2, none⟩ (.slice Ay y.f2.length cy)) = v7 at NT hbs ⊢
          obtain ⟨k_0, k_1, k_2, k_3, k_4, k_5, k_6, k_7, k_8, k_9, k_10, k_11, k_12, k_13, k_14, k_15⟩ := HK8.out
          replace HB := AK (bst k_0 hbs)
          replace HI := AK (InH.below k_1 hbs)
          replace HX := AK (bbl k_2 hbs)
          replace HJ := AK (InH.below k_3 hbs)
          replace HV := AK (Kd.C_below k_4 hbs)
          replace HY := AK (bbl k_5 hbs)
          replace HM := AK (Kd.C_below k_6 hbs)
          replace HV1 := AK (pcb hbs k_7)
          replace HZ0 := AK (pcb hbs k_8)
          replace HZ1 := AK (pcb hbs k_9)
          replace HZ2 := AK (pcb hbs k_10)
          replace HZC := AK (Kd.C_below k_11 hbs)
          replace HY0 := AK (pcb hbs k_12)
          replace HY1 := AK (pcb hbs k_13)
          replace HY2 := AK (pcb hbs k_14)
          replace HXC := AK (Kd.C_below k_15 hbs)
          have HT := NT
          clear k_0 k_1 k_2 k_3 k_4 k_5 k_6 k_7 k_8 k_9 k_10 k_11 k_12 k_13 k_14 k_15 NT HT0 HW9 HK8
          replace HW8 := AK hbs
          clear hbs
          refine hK.out _ _ ⟨(box4 HY.out).1, HV1.out, HY0.out, HY1.out, HY2.out⟩ (fun hHeld => ?_)
          clear hK K
          refine done_ (done_of HT_.out (by kernel_rfl)) ?_
          clear HT_ HW_ hHeld HW8
          have hof := HC.out.obj i (by have := HJ1.out; omega) (by have := HJ1.out; omega) (by rw [← EA.out]; exact HA.out.1)
          rw [← EA.out, ← EY.out, ← EZ.out] at hof
          have HOF := AK hof
          have hq0 : (y.f0 != z.f0) = false := by rw [hof.1]; simp
          have hq1 : (z.f1.toList != z.f1.toList) = false := by simp
          replace HT := AK (show v7.heap[n10]? = some (.cells #[.int .i64 y.f0, .string z.f1, .slice Ay y.f2.length cy] 38 (0, 0)) by rw [← hof.2.1]; exact HT.out)
          have hq2 : ((y.f2.length : Int) != (z.f2.length : Int)) = false := by rw [hof.2.2]; simp
          clear hof
          obtain ⟨p0, p1, p2, p3⟩ := box4 HX.out
          obtain ⟨u0, u1, u2⟩ := box3 HT.out
          have x0 := HZ0.out
          have x1 := HZ1.out
          have x2 := HZ2.out
          go_wp2_with fail
          go_quiet (fail)
          have hb : Below v7.heap.size v7 (v7.drewN nq) := pw_below_drewN (Below.refl _ _) nq
          replace HB := AK (bst HB.out hb)
          replace HI := AK (HI.out.below hb)
          replace HX := AK (bbl HX.out hb)
          replace HJ := AK (HJ.out.below hb)
          replace HV := AK (Kd.C_below HV.out hb)
          replace HY := AK (bbl HY.out hb)
          replace HM := AK (Kd.C_below HM.out hb)
          replace HV1 := AK (pcb hb HV1.out)
          replace HZ0 := AK (pcb hb HZ0.out)
          replace HZ1 := AK (pcb hb HZ1.out)
          replace HZ2 := AK (pcb hb HZ2.out)
          replace HZC := AK (Kd.C_below HZC.out hb)
          replace HY0 := AK (pcb hb HY0.out)
          replace HY1 := AK (pcb hb HY1.out)
          replace HY2 := AK (pcb hb HY2.out)
          replace HXC := AK (Kd.C_below HXC.out hb)
          replace HT := AK (bbl HT.out hb)
          clear hb
          generalize v7.drewN nq = w8 at HB HI HX HJ HV HY HM HV1 HZ0 HZ1 HZ2 HZC HY0 HY1 HY2 HXC HT ⊢
          clear p0 p1 p2 p3 u0 u1 u2 x0 x1 x2 hq0 hq1 hq2
          go_wp2_with fail
          go_loopg [11] y.f2.length (fun kq v11 w' => ∃ k : Int, v11 = .int .i64 k ∧ Aside0 (0 ≤ k ∧ k + kq = y.f2.length) ∧ Aside0 (Below w.heap.size w w') ∧ Aside0 (InH w' (some adr) d0 B1 d1 B2 d2 B3 d3 R.o R.r R.w R.d) ∧ Aside0 (w'.heap[n3]? = some (.cells #[.slice (some adr) R.o.length d0, .slice B1 R.r.length d1, .slice B2 R.w.length d2, .slice B3 R.d.length d3] 28 (0, 0))) ∧ Aside0 (InH w' (some adm) t0 Q1 t1 Q2 t2 Q3 t3 M.o M.r M.w M.d) ∧ Aside0 (Kd.C (Kd.int .i64) w' (some am) mv.length mv) ∧ Aside0 (w'.heap[n4]? = some (.cells #[.slice (some adm) M.o.length t0, .slice Q1 M.r.length t1, .slice Q2 M.w.length t2, .slice Q3 M.d.length t3] 28 (0, 0))) ∧ Aside0 (Kd.C (Kd.int .i64) w' X x.length x) ∧ Aside0 (w'.cell? ⟨(adr.add (i.toNat * 3)).block, (adr.add (i.toNat * 3)).off + 2, none⟩ = some (.slice Az z.f2.length cz)) ∧ Aside0 (Kd.C (Kd.int .i64) w' Az z.f2.length z.f2) ∧ Aside0 (Kd.C (Kd.int .i64) w' Ay y.f2.length y.f2) ∧ Aside0 (w'.heap[n10]? = some (.cells #[.int .i64 y.f0, .string z.f1, .slice Ay y.f2.length cy] 38 (0, 0))))
          case atStart => exact ⟨0, rfl, ⟨by omega, by omega⟩, HB, HI, HX, HJ, HV, HY, HM, HZ2, HZC, HXC, HT⟩
          case round =>
            clear HB HI HX HJ HV HY HM HZ2 HZC HXC HT HV1 HY0 HY1 HY2 HZ0 HZ1
            obtain ⟨k, rfl, HJ2, HB, HI, HX, HJ, HV, HY, HM, HZ2, HZC, HXC, HT⟩ := hrel
            obtain ⟨p0, p1, p2, p3⟩ := box4 HX.out
            obtain ⟨u0, u1, u2⟩ := box3 HT.out
            have x2 := HZ2.out
            cases gk with
            | succ k2 =>
              as_aux_lemma =>
              have c9 : decide (k < (y.f2.length : Int)) = true := deT (by have := HJ2.out; omega)
              have g0 := eq_true (show 0 ≤ k by have := HJ2.out; omega)
              have g1 := eq_true (show k < (y.f2.length : Int) by have := HJ2.out; omega)
              have g2 := eq_true (show k < (z.f2.length : Int) by have := HJ2.out; have := HOF.out.2.2; omega)
              obtain ⟨az, e4, z2⟩ := Kd.at_int HZC.out k (by have := HJ2.out; omega) (by have := HJ2.out; have := HOF.out.2.2; omega)
              obtain ⟨ay, e5, z3⟩ := Kd.at_int HXC.out k (by have := HJ2.out; omega) (by have := HJ2.out; omega)
              subst e4 e5
              have hrf := HC.out.refs i k (by have := HJ1.out; omega) (by have := HJ1.out; omega) (by rw [← EA.out]; exact HA.out.1) (by have := HJ2.out; omega) (by rw [← EZ.out]; have := HJ2.out; have := HOF.out.2.2; omega)
              rw [← EA.out, ← EY.out, ← EZ.out] at hrf
              obtain ⟨r, er⟩ : ∃ r, r = rd z.f2 k := ⟨_, rfl⟩
              obtain ⟨yr, eyr⟩ : ∃ r, r = rd y.f2 k := ⟨_, rfl⟩
              rw [← er] at z2 hrf
              rw [← eyr] at z3 hrf
              have HRF := AK hrf
              clear hrf er eyr
              go_upto_region 26 with fail
              clear c9
              by_cases d : 0 ≤ r
              · as_aux_lemma =>
                have HYL := AK (show y.f2.length ≤ 7 by rw [EY.out]; exact HMB.out.f _ (getD_mem M.o z38 a HA.out.1 HA.out.2))
                obtain ⟨r1, r2, r3, r4, r5⟩ := HRF.out
                have h1 := r1 d
                obtain ⟨am2, e6, z4⟩ := Kd.at_int HV.out r d (by have := HL.out; omega)
                injection e6 with e6
                subst e6
                obtain ⟨m, em⟩ : ∃ m, m = rd mv r := ⟨_, rfl⟩
                rw [← em] at z4 h1 r3
                subst h1
                have d1 : decide (0 ≤ r) = true := deT d
                have d2 : decide (r < 0) = false := deF (by omega)
                have g3 := eq_true d
                have g4 := eq_true (show r < (mv.length : Int) by have := HL.out; omega)
                have hy := r3 d
                have hmm : (yr != yr) = false := by simp
                clear r1 r2 r3 r4 r5 em d
                by_cases dm : yr < 0
                · as_aux_lemma =>
                  obtain ⟨hk3, hk0⟩ := hy dm
                  have hk3' : (y.f0 != 3) = false := by rw [HOF.out.1, hk3]; rfl
                  have hk0' : (k != 0) = false := by rw [hk0]; rfl
                  have d3 : decide (yr < 0) = true := deT dm
                  clear hy dm hk3 hk0
                  go_wp2_with fail
                  go_quiet (fail)
                  have hb : Below wr.heap.size wr (wr.drewN nq) := pw_below_drewN (Below.refl _ _) nq
                  replace HB := AK (bst HB.out hb)
                  replace HI := AK (HI.out.below hb)
                  replace HX := AK (bbl HX.out hb)
                  replace HJ := AK (HJ.out.below hb)
                  replace HV := AK (Kd.C_below HV.out hb)
                  replace HY := AK (bbl HY.out hb)
                  replace HM := AK (Kd.C_below HM.out hb)
                  replace HZ2 := AK (pcb hb HZ2.out)
                  replace HZC := AK (Kd.C_below HZC.out hb)
                  replace HXC := AK (Kd.C_below HXC.out hb)
                  replace HT := AK (bbl HT.out hb)
                  clear hb
                  generalize wr.drewN nq = w7 at HB HI HX HJ HV HY HM HZ2 HZC HXC HT ⊢
                  clear p0 p1 p2 p3 u0 u1 u2 x2 z2 z3 z4 d1 d2 d3 hk3' hk0' hmm
                  go_wp2
                  go_roundg k2
                  case measure => omega
                  case rel =>
                    rw [wrap_succ k (by have := HJ2.out; omega) (by have := HJ2.out; have := HYL.out; omega)]
                    exact ⟨k + 1, rfl, ⟨by have := HJ2.out; omega, by have := HJ2.out; omega⟩, HB, HI, HX, HJ, HV, HY, HM, HZ2, HZC, HXC, HT⟩
                · as_aux_lemma =>
                  have d3 : decide (yr < 0) = false := deF dm
                  clear hy dm
                  go_wp2_with fail
                  go_quiet (fail)
                  have hb : Below wr.heap.size wr (wr.drewN nq) := pw_below_drewN (Below.refl _ _) nq
                  replace HB := AK (bst HB.out hb)
                  replace HI := AK (HI.out.below hb)
                  replace HX := AK (bbl HX.out hb)
                  replace HJ := AK (HJ.out.below hb)
                  replace HV := AK (Kd.C_below HV.out hb)
                  replace HY := AK (bbl HY.out hb)
                  replace HM := AK (Kd.C_below HM.out hb)
                  replace HZ2 := AK (pcb hb HZ2.out)
                  replace HZC := AK (Kd.C_below HZC.out hb)
                  replace HXC := AK (Kd.C_below HXC.out hb)
                  replace HT := AK (bbl HT.out hb)
                  clear hb
                  generalize wr.drewN nq = w7 at HB HI HX HJ HV HY HM HZ2 HZC HXC HT ⊢
                  clear p0 p1 p2 p3 u0 u1 u2 x2 z2 z3 z4 d1 d2 d3 hmm
                  go_wp2
                  go_roundg k2
                  case measure => omega
                  case rel =>
                    rw [wrap_succ k (by have := HJ2.out; omega) (by have := HJ2.out; have := HYL.out; omega)]
                    exact ⟨k + 1, rfl, ⟨by have := HJ2.out; omega, by have := HJ2.out; omega⟩, HB, HI, HX, HJ, HV, HY, HM, HZ2, HZC, HXC, HT⟩
              · as_aux_lemma =>
                have HYL := AK (show y.f2.length ≤ 7 by rw [EY.out]; exact HMB.out.f _ (getD_mem M.o z38 a HA.out.1 HA.out.2))
                have hyn := HRF.out.2.1 (by omega)
                have d1 : decide (0 ≤ r) = false := deF d
                have d2 : decide (r < 0) = true := deT (by omega)
                have d3 : decide (0 ≤ yr) = false := deF (by omega)
                clear hyn d
                go_wp2_with fail
                go_quiet (fail)
                have hb : Below wr.heap.size wr (wr.drewN nq) := pw_below_drewN (Below.refl _ _) nq
                replace HB := AK (bst HB.out hb)
                replace HI := AK (HI.out.below hb)
                replace HX := AK (bbl HX.out hb)
                replace HJ := AK (HJ.out.below hb)
                replace HV := AK (Kd.C_below HV.out hb)
                replace HY := AK (bbl HY.out hb)
                replace HM := AK (Kd.C_below HM.out hb)
                replace HZ2 := AK (pcb hb HZ2.out)
                replace HZC := AK (Kd.C_below HZC.out hb)
                replace HXC := AK (Kd.C_below HXC.out hb)
                replace HT := AK (bbl HT.out hb)
                clear hb
                generalize wr.drewN nq = w7 at HB HI HX HJ HV HY HM HZ2 HZC HXC HT ⊢
                clear p0 p1 p2 p3 u0 u1 u2 x2 z2 z3 d1 d2 d3
                go_wp2
                go_roundg k2
                case measure => omega
                case rel =>
                  rw [wrap_succ k (by have := HJ2.out; omega) (by have := HJ2.out; have := HYL.out; omega)]
                  exact ⟨k + 1, rfl, ⟨by have := HJ2.out; omega, by have := HJ2.out; omega⟩, HB, HI, HX, HJ, HV, HY, HM, HZ2, HZC, HXC, HT⟩
            | zero =>
              as_aux_lemma =>
              have c9 : decide (k < (y.f2.length : Int)) = false := deF (by have := HJ2.out; omega)
              go_wp2
              go_roundg k1
              case measure => omega
              case rel =>
                rw [wrap_succ i (by have := HJ1.out; omega) (by have := HJ1.out; have := HL.out; omega)]
                exact ⟨i + 1, rfl, ⟨by have := HJ1.out; omega, by have := HJ1.out; omega⟩, HB, HI, HX, HJ, HV, HY, HM⟩
    | zero =>
      as_aux_lemma =>
      have c9 : decide (i < (R.o.length : Int)) = false := deF (by have := HJ1.out; omega)
      clear HJ1
      obtain ⟨q0, q1, q2, q3⟩ := box4 HY.out
      go_wp2_with fail
      clear c9 p0 p1 p2 p3 q0 q1 q2 q3
      obtain ⟨g, eg⟩ : ∃ g, g = rangeL M.o.length := ⟨_, rfl⟩
      have EG := AK eg
      refine (MemCollect_calls _ _ _ _ _ _ _ _ _ _ _ _ _ HJ.out ⟨by have := FM.out.w; omega, FM.out.f⟩ M g (by rw [eg]; exact HC.out.again.symm)).mono ?_
      clear eg
      rintro en w6 ⟨U0, s0, U1, s1, U2, s2, U3, s3, G, gc, rfl, hO, hb⟩
      have HU := AK hO.own.reads
      have HG := AK (Kd.R_reads' hO.m).2.2
      replace HB := AK (bst HB.out hb)
      replace HI := AK (HI.out.below hb)
      replace HX := AK (bbl HX.out hb)
      replace HJ := AK (HJ.out.below hb)
      replace HV := AK (Kd.C_below HV.out hb)
      replace HY := AK (bbl HY.out hb)
      replace HM := AK (Kd.C_below HM.out hb)
      clear HX HI HV HM
      clear hO hb
      go_upto_region 29 with fail
      have HP := AK (blk_new w6 (.cells #[.slice U0 M.o.length s0, .slice U1 M.r.length s1, .slice U2 M.w.length s2, .slice U3 M.d.length s3] 28 (0, 0)))
      replace HB := AK (bst HB.out (below_alloc (Below.refl _ _) (.cells #[.slice U0 M.o.length s0, .slice U1 M.r.length s1, .slice U2 M.w.length s2, .slice U3 M.d.length s3] 28 (0, 0))))
      replace HJ := AK (HJ.out.below (below_alloc (Below.refl _ _) (.cells #[.slice U0 M.o.length s0, .slice U1 M.r.length s1, .slice U2 M.w.length s2, .slice U3 M.d.length s3] 28 (0, 0))))
      replace HY := AK (bbl HY.out (below_alloc (Below.refl _ _) (.cells #[.slice U0 M.o.length s0, .slice U1 M.r.length s1, .slice U2 M.w.length s2, .slice U3 M.d.length s3] 28 (0, 0))))
      replace HU := AK (HU.out.below (below_alloc (Below.refl _ _) (.cells #[.slice U0 M.o.length s0, .slice U1 M.r.length s1, .slice U2 M.w.length s2, .slice U3 M.d.length s3] 28 (0, 0))))
      replace HG := AK (Kd.C_below HG.out (below_alloc (Below.refl _ _) (.cells #[.slice U0 M.o.length s0, .slice U1 M.r.length s1, .slice U2 M.w.length s2, .slice U3 M.d.length s3] 28 (0, 0))))
      generalize w6.alloc (.cells #[.slice U0 M.o.length s0, .slice U1 M.r.length s1, .slice U2 M.w.length s2, .slice U3 M.d.length s3] 28 (0, 0)) = w7 at HB HJ HY HU HG HP ⊢
      generalize w6.heap.size = n13 at HP ⊢
      go_wp2_with fail
      go_loopg [15] g.length (fun kq v15 w' => ∃ i : Int, v15 = .int .i64 i ∧ Aside0 (0 ≤ i ∧ i + kq = g.length) ∧ Aside0 (Below w.heap.size w w') ∧ Aside0 (InH w' Q0 t0 Q1 t1 Q2 t2 Q3 t3 M.o M.r M.w M.d) ∧ Aside0 (w'.heap[n4]? = some (.cells #[.slice Q0 M.o.length t0, .slice Q1 M.r.length t1, .slice Q2 M.w.length t2, .slice Q3 M.d.length t3] 28 (0, 0))) ∧ Aside0 (InH w' U0 s0 U1 s1 U2 s2 U3 s3 M.o M.r M.w M.d) ∧ Aside0 (Kd.C (Kd.int .i64) w' G g.length g) ∧ Aside0 (w'.heap[n13]? = some (.cells #[.slice U0 M.o.length s0, .slice U1 M.r.length s1, .slice U2 M.w.length s2, .slice U3 M.d.length s3] 28 (0, 0))))
      case atStart => exact ⟨0, rfl, ⟨by omega, by omega⟩, HB, HJ, HY, HU, HG, HP⟩
      case round =>
        clear HB HJ HY HU HG HP
        obtain ⟨i, rfl, HJ1, HB, HJ, HY, HU, HG, HP⟩ := hrel
        have HGL := AK (show g.length ≤ 61 by rw [EG.out, rangeL_length]; exact HMB.out.n)
        cases gk with
        | succ k1 =>
          as_aux_lemma =>
          have c9 : decide (i < (g.length : Int)) = true := deT (by have := HJ1.out; omega)
          have hi0 := eq_true (show 0 ≤ i by have := HJ1.out; omega)
          have hi1 := eq_true (show i < (g.length : Int) by have := HJ1.out; omega)
          obtain ⟨ag, e2, m0⟩ := Kd.at_int HG.out i (by have := HJ1.out; omega) (by have := HJ1.out; omega)
          subst e2
          have hgl : g.length = M.o.length := by rw [EG.out, rangeL_length]
          rw [show rd g i = i by rw [EG.out]; exact rangeL_rd _ i (by have := HJ1.out; omega) (by have := HJ1.out; omega)] at m0
          clear hgl
          have hii : (i != i) = false := by simp
          go_wp2
          go_roundg k1
          case measure => omega
          case rel =>
            rw [wrap_succ i (by have := HJ1.out; omega) (by have := HJ1.out; have := HGL.out; omega)]
            exact ⟨i + 1, rfl, ⟨by have := HJ1.out; omega, by have := HJ1.out; omega⟩, HB, HJ, HY, HU, HG, HP⟩
        | zero =>
          as_aux_lemma =>
          obtain ⟨q0, q1, q2, q3⟩ := box4 HY.out
          obtain ⟨p0, p1, p2, p3⟩ := box4 HP.out
          have c9 : decide (i < (g.length : Int)) = false := deF (by have := HJ1.out; omega)
          go_wp2_with fail
          clear p0 p1 p2 p3 q0 q1 q2 q3
          refine (wHeap_c HU.out HJ.out).mono ?_
          rintro en w8 ⟨rfl, hb⟩
          replace HB := AK (bst HB.out hb)
          clear hb
          go_wp2
          go_ret
          exact ⟨rfl, HB.out⟩
end Go.Proofs.Ytigjhfijkdlldaa.H
