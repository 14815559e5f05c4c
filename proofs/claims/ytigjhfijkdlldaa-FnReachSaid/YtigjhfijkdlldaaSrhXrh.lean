import Derived.Test.YtigjhfijkdlldaaSrhYw
import Derived.Test.YtigjhfijkdlldaaSrhYmr
/- The law FnReach, walked. -/
namespace Go.Proofs.Ytigjhfijkdlldaa.H
open Go.RowKit Go.Proofs.YtigjhfijkdlldaaW.PrintWords Go.Proofs.YtigjhfijkdlldaaW.PrintLast Go.Proofs.YtigjhfijkdlldaaW.PrintMore Go.Proofs.Ytigjhfijkdlldaa.Q
set_option linter.unusedVariables false
set_option linter.unusedSimpArgs false
theorem rh5_tab : rtab .any (opsOf Try.f8 5) = (true, [([], []), ([], []), ([1], [1]), ([0, 2, 2], [0, 2]), ([3], [3]), ([4, 3], [4]), ([5], [5]), ([6, 5, 5], [5, 6]), ([5], [5]), ([8, 7, 5], [5, 8]), ([7, 9, 5], [5, 7, 9]), ([5, 10], [5, 10])]) := by kernel_rfl
theorem rh5_bits : waitsOk [([], []), ([], []), ([1], [1]), ([0, 2, 2], [0, 2]), ([3], [3]), ([4, 3], [4]), ([5], [5]), ([6, 5, 5], [5, 6]), ([5], [5]), ([8, 7, 5], [5, 8]), ([7, 9, 5], [5, 7, 9]), ([5, 10], [5, 10])] [0, 0, 2, 7, 15, 31, 63, 127, 63, 511, 1023, 2047] = true := by kernel_rfl

theorem rh13_tab : rtab .any (opsOf Try.f8 13) = (true, [([], []), ([], []), ([], []), ([1, 2], [1, 2]), ([3], [3]), ([0, 4], [0, 4]), ([5], [5]), ([6, 5], [6]), ([7], [7]), ([7], [7]), ([8, 9, 7], [7, 8, 9]), ([7], [7]), ([7], [7]), ([11, 12, 7], [7, 11, 12]), ([13, 7], [7, 13]), ([10, 14, 7, 7], [7, 10, 14]), ([7, 15], [7, 15])]) := by kernel_rfl
theorem rh13_bits : waitsOk [([], []), ([], []), ([], []), ([1, 2], [1, 2]), ([3], [3]), ([0, 4], [0, 4]), ([5], [5]), ([6, 5], [6]), ([7], [7]), ([7], [7]), ([8, 9, 7], [7, 8, 9]), ([7], [7]), ([7], [7]), ([11, 12, 7], [7, 11, 12]), ([13, 7], [7, 13]), ([10, 14, 7, 7], [7, 10, 14]), ([7, 15], [7, 15])] [0, 0, 0, 6, 14, 31, 63, 127, 255, 255, 1023, 255, 255, 6399, 14591, 32767, 65535] = true := by kernel_rfl
set_option maxHeartbeats 4000000 in
set_option maxRecDepth 100000 in
theorem FnReach_walk {A : Option Addr} {c : Nat} {code : List Int} (w : World) (hr : Kd.C (Kd.int .u8) w A code.length code) (hc : code.length ≤ c) (hb : ∀ b ∈ code, 0 ≤ b ∧ b < 256) :
    Calls Try.prog 8 #[.slice A code.length c] w fun e w' => e = .returned (.bool true) ∧ Below w.heap.size w w' := by
  have HC := AK (And.intro hr (And.intro hc hb))
  clear hr hc hb
  by_cases h20 : (1048576 : Int) < (code.length : Int)
  · have c1 : decide ((1048576 : Int) < (code.length : Int)) = true := deT h20
    have c2 : decide (1048576 < code.length) = true := deT (by omega)
    have c3 := eq_true (show 1048576 < code.length by omega)
    clear h20
    go_enter Try.func8, Try.ntmps8
    go_wp2
    go_ret
    exact ⟨rfl, Below.refl _ _⟩
  have c1 : decide ((1048576 : Int) < (code.length : Int)) = false := deF h20
  have c2 : decide (1048576 < code.length) = false := deF (by omega)
  have c3 := eq_false (show ¬ 1048576 < code.length by omega)
  clear h20
  go_enter Try.func8, Try.ntmps8
  go_wp2_with fail
  clear c1 c2 c3
  refine (drawReach_c HC.out.1 HC.out.2.1 HC.out.2.2).mono ?_
  rintro en w1 ⟨R, B0, d0, B1, d1, B2, d2, B3, d3, rfl, hg, hO, hb⟩
  have HF := AK hg.fine
  have HB := AK hb
  have HI := AK hO.reads
  clear hg hO hb
  obtain ⟨bo, hbo⟩ : ∃ b, b = okB R.o R.r R.w R.d := ⟨_, rfl⟩
  have HO := AK hbo
  clear hbo
  go_upto_region 4 with fail
  have HX := AK (blk_new w1 (.cells #[.slice B0 R.o.length d0, .slice B1 R.r.length d1, .slice B2 R.w.length d2, .slice B3 R.d.length d3] 28 (0, 0)))
  replace HB := AK (bst HB.out (below_alloc (Below.refl _ _) (.cells #[.slice B0 R.o.length d0, .slice B1 R.r.length d1, .slice B2 R.w.length d2, .slice B3 R.d.length d3] 28 (0, 0))))
  replace HI := AK (HI.out.below (below_alloc (Below.refl _ _) (.cells #[.slice B0 R.o.length d0, .slice B1 R.r.length d1, .slice B2 R.w.length d2, .slice B3 R.d.length d3] 28 (0, 0))))
  generalize w1.alloc (.cells #[.slice B0 R.o.length d0, .slice B1 R.r.length d1, .slice B2 R.w.length d2, .slice B3 R.d.length d3] 28 (0, 0)) = w2 at HX HB HI ⊢
  generalize w1.heap.size = nb at HX ⊢
  obtain ⟨p0, p1, p2, p3⟩ := box4 HX.out
  go_wp2_with fail
  clear p0 p1 p2 p3
  refine (MemReach_calls _ _ _ _ _ _ _ _ _ _ _ _ _ HI.out (by have := HF.out.w; omega) HF.out.f).mono ?_
  rintro en w3 ⟨v, rfl, hr, hb⟩
  obtain ⟨l, hl⟩ : ∃ l, l = reachA R.o R.r R.w R.d := ⟨_, rfl⟩
  rw [← hl] at hr
  have EL := AK hl
  obtain ⟨L, lc, ee⟩ := Kd.R_slice hr
  subst ee
  have HL := AK (Kd.R_reads' hr).2.2
  have HLC := AK (Kd.R_reads' hr).2.1
  replace HX := AK (bbl HX.out hb)
  replace HB := AK (bst HB.out hb)
  replace HI := AK (HI.out.below hb)
  clear hr hb hl
  go_wp2_with fail
  replace HX := AK (blk_drew HX.out)
  replace HB := AK (below_drew1 HB.out)
  replace HI := AK (HI.out.below (below_drew1 (Below.refl _ _)))
  replace HL := AK (Kd.C_below HL.out (below_drew1 (Below.refl _ _)))
  refine start_ (n := 12) (S := (fun w' => w'.cell? ⟨nb, 0, none⟩ = some (.slice B0 R.o.length d0) ∧ w'.cell? ⟨nb, 1, none⟩ = some (.slice B1 R.r.length d1) ∧ w'.cell? ⟨nb, 2, none⟩ = some (.slice B2 R.w.length d2) ∧ w'.cell? ⟨nb, 3, none⟩ = some (.slice B3 R.d.length d3))) (ds := []) #[fF,fF,fF,fF,fF,fF,fF,fF,fF,fF,fF,fF] (by kernel_rfl) rfl rfl (box4 HX.out) (fun hHeld => ?_); refine with_tabW rh5_tab rh5_bits (fun HT_ HW_ => ?_)
  generalize w3.drew = v5 at HX HB HI HL hHeld ⊢
  refine pure_ (i := 0) (N := some 15) (v := ?_) (a' := ?_) #[tT,fF,fF,fF,fF,fF,fF,fF,fF,fF,fF,fF] rfl rfl (any_of HT_.out (by kernel_rfl)) (fun _ _ _ h => h) (Or.inl ⟨by rfl, ?_⟩) ?_ ?_
  rotate_left
  · intro w'
    go_simp
    with_reducible rfl
  rotate_left
  · exact zP
  refine take_ (i := 1) (N := some 16) (v := ?_) (a' := ?_) #[tT,tT,fF,fF,fF,fF,fF,fF,fF,fF,fF,fF] rfl rfl (take_ofW HT_.out HW_.out (by kernel_rfl)) (fun _ _ _ h => h) (Or.inl ⟨by rfl, ?_⟩) hHeld ?_ ?_
  rotate_left
  · rintro w' ⟨s0, s1, s2, s3⟩
    go_simp
    with_reducible rfl
  rotate_left
  · exact zP
  refine one_ (i := 2) (N := some 17) #[tT,tT,tT,fF,fF,fF,fF,fF,fF,fF,fF,fF] rfl rfl (one_of HT_.out (by kernel_rfl)) (by decide) (fun K hK => ?_)
  refine goes_ Try.func27 (by kernel_rfl) rfl #[.agg #[.slice B0 R.o.length d0, .slice B1 R.r.length d1, .slice B2 R.w.length d2, .slice B3 R.d.length d3]] (by rfl) rfl rfl zI ?_
  refine (specReach_c HI.out HF.out).mono ?_
  rintro en v6 ⟨v, rfl, hr, hb⟩
  rw [← EL.out] at hr
  obtain ⟨M, mc, ee⟩ := Kd.R_slice hr
  subst ee
  have HM := AK (Kd.R_reads' hr).2.2
  refine ⟨_, rfl, ?_⟩
  replace HX := AK (bbl HX.out hb)
  replace HB := AK (bst HB.out hb)
  replace HI := AK (HI.out.below hb)
  replace HL := AK (Kd.C_below HL.out hb)
  clear hr hb
  refine hK.out _ _ (box4 HX.out) (fun hHeld => ?_)
  clear hK K
  refine norm_ (a' := ?_) ?_ ?_
  rotate_left
  · show Act.put _ (some 17) _ = _
    exact zP
  refine one_ (i := 3) (N := some 18) #[tT,tT,tT,tT,fF,fF,fF,fF,fF,fF,fF,fF] rfl rfl (one_of HT_.out (by kernel_rfl)) (by decide) (fun K hK => ?_)
  refine goes_ Try.func35 (by kernel_rfl) rfl #[.slice L l.length lc, .slice M l.length mc] (by rfl) rfl rfl zI ?_
  refine (wInts_q HL.out HM.out).mono ?_
  rintro en v7 ⟨rfl, hd⟩
  have hb := hd.below
  refine ⟨_, rfl, ?_⟩
  replace HX := AK (bbl HX.out hb)
  replace HB := AK (bst HB.out hb)
  replace HI := AK (HI.out.below hb)
  replace HL := AK (Kd.C_below HL.out hb)
  clear hd hb HM
  refine hK.out _ _ (box4 HX.out) (fun hHeld => ?_)
  clear hK K
  refine norm_ (a' := ?_) ?_ ?_
  rotate_left
  · show Act.put _ (some 18) _ = _
    exact zP
  refine pure_ (i := 4) (N := some 19) (v := ?_) (a' := ?_) #[tT,tT,tT,tT,tT,fF,fF,fF,fF,fF,fF,fF] rfl rfl (any_of HT_.out (by kernel_rfl)) (fun _ _ _ h => h) (Or.inl ⟨by rfl, ?_⟩) ?_ ?_
  rotate_left
  · intro w'
    go_simp
    with_reducible rfl
  rotate_left
  · exact zP
  refine pure_ (i := 5) (N := some 20) (v := ?_) (a' := ?_) #[tT,tT,tT,tT,tT,tT,fF,fF,fF,fF,fF,fF] rfl rfl (any_of HT_.out (by kernel_rfl)) (fun _ _ _ h => h) (Or.inl ⟨by rfl, ?_⟩) ?_ ?_
  rotate_left
  · intro w'
    go_simp
    with_reducible rfl
  rotate_left
  · exact zP
  refine take_ (i := 6) (N := some 21) (v := ?_) (a' := ?_) #[tT,tT,tT,tT,tT,tT,tT,fF,fF,fF,fF,fF] rfl rfl (take_ofW HT_.out HW_.out (by kernel_rfl)) (fun _ _ _ h => h) (Or.inl ⟨by rfl, ?_⟩) hHeld ?_ ?_
  rotate_left
  · rintro w' ⟨s0, s1, s2, s3⟩
    go_simp
    with_reducible rfl
  rotate_left
  · exact zP
  refine take_ (i := 8) (N := some 23) (v := ?_) (a' := ?_) #[tT,tT,tT,tT,tT,tT,tT,fF,tT,fF,fF,fF] rfl rfl (take_ofW HT_.out HW_.out (by kernel_rfl)) (fun _ _ _ h => h) (Or.inl ⟨by rfl, ?_⟩) hHeld ?_ ?_
  rotate_left
  · rintro w' ⟨s0, s1, s2, s3⟩
    go_simp
    with_reducible rfl
  rotate_left
  · exact zP
  refine one_ (i := 7) (N := some 22) #[tT,tT,tT,tT,tT,tT,tT,tT,tT,fF,fF,fF] rfl rfl (one_of HT_.out (by kernel_rfl)) (by decide) (fun K hK => ?_)
  refine goes_ Try.func25 (by kernel_rfl) rfl #[.agg #[.slice B0 R.o.length d0, .slice B1 R.r.length d1, .slice B2 R.w.length d2, .slice B3 R.d.length d3]] (by rfl) rfl rfl zI ?_
  refine (MemOk_calls _ _ _ _ _ _ _ _ _ _ _ _ _ HI.out.r0 HI.out.r1 HI.out.r2 HI.out.r3 (by have := HF.out.w; omega) HF.out.f).mono ?_
  rintro en v8 ⟨rfl, hb⟩
  rw [← HO.out]
  refine ⟨_, rfl, ?_⟩
  replace HX := AK (bbl HX.out hb)
  replace HB := AK (bst HB.out hb)
  replace HI := AK (HI.out.below hb)
  replace HL := AK (Kd.C_below HL.out hb)
  clear hb
  refine hK.out _ _ (box4 HX.out) (fun hHeld => ?_)
  clear hK K
  refine norm_ (a' := ?_) ?_ ?_
  rotate_left
  · show Act.put _ (some 22) _ = _
    exact zP
  refine one_ (i := 9) (N := some 24) #[tT,tT,tT,tT,tT,tT,tT,tT,tT,tT,fF,fF] rfl rfl (one_of HT_.out (by kernel_rfl)) (by decide) (fun K hK => ?_)
  refine goes_ Try.func23 (by kernel_rfl) rfl #[.agg #[.slice B0 R.o.length d0, .slice B1 R.r.length d1, .slice B2 R.w.length d2, .slice B3 R.d.length d3]] (by rfl) rfl rfl zI ?_
  refine (specOk_c HI.out (by have := HF.out.o; omega) HF.out.f (by have := HF.out.r; omega) (by have := HF.out.w; omega)).mono ?_
  rintro en v9 ⟨rfl, hb⟩
  rw [← HO.out]
  refine ⟨_, rfl, ?_⟩
  replace HX := AK (bbl HX.out hb)
  replace HB := AK (bst HB.out hb)
  replace HI := AK (HI.out.below hb)
  replace HL := AK (Kd.C_below HL.out hb)
  have hbb : (bo != bo) = false := by cases bo <;> rfl
  clear hb
  refine hK.out _ _ (box4 HX.out) (fun hHeld => ?_)
  clear hK K
  refine norm_ (a' := ?_) ?_ ?_
  rotate_left
  · show Act.put _ (some 24) _ = _
    exact zP
  refine pure_ (i := 10) (N := some 25) (v := ?_) (a' := ?_) #[tT,tT,tT,tT,tT,tT,tT,tT,tT,tT,tT,fF] rfl rfl (any_of HT_.out (by kernel_rfl)) (fun _ _ _ h => h) (Or.inl ⟨by rfl, ?_⟩) ?_ ?_
  rotate_left
  · intro w'
    go_simp
    with_reducible rfl
  rotate_left
  · exact zP
  refine pure_ (i := 11) (N := some 26) (v := ?_) (a' := ?_) #[tT,tT,tT,tT,tT,tT,tT,tT,tT,tT,tT,tT] rfl rfl (any_of HT_.out (by kernel_rfl)) (fun _ _ _ h => h) (Or.inl ⟨by rfl, ?_⟩) ?_ ?_
  rotate_left
  · intro w'
    go_simp
    with_reducible rfl
  rotate_left
  · exact zP
  refine done_ (done_of HT_.out (by kernel_rfl)) ?_
  clear HT_ HW_ hHeld
  obtain ⟨p0, p1, p2, p3⟩ := box4 HX.out
  go_wp2_with fail
  clear p0 p1 p2 p3
  refine (specOk_c HI.out (by have := HF.out.o; omega) HF.out.f (by have := HF.out.r; omega) (by have := HF.out.w; omega)).mono ?_
  rintro en w4 ⟨rfl, hb⟩
  rw [← HO.out]
  replace HX := AK (bbl HX.out hb)
  replace HB := AK (bst HB.out hb)
  replace HI := AK (HI.out.below hb)
  replace HL := AK (Kd.C_below HL.out hb)
  clear hb hbb
  cases bo
  case false =>
    have el : l = [] := by rw [EL.out]; unfold reachA; rw [← HO.out, if_neg (by decide)]
    subst el
    go_wp2
    go_ret
    exact ⟨rfl, HB.out⟩
  have HK := AK (show OkH R.o R.r R.w R.d from ok_parts HO.out.symm)
  have el : l = reachL R.o R.r R.d := by rw [EL.out]; unfold reachA; rw [← HO.out, if_pos rfl]
  have ER := AK el
  have HG := AK (show GoodL R.o.length l by rw [el]; exact reach_good HK.out)
  clear el
  obtain ⟨p0, p1, p2, p3⟩ := box4 HX.out
  go_wp2_with fail
  clear p0 p1 p2 p3
  refine (wKnown_c HI.out HK.out).mono ?_
  rintro en w5 ⟨M, mc, x, rfl, hx, hxl, hr, hb⟩
  have HM := AK (Kd.R_reads' hr).2.2
  have HXX := AK (And.intro hx hxl)
  replace HB := AK (bst HB.out hb)
  replace HL := AK (Kd.C_below HL.out hb)
  clear hr hb hx hxl HX HI
  have HLL := AK (show l.length ≤ 60 by have := nodup_len _ _ HG.out; have := HK.out.n; omega)
  go_wp2_with fail
  go_loopg [6] l.length (fun kq v6 w' => ∃ i : Int, v6 = .int .i64 i ∧ Aside0 (0 ≤ i ∧ i + kq = l.length) ∧ Aside0 (Below w.heap.size w w') ∧ Aside0 (Kd.C (Kd.int .i64) w' L l.length l) ∧ Aside0 (Kd.C (Kd.int .i64) w' M x.length x))
  case atStart => exact ⟨0, rfl, ⟨by omega, by omega⟩, HB, HL, HM⟩
  case round =>
    clear HB HL HM
    obtain ⟨i, rfl, HJ, HB, HL, HM⟩ := hrel
    cases gk with
    | succ k1 =>
      have c9 : decide (i < (l.length : Int)) = true := deT (by have := HJ.out; omega)
      have hi0 := eq_true (show 0 ≤ i by have := HJ.out; omega)
      have hi1 := eq_true (show i < (l.length : Int) by have := HJ.out; omega)
      have hi2 := eq_true (show i ≤ (l.length : Int) by have := HJ.out; omega)
      have hi3 := eq_true (show i ≤ (lc : Int) by have := HJ.out; have := HLC.out; omega)
      obtain ⟨ad, e1, hq⟩ := Kd.at_int HL.out i (by have := HJ.out; omega) (by have := HJ.out; omega)
      subst e1
      have hmem := getD_mem l 0 i (by have := HJ.out; omega) (by have := HJ.out; omega)
      have hnot : rd l i ∉ l.take i.toNat := fun h => by
        have hn := HG.out.1
        rw [← List.take_append_drop i.toNat l, drop_cons l 0 i (by have := HJ.out; omega) (by have := HJ.out; omega)] at hn
        rw [List.nodup_append] at hn
        exact hn.2.2 _ h _ (List.mem_cons_self ..) rfl
      rw [show l.getD i.toNat 0 = rd l i from rfl] at hmem
      obtain ⟨q, eq⟩ : ∃ q, q = rd l i := ⟨_, rfl⟩
      rw [← eq] at hq hmem hnot
      have HQ := AK (show decide (q ∈ x) = true from deT ((HXX.out.1 q).2 (by rw [← ER.out]; exact hmem)))
      have HN := AK (show decide (q ∈ l.take i.toNat) = false from deF hnot)
      have HQC := AK hq
      clear eq hmem hnot
      go_wp2_with fail
      clear hq
      replace HB := AK (below_drew1 HB.out)
      replace HL := AK (Kd.C_below HL.out (below_drew1 (Below.refl _ _)))
      replace HM := AK (Kd.C_below HM.out (below_drew1 (Below.refl _ _)))
      replace HQC := AK (show (World.drew wr).cell? _ = _ from pcb (below_drew1 (Below.refl _ _)) HQC.out)
      refine start_ (n := 17) (S := (fun w' => w'.cell? (ad.add i.toNat) = some (.int .i64 q))) (ds := []) #[fF,fF,fF,fF,fF,fF,fF,fF,fF,fF,fF,fF,fF,fF,fF,fF,fF] (by kernel_rfl) rfl rfl HQC.out (fun hHeld => ?_); refine with_tabW rh13_tab rh13_bits (fun HT_ HW_ => ?_)
      generalize wr.drew = v5 at HB HL HM HQC hHeld ⊢
      refine pure_ (i := 0) (N := some 41) (v := ?_) (a' := ?_) #[tT,fF,fF,fF,fF,fF,fF,fF,fF,fF,fF,fF,fF,fF,fF,fF,fF] rfl rfl (any_of HT_.out (by kernel_rfl)) (fun _ _ _ h => h) (Or.inl ⟨by rfl, ?_⟩) ?_ ?_
      rotate_left
      · intro w'
        go_simp
        with_reducible rfl
      rotate_left
      · exact zP
      refine pure_ (i := 1) (N := some 42) (v := ?_) (a' := ?_) #[tT,tT,fF,fF,fF,fF,fF,fF,fF,fF,fF,fF,fF,fF,fF,fF,fF] rfl rfl (any_of HT_.out (by kernel_rfl)) (fun _ _ _ h => h) (Or.inl ⟨by rfl, ?_⟩) ?_ ?_
      rotate_left
      · intro w'
        go_simp
        with_reducible rfl
      rotate_left
      · exact zP
      refine pure_ (i := 2) (N := some 43) (v := ?_) (a' := ?_) #[tT,tT,tT,fF,fF,fF,fF,fF,fF,fF,fF,fF,fF,fF,fF,fF,fF] rfl rfl (any_of HT_.out (by kernel_rfl)) (fun _ _ _ h => h) (Or.inl ⟨by rfl, ?_⟩) ?_ ?_
      rotate_left
      · intro w'
        go_simp
        with_reducible rfl
      rotate_left
      · exact zP
      refine pure_ (i := 3) (N := some 44) (v := ?_) (a' := ?_) #[tT,tT,tT,tT,fF,fF,fF,fF,fF,fF,fF,fF,fF,fF,fF,fF,fF] rfl rfl (any_of HT_.out (by kernel_rfl)) (fun _ _ _ h => h) (Or.inl ⟨by rfl, ?_⟩) ?_ ?_
      rotate_left
      · intro w'
        go_simp
        with_reducible rfl
      rotate_left
      · exact zP
      refine take_ (i := 4) (N := some 45) (v := ?_) (a' := ?_) #[tT,tT,tT,tT,tT,fF,fF,fF,fF,fF,fF,fF,fF,fF,fF,fF,fF] rfl rfl (take_ofW HT_.out HW_.out (by kernel_rfl)) (fun _ _ _ h => h) (Or.inl ⟨by rfl, ?_⟩) hHeld ?_ ?_
      rotate_left
      · rintro w' s0
        go_simp
        with_reducible rfl
      rotate_left
      · exact zP
      refine one_ (i := 5) (N := some 46) #[tT,tT,tT,tT,tT,tT,fF,fF,fF,fF,fF,fF,fF,fF,fF,fF,fF] rfl rfl (one_of HT_.out (by kernel_rfl)) (by decide) (fun K hK => ?_)
      refine goes_ Try.func37 (by kernel_rfl) rfl #[.slice M x.length mc, .int .i64 q] (by rfl) rfl rfl zI ?_
      refine (wHas_s HM.out q).mono ?_
      rintro en v6 ⟨rfl, rfl⟩
      rw [HQ.out]
      refine ⟨_, rfl, ?_⟩
      refine hK.out _ _ HQC.out (fun hHeld => ?_)
      clear hK K
      refine norm_ (a' := ?_) ?_ ?_
      rotate_left
      · show Act.put _ (some 46) _ = _
        exact zP
      refine pure_ (i := 6) (N := some 47) (v := ?_) (a' := ?_) #[tT,tT,tT,tT,tT,tT,tT,fF,fF,fF,fF,fF,fF,fF,fF,fF,fF] rfl rfl (any_of HT_.out (by kernel_rfl)) (fun _ _ _ h => h) (Or.inl ⟨by rfl, ?_⟩) ?_ ?_
      rotate_left
      · intro w'
        go_simp
        with_reducible rfl
      rotate_left
      · exact zP
      refine pure_ (i := 7) (N := some 48) (v := ?_) (a' := ?_) #[tT,tT,tT,tT,tT,tT,tT,tT,fF,fF,fF,fF,fF,fF,fF,fF,fF] rfl rfl (any_of HT_.out (by kernel_rfl)) (fun _ _ _ h => h) (Or.inl ⟨by rfl, ?_⟩) ?_ ?_
      rotate_left
      · intro w'
        go_simp
        with_reducible rfl
      rotate_left
      · exact zP
      refine pure_ (i := 8) (N := some 49) (v := ?_) (a' := ?_) #[tT,tT,tT,tT,tT,tT,tT,tT,tT,fF,fF,fF,fF,fF,fF,fF,fF] rfl rfl (any_of HT_.out (by kernel_rfl)) (fun _ _ _ h => h) (Or.inl ⟨by rfl, ?_⟩) ?_ ?_
      rotate_left
      · intro w'
        go_simp
        with_reducible rfl
      rotate_left
      · exact zP
      refine pure_ (i := 9) (N := some 50) (v := ?_) (a' := ?_) #[tT,tT,tT,tT,tT,tT,tT,tT,tT,tT,fF,fF,fF,fF,fF,fF,fF] rfl rfl (any_of HT_.out (by kernel_rfl)) (fun _ _ _ h => h) (Or.inl ⟨by rfl, ?_⟩) ?_ ?_
      rotate_left
      · intro w'
        go_simp
        with_reducible rfl
      rotate_left
      · exact zP
      refine pure_ (i := 10) (N := some 51) (v := ?_) (a' := ?_) #[tT,tT,tT,tT,tT,tT,tT,tT,tT,tT,tT,fF,fF,fF,fF,fF,fF] rfl rfl (any_of HT_.out (by kernel_rfl)) (fun _ _ _ h => h) (Or.inl ⟨by rfl, ?_⟩) ?_ ?_
      rotate_left
      · intro w'
        go_simp
        with_reducible rfl
      rotate_left
      · exact zP
      refine pure_ (i := 11) (N := some 52) (v := ?_) (a' := ?_) #[tT,tT,tT,tT,tT,tT,tT,tT,tT,tT,tT,tT,fF,fF,fF,fF,fF] rfl rfl (any_of HT_.out (by kernel_rfl)) (fun _ _ _ h => h) (Or.inl ⟨by rfl, ?_⟩) ?_ ?_
      rotate_left
      · intro w'
        go_simp
        with_reducible rfl
      rotate_left
      · exact zP
      refine pure_ (i := 12) (N := some 53) (v := ?_) (a' := ?_) #[tT,tT,tT,tT,tT,tT,tT,tT,tT,tT,tT,tT,tT,fF,fF,fF,fF] rfl rfl (any_of HT_.out (by kernel_rfl)) (fun _ _ _ h => h) (Or.inl ⟨by rfl, ?_⟩) ?_ ?_
      rotate_left
      · intro w'
        go_simp
        with_reducible rfl
      rotate_left
      · exact zP
      refine pure_ (i := 13) (N := some 54) (v := ?_) (a' := ?_) #[tT,tT,tT,tT,tT,tT,tT,tT,tT,tT,tT,tT,tT,tT,fF,fF,fF] rfl rfl (any_of HT_.out (by kernel_rfl)) (fun _ _ _ h => h) (Or.inl ⟨by rfl, ?_⟩) ?_ ?_
      rotate_left
      · intro w'
        go_simp
        with_reducible rfl
      rotate_left
      · exact zP
      refine take_ (i := 14) (N := some 55) (v := ?_) (a' := ?_) #[tT,tT,tT,tT,tT,tT,tT,tT,tT,tT,tT,tT,tT,tT,tT,fF,fF] rfl rfl (take_ofW HT_.out HW_.out (by kernel_rfl)) (fun _ _ _ h => h) (Or.inl ⟨by rfl, ?_⟩) hHeld ?_ ?_
      rotate_left
      · rintro w' s0
        go_simp
        with_reducible rfl
      rotate_left
      · exact zP
      refine one_ (i := 15) (N := some 56) #[tT,tT,tT,tT,tT,tT,tT,tT,tT,tT,tT,tT,tT,tT,tT,tT,fF] rfl rfl (one_of HT_.out (by kernel_rfl)) (by decide) (fun K hK => ?_)
      have ht : (l.take i.toNat).length = i.toNat := by rw [List.length_take]; have := HJ.out; omega
      have hct := Kd.C_take HL.out (show i.toNat ≤ l.length by have := HJ.out; omega)
      rw [ht] at hct
      refine goes_ Try.func37 (by kernel_rfl) rfl #[.slice (some ad) i.toNat lc, .int .i64 q] (by rfl) rfl rfl zI ?_
      have hws := wHas_s (x := l.take i.toNat) (A := some ad) (c := lc) (by rw [ht]; exact hct) q
      rw [ht] at hws
      refine hws.mono ?_
      rintro en v6 ⟨rfl, rfl⟩
      rw [HN.out]
      refine ⟨_, rfl, ?_⟩
      clear ht hct
      refine hK.out _ _ HQC.out (fun hHeld => ?_)
      clear hK K
      refine norm_ (a' := ?_) ?_ ?_
      rotate_left
      · show Act.put _ (some 56) _ = _
        exact zP
      refine pure_ (i := 16) (N := some 57) (v := ?_) (a' := ?_) #[tT,tT,tT,tT,tT,tT,tT,tT,tT,tT,tT,tT,tT,tT,tT,tT,tT] rfl rfl (any_of HT_.out (by kernel_rfl)) (fun _ _ _ h => h) (Or.inl ⟨by rfl, ?_⟩) ?_ ?_
      rotate_left
      · intro w'
        go_simp
        with_reducible rfl
      rotate_left
      · exact zP
      refine done_ (done_of HT_.out (by kernel_rfl)) ?_
      clear HT_ HW_ hHeld
      go_wp2
      go_roundg k1
      case measure => omega
      case rel =>
        rw [wrap_succ i (by have := HJ.out; omega) (by have := HJ.out; have := HLL.out; omega)]
        exact ⟨i + 1, rfl, ⟨by have := HJ.out; omega, by have := HJ.out; omega⟩, HB, HL, HM⟩
    | zero =>
      have c9 : decide (i < (l.length : Int)) = false := deF (by have := HJ.out; omega)
      go_wp2_with fail
      clear c9
      go_loopg [7] x.length (fun kq v7 w' => ∃ j : Int, v7 = .int .i64 j ∧ Aside0 (0 ≤ j ∧ j + kq = x.length) ∧ Aside0 (Below w.heap.size w w') ∧ Aside0 (Kd.C (Kd.int .i64) w' L l.length l) ∧ Aside0 (Kd.C (Kd.int .i64) w' M x.length x))
      case atStart => exact ⟨0, rfl, ⟨by omega, by omega⟩, HB, HL, HM⟩
      case round =>
        clear HB HL HM
        obtain ⟨j, rfl, HJ2, HB, HL, HM⟩ := hrel
        cases gk with
        | zero =>
          have c9 : decide (j < (x.length : Int)) = false := deF (by have := HJ2.out; omega)
          go_wp2
          go_ret
          exact ⟨rfl, HB.out⟩
        | succ k1 =>
          have c9 : decide (j < (x.length : Int)) = true := deT (by have := HJ2.out; omega)
          have hi0 := eq_true (show 0 ≤ j by have := HJ2.out; omega)
          have hi1 := eq_true (show j < (x.length : Int) by have := HJ2.out; omega)
          obtain ⟨ad, e1, hq⟩ := Kd.at_int HM.out j (by have := HJ2.out; omega) (by have := HJ2.out; omega)
          subst e1
          have hmem := getD_mem x 0 j (by have := HJ2.out; omega) (by have := HJ2.out; omega)
          rw [show x.getD j.toNat 0 = rd x j from rfl] at hmem
          obtain ⟨q, eq⟩ : ∃ q, q = rd x j := ⟨_, rfl⟩
          rw [← eq] at hq hmem
          have HQ := AK (show decide (q ∈ l) = true from deT (by rw [ER.out]; exact (HXX.out.1 q).1 hmem))
          clear eq hmem
          go_wp2_with fail
          refine (wHas_s HL.out q).mono ?_
          rintro en w7 ⟨rfl, rfl⟩
          rw [HQ.out]
          go_wp2
          go_roundg k1
          case measure => omega
          case rel =>
            rw [wrap_succ j (by have := HJ2.out; omega) (by have := HJ2.out; have := HXX.out.2; omega)]
            exact ⟨j + 1, rfl, ⟨by have := HJ2.out; omega, by have := HJ2.out; omega⟩, HB, HL, HM⟩
end Go.Proofs.Ytigjhfijkdlldaa.H
