import Derived.Test.YtigjhfijkdlldaaSstQb
import Derived.Test.YtigjhfijkdlldaaSstPq
section
/- spec.l4Makes, walked. -/
namespace Go.Proofs.Ytigjhfijkdlldaa.H
open Go.RowKit Go.Proofs.YtigjhfijkdlldaaW.PrintWords Go.Proofs.YtigjhfijkdlldaaW.PrintLast Go.Proofs.YtigjhfijkdlldaaW.PrintMore Go.Proofs.Ytigjhfijkdlldaa.Q
set_option linter.unusedVariables false
set_option linter.unusedSimpArgs false
theorem smk5_tab : rtab .any (opsOf Try.f126 5) = (true, [([], []), ([0], [0]), ([], []), ([], []), ([], []), ([4], [4]), ([], []), ([5, 6], [5, 6]), ([7], [7]), ([3, 8], [3, 8]), ([1, 2, 0, 1, 2, 3, 4, 5, 6, 7, 8, 9], [1, 2]), ([10, 9, 9, 0, 1, 2, 3, 4, 5, 6, 7, 8, 9], [9, 10])]) := by kernel_rfl
theorem smk5_bits : waitsOk [([], []), ([0], [0]), ([], []), ([], []), ([], []), ([4], [4]), ([], []), ([5, 6], [5, 6]), ([7], [7]), ([3, 8], [3, 8]), ([1, 2, 0, 1, 2, 3, 4, 5, 6, 7, 8, 9], [1, 2]), ([10, 9, 9, 0, 1, 2, 3, 4, 5, 6, 7, 8, 9], [9, 10])] [0, 1, 0, 0, 0, 16, 0, 112, 240, 504, 1023, 2047] = true := by kernel_rfl
theorem smk12_tab : rtab .any (opsOf Try.f126 12) = (true, [([], []), ([], []), ([], []), ([2], [2]), ([], []), ([4], [4]), ([3, 5], [3, 5]), ([6], [6]), ([1, 7], [1, 7]), ([0, 8, 0], [0]), ([8, 9, 0, 1, 2, 3, 4, 5, 6, 7, 8, 9], [8])]) := by kernel_rfl
theorem smk12_bits : waitsOk [([], []), ([], []), ([], []), ([2], [2]), ([], []), ([4], [4]), ([3, 5], [3, 5]), ([6], [6]), ([1, 7], [1, 7]), ([0, 8, 0], [0]), ([8, 9, 0, 1, 2, 3, 4, 5, 6, 7, 8, 9], [8])] [0, 0, 0, 4, 0, 16, 60, 124, 254, 511, 1023] = true := by kernel_rfl
set_option maxHeartbeats 4000000 in
set_option maxRecDepth 100000 in
theorem l4Makes_calls (v w : World) (A0 A1 A2 A3 : Option Addr) (c0 c1 c2 c3 : Nat) (G : Hp) (e : S40) (A6 : Option Addr) (c6 : Nat) (hB : Below v.heap.size v w) (hO : OwnG w v.heap.size A0 c0 A1 c1 A2 c2 A3 c3 G) (hk : OkH G.o G.r G.w G.d) (he : Kd.C (Kd.int .i64) w A6 e.f4.f2.length e.f4.f2) (hc : e.f4.f2.length ≤ c6) (hl6 : e.f4.f2.length ≤ 1048576) (hs6 : (e.f4.f1.size : Int) ≤ 4611686018427387903) (ht : toB G e = true) (R : Hp) (s : ByteArray) (hR : (R, s) = makesB G e) :
  Calls Try.prog 126 #[.agg #[.slice A0 G.o.length c0, .slice A1 G.r.length c1, .slice A2 G.w.length c2, .slice A3 G.d.length c3], .agg #[.int .i64 e.f0, .int .i64 e.f1, .int .i64 e.f2, .int .i64 e.f3, .int .i64 e.f4.f0, .string e.f4.f1, .slice A6 e.f4.f2.length c6]] w fun en w' => ∃ B0 d0 B1 d1 B2 d2 B3 d3, en = .returned (.tuple #[.agg #[.slice B0 R.o.length d0, .slice B1 R.r.length d1, .slice B2 R.w.length d2, .slice B3 R.d.length d3], .string s]) ∧
   OwnG w' v.heap.size B0 d0 B1 d1 B2 d2 B3 d3 R ∧ Below v.heap.size v w' ∧ Keeps w w' := by
 have HL6 := AK (And.intro hl6 hs6)
 have HTO := AK (show 0 ≤ e.f1 ∧ e.f1 < G.r.length by unfold toB at ht; simpa using ht)
 clear hl6 hs6 ht
 obtain ⟨b1, cr, er, _, _, _, _⟩ := Kd.R_form hO.s1 (by have := HTO.out; omega)
 injection er with er1 er2 er3
 subst er1 er3
 clear er2
 have HK0 := AK hO
 have HOK := AK hk
 have HR := AK hR
 have HE0 := AK (And.intro he hc)
 have K0 := AK (WK.start hB hO e A6 c6)
 clear hB hO hk he hc hR
 go_enter Try.func126, Try.ntmps126
 go_wp2_with fail
 have K := AK (show WK v w w.heap.size A0 c0 (some ⟨b1, 0, none⟩) c1 A2 c2 A3 c3 G e A6 c6 (((w.alloc (.cells #[.slice A0 G.o.length c0, .slice (some ⟨b1, 0, none⟩) G.r.length c1, .slice A2 G.w.length c2, .slice A3 G.d.length c3] 28 (0, 0))).alloc (.cells #[.int .i64 e.f0, .int .i64 e.f1, .int .i64 e.f2, .int .i64 e.f3, .int .i64 e.f4.f0, .string e.f4.f1, .slice A6 e.f4.f2.length c6] 40 (0, 0))).alloc (.cells #[.slice none 0 0, .slice none 0 0, .slice none 0 0, .slice none 0 0] 28 (0, 0))) from K0.out)
 have HWB := AK (show Below w.heap.size w (((w.alloc (.cells #[.slice A0 G.o.length c0, .slice (some ⟨b1, 0, none⟩) G.r.length c1, .slice A2 G.w.length c2, .slice A3 G.d.length c3] 28 (0, 0))).alloc (.cells #[.int .i64 e.f0, .int .i64 e.f1, .int .i64 e.f2, .int .i64 e.f3, .int .i64 e.f4.f0, .string e.f4.f1, .slice A6 e.f4.f2.length c6] 40 (0, 0))).alloc (.cells #[.slice none 0 0, .slice none 0 0, .slice none 0 0, .slice none 0 0] 28 (0, 0))) from below_alloc (below_alloc (below_alloc (Below.refl _ _) _) _) _)
 generalize (((w.alloc (.cells #[.slice A0 G.o.length c0, .slice (some ⟨b1, 0, none⟩) G.r.length c1, .slice A2 G.w.length c2, .slice A3 G.d.length c3] 28 (0, 0))).alloc (.cells #[.int .i64 e.f0, .int .i64 e.f1, .int .i64 e.f2, .int .i64 e.f3, .int .i64 e.f4.f0, .string e.f4.f1, .slice A6 e.f4.f2.length c6] 40 (0, 0))).alloc (.cells #[.slice none 0 0, .slice none 0 0, .slice none 0 0, .slice none 0 0] 28 (0, 0))) = w1 at K HWB ⊢
 generalize w.heap.size = n at K ⊢
 clear K0 HK0
 refine (l1Obj_c (o := e.f4) (Kd.C_below HE0.out.1 HWB.out) HE0.out.2 HL6.out.1).mono ?_
 rintro en w2 ⟨vv, rfl, hr, hb⟩
 obtain ⟨Rf, rf, ee⟩ := Kd.R_slice hr
 subst ee
 have HN := AK (And.intro K.out.b.size hb.size)
 have HOW := AK ((OwnH.toP (P := fun k => k < w1.heap.size) K.out.own (fun k _ h => h)).below (bst hb (below_alloc (Below.refl w2.heap.size w2) (.cells #[.int .i64 e.f4.f0, .string e.f4.f1, .slice Rf e.f4.f2.length rf] 38 (0, 0)))))
 have HRF := AK (Kd.R_below (Kd.R_lower (base' := v.heap.size) (Kd.R_mono (Kd.R_bound hr) (ok' := fun k => w1.heap.size ≤ k) (fun k hk => hk.2.1)) K.out.b.size) (below_alloc (Below.refl w2.heap.size w2) (.cells #[.int .i64 e.f4.f0, .string e.f4.f1, .slice Rf e.f4.f2.length rf] 38 (0, 0))))
 have HB6 := AK (blk_new w2 (.cells #[.int .i64 e.f4.f0, .string e.f4.f1, .slice Rf e.f4.f2.length rf] 38 (0, 0)))
 replace K := AK (K.out.below (bst hb (below_alloc (Below.refl w2.heap.size w2) (.cells #[.int .i64 e.f4.f0, .string e.f4.f1, .slice Rf e.f4.f2.length rf] 38 (0, 0)))))
 clear hr hb
 go_wp2
 generalize hw3 : w2.alloc (.cells #[.int .i64 e.f4.f0, .string e.f4.f1, .slice Rf e.f4.f2.length rf] 38 (0, 0)) = w3 at K HOW HRF HB6 ⊢
 clear hw3
 have HB6N := AK (show w1.heap.size ≤ w2.heap.size from HN.out.2)
 generalize w2.heap.size = b6 at HB6 HB6N ⊢
 go_loopg [7] e.f4.f2.length (fun kq v7 w' => ∃ j : Int, v7 = .int .i64 j ∧ Aside0 (0 ≤ j ∧ j + kq = e.f4.f2.length) ∧ Aside0 (WK v w n A0 c0 (some ⟨b1, 0, none⟩) c1 A2 c2 A3 c3 G e A6 c6 w') ∧ Aside0 (OwnP w' v.heap.size (fun k => k < w1.heap.size) A0 c0 (some ⟨b1, 0, none⟩) c1 A2 c2 A3 c3 G.o G.r G.w G.d) ∧ Aside0 (w'.heap[b6]? = some (.cells #[.int .i64 e.f4.f0, .string e.f4.f1, .slice Rf e.f4.f2.length rf] 38 (0, 0))) ∧ Aside0 (Kd.R (Kd.int .i64) 3 w' v.heap.size (fun k => w1.heap.size ≤ k) (.slice Rf e.f4.f2.length rf) ((e.f4.f2.take j.toNat).map (knownL G.r) ++ e.f4.f2.drop j.toNat)))
 case atStart => exact ⟨0, rfl, ⟨by omega, by omega⟩, K, HOW, HB6, HRF⟩
 case round =>
  clear K HOW HB6 HRF
  obtain ⟨j, rfl, HQ, K, HOW, HB6, HRF⟩ := hrel
  obtain ⟨z0, z1, z2⟩ := box3 HB6.out
  cases gk with
  | succ k4 =>
   have c15 : decide (j < (e.f4.f2.length : Int)) = true := deT (by have := HQ.out; omega)
   have hj0 := eq_true (show 0 ≤ j by have := HQ.out; omega)
   have hj1 := eq_true (show j < (e.f4.f2.length : Int) by have := HQ.out; omega)
   have hml := mixF_len (knownL G.r) e.f4.f2 j
   have hmr := mixF_rd (knownL G.r) e.f4.f2 j (by have := HQ.out; omega) (by have := HQ.out; omega)
   have hms := mixF_set (knownL G.r) e.f4.f2 j (by have := HQ.out; omega) (by have := HQ.out; omega)
   obtain ⟨q, eq⟩ : ∃ q, q = rd e.f4.f2 j := ⟨_, rfl⟩
   rw [← eq] at hmr hms
   obtain ⟨mx, emx⟩ : ∃ mx, mx = ((e.f4.f2.take j.toNat).map (knownL G.r) ++ e.f4.f2.drop j.toNat) := ⟨_, rfl⟩
   rw [← emx] at hml hmr hms HRF
   have HMS := AK hms
   obtain ⟨ga, cap, ee, _, _, cells, hcells⟩ := Kd.R_form HRF.out (by rw [hml]; have := HQ.out; omega)
   injection ee with e1 e2' e3
   subst e1
   subst e3
   obtain ⟨hz, hfz⟩ := RI_at HRF.out j (by have := HQ.out; omega) (by have := HQ.out; omega)
   rw [hmr] at hz
   have HGA := AK (HRF.out.1 ga rfl)
   have HCE := AK hcells
   have HZ := AK hz
   clear eq emx hml hmr hms e2' hcells hfz
   go_wp2_with fail
   clear hz z0 z1 z2
   replace K := AK (K.out.below (below_drew1 (Below.refl _ _)))
   replace HOW := AK (HOW.out.below (below_drew1 (Below.refl _ _)))
   replace HB6 := AK (blk_drew HB6.out)
   replace HRF := AK (Kd.R_drew HRF.out)
   replace HCE := AK (blk_drew HCE.out)
   replace HZ := AK (pcb (below_drew1 (Below.refl _ _)) HZ.out)
   refine start_ (n := 12) (S := (fun w' => w'.cell? ⟨b6, 2, none⟩ = some (.slice (some ⟨ga, 0, none⟩) e.f4.f2.length rf) ∧ (w'.cell? ⟨n, 0, none⟩ = some (.slice A0 G.o.length c0) ∧ w'.cell? ⟨n, 1, none⟩ = some (.slice (some ⟨b1, 0, none⟩) G.r.length c1) ∧ w'.cell? ⟨n, 2, none⟩ = some (.slice A2 G.w.length c2) ∧ w'.cell? ⟨n, 3, none⟩ = some (.slice A3 G.d.length c3)) ∧ w'.cell? ⟨ga, j.toNat, none⟩ = some (.int .i64 q))) (ds := [11]) #[fF,fF,fF,fF,fF,fF,fF,fF,fF,fF,fF,fF] (by kernel_rfl) rfl rfl ⟨(box3 HB6.out).2.2, K.out.hc, HZ.out⟩ (fun hHeld => ?_); refine with_tabW smk5_tab smk5_bits (fun HT_ HW_ => ?_)
   generalize wr.drew = v5 at K HOW HB6 HRF HCE HZ hHeld ⊢
   refine pure_ (i := 0) (N := some 18) (v := ?_) (a' := ?_) #[tT,fF,fF,fF,fF,fF,fF,fF,fF,fF,fF,fF] rfl rfl (any_of HT_.out (by kernel_rfl)) (fun _ _ _ h => h) (Or.inl ⟨by rfl, ?_⟩) ?_ ?_
   rotate_left
   ·intro w'
    go_simp
    with_reducible rfl
   rotate_left
   ·exact zP
   refine take_ (i := 1) (N := some 19) (v := ?_) (a' := ?_) #[tT,tT,fF,fF,fF,fF,fF,fF,fF,fF,fF,fF] rfl rfl (take_ofW HT_.out HW_.out (by kernel_rfl)) (fun _ _ _ h => h) (Or.inl ⟨by rfl, ?_⟩) hHeld ?_ ?_
   rotate_left
   ·rintro w' ⟨s0, ⟨s1, s2, s3, s4⟩, s5⟩
    go_simp
    with_reducible rfl
   rotate_left
   ·exact zP
   refine pure_ (i := 2) (N := some 20) (v := ?_) (a' := ?_) #[tT,tT,tT,fF,fF,fF,fF,fF,fF,fF,fF,fF] rfl rfl (any_of HT_.out (by kernel_rfl)) (fun _ _ _ h => h) (Or.inl ⟨by rfl, ?_⟩) ?_ ?_
   rotate_left
   ·intro w'
    go_simp
    with_reducible rfl
   rotate_left
   ·exact zP
   refine take_ (i := 3) (N := some 21) (v := ?_) (a' := ?_) #[tT,tT,tT,tT,fF,fF,fF,fF,fF,fF,fF,fF] rfl rfl (take_ofW HT_.out HW_.out (by kernel_rfl)) (fun _ _ _ h => h) (Or.inl ⟨by rfl, ?_⟩) hHeld ?_ ?_
   rotate_left
   ·rintro w' ⟨s0, ⟨s1, s2, s3, s4⟩, s5⟩
    go_simp
    with_reducible rfl
   rotate_left
   ·exact zP
   refine pure_ (i := 4) (N := some 22) (v := ?_) (a' := ?_) #[tT,tT,tT,tT,tT,fF,fF,fF,fF,fF,fF,fF] rfl rfl (any_of HT_.out (by kernel_rfl)) (fun _ _ _ h => h) (Or.inl ⟨by rfl, ?_⟩) ?_ ?_
   rotate_left
   ·intro w'
    go_simp
    with_reducible rfl
   rotate_left
   ·exact zP
   refine take_ (i := 5) (N := some 23) (v := ?_) (a' := ?_) #[tT,tT,tT,tT,tT,tT,fF,fF,fF,fF,fF,fF] rfl rfl (take_ofW HT_.out HW_.out (by kernel_rfl)) (fun _ _ _ h => h) (Or.inl ⟨by rfl, ?_⟩) hHeld ?_ ?_
   rotate_left
   ·rintro w' ⟨s0, ⟨s1, s2, s3, s4⟩, s5⟩
    go_simp
    with_reducible rfl
   rotate_left
   ·exact zP
   refine pure_ (i := 6) (N := some 24) (v := ?_) (a' := ?_) #[tT,tT,tT,tT,tT,tT,tT,fF,fF,fF,fF,fF] rfl rfl (any_of HT_.out (by kernel_rfl)) (fun _ _ _ h => h) (Or.inl ⟨by rfl, ?_⟩) ?_ ?_
   rotate_left
   ·intro w'
    go_simp
    with_reducible rfl
   rotate_left
   ·exact zP
   refine pure_ (i := 7) (N := some 25) (v := ?_) (a' := ?_) #[tT,tT,tT,tT,tT,tT,tT,tT,fF,fF,fF,fF] rfl rfl (any_of HT_.out (by kernel_rfl)) (fun _ _ _ h => h) (Or.inl ⟨by rfl, ?_⟩) ?_ ?_
   rotate_left
   ·intro w'
    go_simp
    with_reducible rfl
   rotate_left
   ·exact zP
   refine take_ (i := 8) (N := some 26) (v := ?_) (a' := ?_) #[tT,tT,tT,tT,tT,tT,tT,tT,tT,fF,fF,fF] rfl rfl (take_ofW HT_.out HW_.out (by kernel_rfl)) (fun _ _ _ h => h) (Or.inl ⟨by rfl, ?_⟩) hHeld ?_ ?_
   rotate_left
   ·rintro w' ⟨s0, ⟨s1, s2, s3, s4⟩, s5⟩
    go_simp
    with_reducible rfl
   rotate_left
   ·exact zP
   refine one_ (i := 9) (N := some 27) #[tT,tT,tT,tT,tT,tT,tT,tT,tT,tT,fF,fF] rfl rfl (one_of HT_.out (by kernel_rfl)) (by decide) (fun K_ hK => ?_)
   refine goes_ Try.func129 (by kernel_rfl) rfl #[.agg #[.slice A0 G.o.length c0, .slice (some ⟨b1, 0, none⟩) G.r.length c1, .slice A2 G.w.length c2, .slice A3 G.d.length c3], .int .i64 q] (by rfl) rfl rfl zI ?_
   refine (root_c (p := q) K.out.own.reads HOK.out.r).mono ?_
   rintro en v6 ⟨rfl, hb⟩
   refine ⟨_, rfl, ?_⟩
   replace K := AK (K.out.below hb)
   replace HOW := AK (HOW.out.below hb)
   replace HB6 := AK (bbl HB6.out hb)
   replace HRF := AK (Kd.R_below HRF.out hb)
   replace HCE := AK (bbl HCE.out hb)
   replace HZ := AK (pcb hb HZ.out)
   clear hb
   refine hK.out _ _ ⟨(box3 HB6.out).2.2, K.out.hc, HZ.out⟩ (fun hHeld => ?_)
   clear hK K_
   refine norm_ (a' := ?_) ?_ ?_
   rotate_left
   ·show Act.put _ (some 27) _ = _
    exact zP
   refine pure_ (i := 10) (N := some 28) (v := ?_) (a' := ?_) #[tT,tT,tT,tT,tT,tT,tT,tT,tT,tT,tT,fF] rfl rfl (any_of HT_.out (by kernel_rfl)) (fun _ _ _ h => h) (Or.inl ⟨by rfl, ?_⟩) ?_ ?_
   rotate_left
   ·intro w'
    go_simp
    with_reducible rfl
   rotate_left
   ·exact zP
   refine last_ (i := 11) (N := none) #[tT,tT,tT,tT,tT,tT,tT,tT,tT,tT,tT,tT] rfl rfl (one_of HT_.out (by kernel_rfl)) (by decide) (fun K_ hK => ?_)
   have N0 := AK (K.out.far HOW.out HGA.out (Nat.le_trans HN.out.1 HGA.out) HCE.out j.toNat (.int .i64 (knownL G.r q)))
   have N1 := AK (HOW.out.far HGA.out j.toNat (.int .i64 (knownL G.r q)))
   have N2 := AK (show (v6.setCell ⟨ga, j.toNat, none⟩ (.int .i64 (knownL G.r q))).heap[b6]? = some (.cells #[.int .i64 e.f4.f0, .string e.f4.f1, .slice (some ⟨ga, 0, none⟩) e.f4.f2.length rf] 38 (0, 0)) from blk_far HB6.out (p := ⟨ga, j.toNat, none⟩) (blk_ne HB6.out HCE.out (by decide)) _)
   have N3 := AK (RI_set HRF.out j (by have := HQ.out; omega) (by have := HQ.out; omega) (knownL G.r q))
   rw [HMS.out] at N3
   have hz := HZ.out
   have hfz := (RI_at HRF.out j (by have := HQ.out; omega) (by have := HQ.out; omega)).2
   refine skip_ (w1 := ?_) (by rfl) rfl ?_ ?_
   rotate_left
   ·go_simp
    rfl
   clear hz hfz
   refine hK.out _ _ ?_
   clear hK K_
   refine done_ (done_of HT_.out (by kernel_rfl)) ?_
   clear HT_ HW_ hHeld
   go_wp2
   go_roundg k4
   case measure => omega
   case rel =>
    have h1 := HQ.out
    have h2 := HL6.out.1
    rw [wrap_succ j (by omega) (by omega)]
    exact ⟨j + 1, rfl, ⟨by omega, by omega⟩, N0, N1, N2, N3⟩
  | zero =>
   have c15 : decide (j < (e.f4.f2.length : Int)) = false := deF (by have := HQ.out; omega)
   have hr := HRF.out
   rw [take_all _ _ (by have := HQ.out; omega), drop_end _ _ (by have := HQ.out; omega), List.append_nil] at hr
   obtain ⟨O, eO⟩ : ∃ O, O = madeO G e := ⟨_, rfl⟩
   have EO := AK eO
   have hOl : e.f4.f2.length = O.f2.length := by rw [eO]; unfold madeO; simp
   have h0 : O.f0 = e.f4.f0 := by rw [eO]; rfl
   have h1 : O.f1 = e.f4.f1 := by rw [eO]; rfl
   have h2 : O.f2 = e.f4.f2.map (knownL G.r) := by rw [eO]; rfl
   rw [← h2, hOl] at hr
   rw [hOl] at c15
   have hb6 := HB6.out
   rw [hOl, ← h0, ← h1] at hb6
   have hft : Fit O := ⟨by rw [h1]; exact HL6.out.2, by rw [← hOl]; have := HL6.out.1; omega⟩
   replace HRF := AK (show Kd.R (Kd.int .i64) 3 wr v.heap.size (fun k => w1.heap.size ≤ k) (.slice Rf O.f2.length rf) O.f2 from hr)
   replace HB6 := AK (show wr.heap[b6]? = some (.cells #[.int .i64 O.f0, .string O.f1, .slice Rf O.f2.length rf] 38 (0, 0)) from hb6)
   have HFT := AK hft
   clear hr eO hOl h0 h1 h2 hb6 hft z0 z1 z2
   obtain ⟨p0, p1, p2, p3⟩ := K.out.hc
   obtain ⟨x0, x1, x2⟩ := box3 HB6.out
   go_wp2_with fail
   clear x0 x1 x2
   clear p0 p1 p2 p3
   refine (l1ObjOk_c ⟨by omega, by have := HOK.out.n; omega⟩ HFT.out (Kd.R_reads' HRF.out).2.2).mono ?_
   rintro en w5 ⟨rfl, hb⟩
   replace K := AK (K.out.below hb)
   replace HOW := AK (HOW.out.below hb)
   replace HB6 := AK (bbl HB6.out hb)
   replace HRF := AK (Kd.R_below HRF.out hb)
   clear hb HFT
   have hmk : (R, s) = if obB G.o.length O = true then (if 60 ≤ G.o.length then (G, sFull) else (⟨G.o ++ [O], G.r.set e.f1.toNat G.o.length, G.w, G.d⟩, seesB (G.o ++ [O]) G.o.length)) else (G, sNo) := by rw [HR.out, EO.out]; rfl
   clear HR
   by_cases cb : obB G.o.length O = true
   case neg =>
    rw [if_neg cb] at hmk
    have cbf : obB G.o.length O = false := by simpa using cb
    rw [cbf]
    injection hmk with he1 he2
    subst he1 he2
    obtain ⟨p0, p1, p2, p3⟩ := K.out.hc
    obtain ⟨z0, z1, z2, z3⟩ := K.out.oc
    have y0 := K.out.of 0
    have y1 := K.out.of 1
    have y2 := K.out.of 2
    have y3 := K.out.of 3
    go_wp2
    refine bodyPost_ret (results_ct rfl _ _ (n + 2) 28 #[.slice A0 R.o.length c0, .slice (some ⟨b1, 0, none⟩) R.r.length c1, .slice A2 R.w.length c2, .slice A3 R.d.length c3] (0, 0) _ rfl K.out.fin.2.2.1 Try.underlying28 rfl (by kernel_rfl)) rfl ?_
    exact ⟨A0, c0, (some ⟨b1, 0, none⟩), c1, A2, c2, A3, c3, rfl, K.out.fin.1, K.out.fin.2.1, K.out.fin.2.2.2⟩
   have HCB := AK cb
   rw [if_pos cb] at hmk
   rw [cb]
   clear cb
   have hno := HOK.out.n
   by_cases cf : 60 ≤ G.o.length
   case pos =>
    rw [if_pos cf] at hmk
    injection hmk with he1 he2
    subst he1 he2
    have cf1 : decide (60 ≤ (R.o.length : Int)) = true := deT (by omega)
    obtain ⟨p0, p1, p2, p3⟩ := K.out.hc
    obtain ⟨z0, z1, z2, z3⟩ := K.out.oc
    have y0 := K.out.of 0
    have y1 := K.out.of 1
    have y2 := K.out.of 2
    have y3 := K.out.of 3
    go_wp2
    refine bodyPost_ret (results_ct rfl _ _ (n + 2) 28 #[.slice A0 R.o.length c0, .slice (some ⟨b1, 0, none⟩) R.r.length c1, .slice A2 R.w.length c2, .slice A3 R.d.length c3] (0, 0) _ rfl K.out.fin.2.2.1 Try.underlying28 rfl (by kernel_rfl)) rfl ?_
    exact ⟨A0, c0, (some ⟨b1, 0, none⟩), c1, A2, c2, A3, c3, rfl, K.out.fin.1, K.out.fin.2.1, K.out.fin.2.2.2⟩
   rw [if_neg cf] at hmk
   have cf1 : decide (60 ≤ (G.o.length : Int)) = false := deF (by omega)
   obtain ⟨O2, eO2⟩ : ∃ O2, O2 = G.o ++ [O] := ⟨_, rfl⟩
   obtain ⟨p, ep⟩ : ∃ p : Int, p = G.o.length := ⟨_, rfl⟩
   obtain ⟨r2, er2⟩ : ∃ r2, r2 = G.r.set e.f1.toNat p := ⟨_, rfl⟩
   rw [← eO2, ← ep, ← er2] at hmk
   have hO2 : (O2.length : Int) = G.o.length + 1 := by rw [eO2, List.length_append]; rfl
   have hpp : (O2.length : Int) - 1 = p := by omega
   have hwr : wrap64 ((O2.length : Int) - 1) = p := by unfold wrap64; omega
   have hob : (O2.length : Int) ≤ 1152921504606846976 := by omega
   have hob1 : 1 ≤ (O2.length : Int) := by omega
   have hi0 := eq_true (show 0 ≤ e.f1 from HTO.out.1)
   have hi1 := eq_true (show e.f1 < (G.r.length : Int) from HTO.out.2)
   have HO2 := AK (And.intro eO2 (And.intro ep er2))
   have HRL := AK (show r2.length = G.r.length by rw [er2, List.length_set])
   have HRD := AK (show rd r2 e.f1 = p by
    rw [er2]; unfold rd; rw [List.getD_eq_getElem?_getD, List.getElem?_set_self (by have := HTO.out; omega)]; rfl)
   have HOP := AK (show p < O2.length ∧ (rd_T38 O2 p).f2.length ≤ 6 by
    refine ⟨by omega, ?_⟩
    have h3 : rd_T38 O2 p = O := by rw [eO2, ep]; unfold rd_T38; rw [Int.toNat_natCast, List.getD_eq_getElem?_getD]; simp
    rw [h3]; exact (ob_small2 HCB.out).2)
   have HL := AK hno
   injection hmk with he1 he2
   subst he1 he2
   clear eO2 ep er2 hO2 hno cf
   obtain ⟨p0, p1, p2, p3⟩ := K.out.hc
   obtain ⟨t0, t1, t2⟩ := box3 HB6.out
   go_wp2_with ((with_reducible refine gate_dst (N := 45) rfl ?_); at_builtin; refine Kd.S_append k38 (w0 := v) v.heap.size rfl (.tmp 42) (.tmp 44) 24 38 (.agg #[.int .i64 0, .string ⟨#[]⟩, .slice none 0 0]) 48 rfl Try.underlying24 info38 rfl (by decide) (by omega) (.slice A0 G.o.length c0) G.o O [.int .i64 O.f0, .string O.f1, .slice Rf O.f2.length rf] (fun k => some k ≠ (Value.slice (some ⟨b1, 0, none⟩) G.r.length c1).ownBlock) (fun k => some k = (Value.slice Rf O.f2.length rf).ownBlock) rfl rfl ?aP ?aK ?aF ?aO ?aB ?aS ?aL ?_; (case aP => exact k38_mkM _ _ _ O (Kd.R_tight rfl HRF.out)); (case aK => exact fun k hk => ⟨fun ee => by have h3 := HRF.out.1 k hk.symm; have h4 : k < w1.heap.size := HOW.out.s1.1 k ee.symm; omega, fun ee => by have h3 := HRF.out.1 k hk.symm; have h4 := ((Kd.S_R HOW.out.s0).1 k ee.symm).1; omega⟩); (case aF => exact fun k hk ee => by have h3 := Kd.R_lt K.out.own.s1 k ee.symm; omega); (case aO => exact Kd.S_mono HOW.out.s0 (fun k hk => ⟨hk.2, fun ee => by have h3 := HRF.out.1 k ee.symm; have h4 := hk.1; omega⟩)); (case aB => exact K.out.b); (case aS => exact K.out.b.size); (case aL => have := HL.out; omega); intro v45 w6 hs hb hgr hat; rw [← HO2.out.1] at hs; obtain ⟨B0, b0, ee⟩ := Kd.S_slice hs; subst ee; have K5 := AK (K.out.pushO hs hb hgr); have hh := blk_grown K.out.h hgr (Kd.S_ne K.out.own.s0 K.out.h (by decide)); obtain ⟨r0, r1, r2_, r3⟩ := box4 hh; have hf4 := bfz hh 0; obtain ⟨s0, s1, s2, s3⟩ := K5.out.hc; obtain ⟨q0, q1, q2, q3, q4, q5, q6⟩ := K5.out.ec; obtain ⟨x0, xf⟩ := RI_at K5.out.own.s1 e.f1 HTO.out.1 HTO.out.2; have K6 := AK (K5.out.setR e.f1 HTO.out.1 HTO.out.2 p HO2.out.2.2); have HRT := AK ((RI_at K6.out.own.s1 e.f1 HTO.out.1 (by rw [show (r2.length : Int) = G.r.length by rw [HRL.out]]; exact HTO.out.2)).1.trans (by rw [HRD.out])); clear hs hb hgr hat hh)
   clear p0 p1 p2 p3 t0 t1 t2 r0 r1 r2_ r3 hf4 s0 s1 s2 s3 q0 q1 q2 q3 q4 q5 q6 x0 xf
   generalize (w6.setCell ⟨n, 0, none⟩ (.slice B0 O2.length b0)).setCell ⟨b1, e.f1.toNat, none⟩ (.int .i64 p) = w7 at K6 HRT ⊢
   have hi2 := eq_true (show e.f1 < (r2.length : Int) by rw [show (r2.length : Int) = G.r.length by rw [HRL.out]]; exact HTO.out.2)
   replace HRT := AK (show (World.drew w7).cell? _ = _ from pcb (below_drew1 (Below.refl _ _)) HRT.out)
   replace K6 := AK (K6.out.below (below_drew1 (Below.refl _ _)))
   refine start_ (n := 11) (S := (fun w' => (w'.cell? ⟨n, 0, none⟩ = some (.slice B0 O2.length b0) ∧ w'.cell? ⟨n, 1, none⟩ = some (.slice (some ⟨b1, 0, none⟩) r2.length c1) ∧ w'.cell? ⟨n, 2, none⟩ = some (.slice A2 G.w.length c2) ∧ w'.cell? ⟨n, 3, none⟩ = some (.slice A3 G.d.length c3)) ∧ w'.cell? ⟨n + 1, 1, none⟩ = some (.int .i64 e.f1) ∧ w'.cell? ⟨b1, e.f1.toNat, none⟩ = some (.int .i64 p))) (ds := [9]) #[fF,fF,fF,fF,fF,fF,fF,fF,fF,fF,fF] (by kernel_rfl) rfl rfl ⟨K6.out.hc, K6.out.ec.2.1, HRT.out⟩ (fun hHeld => ?_); refine with_tabW smk12_tab smk12_bits (fun HT_ HW_ => ?_)
   generalize w7.drew = v5 at HRT K6 hHeld ⊢
   refine take_ (i := 0) (N := some 56) (v := ?_) (a' := ?_) #[tT,fF,fF,fF,fF,fF,fF,fF,fF,fF,fF] rfl rfl (take_ofW HT_.out HW_.out (by kernel_rfl)) (fun _ _ _ h => h) (Or.inl ⟨by rfl, ?_⟩) hHeld ?_ ?_
   rotate_left
   ·rintro w' ⟨⟨s0, s1, s2, s3⟩, s4, s5⟩
    go_simp
    with_reducible rfl
   rotate_left
   ·exact zP
   refine take_ (i := 1) (N := some 57) (v := ?_) (a' := ?_) #[tT,tT,fF,fF,fF,fF,fF,fF,fF,fF,fF] rfl rfl (take_ofW HT_.out HW_.out (by kernel_rfl)) (fun _ _ _ h => h) (Or.inl ⟨by rfl, ?_⟩) hHeld ?_ ?_
   rotate_left
   ·rintro w' ⟨⟨s0, s1, s2, s3⟩, s4, s5⟩
    go_simp
    with_reducible rfl
   rotate_left
   ·exact zP
   refine pure_ (i := 2) (N := some 58) (v := ?_) (a' := ?_) #[tT,tT,tT,fF,fF,fF,fF,fF,fF,fF,fF] rfl rfl (any_of HT_.out (by kernel_rfl)) (fun _ _ _ h => h) (Or.inl ⟨by rfl, ?_⟩) ?_ ?_
   rotate_left
   ·intro w'
    go_simp
    with_reducible rfl
   rotate_left
   ·exact zP
   refine take_ (i := 3) (N := some 59) (v := ?_) (a' := ?_) #[tT,tT,tT,tT,fF,fF,fF,fF,fF,fF,fF] rfl rfl (take_ofW HT_.out HW_.out (by kernel_rfl)) (fun _ _ _ h => h) (Or.inl ⟨by rfl, ?_⟩) hHeld ?_ ?_
   rotate_left
   ·rintro w' ⟨⟨s0, s1, s2, s3⟩, s4, s5⟩
    go_simp
    with_reducible rfl
   rotate_left
   ·exact zP
   refine pure_ (i := 4) (N := some 60) (v := ?_) (a' := ?_) #[tT,tT,tT,tT,tT,fF,fF,fF,fF,fF,fF] rfl rfl (any_of HT_.out (by kernel_rfl)) (fun _ _ _ h => h) (Or.inl ⟨by rfl, ?_⟩) ?_ ?_
   rotate_left
   ·intro w'
    go_simp
    with_reducible rfl
   rotate_left
   ·exact zP
   refine take_ (i := 5) (N := some 61) (v := ?_) (a' := ?_) #[tT,tT,tT,tT,tT,tT,fF,fF,fF,fF,fF] rfl rfl (take_ofW HT_.out HW_.out (by kernel_rfl)) (fun _ _ _ h => h) (Or.inl ⟨by rfl, ?_⟩) hHeld ?_ ?_
   rotate_left
   ·rintro w' ⟨⟨s0, s1, s2, s3⟩, s4, s5⟩
    go_simp
    with_reducible rfl
   rotate_left
   ·exact zP
   refine pure_ (i := 6) (N := some 62) (v := ?_) (a' := ?_) #[tT,tT,tT,tT,tT,tT,tT,fF,fF,fF,fF] rfl rfl (any_of HT_.out (by kernel_rfl)) (fun _ _ _ h => h) (Or.inl ⟨by rfl, ?_⟩) ?_ ?_
   rotate_left
   ·intro w'
    go_simp
    with_reducible rfl
   rotate_left
   ·exact zP
   refine take_ (i := 7) (N := some 63) (v := ?_) (a' := ?_) #[tT,tT,tT,tT,tT,tT,tT,tT,fF,fF,fF] rfl rfl (take_ofW HT_.out HW_.out (by kernel_rfl)) (fun _ _ _ h => h) (Or.inl ⟨by rfl, ?_⟩) hHeld ?_ ?_
   rotate_left
   ·rintro w' ⟨⟨s0, s1, s2, s3⟩, s4, s5⟩
    go_simp
    with_reducible rfl
   rotate_left
   ·exact zP
   refine one_ (i := 8) (N := some 64) #[tT,tT,tT,tT,tT,tT,tT,tT,tT,fF,fF] rfl rfl (one_of HT_.out (by kernel_rfl)) (by decide) (fun K_ hK => ?_)
   refine goes_ Try.func128 (by kernel_rfl) rfl #[.agg #[.slice B0 O2.length b0, .slice (some ⟨b1, 0, none⟩) r2.length c1, .slice A2 G.w.length c2, .slice A3 G.d.length c3], .int .i64 p] (by rfl) rfl rfl zI ?_
   refine (sees_c K6.out.own.reads HOP.out.1 (fun _ => HOP.out.2)).mono ?_
   rintro en v6 ⟨rfl, hb⟩
   refine ⟨_, rfl, ?_⟩
   replace HRT := AK (pcb hb HRT.out)
   replace K6 := AK (K6.out.below hb)
   clear hb
   refine hK.out _ _ ⟨K6.out.hc, K6.out.ec.2.1, HRT.out⟩ (fun hHeld => ?_)
   clear hK K_
   refine norm_ (a' := ?_) ?_ ?_
   rotate_left
   ·show Act.put _ (some 64) _ = _
    exact zP
   refine last_ (i := 9) (N := none) #[tT,tT,tT,tT,tT,tT,tT,tT,tT,tT,fF] rfl rfl (one_of HT_.out (by kernel_rfl)) (by decide) (fun K_ hK => ?_)
   obtain ⟨z0, z1, z2, z3⟩ := K6.out.oc
   have y0 := K6.out.of 0
   have y1 := K6.out.of 1
   have y2 := K6.out.of 2
   have y3 := K6.out.of 3
   refine skip_ (w1 := ?_) (by rfl) rfl ?_ ?_
   rotate_left
   ·go_simp
    rfl
   clear z0 z1 z2 z3 y0 y1 y2 y3
   refine hK.out _ _ ?_
   clear hK K_
   refine pure_ (i := 10) (N := some 5) (v := ?_) (a' := ?_) #[tT,tT,tT,tT,tT,tT,tT,tT,tT,tT,tT] rfl rfl (any_of HT_.out (by kernel_rfl)) (fun _ _ _ h => h) (Or.inl ⟨by rfl, ?_⟩) ?_ ?_
   rotate_left
   ·intro w'
    go_simp
    with_reducible rfl
   rotate_left
   ·exact zP
   refine done_ (done_of HT_.out (by kernel_rfl)) ?_
   clear HT_ HW_ hHeld
   go_wp2
   refine bodyPost_ret (results_ct rfl _ _ (n + 2) 28 #[.slice B0 O2.length b0, .slice (some ⟨b1, 0, none⟩) r2.length c1, .slice A2 G.w.length c2, .slice A3 G.d.length c3] (0, 0) _ rfl K6.out.fin.2.2.1 Try.underlying28 rfl (by kernel_rfl)) rfl ?_
   exact ⟨B0, b0, (some ⟨b1, 0, none⟩), c1, A2, c2, A3, c3, rfl, K6.out.fin.1, K6.out.fin.2.1, K6.out.fin.2.2.2⟩
end Go.Proofs.Ytigjhfijkdlldaa.H
end
section
/- A step leaves a heap ok. -/
namespace Go.Proofs.Ytigjhfijkdlldaa.H
open Go.RowKit Go.Proofs.YtigjhfijkdlldaaW.PrintWords Go.Proofs.YtigjhfijkdlldaaW.PrintLast Go.Proofs.YtigjhfijkdlldaaW.PrintMore Go.Proofs.Ytigjhfijkdlldaa.Q
set_option linter.unusedVariables false
section
variable {l0 : List S38} {l1 : List Int} {l2 l3 : List S60}
theorem OkH.b (h : OkH l0 l1 l2 l3) : okB l0 l1 l2 l3 = true := by
  unfold okB
  simp only [Bool.and_eq_true, decide_eq_true_eq, List.all_eq_true]
  exact ⟨⟨⟨⟨⟨⟨h.n, h.r⟩, h.w⟩, h.o⟩, fun p hp => by have := h.rs p hp; unfold inB; simp; omega⟩, h.ws⟩, h.ds⟩
theorem obB_mk {n m : Int} {x y : S38} (h : obB n x = true) (e0 : y.f0 = x.f0) (e1 : y.f1 = x.f1) (e2 : y.f2.length = x.f2.length) (hr : ∀ p ∈ y.f2, -1 ≤ p ∧ p < m) : obB m y = true := by
  unfold obB at h ⊢
  rw [Bool.and_eq_true] at h ⊢
  refine ⟨?_, List.all_eq_true.2 fun p hp => ?_⟩
  · have := h.1
    unfold shB at this ⊢
    rw [e0, e1, e2]; exact this
  · have := hr p hp
    unfold inB; simp; omega
theorem obB_mono {n m : Int} {x : S38} (h : obB n x = true) (hn : n ≤ m) : obB m x = true :=
  obB_mk h rfl rfl rfl (fun p hp => by have := (ob_parts h).1 p hp; omega)
theorem wtB_mk {m0 : List S38} {x y : S60} (h0 : 0 ≤ x.f0 ∧ x.f0 < m0.length) (hk : (rd_T38 m0 x.f0).f0 = 4) (h1 : 0 ≤ x.f1 ∧ x.f1 < m0.length) : wtB m0 x = true := by
  unfold wtB
  simp only [Bool.and_eq_true, decide_eq_true_eq]
  exact ⟨⟨⟨⟨h0.1, h0.2⟩, hk⟩, h1.1⟩, h1.2⟩
theorem OkH.setR (h : OkH l0 l1 l2 l3) (i : Nat) {p : Int} (hp : -1 ≤ p ∧ p < l0.length) : OkH l0 (l1.set i p) l2 l3 :=
  ⟨h.n, by rw [List.length_set]; exact h.r, h.w, h.o, fun q hq => (List.mem_or_eq_of_mem_set hq).elim (fun hq => h.rs q hq) (fun e => e ▸ hp), h.ws, h.ds⟩
theorem rd_T38_app (l : List S38) (m : List S38) (p : Int) (h0 : 0 ≤ p) (h1 : p < l.length) : rd_T38 (l ++ m) p = rd_T38 l p := by
  unfold rd_T38
  rw [List.getD_eq_getElem?_getD, List.getD_eq_getElem?_getD, List.getElem?_append_left (by omega)]
theorem rd_T38_set (l : List S38) (k p : Int) (o : S38) (hk : 0 ≤ k) (h0 : 0 ≤ p) (h1 : p < l.length) : rd_T38 (l.set k.toNat o) p = if p = k then o else rd_T38 l p := by
  unfold rd_T38
  rw [List.getD_eq_getElem?_getD, List.getD_eq_getElem?_getD, List.getElem?_set]
  by_cases c : p = k
  · subst c; rw [if_pos rfl, if_pos (by omega), if_pos rfl]; rfl
  · rw [if_neg (by omega), if_neg c]
theorem OkH.pushO (h : OkH l0 l1 l2 l3) {o : S38} (ho : obB l0.length o = true) (hn : ¬ 60 ≤ l0.length) (i : Nat) : OkH (l0 ++ [o]) (l1.set i l0.length) l2 l3 := by
  have hl : ((l0 ++ [o]).length : Int) = l0.length + 1 := by simp
  have hw : ∀ x : S60, wtB l0 x = true → wtB (l0 ++ [o]) x = true := fun x hx => by
    obtain ⟨a, b, c, d, e⟩ := wt_parts hx
    exact wtB_mk (y := x) ⟨a, by omega⟩ (by rw [rd_T38_app _ _ _ a b]; exact c) ⟨d, by omega⟩
  refine ⟨by simp; omega, by rw [List.length_set]; exact h.r, h.w, fun x hx => ?_, fun q hq => ?_, fun x hx => hw x (h.ws x hx), fun x hx => hw x (h.ds x hx)⟩
  · rw [hl]
    rcases List.mem_append.1 hx with hx | hx
    · exact obB_mono (h.o x hx) (by omega)
    · rw [List.mem_singleton.1 hx]; exact obB_mono ho (by omega)
  · rw [hl]
    rcases List.mem_or_eq_of_mem_set hq with hq | rfl
    · have := h.rs q hq; omega
    · omega
theorem OkH.setRef (h : OkH l0 l1 l2 l3) {k : Int} (hk0 : 0 ≤ k) (hk1 : k < l0.length) (a : Int) {p : Int} (hp : -1 ≤ p ∧ p < l0.length) : OkH (l0.set k.toNat (putRef (rd_T38 l0 k) a p)) l1 l2 l3 := by
  have hw : ∀ x : S60, wtB l0 x = true → wtB (l0.set k.toNat (putRef (rd_T38 l0 k) a p)) x = true := fun x hx => by
    obtain ⟨b, c, d, e, f⟩ := wt_parts hx
    refine wtB_mk (y := x) ⟨b, by rw [List.length_set]; exact c⟩ ?_ ⟨e, by rw [List.length_set]; exact f⟩
    rw [rd_T38_set _ _ _ _ hk0 b c]
    split
    · rename_i e; rw [← e]; exact d
    · exact d
  refine ⟨by rw [List.length_set]; exact h.n, h.r, h.w, fun x hx => ?_, fun q hq => by rw [List.length_set]; exact h.rs q hq, fun x hx => hw x (h.ws x hx), fun x hx => hw x (h.ds x hx)⟩
  rw [List.length_set]
  rcases List.mem_or_eq_of_mem_set hx with hx | rfl
  · exact h.o x hx
  · refine obB_mk (ob_at h hk0 hk1) rfl rfl (List.length_set ..) (fun q hq => ?_)
    rcases List.mem_or_eq_of_mem_set hq with hq | rfl
    · exact (ob_parts (ob_at h hk0 hk1)).1 q hq
    · exact hp
theorem askD_sub (g : Int) : ∀ (l : List S60) (y : Int × List S60), askD g l = some y → (∃ z ∈ l, y.1 = z.f1 ∧ z.f0 = g) ∧ (∀ z ∈ y.2, z ∈ l) ∧ y.2.length + 1 = l.length := by
  intro l
  induction l with
  | nil => intro y h; cases h
  | cons x l ih =>
    intro y h
    simp only [askD] at h
    split at h
    · rename_i c
      injection h with h
      subst h
      exact ⟨⟨x, List.mem_cons_self .., rfl, c⟩, fun z hz => List.mem_cons_of_mem _ hz, by simp⟩
    · cases e : askD g l with
      | none => rw [e] at h; cases h
      | some u =>
        rw [e] at h
        injection h with h
        subst h
        obtain ⟨⟨z, hz, e1, e2⟩, h2, h3⟩ := ih u e
        refine ⟨⟨z, List.mem_cons_of_mem _ hz, e1, e2⟩, fun z hz => ?_, by simp only [List.length_cons]; omega⟩
        rcases List.mem_cons.1 hz with rfl | hz
        · exact List.mem_cons_self ..
        · exact List.mem_cons_of_mem _ (h2 z hz)
theorem askD_none (g : Int) (l : List S60) (z : S60) (h : askD g l = none) (hz : z.f0 ≠ g) : askD g (l ++ [z]) = none := by
  induction l with
  | nil => simp [askD, hz]
  | cons x l ih =>
    simp only [askD, List.cons_append] at h ⊢
    by_cases c : x.f0 = g
    · rw [if_pos c] at h; cases h
    · rw [if_neg c] at h ⊢
      rw [ih (by simpa using h)]; rfl
theorem askD_at (g : Int) (l m : List S60) (z : S60) (h : askD g l = none) (hz : z.f0 = g) : askD g (l ++ z :: m) = some (z.f1, l ++ m) := by
  induction l with
  | nil => simp [askD, hz]
  | cons x l ih =>
    simp only [askD, List.cons_append] at h ⊢
    by_cases c : x.f0 = g
    · rw [if_pos c] at h; cases h
    · rw [if_neg c] at h ⊢
      rw [ih (by simpa using h)]; rfl
theorem rd_T38_map (f : Int → S38) (x : List Int) (i : Int) (h0 : 0 ≤ i) (h1 : i < x.length) : rd_T38 (x.map f) i = f (rd x i) := by
  unfold rd_T38 rd
  rw [List.getD_eq_getElem?_getD, List.getD_eq_getElem?_getD, List.getElem?_map, List.getElem?_eq_getElem (show i.toNat < x.length by omega)]
  rfl
theorem wh_range (x : List Int) (p : Int) : -1 ≤ wh x p ∧ wh x p < x.length := by
  unfold wh
  have := idxL_range x p
  split <;> omega
theorem OkH.move (h : OkH l0 l1 l2 l3) {x : List Int} (hg : GoodL l0.length x) : OkH (moveL l0 l1 l2 l3 x).o (moveL l0 l1 l2 l3 x).r (moveL l0 l1 l2 l3 x).w (moveL l0 l1 l2 l3 x).d := by
  have hl := nodup_len _ _ hg
  have hm : ((x.map fun p => objOf x (rd_T38 l0 p)).length : Int) = x.length := by rw [List.length_map]
  have hw : ∀ (l : List S60), (∀ z ∈ l, wtB l0 z = true) → ∀ z ∈ movedW x l, wtB (x.map fun p => objOf x (rd_T38 l0 p)) z = true := fun l hl z hz => by
    obtain ⟨u, hu, rfl⟩ := List.mem_map.1 hz
    obtain ⟨h1, h2⟩ := List.mem_filter.1 hu
    rw [Bool.and_eq_true, decide_eq_true_eq, decide_eq_true_eq] at h2
    have r0 := idxL_range x u.f0
    have r1 := idxL_range x u.f1
    refine wtB_mk (y := u) ⟨h2.1, by rw [hm]; exact r0.2⟩ ?_ ⟨h2.2, by rw [hm]; exact r1.2⟩
    have e := (idxL_get ((idxL_nonneg x u.f0).1 h2.1)).2.2
    show (rd_T38 (x.map _) (idxL x u.f0)).f0 = 4
    rw [rd_T38_map _ _ _ h2.1 r0.2, e]
    exact (wt_parts (hl u h1)).2.2.1
  refine ⟨?_, ?_, ?_, fun z hz => ?_, fun q hq => ?_, hw _ h.ws, hw _ h.ds⟩
  · show (x.map _).length ≤ 60
    rw [List.length_map]; have := h.n; omega
  · show (l1.map _).length ≤ 8
    rw [List.length_map]; exact h.r
  · show (movedW x l2).length + (movedW x l3).length ≤ 20
    have h1 : (movedW x l2).length ≤ l2.length := by unfold movedW; rw [List.length_map]; exact List.length_filter_le ..
    have h2 : (movedW x l3).length ≤ l3.length := by unfold movedW; rw [List.length_map]; exact List.length_filter_le ..
    have := h.w
    omega
  · show obB ((x.map _).length : Int) z = true
    rw [hm]
    obtain ⟨p, hp, rfl⟩ := List.mem_map.1 hz
    have hp2 := hg.2 p hp
    refine obB_mk (ob_at h hp2.1 hp2.2) rfl rfl (List.length_map ..) (fun q hq => ?_)
    obtain ⟨r, _, rfl⟩ := List.mem_map.1 hq
    exact wh_range x r
  · show -1 ≤ q ∧ q < ((x.map _).length : Int)
    rw [hm]
    obtain ⟨r, _, rfl⟩ := List.mem_map.1 hq
    exact wh_range x r
end
theorem collect_ok (h : Hp) : (collectB h).1.ok = true := by
  unfold collectB
  by_cases c : h.ok = true
  · rw [if_pos c]
    have hk2 := tell_ok (h.w.length + 1) (ok_parts c)
    exact (OkH.move hk2 (reach_good hk2)).b
  · rw [if_neg c]; rfl
theorem part_range {h : Hp} (hk : OkH h.o h.r h.w h.d) (p a : Int) (hp : ¬ partL h.o h.r p a < 0) : (0 ≤ partL h.o h.r p a ∧ partL h.o h.r p a < h.o.length) ∧ 0 ≤ a ∧ a < (rd_T38 h.o (partL h.o h.r p a)).f2.length := by
  have hr := known_range hk p
  have e : partL h.o h.r p a = knownL h.r p ∧ 0 ≤ a ∧ a < (rd_T38 h.o (knownL h.r p)).f2.length := by
    unfold partL at hp ⊢
    split
    · rename_i c; rw [if_pos c] at hp; exact absurd (by decide) hp
    · rename_i c; rw [if_neg c] at hp
      split
      · rename_i d; exact ⟨rfl, d⟩
      · rename_i d; rw [if_neg d] at hp; exact absurd (by decide) hp
  rw [e.1] at hp ⊢
  exact ⟨⟨by omega, hr.2⟩, e.2⟩
theorem ask_ok {h : Hp} (hk : OkH h.o h.r h.w h.d) (g : Int) : (-1 ≤ askP g h.d ∧ askP g h.d < h.o.length) ∧ (askL g h.d).length ≤ h.d.length ∧ ∀ z ∈ askL g h.d, z ∈ h.d := by
  unfold askP askL
  cases e : askD g h.d with
  | none => exact ⟨⟨by simp, by simp; omega⟩, Nat.le_refl _, fun z hz => hz⟩
  | some y =>
    obtain ⟨⟨z, hz, e1, _⟩, h2, h3⟩ := askD_sub g h.d y e
    have := wt_parts (hk.ds z hz)
    show (-1 ≤ y.1 ∧ y.1 < _) ∧ y.2.length ≤ _ ∧ ∀ z ∈ y.2, _
    rw [e1]
    exact ⟨⟨by omega, this.2.2.2.2⟩, by omega, h2⟩
theorem isGuard_iffP (h : Hp) (p : Int) : isGuard h p = true ↔ 0 ≤ p ∧ (rd_T38 h.o p).f0 = 4 := by
  unfold isGuard; rw [Bool.and_eq_true, decide_eq_true_eq, decide_eq_true_eq]
theorem do_ok {h : Hp} (hk : h.ok = true) (e : S40) : (doB h e).1.ok = true := by
  have hh : OkH h.o h.r h.w h.d := ok_parts hk
  unfold doB
  split
  · unfold makesB
    split
    · split
      · exact hk
      · exact OkH.b (hh.pushO (by assumption) (by assumption) _)
    · exact hk
  split
  · unfold takesB
    split
    · exact hk
    · rename_i c
      obtain ⟨h1, h2⟩ := part_range hh _ _ c
      exact OkH.b (hh.setR _ ((ob_parts (ob_at hh h1.1 h1.2)).1 _ (getD_mem _ 0 _ h2.1 h2.2)))
  split
  · unfold setsB
    split
    · exact hk
    · rename_i c
      obtain ⟨h1, h2⟩ := part_range hh _ _ c
      exact OkH.b (hh.setRef h1.1 h1.2 _ (known_range hh _))
  split
  · exact OkH.b (hh.setR _ ⟨by omega, by omega⟩)
  split
  · unfold watchesB
    split
    · rename_i c
      split
      · exact hk
      · rename_i d
        have r1 := known_range hh e.f1
        have r2 := known_range hh e.f2
        have g := (isGuard_iffP h _).1 c.1
        refine OkH.b ⟨hh.n, hh.r, by show (h.w ++ [_]).length + h.d.length ≤ 20; rw [List.length_append, List.length_singleton]; omega, hh.o, hh.rs, fun z hz => ?_, hh.ds⟩
        rcases List.mem_append.1 hz with hz | hz
        · exact hh.ws z hz
        · rw [List.mem_singleton.1 hz]
          exact wtB_mk (y := z) ⟨g.1, r1.2⟩ g.2 ⟨c.2, r2.2⟩
    · exact hk
  split
  · unfold asksB
    split
    · obtain ⟨h1, h2, h3⟩ := ask_ok hh (knownL h.r e.f2)
      have := hh.setR e.f1.toNat h1
      exact OkH.b ⟨this.n, this.r, by have := hh.w; show h.w.length + (askL (knownL h.r e.f2) h.d).length ≤ 20; omega, this.o, this.rs, this.ws, fun z hz => hh.ds z (h3 z hz)⟩
    · exact hk
  split
  · exact collect_ok h
  · exact hk
theorem step_ok (h : Hp) (e : S40) : (stepB h e).1.ok = true := by
  unfold stepB
  by_cases c : h.ok = true
  · rw [if_pos c]
    split
    · exact do_ok c e
    · exact c
  · rw [if_neg c]; rfl
end Go.Proofs.Ytigjhfijkdlldaa.H
end
