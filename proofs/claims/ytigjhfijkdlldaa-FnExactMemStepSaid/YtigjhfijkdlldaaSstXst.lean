import Derived.Test.YtigjhfijkdlldaaSstPq
import Derived.Test.YtigjhfijkdlldaaSstQe
import Derived.Test.YtigjhfijkdlldaaSstCe
/- The law FnExactMemStep, walked: for every heap and every event it answers true. -/
namespace Go.Proofs.Ytigjhfijkdlldaa.H
open Go.RowKit Go.Proofs.YtigjhfijkdlldaaW.PrintWords Go.Proofs.YtigjhfijkdlldaaW.PrintLast Go.Proofs.YtigjhfijkdlldaaW.PrintMore Go.Proofs.Ytigjhfijkdlldaa.Q
set_option linter.unusedVariables false
set_option linter.unusedSimpArgs false
theorem InH.cut {w : World} {A0 A1 A2 A3 : Option Addr} {c0 c1 c2 c3 d3 : Nat} {l0 : List S38} {l1 : List Int} {l2 l3 : List S60} (h : InH w A0 c0 A1 c1 A2 c2 A3 c3 l0 l1 l2 l3) (hd : l3.length ≤ d3) : InH w A0 c0 A1 c1 A2 c2 A3 d3 l0 l1 l2 l3 :=
 ⟨h.r0, h.r1, h.r2, h.r3, h.k0, h.k1, h.k2, hd⟩
theorem OwnP.lower {w : World} {lo lo' : Nat} {P : Nat → Prop} {A0 A1 A2 A3 : Option Addr} {c0 c1 c2 c3 : Nat} {l0 : List S38} {l1 : List Int} {l2 l3 : List S60} (h : OwnP w lo' P A0 c0 A1 c1 A2 c2 A3 c3 l0 l1 l2 l3) (hb : lo ≤ lo') : OwnP w lo P A0 c0 A1 c1 A2 c2 A3 c3 l0 l1 l2 l3 :=
 ⟨S_lower h.s0 hb, Kd.R_lower h.s1 hb, Kd.R_lower h.s2 hb, Kd.R_lower h.s3 hb⟩
theorem ok_small {R : Hp} (h : R.ok = true) : SmallG R := by
 have hk : OkH R.o R.r R.w R.d := ok_parts h
 exact ⟨hk.n, fun x hx => (ob_small2 (hk.o x hx)).2, hk.r, hk.w⟩
theorem xst8_tab : rtab .any (opsOf Try.f14 8) = (true, [([], []), ([0], [0]), ([], []), ([2, 1], [2]), ([1, 3, 3], [1, 3]), ([4], [4]), ([5], [5]), ([5], [5]), ([], []), ([8, 6, 4, 0, 1, 2, 3, 4, 5, 6, 8], [6, 8]), ([7, 9, 0, 1, 2, 3, 4, 5, 6, 7, 8, 9], [7])]) := by kernel_rfl
theorem xst8_bits : waitsOk [([], []), ([0], [0]), ([], []), ([2, 1], [2]), ([1, 3, 3], [1, 3]), ([4], [4]), ([5], [5]), ([5], [5]), ([], []), ([8, 6, 4, 0, 1, 2, 3, 4, 5, 6, 8], [6, 8]), ([7, 9, 0, 1, 2, 3, 4, 5, 6, 7, 8, 9], [7])] [0, 1, 0, 7, 15, 31, 63, 63, 0, 383, 1023] = true := by kernel_rfl
theorem xst14_tab : rtab .any (opsOf Try.f14 14) = (true, [([], []), ([], []), ([1], [1]), ([0, 2, 2], [0, 2]), ([3], [3])]) := by kernel_rfl
theorem xst14_bits : waitsOk [([], []), ([], []), ([1], [1]), ([0, 2, 2], [0, 2]), ([3], [3])] [0, 0, 2, 7, 15] = true := by kernel_rfl
theorem xst16_tab : rtab .any (opsOf Try.f14 16) = (true, [([], []), ([], []), ([1], [1]), ([0, 2, 2], [0, 2]), ([3], [3])]) := by kernel_rfl
theorem xst16_bits : waitsOk [([], []), ([], []), ([1], [1]), ([0, 2, 2], [0, 2]), ([3], [3])] [0, 0, 2, 7, 15] = true := by kernel_rfl
theorem xst31_tab : rtab .any (opsOf Try.f14 31) = (true, [([], []), ([0], [0]), ([], []), ([2, 1], [2]), ([1, 3, 3], [1, 3]), ([4], [4]), ([5], [5]), ([5], [5]), ([], []), ([8, 6, 4, 0, 1, 2, 3, 4, 5, 6, 8], [6, 8]), ([7, 9, 0, 1, 2, 3, 4, 5, 6, 7, 8, 9], [7])]) := by kernel_rfl
theorem xst31_bits : waitsOk [([], []), ([0], [0]), ([], []), ([2, 1], [2]), ([1, 3, 3], [1, 3]), ([4], [4]), ([5], [5]), ([5], [5]), ([], []), ([8, 6, 4, 0, 1, 2, 3, 4, 5, 6, 8], [6, 8]), ([7, 9, 0, 1, 2, 3, 4, 5, 6, 7, 8, 9], [7])] [0, 1, 0, 7, 15, 31, 63, 63, 0, 383, 1023] = true := by kernel_rfl
set_option maxHeartbeats 8000000 in
set_option maxRecDepth 100000 in
theorem FnExactMemStep_walk (A0 A1 A2 A3 A6 : Option Addr) (c0 c1 c2 c3 c6 : Nat) (l0 : List S72) (l1 : List Int) (l2 l3 : List S126) (e : S74) (w : World) (h : InL w A0 c0 A1 c1 A2 c2 A3 c3 l0 l1 l2 l3) (hf : ∀ x ∈ l0, Fits x.f1 x.f2)
  (he : Kd.C (Kd.int .i64) w A6 e.f4.f2.length e.f4.f2) (hc6 : e.f4.f2.length ≤ c6) (hfe : Fits e.f4.f1 e.f4.f2) :
  Calls Try.prog 14 #[.agg #[.slice A0 l0.length c0, .slice A1 l1.length c1, .slice A2 l2.length c2, .slice A3 l3.length c3], .agg #[(.int .i64 e.f0), (.int .i64 e.f1), (.int .i64 e.f2), (.int .i64 e.f3), (.int .i64 e.f4.f0), (.string e.f4.f1), (.slice A6 e.f4.f2.length c6)]] w fun en w' => en = .returned (.bool true) ∧ Below w.heap.size w w' := by
 have HI0 := AK h
 have HF0 := AK hf
 have HEV := AK he
 have HFE := AK hfe
 have HW1 := AK (show Below w.heap.size w ((w.alloc (.cells #[.slice A0 l0.length c0, .slice A1 l1.length c1, .slice A2 l2.length c2, .slice A3 l3.length c3] 45 (0, 0))).alloc (.cells #[(.int .i64 e.f0), (.int .i64 e.f1), (.int .i64 e.f2), (.int .i64 e.f3), (.int .i64 e.f4.f0), (.string e.f4.f1), (.slice A6 e.f4.f2.length c6)] 74 (0, 0))) ∧ ((w.alloc (.cells #[.slice A0 l0.length c0, .slice A1 l1.length c1, .slice A2 l2.length c2, .slice A3 l3.length c3] 45 (0, 0))).alloc (.cells #[(.int .i64 e.f0), (.int .i64 e.f1), (.int .i64 e.f2), (.int .i64 e.f3), (.int .i64 e.f4.f0), (.string e.f4.f1), (.slice A6 e.f4.f2.length c6)] 74 (0, 0))).heap[w.heap.size]? = some (.cells #[.slice A0 l0.length c0, .slice A1 l1.length c1, .slice A2 l2.length c2, .slice A3 l3.length c3] 45 (0, 0)) ∧ ((w.alloc (.cells #[.slice A0 l0.length c0, .slice A1 l1.length c1, .slice A2 l2.length c2, .slice A3 l3.length c3] 45 (0, 0))).alloc (.cells #[(.int .i64 e.f0), (.int .i64 e.f1), (.int .i64 e.f2), (.int .i64 e.f3), (.int .i64 e.f4.f0), (.string e.f4.f1), (.slice A6 e.f4.f2.length c6)] 74 (0, 0))).heap[w.heap.size + 1]? = some (.cells #[(.int .i64 e.f0), (.int .i64 e.f1), (.int .i64 e.f2), (.int .i64 e.f3), (.int .i64 e.f4.f0), (.string e.f4.f1), (.slice A6 e.f4.f2.length c6)] 74 (0, 0)) from ⟨below_alloc (below_alloc (Below.refl w.heap.size w) _) _, blk_alloc (blk_new w _) _, blk_new1 w _ _⟩)
 clear h hf he hc6 hfe
 go_enter Try.func14, Try.ntmps14
 go_wp2_with fail
 generalize ((w.alloc (.cells #[.slice A0 l0.length c0, .slice A1 l1.length c1, .slice A2 l2.length c2, .slice A3 l3.length c3] 45 (0, 0))).alloc (.cells #[(.int .i64 e.f0), (.int .i64 e.f1), (.int .i64 e.f2), (.int .i64 e.f3), (.int .i64 e.f4.f0), (.string e.f4.f1), (.slice A6 e.f4.f2.length c6)] 74 (0, 0))) = w1 at HW1 ⊢
 have HB := AK (Below.refl w1.heap.size w1)
 refine (szHeap_c ⟨by omega, by omega⟩ (HI0.out.below HW1.out.1).r0 HF0.out (C_max HI0.out.r1) (C_max HI0.out.r2) (C_max HI0.out.r3)).mono ?_
 rintro en w2 ⟨r, rfl, hb, hr1, hr2, hsm⟩
 have HSM := AK hsm
 have HR := AK (And.intro hr1 hr2)
 replace HB := AK (bst HB.out hb)
 clear hb hsm hr1 hr2
 by_cases hc : r < 0
 case pos =>
  have cb : decide (r < 0) = true := deT hc
  clear hc
  go_wp2
  go_ret
  exact ⟨rfl, bst HW1.out.1 HB.out⟩
 have cb : decide (r < 0) = false := deF hc
 have HS := AK (HSM.out (by omega))
 have HR0 := AK (show 0 ≤ r ∧ r ≤ 1048576 from ⟨by omega, HR.out.2⟩)
 clear HSM hc HR
 obtain ⟨y0, y1, y2, y3, y4, y5, y6⟩ := box7 (bbl HW1.out.2.2 HB.out)
 go_wp2_with fail
 clear y0 y1 y2 y3 y4 y5 y6
 refine (szEv_c HR0.out HFE.out).mono ?_
 rintro en w3 ⟨r2, rfl, hb, _, _, hse⟩
 have HSE0 := AK hse
 replace HB := AK (bst HB.out hb)
 clear hb hse cb
 by_cases hc : r2 < 0
 case pos =>
  have cb : decide (r2 < 0) = true := deT hc
  clear hc
  go_wp2
  go_ret
  exact ⟨rfl, bst HW1.out.1 HB.out⟩
 have cb : decide (r2 < 0) = false := deF hc
 have HSE := AK (HSE0.out (by omega))
 clear HSE0 hc HR0
 obtain ⟨ee, eE⟩ : ∃ ee, ee = cE e := ⟨_, rfl⟩
 have EE := AK eE
 have HL6 := AK (show ee.f4.f2.length ≤ 1048576 ∧ (ee.f4.f1.size : Int) ≤ 4611686018427387903 from by rw [eE]; have h1 := HSE.out; exact ⟨h1.2, by have := h1.1; show (e.f4.f1.size : Int) ≤ _; omega⟩)
 obtain ⟨p0, e0⟩ : ∃ p0, p0 = l0.map cO := ⟨_, rfl⟩
 obtain ⟨p2, e2⟩ : ∃ p2, p2 = l2.map cW := ⟨_, rfl⟩
 obtain ⟨p3, e3⟩ : ∃ p3, p3 = l3.map cW := ⟨_, rfl⟩
 have E0 := AK e0
 have E2 := AK e2
 have E3 := AK e3
 have HF := AK (small_fine e0 e2 e3 HS.out)
 have hcn : cntHP p0 l1 p2 p3 ≤ 1099517927424 := by rw [e0, e2, e3]; exact cntHP_fine HS.out
 have hc0 : 0 ≤ cntHP p0 l1 p2 p3 := by have := cntO_nonneg p0; unfold cntHP; omega
 obtain ⟨R, st, hR⟩ : ∃ R st, (R, st) = stepB ⟨p0, l1, p2, p3⟩ ee := ⟨_, _, rfl⟩
 have HST := AK hR
 have HSG := AK (ok_small (show R.ok = true by have := step_ok ⟨p0, l1, p2, p3⟩ ee; rw [← hR] at this; exact this))
 have hcg := HSG.out.cnt
 obtain ⟨kk, ekk⟩ : ∃ kk, kk = 1 + cntHP p0 l1 p2 p3 := ⟨_, rfl⟩
 have EK := AK ekk
 obtain ⟨k2, ek2⟩ : ∃ k2 : Int, k2 = kk + ee.f4.f2.length := ⟨_, rfl⟩
 have hk0 : decide (k2 < 0) = false := deF (by omega)
 have EK2 := AK ek2
 obtain ⟨m1, em1⟩ : ∃ m1, m1 = 1 + cntHP R.o R.r R.w R.d := ⟨_, rfl⟩
 have hm1 : decide (m1 < 0) = false := deF (by omega)
 have hmm : (m1 != m1) = false := by simp
 have EM1 := AK em1
 have HCN := AK (And.intro hcn (And.intro hc0 (show 0 ≤ kk ∧ kk ≤ 1099517927425 from ⟨by omega, by omega⟩)))
 have HM := AK (show 0 ≤ m1 ∧ m1 ≤ 529 from ⟨by omega, by omega⟩)
 clear eE e0 e2 e3 hcn hc0 hR hcg ekk ek2 em1
 go_wp2_with fail
 have HBU := AK (below_drew HB.out)
 have HU := AK (Below.refl w3.drew.heap.size w3.drew)
 refine start_ (n := 11) (S := (fun w' => (w'.cell? ⟨w.heap.size, 0, none⟩ = some (.slice A0 l0.length c0) ∧ w'.cell? ⟨w.heap.size, 1, none⟩ = some (.slice A1 l1.length c1) ∧ w'.cell? ⟨w.heap.size, 2, none⟩ = some (.slice A2 l2.length c2) ∧ w'.cell? ⟨w.heap.size, 3, none⟩ = some (.slice A3 l3.length c3)) ∧ w'.cell? ⟨w.heap.size + 1, 0, none⟩ = some (.int .i64 e.f0) ∧ w'.cell? ⟨w.heap.size + 1, 1, none⟩ = some (.int .i64 e.f1) ∧ w'.cell? ⟨w.heap.size + 1, 2, none⟩ = some (.int .i64 e.f2) ∧ w'.cell? ⟨w.heap.size + 1, 3, none⟩ = some (.int .i64 e.f3) ∧ w'.cell? ⟨w.heap.size + 1, 4, none⟩ = some (.int .i64 e.f4.f0) ∧ w'.cell? ⟨w.heap.size + 1, 5, none⟩ = some (.string e.f4.f1) ∧ w'.cell? ⟨w.heap.size + 1, 6, none⟩ = some (.slice A6 e.f4.f2.length c6))) (ds := []) #[fF,fF,fF,fF,fF,fF,fF,fF,fF,fF,fF] (by kernel_rfl) rfl rfl ⟨box4 (bbl HW1.out.2.1 (bst HBU.out HU.out)), box7 (bbl HW1.out.2.2 (bst HBU.out HU.out))⟩ (fun hHeld => ?_); refine with_tabW xst8_tab xst8_bits (fun HT_ HW_ => ?_)
 generalize w3.drew = u3 at HBU HU  hHeld ⊢
 refine take_ (i := 0) (N := some 28) (v := ?_) (a' := ?_) #[tT,fF,fF,fF,fF,fF,fF,fF,fF,fF,fF] rfl rfl (take_ofW HT_.out HW_.out (by kernel_rfl)) (fun _ _ _ h => h) (Or.inl ⟨by rfl, ?_⟩) hHeld ?_ ?_
 rotate_left
 ·rintro w' ⟨⟨s0, s1, s2, s3⟩, s4, s5, s6, s7, s8, s9, s10⟩
  go_simp
  with_reducible rfl
 rotate_left
 ·exact zP
 refine take_ (i := 2) (N := some 30) (v := ?_) (a' := ?_) #[tT,fF,tT,fF,fF,fF,fF,fF,fF,fF,fF] rfl rfl (take_ofW HT_.out HW_.out (by kernel_rfl)) (fun _ _ _ h => h) (Or.inl ⟨by rfl, ?_⟩) hHeld ?_ ?_
 rotate_left
 ·rintro w' ⟨⟨s0, s1, s2, s3⟩, s4, s5, s6, s7, s8, s9, s10⟩
  go_simp
  with_reducible rfl
 rotate_left
 ·exact zP
 refine join_ (σ := Value × Value × Option Addr × Nat × Option Addr × Nat × Option Addr × Nat × Option Addr × Nat × Nat) 2 #[tT,tT,tT,tT,tT,tT,tT,tT,tT,fF,fF] (fun s => [(29, s.1), (31, s.2.1), (32, .tuple #[.agg #[.slice s.2.2.1 R.o.length s.2.2.2.1, .slice s.2.2.2.2.1 R.r.length s.2.2.2.2.2.1, .slice s.2.2.2.2.2.2.1 R.w.length s.2.2.2.2.2.2.2.1, .slice s.2.2.2.2.2.2.2.2.1 R.d.length s.2.2.2.2.2.2.2.2.2.1], .string st]), (27, .tuple #[.agg #[.slice s.2.2.1 R.o.length s.2.2.2.1, .slice s.2.2.2.2.1 R.r.length s.2.2.2.2.2.1, .slice s.2.2.2.2.2.2.1 R.w.length s.2.2.2.2.2.2.2.1, .slice s.2.2.2.2.2.2.2.2.1 R.d.length s.2.2.2.2.2.2.2.2.2.1], .string st]), (33, .agg #[.slice s.2.2.1 R.o.length s.2.2.2.1, .slice s.2.2.2.2.1 R.r.length s.2.2.2.2.2.1, .slice s.2.2.2.2.2.2.1 R.w.length s.2.2.2.2.2.2.2.1, .slice s.2.2.2.2.2.2.2.2.1 R.d.length s.2.2.2.2.2.2.2.2.2.1]), (34, .string st), (6, .pointer (some ⟨s.2.2.2.2.2.2.2.2.2.2, 0, none⟩))]) (fun s w' => Below u3.heap.size u3 w' ∧ OwnG w' u3.heap.size (s.2.2.1) (s.2.2.2.1) (s.2.2.2.2.1) (s.2.2.2.2.2.1) (s.2.2.2.2.2.2.1) (s.2.2.2.2.2.2.2.1) (s.2.2.2.2.2.2.2.2.1) (s.2.2.2.2.2.2.2.2.2.1) R ∧ (w'.heap[s.2.2.2.2.2.2.2.2.2.2]? = some (.cells #[.slice none 0 0, .slice none 0 0, .slice none 0 0, .slice none 0 0] 28 (0, 0)) ∧ u3.heap.size ≤ s.2.2.2.2.2.2.2.2.2.2)) ?_ ?_
 rotate_left
 ·intro hCont
  refine two_ (i := 1) (j := 8) (Ni := some 29) (Nj := some 6) #[tT,tT,tT,fF,fF,fF,fF,fF,fF,fF,fF] #[tT,fF,tT,fF,fF,fF,fF,fF,tT,fF,fF] rfl rfl rfl rfl (two_of HT_.out (by kernel_rfl)) (by decide) (by decide) (fun K hK => ?_) (fun K hK => ?_)
  ·skip
   refine goes_ Try.func24 (by kernel_rfl) rfl #[.agg #[.slice A0 l0.length c0, .slice A1 l1.length c1, .slice A2 l2.length c2, .slice A3 l3.length c3]] (by rfl) rfl rfl zI ?_
   refine (toHeap_c E0.out E2.out E3.out HS.out (HI0.out.below (bst HW1.out.1 (bst HBU.out HU.out)))).mono ?_
   rintro en q1 ⟨P0, kP0, P1, kP1, P2, kP2, P3, kP3, rfl, hO, hb⟩
   refine ⟨_, rfl, ?_⟩
   replace HU := AK (bst HU.out hb)
   have HP := AK hO
   clear hO hb
   refine hK.out _ _ ⟨box4 (bbl HW1.out.2.1 (bst HBU.out HU.out)), box7 (bbl HW1.out.2.2 (bst HBU.out HU.out))⟩ (fun hHeld => ?_)
   clear hK K
   refine norm_ (a' := ?_) ?_ ?_
   rotate_left
   ·show Act.put _ (some 29) _ = _
    exact zP
   refine two_ (i := 3) (j := 8) (Ni := some 31) (Nj := some 6) #[tT,tT,tT,tT,fF,fF,fF,fF,fF,fF,fF] #[tT,tT,tT,fF,fF,fF,fF,fF,tT,fF,fF] rfl rfl rfl rfl (two_of HT_.out (by kernel_rfl)) (by decide) (by decide) (fun K hK => ?_) (fun K hK => ?_)
   ·skip
    refine goes_ Try.func50 (by kernel_rfl) rfl #[.agg #[(.int .i64 e.f0), (.int .i64 e.f1), (.int .i64 e.f2), (.int .i64 e.f3), (.int .i64 e.f4.f0), (.string e.f4.f1), (.slice A6 e.f4.f2.length c6)]] (by rfl) rfl rfl zI ?_
    refine (toEv_c EE.out (Kd.C_below HEV.out (bst HW1.out.1 (bst HBU.out HU.out))) HSE.out.2).mono ?_
    rintro en q3 ⟨Pe, pe, rfl, hO, hb⟩
    refine ⟨_, rfl, ?_⟩
    replace HU := AK (bst HU.out hb)
    replace HP := AK (HP.out.below hb)
    have HPE := AK hO
    clear hO hb
    refine hK.out _ _ ⟨box4 (bbl HW1.out.2.1 (bst HBU.out HU.out)), box7 (bbl HW1.out.2.2 (bst HBU.out HU.out))⟩ (fun hHeld => ?_)
    clear hK K
    refine norm_ (a' := ?_) ?_ ?_
    rotate_left
    ·show Act.put _ (some 31) _ = _
     exact zP
    refine two_ (i := 4) (j := 8) (Ni := some 32) (Nj := some 6) #[tT,tT,tT,tT,tT,fF,fF,fF,fF,fF,fF] #[tT,tT,tT,tT,fF,fF,fF,fF,tT,fF,fF] rfl rfl rfl rfl (two_of HT_.out (by kernel_rfl)) (by decide) (by decide) (fun K hK => ?_) (fun K hK => ?_)
    ·skip
     refine goes_ Try.func47 (by kernel_rfl) rfl #[.agg #[.slice P0 p0.length kP0, .slice P1 l1.length kP1, .slice P2 p2.length kP2, .slice P3 p3.length kP3], .agg #[(.int .i64 ee.f0), (.int .i64 ee.f1), (.int .i64 ee.f2), (.int .i64 ee.f3), (.int .i64 ee.f4.f0), (.string ee.f4.f1), (.slice Pe ee.f4.f2.length pe)]] (by rfl) rfl rfl zI ?_
     refine (specStep_calls _ _ _ _ _ _ _ _ _ _ ⟨p0, l1, p2, p3⟩ ee _ _ (Below.refl _ _) HP.out.reads HF.out (Kd.R_reads' HPE.out).2.2 (Kd.R_reads' HPE.out).2.1 HL6.out.1 HL6.out.2 R st HST.out).mono ?_
     rintro en q4 ⟨Q0, kQ0, Q1, kQ1, Q2, kQ2, Q3, kQ3, rfl, hO, hb⟩
     refine ⟨_, rfl, ?_⟩
     have hO2 := OwnH.lower hO HU.out.size
     replace HU := AK (bst HU.out hb)
     replace HP := AK (HP.out.below hb)
     replace HPE := AK (Kd.R_below HPE.out hb)
     clear HP HPE
     have HWO := AK hO2
     clear hO hO2 hb
     refine hK.out _ _ ⟨box4 (bbl HW1.out.2.1 (bst HBU.out HU.out)), box7 (bbl HW1.out.2.2 (bst HBU.out HU.out))⟩ (fun hHeld => ?_)
     clear hK K
     refine norm_ (a' := ?_) ?_ ?_
     rotate_left
     ·show Act.put _ (some 32) _ = _
      exact zP
     refine pure_ (i := 5) (N := some 27) (v := ?_) (a' := ?_) #[tT,tT,tT,tT,tT,tT,fF,fF,fF,fF,fF] rfl rfl (any_of HT_.out (by kernel_rfl)) (fun _ _ _ h => h) (Or.inl ⟨by rfl, ?_⟩) ?_ ?_
     rotate_left
     ·intro w'
      go_simp
      with_reducible rfl
     rotate_left
     ·exact zP
     refine pure_ (i := 6) (N := some 33) (v := ?_) (a' := ?_) #[tT,tT,tT,tT,tT,tT,tT,fF,fF,fF,fF] rfl rfl (any_of HT_.out (by kernel_rfl)) (fun _ _ _ h => h) (Or.inl ⟨by rfl, ?_⟩) ?_ ?_
     rotate_left
     ·intro w'
      go_simp
      with_reducible rfl
     rotate_left
     ·exact zP
     refine pure_ (i := 7) (N := some 34) (v := ?_) (a' := ?_) #[tT,tT,tT,tT,tT,tT,tT,tT,fF,fF,fF] rfl rfl (any_of HT_.out (by kernel_rfl)) (fun _ _ _ h => h) (Or.inl ⟨by rfl, ?_⟩) ?_ ?_
     rotate_left
     ·intro w'
      go_simp
      with_reducible rfl
     rotate_left
     ·exact zP
     refine one_ (i := 8) (N := some 6) #[tT,tT,tT,tT,tT,tT,tT,tT,tT,fF,fF] rfl rfl (one_of HT_.out (by kernel_rfl)) (by decide) (fun K hK => ?_)
     refine box_step ?hg (N := 6) ?hd (cs := #[.slice none 0 0, .slice none 0 0, .slice none 0 0, .slice none 0 0]) (t := 28) ?hr ?_; (case hd => rfl); (case hg => rfl); (case hr => first | (go_simp; done) | (go_simp; rfl))
     intro b6 hg q8 hbox hb
     have h6 := And.intro hbox (show u3.heap.size ≤ b6 by rw [hg]; exact HU.out.size)
     replace HU := AK (bst HU.out hb)
     replace HWO := AK (HWO.out.below hb)
     have H6 := AK h6
     clear h6 hg hbox hb
     refine hK.out _ _ ⟨box4 (bbl HW1.out.2.1 (bst HBU.out HU.out)), box7 (bbl HW1.out.2.2 (bst HBU.out HU.out))⟩ (fun hHeld => ?_)
     clear hK K
     refine norm_ (a' := ?_) ?_ ?_
     rotate_left
     ·show Act.put _ (some 6) _ = _
      exact zP
     exact norm_ zJ (hCont ((.agg #[.slice P0 p0.length kP0, .slice P1 l1.length kP1, .slice P2 p2.length kP2, .slice P3 p3.length kP3]), (.agg #[(.int .i64 ee.f0), (.int .i64 ee.f1), (.int .i64 ee.f2), (.int .i64 ee.f3), (.int .i64 ee.f4.f0), (.string ee.f4.f1), (.slice Pe ee.f4.f2.length pe)]), Q0, kQ0, Q1, kQ1, Q2, kQ2, Q3, kQ3, b6) _ ⟨HU.out, HWO.out, H6.out⟩)
    ·skip
     refine box_step ?hg (N := 6) ?hd (cs := #[.slice none 0 0, .slice none 0 0, .slice none 0 0, .slice none 0 0]) (t := 28) ?hr ?_; (case hd => rfl); (case hg => rfl); (case hr => first | (go_simp; done) | (go_simp; rfl))
     intro b6 hg q8 hbox hb
     have h6 := And.intro hbox (show u3.heap.size ≤ b6 by rw [hg]; exact HU.out.size)
     replace HU := AK (bst HU.out hb)
     replace HP := AK (HP.out.below hb)
     replace HPE := AK (Kd.R_below HPE.out hb)
     have H6 := AK h6
     clear h6 hg hbox hb
     refine hK.out _ _ ⟨box4 (bbl HW1.out.2.1 (bst HBU.out HU.out)), box7 (bbl HW1.out.2.2 (bst HBU.out HU.out))⟩ (fun hHeld => ?_)
     clear hK K
     refine norm_ (a' := ?_) ?_ ?_
     rotate_left
     ·show Act.put _ (some 6) _ = _
      exact zP
     refine one_ (i := 4) (N := some 32) #[tT,tT,tT,tT,tT,fF,fF,fF,tT,fF,fF] rfl rfl (one_of HT_.out (by kernel_rfl)) (by decide) (fun K hK => ?_)
     refine goes_ Try.func47 (by kernel_rfl) rfl #[.agg #[.slice P0 p0.length kP0, .slice P1 l1.length kP1, .slice P2 p2.length kP2, .slice P3 p3.length kP3], .agg #[(.int .i64 ee.f0), (.int .i64 ee.f1), (.int .i64 ee.f2), (.int .i64 ee.f3), (.int .i64 ee.f4.f0), (.string ee.f4.f1), (.slice Pe ee.f4.f2.length pe)]] (by rfl) rfl rfl zI ?_
     refine (specStep_calls _ _ _ _ _ _ _ _ _ _ ⟨p0, l1, p2, p3⟩ ee _ _ (Below.refl _ _) HP.out.reads HF.out (Kd.R_reads' HPE.out).2.2 (Kd.R_reads' HPE.out).2.1 HL6.out.1 HL6.out.2 R st HST.out).mono ?_
     rintro en q4 ⟨Q0, kQ0, Q1, kQ1, Q2, kQ2, Q3, kQ3, rfl, hO, hb⟩
     refine ⟨_, rfl, ?_⟩
     have hO2 := OwnH.lower hO HU.out.size
     replace HU := AK (bst HU.out hb)
     replace HP := AK (HP.out.below hb)
     replace HPE := AK (Kd.R_below HPE.out hb)
     replace H6 := AK (show _ ∧ _ from ⟨bbl H6.out.1 hb, H6.out.2⟩)
     clear HP HPE
     have HWO := AK hO2
     clear hO hO2 hb
     refine hK.out _ _ ⟨box4 (bbl HW1.out.2.1 (bst HBU.out HU.out)), box7 (bbl HW1.out.2.2 (bst HBU.out HU.out))⟩ (fun hHeld => ?_)
     clear hK K
     refine norm_ (a' := ?_) ?_ ?_
     rotate_left
     ·show Act.put _ (some 32) _ = _
      exact zP
     refine pure_ (i := 5) (N := some 27) (v := ?_) (a' := ?_) #[tT,tT,tT,tT,tT,tT,fF,fF,tT,fF,fF] rfl rfl (any_of HT_.out (by kernel_rfl)) (fun _ _ _ h => h) (Or.inl ⟨by rfl, ?_⟩) ?_ ?_
     rotate_left
     ·intro w'
      go_simp
      with_reducible rfl
     rotate_left
     ·exact zP
     refine pure_ (i := 6) (N := some 33) (v := ?_) (a' := ?_) #[tT,tT,tT,tT,tT,tT,tT,fF,tT,fF,fF] rfl rfl (any_of HT_.out (by kernel_rfl)) (fun _ _ _ h => h) (Or.inl ⟨by rfl, ?_⟩) ?_ ?_
     rotate_left
     ·intro w'
      go_simp
      with_reducible rfl
     rotate_left
     ·exact zP
     refine pure_ (i := 7) (N := some 34) (v := ?_) (a' := ?_) #[tT,tT,tT,tT,tT,tT,tT,tT,tT,fF,fF] rfl rfl (any_of HT_.out (by kernel_rfl)) (fun _ _ _ h => h) (Or.inl ⟨by rfl, ?_⟩) ?_ ?_
     rotate_left
     ·intro w'
      go_simp
      with_reducible rfl
     rotate_left
     ·exact zP
     exact norm_ zJ (hCont ((.agg #[.slice P0 p0.length kP0, .slice P1 l1.length kP1, .slice P2 p2.length kP2, .slice P3 p3.length kP3]), (.agg #[(.int .i64 ee.f0), (.int .i64 ee.f1), (.int .i64 ee.f2), (.int .i64 ee.f3), (.int .i64 ee.f4.f0), (.string ee.f4.f1), (.slice Pe ee.f4.f2.length pe)]), Q0, kQ0, Q1, kQ1, Q2, kQ2, Q3, kQ3, b6) _ ⟨HU.out, HWO.out, H6.out⟩)
   ·skip
    refine box_step ?hg (N := 6) ?hd (cs := #[.slice none 0 0, .slice none 0 0, .slice none 0 0, .slice none 0 0]) (t := 28) ?hr ?_; (case hd => rfl); (case hg => rfl); (case hr => first | (go_simp; done) | (go_simp; rfl))
    intro b6 hg q8 hbox hb
    have h6 := And.intro hbox (show u3.heap.size ≤ b6 by rw [hg]; exact HU.out.size)
    replace HU := AK (bst HU.out hb)
    replace HP := AK (HP.out.below hb)
    have H6 := AK h6
    clear h6 hg hbox hb
    refine hK.out _ _ ⟨box4 (bbl HW1.out.2.1 (bst HBU.out HU.out)), box7 (bbl HW1.out.2.2 (bst HBU.out HU.out))⟩ (fun hHeld => ?_)
    clear hK K
    refine norm_ (a' := ?_) ?_ ?_
    rotate_left
    ·show Act.put _ (some 6) _ = _
     exact zP
    refine one_ (i := 3) (N := some 31) #[tT,tT,tT,tT,fF,fF,fF,fF,tT,fF,fF] rfl rfl (one_of HT_.out (by kernel_rfl)) (by decide) (fun K hK => ?_)
    refine goes_ Try.func50 (by kernel_rfl) rfl #[.agg #[(.int .i64 e.f0), (.int .i64 e.f1), (.int .i64 e.f2), (.int .i64 e.f3), (.int .i64 e.f4.f0), (.string e.f4.f1), (.slice A6 e.f4.f2.length c6)]] (by rfl) rfl rfl zI ?_
    refine (toEv_c EE.out (Kd.C_below HEV.out (bst HW1.out.1 (bst HBU.out HU.out))) HSE.out.2).mono ?_
    rintro en q3 ⟨Pe, pe, rfl, hO, hb⟩
    refine ⟨_, rfl, ?_⟩
    replace HU := AK (bst HU.out hb)
    replace HP := AK (HP.out.below hb)
    replace H6 := AK (show _ ∧ _ from ⟨bbl H6.out.1 hb, H6.out.2⟩)
    have HPE := AK hO
    clear hO hb
    refine hK.out _ _ ⟨box4 (bbl HW1.out.2.1 (bst HBU.out HU.out)), box7 (bbl HW1.out.2.2 (bst HBU.out HU.out))⟩ (fun hHeld => ?_)
    clear hK K
    refine norm_ (a' := ?_) ?_ ?_
    rotate_left
    ·show Act.put _ (some 31) _ = _
     exact zP
    refine one_ (i := 4) (N := some 32) #[tT,tT,tT,tT,tT,fF,fF,fF,tT,fF,fF] rfl rfl (one_of HT_.out (by kernel_rfl)) (by decide) (fun K hK => ?_)
    refine goes_ Try.func47 (by kernel_rfl) rfl #[.agg #[.slice P0 p0.length kP0, .slice P1 l1.length kP1, .slice P2 p2.length kP2, .slice P3 p3.length kP3], .agg #[(.int .i64 ee.f0), (.int .i64 ee.f1), (.int .i64 ee.f2), (.int .i64 ee.f3), (.int .i64 ee.f4.f0), (.string ee.f4.f1), (.slice Pe ee.f4.f2.length pe)]] (by rfl) rfl rfl zI ?_
    refine (specStep_calls _ _ _ _ _ _ _ _ _ _ ⟨p0, l1, p2, p3⟩ ee _ _ (Below.refl _ _) HP.out.reads HF.out (Kd.R_reads' HPE.out).2.2 (Kd.R_reads' HPE.out).2.1 HL6.out.1 HL6.out.2 R st HST.out).mono ?_
    rintro en q4 ⟨Q0, kQ0, Q1, kQ1, Q2, kQ2, Q3, kQ3, rfl, hO, hb⟩
    refine ⟨_, rfl, ?_⟩
    have hO2 := OwnH.lower hO HU.out.size
    replace HU := AK (bst HU.out hb)
    replace HP := AK (HP.out.below hb)
    replace HPE := AK (Kd.R_below HPE.out hb)
    replace H6 := AK (show _ ∧ _ from ⟨bbl H6.out.1 hb, H6.out.2⟩)
    clear HP HPE
    have HWO := AK hO2
    clear hO hO2 hb
    refine hK.out _ _ ⟨box4 (bbl HW1.out.2.1 (bst HBU.out HU.out)), box7 (bbl HW1.out.2.2 (bst HBU.out HU.out))⟩ (fun hHeld => ?_)
    clear hK K
    refine norm_ (a' := ?_) ?_ ?_
    rotate_left
    ·show Act.put _ (some 32) _ = _
     exact zP
    refine pure_ (i := 5) (N := some 27) (v := ?_) (a' := ?_) #[tT,tT,tT,tT,tT,tT,fF,fF,tT,fF,fF] rfl rfl (any_of HT_.out (by kernel_rfl)) (fun _ _ _ h => h) (Or.inl ⟨by rfl, ?_⟩) ?_ ?_
    rotate_left
    ·intro w'
     go_simp
     with_reducible rfl
    rotate_left
    ·exact zP
    refine pure_ (i := 6) (N := some 33) (v := ?_) (a' := ?_) #[tT,tT,tT,tT,tT,tT,tT,fF,tT,fF,fF] rfl rfl (any_of HT_.out (by kernel_rfl)) (fun _ _ _ h => h) (Or.inl ⟨by rfl, ?_⟩) ?_ ?_
    rotate_left
    ·intro w'
     go_simp
     with_reducible rfl
    rotate_left
    ·exact zP
    refine pure_ (i := 7) (N := some 34) (v := ?_) (a' := ?_) #[tT,tT,tT,tT,tT,tT,tT,tT,tT,fF,fF] rfl rfl (any_of HT_.out (by kernel_rfl)) (fun _ _ _ h => h) (Or.inl ⟨by rfl, ?_⟩) ?_ ?_
    rotate_left
    ·intro w'
     go_simp
     with_reducible rfl
    rotate_left
    ·exact zP
    exact norm_ zJ (hCont ((.agg #[.slice P0 p0.length kP0, .slice P1 l1.length kP1, .slice P2 p2.length kP2, .slice P3 p3.length kP3]), (.agg #[(.int .i64 ee.f0), (.int .i64 ee.f1), (.int .i64 ee.f2), (.int .i64 ee.f3), (.int .i64 ee.f4.f0), (.string ee.f4.f1), (.slice Pe ee.f4.f2.length pe)]), Q0, kQ0, Q1, kQ1, Q2, kQ2, Q3, kQ3, b6) _ ⟨HU.out, HWO.out, H6.out⟩)
  ·skip
   refine box_step ?hg (N := 6) ?hd (cs := #[.slice none 0 0, .slice none 0 0, .slice none 0 0, .slice none 0 0]) (t := 28) ?hr ?_; (case hd => rfl); (case hg => rfl); (case hr => first | (go_simp; done) | (go_simp; rfl))
   intro b6 hg q8 hbox hb
   have h6 := And.intro hbox (show u3.heap.size ≤ b6 by rw [hg]; exact HU.out.size)
   replace HU := AK (bst HU.out hb)
   have H6 := AK h6
   clear h6 hg hbox hb
   refine hK.out _ _ ⟨box4 (bbl HW1.out.2.1 (bst HBU.out HU.out)), box7 (bbl HW1.out.2.2 (bst HBU.out HU.out))⟩ (fun hHeld => ?_)
   clear hK K
   refine norm_ (a' := ?_) ?_ ?_
   rotate_left
   ·show Act.put _ (some 6) _ = _
    exact zP
   refine one_ (i := 1) (N := some 29) #[tT,tT,tT,fF,fF,fF,fF,fF,tT,fF,fF] rfl rfl (one_of HT_.out (by kernel_rfl)) (by decide) (fun K hK => ?_)
   refine goes_ Try.func24 (by kernel_rfl) rfl #[.agg #[.slice A0 l0.length c0, .slice A1 l1.length c1, .slice A2 l2.length c2, .slice A3 l3.length c3]] (by rfl) rfl rfl zI ?_
   refine (toHeap_c E0.out E2.out E3.out HS.out (HI0.out.below (bst HW1.out.1 (bst HBU.out HU.out)))).mono ?_
   rintro en q1 ⟨P0, kP0, P1, kP1, P2, kP2, P3, kP3, rfl, hO, hb⟩
   refine ⟨_, rfl, ?_⟩
   replace HU := AK (bst HU.out hb)
   replace H6 := AK (show _ ∧ _ from ⟨bbl H6.out.1 hb, H6.out.2⟩)
   have HP := AK hO
   clear hO hb
   refine hK.out _ _ ⟨box4 (bbl HW1.out.2.1 (bst HBU.out HU.out)), box7 (bbl HW1.out.2.2 (bst HBU.out HU.out))⟩ (fun hHeld => ?_)
   clear hK K
   refine norm_ (a' := ?_) ?_ ?_
   rotate_left
   ·show Act.put _ (some 29) _ = _
    exact zP
   refine one_ (i := 3) (N := some 31) #[tT,tT,tT,tT,fF,fF,fF,fF,tT,fF,fF] rfl rfl (one_of HT_.out (by kernel_rfl)) (by decide) (fun K hK => ?_)
   refine goes_ Try.func50 (by kernel_rfl) rfl #[.agg #[(.int .i64 e.f0), (.int .i64 e.f1), (.int .i64 e.f2), (.int .i64 e.f3), (.int .i64 e.f4.f0), (.string e.f4.f1), (.slice A6 e.f4.f2.length c6)]] (by rfl) rfl rfl zI ?_
   refine (toEv_c EE.out (Kd.C_below HEV.out (bst HW1.out.1 (bst HBU.out HU.out))) HSE.out.2).mono ?_
   rintro en q3 ⟨Pe, pe, rfl, hO, hb⟩
   refine ⟨_, rfl, ?_⟩
   replace HU := AK (bst HU.out hb)
   replace HP := AK (HP.out.below hb)
   replace H6 := AK (show _ ∧ _ from ⟨bbl H6.out.1 hb, H6.out.2⟩)
   have HPE := AK hO
   clear hO hb
   refine hK.out _ _ ⟨box4 (bbl HW1.out.2.1 (bst HBU.out HU.out)), box7 (bbl HW1.out.2.2 (bst HBU.out HU.out))⟩ (fun hHeld => ?_)
   clear hK K
   refine norm_ (a' := ?_) ?_ ?_
   rotate_left
   ·show Act.put _ (some 31) _ = _
    exact zP
   refine one_ (i := 4) (N := some 32) #[tT,tT,tT,tT,tT,fF,fF,fF,tT,fF,fF] rfl rfl (one_of HT_.out (by kernel_rfl)) (by decide) (fun K hK => ?_)
   refine goes_ Try.func47 (by kernel_rfl) rfl #[.agg #[.slice P0 p0.length kP0, .slice P1 l1.length kP1, .slice P2 p2.length kP2, .slice P3 p3.length kP3], .agg #[(.int .i64 ee.f0), (.int .i64 ee.f1), (.int .i64 ee.f2), (.int .i64 ee.f3), (.int .i64 ee.f4.f0), (.string ee.f4.f1), (.slice Pe ee.f4.f2.length pe)]] (by rfl) rfl rfl zI ?_
   refine (specStep_calls _ _ _ _ _ _ _ _ _ _ ⟨p0, l1, p2, p3⟩ ee _ _ (Below.refl _ _) HP.out.reads HF.out (Kd.R_reads' HPE.out).2.2 (Kd.R_reads' HPE.out).2.1 HL6.out.1 HL6.out.2 R st HST.out).mono ?_
   rintro en q4 ⟨Q0, kQ0, Q1, kQ1, Q2, kQ2, Q3, kQ3, rfl, hO, hb⟩
   refine ⟨_, rfl, ?_⟩
   have hO2 := OwnH.lower hO HU.out.size
   replace HU := AK (bst HU.out hb)
   replace HP := AK (HP.out.below hb)
   replace HPE := AK (Kd.R_below HPE.out hb)
   replace H6 := AK (show _ ∧ _ from ⟨bbl H6.out.1 hb, H6.out.2⟩)
   clear HP HPE
   have HWO := AK hO2
   clear hO hO2 hb
   refine hK.out _ _ ⟨box4 (bbl HW1.out.2.1 (bst HBU.out HU.out)), box7 (bbl HW1.out.2.2 (bst HBU.out HU.out))⟩ (fun hHeld => ?_)
   clear hK K
   refine norm_ (a' := ?_) ?_ ?_
   rotate_left
   ·show Act.put _ (some 32) _ = _
    exact zP
   refine pure_ (i := 5) (N := some 27) (v := ?_) (a' := ?_) #[tT,tT,tT,tT,tT,tT,fF,fF,tT,fF,fF] rfl rfl (any_of HT_.out (by kernel_rfl)) (fun _ _ _ h => h) (Or.inl ⟨by rfl, ?_⟩) ?_ ?_
   rotate_left
   ·intro w'
    go_simp
    with_reducible rfl
   rotate_left
   ·exact zP
   refine pure_ (i := 6) (N := some 33) (v := ?_) (a' := ?_) #[tT,tT,tT,tT,tT,tT,tT,fF,tT,fF,fF] rfl rfl (any_of HT_.out (by kernel_rfl)) (fun _ _ _ h => h) (Or.inl ⟨by rfl, ?_⟩) ?_ ?_
   rotate_left
   ·intro w'
    go_simp
    with_reducible rfl
   rotate_left
   ·exact zP
   refine pure_ (i := 7) (N := some 34) (v := ?_) (a' := ?_) #[tT,tT,tT,tT,tT,tT,tT,tT,tT,fF,fF] rfl rfl (any_of HT_.out (by kernel_rfl)) (fun _ _ _ h => h) (Or.inl ⟨by rfl, ?_⟩) ?_ ?_
   rotate_left
   ·intro w'
    go_simp
    with_reducible rfl
   rotate_left
   ·exact zP
   exact norm_ zJ (hCont ((.agg #[.slice P0 p0.length kP0, .slice P1 l1.length kP1, .slice P2 p2.length kP2, .slice P3 p3.length kP3]), (.agg #[(.int .i64 ee.f0), (.int .i64 ee.f1), (.int .i64 ee.f2), (.int .i64 ee.f3), (.int .i64 ee.f4.f0), (.string ee.f4.f1), (.slice Pe ee.f4.f2.length pe)]), Q0, kQ0, Q1, kQ1, Q2, kQ2, Q3, kQ3, b6) _ ⟨HU.out, HWO.out, H6.out⟩)
 clear HU hHeld
 rintro ⟨v24, v50, Q0, kQ0, Q1, kQ1, Q2, kQ2, Q3, kQ3, b6⟩ q9 ⟨hb, ho, h6⟩
 have HU := AK (show Below u3.heap.size u3 q9 from hb)
 have HWO := AK (show OwnG q9 u3.heap.size Q0 kQ0 Q1 kQ1 Q2 kQ2 Q3 kQ3 R from ho)
 have H6 := AK (show q9.heap[b6]? = some (.cells #[.slice none 0 0, .slice none 0 0, .slice none 0 0, .slice none 0 0] 28 (0, 0)) ∧ u3.heap.size ≤ b6 from h6)
 have hHeld : (fun w' => (w'.cell? ⟨w.heap.size, 0, none⟩ = some (.slice A0 l0.length c0) ∧ w'.cell? ⟨w.heap.size, 1, none⟩ = some (.slice A1 l1.length c1) ∧ w'.cell? ⟨w.heap.size, 2, none⟩ = some (.slice A2 l2.length c2) ∧ w'.cell? ⟨w.heap.size, 3, none⟩ = some (.slice A3 l3.length c3)) ∧ w'.cell? ⟨w.heap.size + 1, 0, none⟩ = some (.int .i64 e.f0) ∧ w'.cell? ⟨w.heap.size + 1, 1, none⟩ = some (.int .i64 e.f1) ∧ w'.cell? ⟨w.heap.size + 1, 2, none⟩ = some (.int .i64 e.f2) ∧ w'.cell? ⟨w.heap.size + 1, 3, none⟩ = some (.int .i64 e.f3) ∧ w'.cell? ⟨w.heap.size + 1, 4, none⟩ = some (.int .i64 e.f4.f0) ∧ w'.cell? ⟨w.heap.size + 1, 5, none⟩ = some (.string e.f4.f1) ∧ w'.cell? ⟨w.heap.size + 1, 6, none⟩ = some (.slice A6 e.f4.f2.length c6)) q9 := ⟨box4 (bbl HW1.out.2.1 (bst HBU.out HU.out)), box7 (bbl HW1.out.2.2 (bst HBU.out HU.out))⟩
 clear hb ho h6
 refine norm_ (a' := ?_) ?_ ?_
 rotate_left
 ·show (Act.put (Act.put (Act.put (Act.put (Act.put (Act.put (Act.put _ (some 29) _) (some 31) _) (some 32) _) (some 27) _) (some 33) _) (some 34) _) (some 6) _) = _
  exact zP
 refine one_ (i := 9) (N := none) #[tT,tT,tT,tT,tT,tT,tT,tT,tT,tT,fF] rfl rfl (one_of HT_.out (by kernel_rfl)) (by decide) (fun K hK => ?_)
 obtain ⟨z0, z1, z2, z3⟩ := box4 H6.out.1
 have f0 := bfz H6.out.1 0
 have f1 := bfz H6.out.1 1
 have f2 := bfz H6.out.1 2
 have f3 := bfz H6.out.1 3
 have N1 := AK (show ((((q9.setCell ⟨b6, 0, none⟩ (.slice Q0 R.o.length kQ0)).setCell ⟨b6, 1, none⟩ (.slice Q1 R.r.length kQ1)).setCell ⟨b6, 2, none⟩ (.slice Q2 R.w.length kQ2)).setCell ⟨b6, 3, none⟩ (.slice Q3 R.d.length kQ3)).heap[b6]? = some (.cells #[(.slice Q0 R.o.length kQ0), (.slice Q1 R.r.length kQ1), (.slice Q2 R.w.length kQ2), (.slice Q3 R.d.length kQ3)] 28 (0, 0)) ∧ u3.heap.size ≤ b6 from ⟨set4_blk H6.out.1, H6.out.2⟩)
 have N2 := AK (show Below u3.heap.size u3 ((((q9.setCell ⟨b6, 0, none⟩ (.slice Q0 R.o.length kQ0)).setCell ⟨b6, 1, none⟩ (.slice Q1 R.r.length kQ1)).setCell ⟨b6, 2, none⟩ (.slice Q2 R.w.length kQ2)).setCell ⟨b6, 3, none⟩ (.slice Q3 R.d.length kQ3)) from set4_below HU.out H6.out.2)
 have N3 := AK (show OwnG ((((q9.setCell ⟨b6, 0, none⟩ (.slice Q0 R.o.length kQ0)).setCell ⟨b6, 1, none⟩ (.slice Q1 R.r.length kQ1)).setCell ⟨b6, 2, none⟩ (.slice Q2 R.w.length kQ2)).setCell ⟨b6, 3, none⟩ (.slice Q3 R.d.length kQ3)) u3.heap.size Q0 kQ0 Q1 kQ1 Q2 kQ2 Q3 kQ3 R from OwnH.set4 HWO.out H6.out.1)
 refine skip_ (w1 := ?_) (by rfl) rfl ?_ ?_
 rotate_left
 ·go_simp
  rfl
 clear z0 z1 z2 z3 f0 f1 f2 f3 HU HWO H6
 generalize ((((q9.setCell ⟨b6, 0, none⟩ (.slice Q0 R.o.length kQ0)).setCell ⟨b6, 1, none⟩ (.slice Q1 R.r.length kQ1)).setCell ⟨b6, 2, none⟩ (.slice Q2 R.w.length kQ2)).setCell ⟨b6, 3, none⟩ (.slice Q3 R.d.length kQ3)) = w4 at N1 N2 N3 ⊢
 have HU := N2
 have HWO := N3
 have H6 := N1
 clear N1 N2 N3
 refine hK.out _ _ ⟨box4 (bbl HW1.out.2.1 (bst HBU.out HU.out)), box7 (bbl HW1.out.2.2 (bst HBU.out HU.out))⟩ (fun hHeld => ?_)
 clear hK K
 refine pure_ (i := 10) (N := some 7) (v := ?_) (a' := ?_) #[tT,tT,tT,tT,tT,tT,tT,tT,tT,tT,tT] rfl rfl (any_of HT_.out (by kernel_rfl)) (fun _ _ _ h => h) (Or.inl ⟨by rfl, ?_⟩) ?_ ?_
 rotate_left
 ·intro w'
  go_simp
  with_reducible rfl
 rotate_left
 ·exact zP
 refine done_ (done_of HT_.out (by kernel_rfl)) ?_
 clear HT_ HW_ hHeld
 have HB := AK (bst HBU.out HU.out)
 have HBX := HB
 have HQB := H6
 have HQO := HWO
 have HQU := HU
 clear H6 HWO HBU HU
 have HBA := AK HB.out
 have HT := AK (Below.refl w4.heap.size w4)
 have KW := AK HQB.out.1
 have HBW := AK (show b6 < w4.heap.size from blk_lt HQB.out.1)
 have HWG := AK (OwnH.toP (P := fun k => k < w4.heap.size) HQO.out (fun k _ hk => hk))
 clear HQB HQO HBX
 obtain ⟨y0, y1, y2, y3⟩ := box4 (bbl HW1.out.2.1 HB.out)
 have hz := blk_lt (bbl HW1.out.2.1 HB.out)
 go_wp2_with fail
 clear y0 y1 y2 y3
 clear hz
 refine (toHeap_c E0.out E2.out E3.out HS.out (HI0.out.below (bst HW1.out.1 HB.out))).mono ?_
 rintro en w5 ⟨X0, kX0, X1, kX1, X2, kX2, X3, kX3, rfl, hO, hb⟩
 replace HB := AK (bst HB.out hb)
 replace HT := AK (bst HT.out hb)
 replace KW := AK (bbl KW.out hb)
 replace HWG := AK (HWG.out.below hb)
 have HX := AK hO
 have HXO := AK (OwnH.toP (P := fun k => k < w5.heap.size) hO (fun k _ hk => hk))
 have HZ_54 := AK hb.size
 clear hO hb HX
 obtain ⟨y0, y1, y2, y3, y4, y5, y6⟩ := box7 (bbl HW1.out.2.2 HB.out)
 have hz := blk_lt (bbl HW1.out.2.2 HB.out)
 go_wp2_with fail
 clear hz
 clear y0 y1 y2 y3 y4 y5 y6
 have KX := AK (blk_new w5 (.cells #[(.slice X0 p0.length kX0), (.slice X1 l1.length kX1), (.slice X2 p2.length kX2), (.slice X3 p3.length kX3)] 28 (0, 0)))
 replace HB := AK (bst HB.out (below_alloc (Below.refl _ _) (.cells #[(.slice X0 p0.length kX0), (.slice X1 l1.length kX1), (.slice X2 p2.length kX2), (.slice X3 p3.length kX3)] 28 (0, 0))))
 replace HT := AK (bst HT.out (below_alloc (Below.refl _ _) (.cells #[(.slice X0 p0.length kX0), (.slice X1 l1.length kX1), (.slice X2 p2.length kX2), (.slice X3 p3.length kX3)] 28 (0, 0))))
 replace KW := AK (bbl KW.out (below_alloc (Below.refl _ _) (.cells #[(.slice X0 p0.length kX0), (.slice X1 l1.length kX1), (.slice X2 p2.length kX2), (.slice X3 p3.length kX3)] 28 (0, 0))))
 replace HWG := AK (HWG.out.below (below_alloc (Below.refl _ _) (.cells #[(.slice X0 p0.length kX0), (.slice X1 l1.length kX1), (.slice X2 p2.length kX2), (.slice X3 p3.length kX3)] 28 (0, 0))))
 replace HXO := AK (HXO.out.below (below_alloc (Below.refl _ _) (.cells #[(.slice X0 p0.length kX0), (.slice X1 l1.length kX1), (.slice X2 p2.length kX2), (.slice X3 p3.length kX3)] 28 (0, 0))))
 have hsz_w6 : (w5.alloc (.cells #[(.slice X0 p0.length kX0), (.slice X1 l1.length kX1), (.slice X2 p2.length kX2), (.slice X3 p3.length kX3)] 28 (0, 0))).heap.size = w5.heap.size + 1 := Array.size_push ..
 generalize e_w6 : w5.alloc (.cells #[(.slice X0 p0.length kX0), (.slice X1 l1.length kX1), (.slice X2 p2.length kX2), (.slice X3 p3.length kX3)] 28 (0, 0)) = w6 at HB HT KW HWG HXO KX hsz_w6 ⊢
 clear e_w6
 have HZ_w6 := AK hsz_w6
 clear hsz_w6
 refine (toEv_c EE.out (Kd.C_below HEV.out (bst HW1.out.1 HB.out)) HSE.out.2).mono ?_
 rintro en w7 ⟨Ae, ae, rfl, hO, hb⟩
 replace HB := AK (bst HB.out hb)
 replace HT := AK (bst HT.out hb)
 replace KW := AK (bbl KW.out hb)
 replace HWG := AK (HWG.out.below hb)
 replace HXO := AK (HXO.out.below hb)
 replace KX := AK (bbl KX.out hb)
 have HZ_76 := AK hb.size
 have HEO := AK (show Kd.R (Kd.int .i64) 3 w7 w4.heap.size (fun k => w6.heap.size ≤ k ∧ k < w7.heap.size) (.slice Ae ee.f4.f2.length ae) ee.f4.f2 from Kd.R_lower (Kd.R_mono (Kd.R_bound hO) (fun k hk => ⟨hk.2.1, hk.2.2.1⟩)) (by have := HZ_w6.out; have := HZ_54.out; omega))
 clear hO hb
 obtain ⟨y0, y1, y2, y3⟩ := box4 KX.out
 have hz := blk_lt KX.out
 go_wp2_with fail
 clear hz
 clear y0 y1 y2 y3
 have KE := AK (blk_new w7 (.cells #[(.int .i64 ee.f0), (.int .i64 ee.f1), (.int .i64 ee.f2), (.int .i64 ee.f3), (.int .i64 ee.f4.f0), (.string ee.f4.f1), (.slice Ae ee.f4.f2.length ae)] 40 (0, 0)))
 replace HB := AK (bst HB.out (below_alloc (Below.refl _ _) (.cells #[(.int .i64 ee.f0), (.int .i64 ee.f1), (.int .i64 ee.f2), (.int .i64 ee.f3), (.int .i64 ee.f4.f0), (.string ee.f4.f1), (.slice Ae ee.f4.f2.length ae)] 40 (0, 0))))
 replace HT := AK (bst HT.out (below_alloc (Below.refl _ _) (.cells #[(.int .i64 ee.f0), (.int .i64 ee.f1), (.int .i64 ee.f2), (.int .i64 ee.f3), (.int .i64 ee.f4.f0), (.string ee.f4.f1), (.slice Ae ee.f4.f2.length ae)] 40 (0, 0))))
 replace KW := AK (bbl KW.out (below_alloc (Below.refl _ _) (.cells #[(.int .i64 ee.f0), (.int .i64 ee.f1), (.int .i64 ee.f2), (.int .i64 ee.f3), (.int .i64 ee.f4.f0), (.string ee.f4.f1), (.slice Ae ee.f4.f2.length ae)] 40 (0, 0))))
 replace HWG := AK (HWG.out.below (below_alloc (Below.refl _ _) (.cells #[(.int .i64 ee.f0), (.int .i64 ee.f1), (.int .i64 ee.f2), (.int .i64 ee.f3), (.int .i64 ee.f4.f0), (.string ee.f4.f1), (.slice Ae ee.f4.f2.length ae)] 40 (0, 0))))
 replace HXO := AK (HXO.out.below (below_alloc (Below.refl _ _) (.cells #[(.int .i64 ee.f0), (.int .i64 ee.f1), (.int .i64 ee.f2), (.int .i64 ee.f3), (.int .i64 ee.f4.f0), (.string ee.f4.f1), (.slice Ae ee.f4.f2.length ae)] 40 (0, 0))))
 replace KX := AK (bbl KX.out (below_alloc (Below.refl _ _) (.cells #[(.int .i64 ee.f0), (.int .i64 ee.f1), (.int .i64 ee.f2), (.int .i64 ee.f3), (.int .i64 ee.f4.f0), (.string ee.f4.f1), (.slice Ae ee.f4.f2.length ae)] 40 (0, 0))))
 replace HEO := AK (Kd.R_below HEO.out (below_alloc (Below.refl _ _) (.cells #[(.int .i64 ee.f0), (.int .i64 ee.f1), (.int .i64 ee.f2), (.int .i64 ee.f3), (.int .i64 ee.f4.f0), (.string ee.f4.f1), (.slice Ae ee.f4.f2.length ae)] 40 (0, 0))))
 have hsz_w8 : (w7.alloc (.cells #[(.int .i64 ee.f0), (.int .i64 ee.f1), (.int .i64 ee.f2), (.int .i64 ee.f3), (.int .i64 ee.f4.f0), (.string ee.f4.f1), (.slice Ae ee.f4.f2.length ae)] 40 (0, 0))).heap.size = w7.heap.size + 1 := Array.size_push ..
 generalize e_w8 : w7.alloc (.cells #[(.int .i64 ee.f0), (.int .i64 ee.f1), (.int .i64 ee.f2), (.int .i64 ee.f3), (.int .i64 ee.f4.f0), (.string ee.f4.f1), (.slice Ae ee.f4.f2.length ae)] 40 (0, 0)) = w8 at HB HT KW HWG HXO KX HEO KE hsz_w8 ⊢
 clear e_w8
 have HZ_w8 := AK hsz_w8
 clear hsz_w8
 refine (MemStep_calls _ _ _ _ _ _ _ _ _ _ ⟨p0, l1, p2, p3⟩ ee _ _ (Below.refl _ _) HXO.out.reads HF.out (Kd.R_reads' HEO.out).2.2 (Kd.R_reads' HEO.out).2.1 HL6.out.1 HL6.out.2 R st HST.out).mono ?_
 rintro en w9 ⟨Y0, kY0, Y1, kY1, Y2, kY2, Y3, kY3, rfl, hO, hb⟩
 obtain ⟨⟨x3, hO⟩, hx3⟩ := hO
 have HX3 := AK hx3
 replace HB := AK (bst HB.out hb)
 replace HT := AK (bst HT.out hb)
 replace KW := AK (bbl KW.out hb)
 replace HWG := AK (HWG.out.below hb)
 replace HXO := AK (HXO.out.below hb)
 replace KX := AK (bbl KX.out hb)
 replace HEO := AK (Kd.R_below HEO.out hb)
 replace KE := AK (bbl KE.out hb)
 have HZ_98 := AK hb.size
 have HGO := AK (OwnP.lower (lo := w4.heap.size) (OwnH.toP (P := (fun k => w8.heap.size ≤ k ∧ k < w9.heap.size)) hO (fun k h1 h2 => ⟨h1, h2⟩)) (by have := HZ_w6.out; have := HZ_54.out; have := HZ_76.out; have := HZ_w8.out; omega))
 clear hO hb hx3
 obtain ⟨y0, y1, y2, y3⟩ := box4 KW.out
 have hz := blk_lt KW.out
 go_wp2_with fail
 clear hz
 clear y0 y1 y2 y3
 have KG := AK (blk_new w9 (.cells #[(.slice Y0 R.o.length kY0), (.slice Y1 R.r.length kY1), (.slice Y2 R.w.length kY2), (.slice Y3 R.d.length kY3)] 28 (0, 0)))
 replace HB := AK (bst HB.out (below_alloc (Below.refl _ _) (.cells #[(.slice Y0 R.o.length kY0), (.slice Y1 R.r.length kY1), (.slice Y2 R.w.length kY2), (.slice Y3 R.d.length kY3)] 28 (0, 0))))
 replace HT := AK (bst HT.out (below_alloc (Below.refl _ _) (.cells #[(.slice Y0 R.o.length kY0), (.slice Y1 R.r.length kY1), (.slice Y2 R.w.length kY2), (.slice Y3 R.d.length kY3)] 28 (0, 0))))
 replace KW := AK (bbl KW.out (below_alloc (Below.refl _ _) (.cells #[(.slice Y0 R.o.length kY0), (.slice Y1 R.r.length kY1), (.slice Y2 R.w.length kY2), (.slice Y3 R.d.length kY3)] 28 (0, 0))))
 replace HWG := AK (HWG.out.below (below_alloc (Below.refl _ _) (.cells #[(.slice Y0 R.o.length kY0), (.slice Y1 R.r.length kY1), (.slice Y2 R.w.length kY2), (.slice Y3 R.d.length kY3)] 28 (0, 0))))
 replace HXO := AK (HXO.out.below (below_alloc (Below.refl _ _) (.cells #[(.slice Y0 R.o.length kY0), (.slice Y1 R.r.length kY1), (.slice Y2 R.w.length kY2), (.slice Y3 R.d.length kY3)] 28 (0, 0))))
 replace KX := AK (bbl KX.out (below_alloc (Below.refl _ _) (.cells #[(.slice Y0 R.o.length kY0), (.slice Y1 R.r.length kY1), (.slice Y2 R.w.length kY2), (.slice Y3 R.d.length kY3)] 28 (0, 0))))
 replace HEO := AK (Kd.R_below HEO.out (below_alloc (Below.refl _ _) (.cells #[(.slice Y0 R.o.length kY0), (.slice Y1 R.r.length kY1), (.slice Y2 R.w.length kY2), (.slice Y3 R.d.length kY3)] 28 (0, 0))))
 replace KE := AK (bbl KE.out (below_alloc (Below.refl _ _) (.cells #[(.slice Y0 R.o.length kY0), (.slice Y1 R.r.length kY1), (.slice Y2 R.w.length kY2), (.slice Y3 R.d.length kY3)] 28 (0, 0))))
 replace HGO := AK (HGO.out.below (below_alloc (Below.refl _ _) (.cells #[(.slice Y0 R.o.length kY0), (.slice Y1 R.r.length kY1), (.slice Y2 R.w.length kY2), (.slice Y3 R.d.length kY3)] 28 (0, 0))))
 have hsz_w10 : (w9.alloc (.cells #[(.slice Y0 R.o.length kY0), (.slice Y1 R.r.length kY1), (.slice Y2 R.w.length kY2), (.slice Y3 R.d.length kY3)] 28 (0, 0))).heap.size = w9.heap.size + 1 := Array.size_push ..
 generalize e_w10 : w9.alloc (.cells #[(.slice Y0 R.o.length kY0), (.slice Y1 R.r.length kY1), (.slice Y2 R.w.length kY2), (.slice Y3 R.d.length kY3)] 28 (0, 0)) = w10 at HB HT KW HWG HXO KX HEO KE HGO KG hsz_w10 ⊢
 clear e_w10
 have HZ_w10 := AK hsz_w10
 clear hsz_w10
 have HZ := AK (show b6 < w4.heap.size ∧ w4.heap.size ≤ w5.heap.size ∧ w5.heap.size + 1 = w6.heap.size ∧ w6.heap.size ≤ w7.heap.size ∧ w7.heap.size + 1 = w8.heap.size ∧ w8.heap.size ≤ w9.heap.size ∧ w9.heap.size + 1 = w10.heap.size from ⟨HBW.out, HZ_54.out, HZ_w6.out.symm, HZ_76.out, HZ_w8.out.symm, HZ_98.out, HZ_w10.out.symm⟩)
 clear HBW HZ_54 HZ_w6 HZ_76 HZ_w8 HZ_98 HZ_w10
 refine (eqHeap_c (HGO.out.reads.cut HX3.out) HWG.out.reads (fun x hx => by have := HSG.out.f x hx; omega)).mono ?_
 rintro en w11 ⟨rfl, hb⟩
 replace HB := AK (bst HB.out hb)
 replace HT := AK (bst HT.out hb)
 replace KW := AK (bbl KW.out hb)
 replace HWG := AK (HWG.out.below hb)
 replace HXO := AK (HXO.out.below hb)
 replace KX := AK (bbl KX.out hb)
 replace HEO := AK (Kd.R_below HEO.out hb)
 replace KE := AK (bbl KE.out hb)
 replace HGO := AK (HGO.out.below hb)
 replace KG := AK (bbl KG.out hb)
 clear hb
 obtain ⟨y0, y1, y2, y3⟩ := box4 KX.out
 go_wp2_with fail
 clear y0 y1 y2 y3
 replace HB := AK (bst HB.out (below_drew1 (Below.refl _ _)))
 replace HT := AK (bst HT.out (below_drew1 (Below.refl _ _)))
 replace KW := AK (bbl KW.out (below_drew1 (Below.refl _ _)))
 replace HWG := AK (HWG.out.below (below_drew1 (Below.refl _ _)))
 replace HXO := AK (HXO.out.below (below_drew1 (Below.refl _ _)))
 replace KX := AK (bbl KX.out (below_drew1 (Below.refl _ _)))
 replace HEO := AK (Kd.R_below HEO.out (below_drew1 (Below.refl _ _)))
 replace KE := AK (bbl KE.out (below_drew1 (Below.refl _ _)))
 replace HGO := AK (HGO.out.below (below_drew1 (Below.refl _ _)))
 replace KG := AK (bbl KG.out (below_drew1 (Below.refl _ _)))
 refine start_ (n := 5) (S := (fun w' => (w'.cell? ⟨w5.heap.size, 0, none⟩ = some (.slice X0 p0.length kX0) ∧ w'.cell? ⟨w5.heap.size, 1, none⟩ = some (.slice X1 l1.length kX1) ∧ w'.cell? ⟨w5.heap.size, 2, none⟩ = some (.slice X2 p2.length kX2) ∧ w'.cell? ⟨w5.heap.size, 3, none⟩ = some (.slice X3 p3.length kX3)) ∧ w'.cell? ⟨w.heap.size, 0, none⟩ = some (.slice A0 l0.length c0) ∧ w'.cell? ⟨w.heap.size, 1, none⟩ = some (.slice A1 l1.length c1) ∧ w'.cell? ⟨w.heap.size, 2, none⟩ = some (.slice A2 l2.length c2) ∧ w'.cell? ⟨w.heap.size, 3, none⟩ = some (.slice A3 l3.length c3))) (ds := []) #[fF,fF,fF,fF,fF] (by kernel_rfl) rfl rfl ⟨box4 KX.out, box4 (bbl HW1.out.2.1 HB.out)⟩ (fun hHeld => ?_); refine with_tabW xst14_tab xst14_bits (fun HT_ HW_ => ?_)
 generalize w11.drew = w_ at HB HT KW HWG HXO KX HEO KE HGO KG hHeld ⊢
 refine take_ (i := 0) (N := some 54) (v := ?_) (a' := ?_) #[tT,fF,fF,fF,fF] rfl rfl (take_ofW HT_.out HW_.out (by kernel_rfl)) (fun _ _ _ h => h) (Or.inl ⟨by rfl, ?_⟩) hHeld ?_ ?_
 rotate_left
 ·rintro w' ⟨⟨s0, s1, s2, s3⟩, s4, s5, s6, s7⟩
  go_simp
  with_reducible rfl
 rotate_left
 ·exact zP
 refine take_ (i := 1) (N := some 55) (v := ?_) (a' := ?_) #[tT,tT,fF,fF,fF] rfl rfl (take_ofW HT_.out HW_.out (by kernel_rfl)) (fun _ _ _ h => h) (Or.inl ⟨by rfl, ?_⟩) hHeld ?_ ?_
 rotate_left
 ·rintro w' ⟨⟨s0, s1, s2, s3⟩, s4, s5, s6, s7⟩
  go_simp
  with_reducible rfl
 rotate_left
 ·exact zP
 refine one_ (i := 2) (N := some 56) #[tT,tT,tT,fF,fF] rfl rfl (one_of HT_.out (by kernel_rfl)) (by decide) (fun K hK => ?_)
 refine goes_ Try.func24 (by kernel_rfl) rfl #[.agg #[.slice A0 l0.length c0, .slice A1 l1.length c1, .slice A2 l2.length c2, .slice A3 l3.length c3]] (by rfl) rfl rfl zI ?_
 refine (toHeap_c E0.out E2.out E3.out HS.out (HI0.out.below (bst HW1.out.1 HB.out))).mono ?_
 rintro en vz ⟨V0, kV0, V1, kV1, V2, kV2, V3, kV3, rfl, hO, hb⟩
 refine ⟨_, rfl, ?_⟩
 replace HB := AK (bst HB.out hb)
 replace HT := AK (bst HT.out hb)
 replace KW := AK (bbl KW.out hb)
 replace HWG := AK (HWG.out.below hb)
 replace HXO := AK (HXO.out.below hb)
 replace KX := AK (bbl KX.out hb)
 replace HEO := AK (Kd.R_below HEO.out hb)
 replace KE := AK (bbl KE.out hb)
 replace HGO := AK (HGO.out.below hb)
 replace KG := AK (bbl KG.out hb)
 have HV := AK hO
 clear hO hb
 refine hK.out _ _ ⟨box4 KX.out, box4 (bbl HW1.out.2.1 HB.out)⟩ (fun hHeld => ?_)
 clear hK K
 refine norm_ (a' := ?_) ?_ ?_
 rotate_left
 ·show Act.put _ (some 56) _ = _
  exact zP
 refine one_ (i := 3) (N := some 57) #[tT,tT,tT,tT,fF] rfl rfl (one_of HT_.out (by kernel_rfl)) (by decide) (fun K hK => ?_)
 refine goes_ Try.func26 (by kernel_rfl) rfl #[.agg #[.slice X0 p0.length kX0, .slice X1 l1.length kX1, .slice X2 p2.length kX2, .slice X3 p3.length kX3], .agg #[.slice V0 p0.length kV0, .slice V1 l1.length kV1, .slice V2 p2.length kV2, .slice V3 p3.length kV3]] (by rfl) rfl rfl zI ?_
 refine (eqHeap_c HXO.out.reads HV.out.reads (fun x hx => by have := (HF.out.f x hx).2; omega)).mono ?_
 rintro en ve ⟨rfl, hb⟩
 refine ⟨_, rfl, ?_⟩
 clear HV
 replace HB := AK (bst HB.out hb)
 replace HT := AK (bst HT.out hb)
 replace KW := AK (bbl KW.out hb)
 replace HWG := AK (HWG.out.below hb)
 replace HXO := AK (HXO.out.below hb)
 replace KX := AK (bbl KX.out hb)
 replace HEO := AK (Kd.R_below HEO.out hb)
 replace KE := AK (bbl KE.out hb)
 replace HGO := AK (HGO.out.below hb)
 replace KG := AK (bbl KG.out hb)
 clear hb
 refine hK.out _ _ ⟨box4 KX.out, box4 (bbl HW1.out.2.1 HB.out)⟩ (fun hHeld => ?_)
 clear hK K
 refine norm_ (a' := ?_) ?_ ?_
 rotate_left
 ·show Act.put _ (some 57) _ = _
  exact zP
 refine pure_ (i := 4) (N := some 58) (v := ?_) (a' := ?_) #[tT,tT,tT,tT,tT] rfl rfl (any_of HT_.out (by kernel_rfl)) (fun _ _ _ h => h) (Or.inl ⟨by rfl, ?_⟩) ?_ ?_
 rotate_left
 ·intro w'
  go_simp
  with_reducible rfl
 rotate_left
 ·exact zP
 refine done_ (done_of HT_.out (by kernel_rfl)) ?_
 clear HT_ HW_ hHeld
 go_wp2_with fail
 replace HB := AK (bst HB.out (below_drew1 (Below.refl _ _)))
 replace HT := AK (bst HT.out (below_drew1 (Below.refl _ _)))
 replace KW := AK (bbl KW.out (below_drew1 (Below.refl _ _)))
 replace HWG := AK (HWG.out.below (below_drew1 (Below.refl _ _)))
 replace HXO := AK (HXO.out.below (below_drew1 (Below.refl _ _)))
 replace KX := AK (bbl KX.out (below_drew1 (Below.refl _ _)))
 replace HEO := AK (Kd.R_below HEO.out (below_drew1 (Below.refl _ _)))
 replace KE := AK (bbl KE.out (below_drew1 (Below.refl _ _)))
 replace HGO := AK (HGO.out.below (below_drew1 (Below.refl _ _)))
 replace KG := AK (bbl KG.out (below_drew1 (Below.refl _ _)))
 refine start_ (n := 5) (S := (fun w' => (w'.cell? ⟨w7.heap.size, 0, none⟩ = some (.int .i64 ee.f0) ∧ w'.cell? ⟨w7.heap.size, 1, none⟩ = some (.int .i64 ee.f1) ∧ w'.cell? ⟨w7.heap.size, 2, none⟩ = some (.int .i64 ee.f2) ∧ w'.cell? ⟨w7.heap.size, 3, none⟩ = some (.int .i64 ee.f3) ∧ w'.cell? ⟨w7.heap.size, 4, none⟩ = some (.int .i64 ee.f4.f0) ∧ w'.cell? ⟨w7.heap.size, 5, none⟩ = some (.string ee.f4.f1) ∧ w'.cell? ⟨w7.heap.size, 6, none⟩ = some (.slice Ae ee.f4.f2.length ae)) ∧ w'.cell? ⟨w.heap.size + 1, 0, none⟩ = some (.int .i64 e.f0) ∧ w'.cell? ⟨w.heap.size + 1, 1, none⟩ = some (.int .i64 e.f1) ∧ w'.cell? ⟨w.heap.size + 1, 2, none⟩ = some (.int .i64 e.f2) ∧ w'.cell? ⟨w.heap.size + 1, 3, none⟩ = some (.int .i64 e.f3) ∧ w'.cell? ⟨w.heap.size + 1, 4, none⟩ = some (.int .i64 e.f4.f0) ∧ w'.cell? ⟨w.heap.size + 1, 5, none⟩ = some (.string e.f4.f1) ∧ w'.cell? ⟨w.heap.size + 1, 6, none⟩ = some (.slice A6 e.f4.f2.length c6))) (ds := []) #[fF,fF,fF,fF,fF] (by kernel_rfl) rfl rfl ⟨box7 KE.out, box7 (bbl HW1.out.2.2 HB.out)⟩ (fun hHeld => ?_); refine with_tabW xst16_tab xst16_bits (fun HT_ HW_ => ?_)
 generalize ve.drew = w_ at HB HT KW HWG HXO KX HEO KE HGO KG hHeld ⊢
 refine take_ (i := 0) (N := some 59) (v := ?_) (a' := ?_) #[tT,fF,fF,fF,fF] rfl rfl (take_ofW HT_.out HW_.out (by kernel_rfl)) (fun _ _ _ h => h) (Or.inl ⟨by rfl, ?_⟩) hHeld ?_ ?_
 rotate_left
 ·rintro w' ⟨⟨s0, s1, s2, s3, s4, s5, s6⟩, s7, s8, s9, s10, s11, s12, s13⟩
  go_simp
  with_reducible rfl
 rotate_left
 ·exact zP
 refine take_ (i := 1) (N := some 60) (v := ?_) (a' := ?_) #[tT,tT,fF,fF,fF] rfl rfl (take_ofW HT_.out HW_.out (by kernel_rfl)) (fun _ _ _ h => h) (Or.inl ⟨by rfl, ?_⟩) hHeld ?_ ?_
 rotate_left
 ·rintro w' ⟨⟨s0, s1, s2, s3, s4, s5, s6⟩, s7, s8, s9, s10, s11, s12, s13⟩
  go_simp
  with_reducible rfl
 rotate_left
 ·exact zP
 refine one_ (i := 2) (N := some 61) #[tT,tT,tT,fF,fF] rfl rfl (one_of HT_.out (by kernel_rfl)) (by decide) (fun K hK => ?_)
 refine goes_ Try.func50 (by kernel_rfl) rfl #[.agg #[(.int .i64 e.f0), (.int .i64 e.f1), (.int .i64 e.f2), (.int .i64 e.f3), (.int .i64 e.f4.f0), (.string e.f4.f1), (.slice A6 e.f4.f2.length c6)]] (by rfl) rfl rfl zI ?_
 refine (toEv_c EE.out (Kd.C_below HEV.out (bst HW1.out.1 HB.out)) HSE.out.2).mono ?_
 rintro en vy ⟨Be, be, rfl, hO, hb⟩
 refine ⟨_, rfl, ?_⟩
 replace HB := AK (bst HB.out hb)
 replace HT := AK (bst HT.out hb)
 replace KW := AK (bbl KW.out hb)
 replace HWG := AK (HWG.out.below hb)
 replace HXO := AK (HXO.out.below hb)
 replace KX := AK (bbl KX.out hb)
 replace HEO := AK (Kd.R_below HEO.out hb)
 replace KE := AK (bbl KE.out hb)
 replace HGO := AK (HGO.out.below hb)
 replace KG := AK (bbl KG.out hb)
 have HV := AK hO
 clear hO hb
 refine hK.out _ _ ⟨box7 KE.out, box7 (bbl HW1.out.2.2 HB.out)⟩ (fun hHeld => ?_)
 clear hK K
 refine norm_ (a' := ?_) ?_ ?_
 rotate_left
 ·show Act.put _ (some 61) _ = _
  exact zP
 refine one_ (i := 3) (N := some 62) #[tT,tT,tT,tT,fF] rfl rfl (one_of HT_.out (by kernel_rfl)) (by decide) (fun K hK => ?_)
 refine goes_ Try.func51 (by kernel_rfl) rfl #[.agg #[(.int .i64 ee.f0), (.int .i64 ee.f1), (.int .i64 ee.f2), (.int .i64 ee.f3), (.int .i64 ee.f4.f0), (.string ee.f4.f1), (.slice Ae ee.f4.f2.length ae)], .agg #[(.int .i64 ee.f0), (.int .i64 ee.f1), (.int .i64 ee.f2), (.int .i64 ee.f3), (.int .i64 ee.f4.f0), (.string ee.f4.f1), (.slice Be ee.f4.f2.length be)]] (by rfl) rfl rfl zI ?_
 refine (eqEv_q (Kd.R_reads' HEO.out).2.2 (Kd.R_reads' HV.out).2.2).mono ?_
 rintro en vf ⟨rfl, hb⟩
 refine ⟨_, rfl, ?_⟩
 clear HV
 replace HB := AK (bst HB.out hb)
 replace HT := AK (bst HT.out hb)
 replace KW := AK (bbl KW.out hb)
 replace HWG := AK (HWG.out.below hb)
 replace HXO := AK (HXO.out.below hb)
 replace KX := AK (bbl KX.out hb)
 replace HEO := AK (Kd.R_below HEO.out hb)
 replace KE := AK (bbl KE.out hb)
 replace HGO := AK (HGO.out.below hb)
 replace KG := AK (bbl KG.out hb)
 clear hb
 refine hK.out _ _ ⟨box7 KE.out, box7 (bbl HW1.out.2.2 HB.out)⟩ (fun hHeld => ?_)
 clear hK K
 refine norm_ (a' := ?_) ?_ ?_
 rotate_left
 ·show Act.put _ (some 62) _ = _
  exact zP
 refine pure_ (i := 4) (N := some 63) (v := ?_) (a' := ?_) #[tT,tT,tT,tT,tT] rfl rfl (any_of HT_.out (by kernel_rfl)) (fun _ _ _ h => h) (Or.inl ⟨by rfl, ?_⟩) ?_ ?_
 rotate_left
 ·intro w'
  go_simp
  with_reducible rfl
 rotate_left
 ·exact zP
 refine done_ (done_of HT_.out (by kernel_rfl)) ?_
 clear HT_ HW_ hHeld
 obtain ⟨y0, y1, y2, y3⟩ := box4 KX.out
 go_wp2_with fail
 clear y0 y1 y2 y3
 refine (markHeapP_calls 1 (fun k => k < w5.heap.size) w4 vf _ _ _ _ _ _ _ _ _ _ _ _ HT.out HXO.out (fun k hk => by have h1 := blk_lt KX.out; have h3 : k < w5.heap.size := hk; omega) (by omega) (by have := HCN.out; omega) (by have := HF.out.o; omega)).mono ?_
 rintro en w12 ⟨rfl, _, hb, hk⟩
 rw [← EK.out]
 clear KX HXO
 replace hk : Kept vf w12 (fun k => w4.heap.size ≤ k ∧ k < w5.heap.size) := hk
 replace HT := AK (hb)
 replace HB := AK (bst HBA.out hb)
 replace KW := AK (blk_kept KW.out hk (fun h1 => by have h2 := HZ.out; have h3 := h1.1; have h4 := h1.2; omega))
 replace KE := AK (blk_kept KE.out hk (fun h1 => by have h2 := HZ.out; have h3 := h1.1; have h4 := h1.2; omega))
 replace KG := AK (blk_kept KG.out hk (fun h1 => by have h2 := HZ.out; have h3 := h1.1; have h4 := h1.2; omega))
 replace HWG := AK (HWG.out.kept hk (fun k h1 h2 => by have h4 : k < w4.heap.size := h1; have h5 := h2.1; have h6 := HZ.out; omega))
 replace HGO := AK (HGO.out.kept hk (fun k h1 h2 => by have h4 := h1.1; have h5 := h2.2; have h6 := HZ.out; omega))
 replace HEO := AK (Kd.R_kept HEO.out hk (fun k h1 h2 => by have h4 := h1.1; have h5 := h2.2; have h6 := HZ.out; omega))
 clear hb hk
 obtain ⟨y0, y1, y2, y3, y4, y5, y6⟩ := box7 KE.out
 go_wp2_with fail
 clear y0 y1 y2 y3 y4 y5 y6
 refine (markEv_q (w0 := w4) kk HCN.out.2.2.1 HT.out HEO.out (by have := HCN.out; have := HL6.out; omega)).mono ?_
 rintro en w13 ⟨rfl, hb, hk⟩
 rw [← EK2.out]
 clear KE HEO
 replace hk : Kept w12 w13 (fun k => w6.heap.size ≤ k ∧ k < w7.heap.size) := hk
 replace HT := AK (hb)
 replace HB := AK (bst HBA.out hb)
 replace KW := AK (blk_kept KW.out hk (fun h1 => by have h2 := HZ.out; have h3 := h1.1; have h4 := h1.2; omega))
 replace KG := AK (blk_kept KG.out hk (fun h1 => by have h2 := HZ.out; have h3 := h1.1; have h4 := h1.2; omega))
 replace HWG := AK (HWG.out.kept hk (fun k h1 h2 => by have h4 : k < w4.heap.size := h1; have h5 := h2.1; have h6 := HZ.out; omega))
 replace HGO := AK (HGO.out.kept hk (fun k h1 h2 => by have h4 := h1.1; have h5 := h2.2; have h6 := HZ.out; omega))
 clear hb hk
 obtain ⟨y0, y1, y2, y3⟩ := box4 KG.out
 obtain ⟨z0, z1, z2, z3⟩ := box4 KW.out
 go_wp2_with fail
 clear y0 y1 y2 y3 z0 z1 z2 z3
 refine (eqHeap_c (HGO.out.reads.cut HX3.out) HWG.out.reads (fun x hx => by have := HSG.out.f x hx; omega)).mono ?_
 rintro en w14 ⟨rfl, hb⟩
 replace HB := AK (bst HB.out hb)
 replace HT := AK (bst HT.out hb)
 replace KW := AK (bbl KW.out hb)
 replace HWG := AK (HWG.out.below hb)
 replace HGO := AK (HGO.out.below hb)
 replace KG := AK (bbl KG.out hb)
 clear hb
 obtain ⟨y0, y1, y2, y3⟩ := box4 KG.out
 go_wp2_with fail
 clear y0 y1 y2 y3
 refine (markHeapP_calls 1 (fun k => w8.heap.size ≤ k ∧ k < w9.heap.size) w4 w14 _ _ _ _ _ _ _ _ _ _ _ _ HT.out HGO.out (fun k hk => by have h1 := blk_lt KG.out; have h2 := hk.2; omega) (by omega) (by rw [← EM1.out]; have := HM.out; omega) (by have := HSG.out.n; omega)).mono ?_
 rintro en w15 ⟨rfl, hmk, hb, hk⟩
 rw [← EM1.out]
 clear HGO
 have HMK := AK hmk
 replace hk : Kept w14 w15 (fun k => w4.heap.size ≤ k ∧ w8.heap.size ≤ k ∧ k < w9.heap.size) := hk
 replace HT := AK (hb)
 replace HB := AK (bst HBA.out hb)
 replace KW := AK (blk_kept KW.out hk (fun h1 => by have h2 := HZ.out; have h3 := h1.1; omega))
 replace KG := AK (blk_kept KG.out hk (fun h1 => by have h2 := HZ.out; have h3 := h1.2.2; omega))
 replace HWG := AK (HWG.out.kept hk (fun k h1 h2 => by have h4 : k < w4.heap.size := h1; have h5 := h2.1; have h6 := HZ.out; omega))
 clear hmk hb hk
 obtain ⟨y0, y1, y2, y3⟩ := box4 KG.out
 go_wp2_with fail
 clear y0 y1 y2 y3
 refine (heldHeap_calls HMK.out (by omega) (by have := HSG.out.n; omega) m1 (by rw [EM1.out]; unfold cntHP; omega) (by have := HM.out; omega) HX3.out).mono ?_
 rintro en w16 ⟨rfl, hb⟩
 replace HB := AK (bst HB.out hb)
 replace HT := AK (bst HT.out hb)
 replace KW := AK (bbl KW.out hb)
 replace HWG := AK (HWG.out.below hb)
 replace KG := AK (bbl KG.out hb)
 replace HMK := AK (HMK.out.below hb)
 clear hb
 go_wp2_with fail
 go_wp2_with fail
 have HBU := AK (below_drew HB.out)
 have HU := AK (Below.refl w16.drew.heap.size w16.drew)
 replace HT := AK (bst HT.out (below_drew1 (Below.refl _ _)))
 replace KW := AK (bbl KW.out (below_drew1 (Below.refl _ _)))
 replace HWG := AK (HWG.out.below (below_drew1 (Below.refl _ _)))
 replace KG := AK (bbl KG.out (below_drew1 (Below.refl _ _)))
 replace HMK := AK (HMK.out.below (below_drew1 (Below.refl _ _)))
 refine start_ (n := 11) (S := (fun w' => (w'.cell? ⟨w.heap.size, 0, none⟩ = some (.slice A0 l0.length c0) ∧ w'.cell? ⟨w.heap.size, 1, none⟩ = some (.slice A1 l1.length c1) ∧ w'.cell? ⟨w.heap.size, 2, none⟩ = some (.slice A2 l2.length c2) ∧ w'.cell? ⟨w.heap.size, 3, none⟩ = some (.slice A3 l3.length c3)) ∧ w'.cell? ⟨w.heap.size + 1, 0, none⟩ = some (.int .i64 e.f0) ∧ w'.cell? ⟨w.heap.size + 1, 1, none⟩ = some (.int .i64 e.f1) ∧ w'.cell? ⟨w.heap.size + 1, 2, none⟩ = some (.int .i64 e.f2) ∧ w'.cell? ⟨w.heap.size + 1, 3, none⟩ = some (.int .i64 e.f3) ∧ w'.cell? ⟨w.heap.size + 1, 4, none⟩ = some (.int .i64 e.f4.f0) ∧ w'.cell? ⟨w.heap.size + 1, 5, none⟩ = some (.string e.f4.f1) ∧ w'.cell? ⟨w.heap.size + 1, 6, none⟩ = some (.slice A6 e.f4.f2.length c6))) (ds := []) #[fF,fF,fF,fF,fF,fF,fF,fF,fF,fF,fF] (by kernel_rfl) rfl rfl ⟨box4 (bbl HW1.out.2.1 (bst HBU.out HU.out)), box7 (bbl HW1.out.2.2 (bst HBU.out HU.out))⟩ (fun hHeld => ?_); refine with_tabW xst31_tab xst31_bits (fun HT_ HW_ => ?_)
 generalize w16.drew = u16 at HBU HU HT KW HWG KG HMK hHeld ⊢
 refine take_ (i := 0) (N := some 95) (v := ?_) (a' := ?_) #[tT,fF,fF,fF,fF,fF,fF,fF,fF,fF,fF] rfl rfl (take_ofW HT_.out HW_.out (by kernel_rfl)) (fun _ _ _ h => h) (Or.inl ⟨by rfl, ?_⟩) hHeld ?_ ?_
 rotate_left
 ·rintro w' ⟨⟨s0, s1, s2, s3⟩, s4, s5, s6, s7, s8, s9, s10⟩
  go_simp
  with_reducible rfl
 rotate_left
 ·exact zP
 refine take_ (i := 2) (N := some 97) (v := ?_) (a' := ?_) #[tT,fF,tT,fF,fF,fF,fF,fF,fF,fF,fF] rfl rfl (take_ofW HT_.out HW_.out (by kernel_rfl)) (fun _ _ _ h => h) (Or.inl ⟨by rfl, ?_⟩) hHeld ?_ ?_
 rotate_left
 ·rintro w' ⟨⟨s0, s1, s2, s3⟩, s4, s5, s6, s7, s8, s9, s10⟩
  go_simp
  with_reducible rfl
 rotate_left
 ·exact zP
 refine join_ (σ := Value × Value × Option Addr × Nat × Option Addr × Nat × Option Addr × Nat × Option Addr × Nat × Nat × Nat) 2 #[tT,tT,tT,tT,tT,tT,tT,tT,tT,fF,fF] (fun s => [(96, s.1), (98, s.2.1), (99, .tuple #[.agg #[.slice s.2.2.1 R.o.length s.2.2.2.1, .slice s.2.2.2.2.1 R.r.length s.2.2.2.2.2.1, .slice s.2.2.2.2.2.2.1 R.w.length s.2.2.2.2.2.2.2.1, .slice s.2.2.2.2.2.2.2.2.1 R.d.length s.2.2.2.2.2.2.2.2.2.1], .string st]), (94, .tuple #[.agg #[.slice s.2.2.1 R.o.length s.2.2.2.1, .slice s.2.2.2.2.1 R.r.length s.2.2.2.2.2.1, .slice s.2.2.2.2.2.2.1 R.w.length s.2.2.2.2.2.2.2.1, .slice s.2.2.2.2.2.2.2.2.1 R.d.length s.2.2.2.2.2.2.2.2.2.1], .string st]), (100, .agg #[.slice s.2.2.1 R.o.length s.2.2.2.1, .slice s.2.2.2.2.1 R.r.length s.2.2.2.2.2.1, .slice s.2.2.2.2.2.2.1 R.w.length s.2.2.2.2.2.2.2.1, .slice s.2.2.2.2.2.2.2.2.1 R.d.length s.2.2.2.2.2.2.2.2.2.1]), (101, .string st), (15, .pointer (some ⟨s.2.2.2.2.2.2.2.2.2.2.2, 0, none⟩))]) (fun s w' => Below u16.heap.size u16 w' ∧ OwnG w' u16.heap.size (s.2.2.1) (s.2.2.2.1) (s.2.2.2.2.1) (s.2.2.2.2.2.1) (s.2.2.2.2.2.2.1) (s.2.2.2.2.2.2.2.1) (s.2.2.2.2.2.2.2.2.1) (s.2.2.2.2.2.2.2.2.2.2.1) R ∧ R.d.length ≤ s.2.2.2.2.2.2.2.2.2.1 ∧ (w'.heap[s.2.2.2.2.2.2.2.2.2.2.2]? = some (.cells #[.slice none 0 0, .slice none 0 0, .slice none 0 0, .slice none 0 0] 28 (0, 0)) ∧ u16.heap.size ≤ s.2.2.2.2.2.2.2.2.2.2.2)) ?_ ?_
 rotate_left
 ·intro hCont
  refine two_ (i := 1) (j := 8) (Ni := some 96) (Nj := some 15) #[tT,tT,tT,fF,fF,fF,fF,fF,fF,fF,fF] #[tT,fF,tT,fF,fF,fF,fF,fF,tT,fF,fF] rfl rfl rfl rfl (two_of HT_.out (by kernel_rfl)) (by decide) (by decide) (fun K hK => ?_) (fun K hK => ?_)
  ·skip
   refine goes_ Try.func24 (by kernel_rfl) rfl #[.agg #[.slice A0 l0.length c0, .slice A1 l1.length c1, .slice A2 l2.length c2, .slice A3 l3.length c3]] (by rfl) rfl rfl zI ?_
   refine (toHeap_c E0.out E2.out E3.out HS.out (HI0.out.below (bst HW1.out.1 (bst HBU.out HU.out)))).mono ?_
   rintro en q1 ⟨P0, kP0, P1, kP1, P2, kP2, P3, kP3, rfl, hO, hb⟩
   refine ⟨_, rfl, ?_⟩
   replace HU := AK (bst HU.out hb)
   have HP := AK hO
   clear hO hb
   refine hK.out _ _ ⟨box4 (bbl HW1.out.2.1 (bst HBU.out HU.out)), box7 (bbl HW1.out.2.2 (bst HBU.out HU.out))⟩ (fun hHeld => ?_)
   clear hK K
   refine norm_ (a' := ?_) ?_ ?_
   rotate_left
   ·show Act.put _ (some 96) _ = _
    exact zP
   refine two_ (i := 3) (j := 8) (Ni := some 98) (Nj := some 15) #[tT,tT,tT,tT,fF,fF,fF,fF,fF,fF,fF] #[tT,tT,tT,fF,fF,fF,fF,fF,tT,fF,fF] rfl rfl rfl rfl (two_of HT_.out (by kernel_rfl)) (by decide) (by decide) (fun K hK => ?_) (fun K hK => ?_)
   ·skip
    refine goes_ Try.func50 (by kernel_rfl) rfl #[.agg #[(.int .i64 e.f0), (.int .i64 e.f1), (.int .i64 e.f2), (.int .i64 e.f3), (.int .i64 e.f4.f0), (.string e.f4.f1), (.slice A6 e.f4.f2.length c6)]] (by rfl) rfl rfl zI ?_
    refine (toEv_c EE.out (Kd.C_below HEV.out (bst HW1.out.1 (bst HBU.out HU.out))) HSE.out.2).mono ?_
    rintro en q3 ⟨Pe, pe, rfl, hO, hb⟩
    refine ⟨_, rfl, ?_⟩
    replace HU := AK (bst HU.out hb)
    replace HP := AK (HP.out.below hb)
    have HPE := AK hO
    clear hO hb
    refine hK.out _ _ ⟨box4 (bbl HW1.out.2.1 (bst HBU.out HU.out)), box7 (bbl HW1.out.2.2 (bst HBU.out HU.out))⟩ (fun hHeld => ?_)
    clear hK K
    refine norm_ (a' := ?_) ?_ ?_
    rotate_left
    ·show Act.put _ (some 98) _ = _
     exact zP
    refine two_ (i := 4) (j := 8) (Ni := some 99) (Nj := some 15) #[tT,tT,tT,tT,tT,fF,fF,fF,fF,fF,fF] #[tT,tT,tT,tT,fF,fF,fF,fF,tT,fF,fF] rfl rfl rfl rfl (two_of HT_.out (by kernel_rfl)) (by decide) (by decide) (fun K hK => ?_) (fun K hK => ?_)
    ·skip
     refine goes_ Try.func46 (by kernel_rfl) rfl #[.agg #[.slice P0 p0.length kP0, .slice P1 l1.length kP1, .slice P2 p2.length kP2, .slice P3 p3.length kP3], .agg #[(.int .i64 ee.f0), (.int .i64 ee.f1), (.int .i64 ee.f2), (.int .i64 ee.f3), (.int .i64 ee.f4.f0), (.string ee.f4.f1), (.slice Pe ee.f4.f2.length pe)]] (by rfl) rfl rfl zI ?_
     refine (MemStep_calls _ _ _ _ _ _ _ _ _ _ ⟨p0, l1, p2, p3⟩ ee _ _ (Below.refl _ _) HP.out.reads HF.out (Kd.R_reads' HPE.out).2.2 (Kd.R_reads' HPE.out).2.1 HL6.out.1 HL6.out.2 R st HST.out).mono ?_
     rintro en q4 ⟨T0, kT0, T1, kT1, T2, kT2, T3, kT3, rfl, hO, hb⟩
     refine ⟨_, rfl, ?_⟩
     obtain ⟨⟨x3, hO⟩, hx3⟩ := hO
     have HX3 := AK hx3
     have hO2 := OwnH.lower hO HU.out.size
     replace HU := AK (bst HU.out hb)
     replace HP := AK (HP.out.below hb)
     replace HPE := AK (Kd.R_below HPE.out hb)
     clear HP HPE
     have HWO := AK hO2
     clear hO hO2 hb hx3
     refine hK.out _ _ ⟨box4 (bbl HW1.out.2.1 (bst HBU.out HU.out)), box7 (bbl HW1.out.2.2 (bst HBU.out HU.out))⟩ (fun hHeld => ?_)
     clear hK K
     refine norm_ (a' := ?_) ?_ ?_
     rotate_left
     ·show Act.put _ (some 99) _ = _
      exact zP
     refine pure_ (i := 5) (N := some 94) (v := ?_) (a' := ?_) #[tT,tT,tT,tT,tT,tT,fF,fF,fF,fF,fF] rfl rfl (any_of HT_.out (by kernel_rfl)) (fun _ _ _ h => h) (Or.inl ⟨by rfl, ?_⟩) ?_ ?_
     rotate_left
     ·intro w'
      go_simp
      with_reducible rfl
     rotate_left
     ·exact zP
     refine pure_ (i := 6) (N := some 100) (v := ?_) (a' := ?_) #[tT,tT,tT,tT,tT,tT,tT,fF,fF,fF,fF] rfl rfl (any_of HT_.out (by kernel_rfl)) (fun _ _ _ h => h) (Or.inl ⟨by rfl, ?_⟩) ?_ ?_
     rotate_left
     ·intro w'
      go_simp
      with_reducible rfl
     rotate_left
     ·exact zP
     refine pure_ (i := 7) (N := some 101) (v := ?_) (a' := ?_) #[tT,tT,tT,tT,tT,tT,tT,tT,fF,fF,fF] rfl rfl (any_of HT_.out (by kernel_rfl)) (fun _ _ _ h => h) (Or.inl ⟨by rfl, ?_⟩) ?_ ?_
     rotate_left
     ·intro w'
      go_simp
      with_reducible rfl
     rotate_left
     ·exact zP
     refine one_ (i := 8) (N := some 15) #[tT,tT,tT,tT,tT,tT,tT,tT,tT,fF,fF] rfl rfl (one_of HT_.out (by kernel_rfl)) (by decide) (fun K hK => ?_)
     refine box_step ?hg (N := 15) ?hd (cs := #[.slice none 0 0, .slice none 0 0, .slice none 0 0, .slice none 0 0]) (t := 28) ?hr ?_; (case hd => rfl); (case hg => rfl); (case hr => first | (go_simp; done) | (go_simp; rfl))
     intro b6 hg q8 hbox hb
     have h6 := And.intro hbox (show u16.heap.size ≤ b6 by rw [hg]; exact HU.out.size)
     replace HU := AK (bst HU.out hb)
     replace HWO := AK (HWO.out.below hb)
     have H6 := AK h6
     clear h6 hg hbox hb
     refine hK.out _ _ ⟨box4 (bbl HW1.out.2.1 (bst HBU.out HU.out)), box7 (bbl HW1.out.2.2 (bst HBU.out HU.out))⟩ (fun hHeld => ?_)
     clear hK K
     refine norm_ (a' := ?_) ?_ ?_
     rotate_left
     ·show Act.put _ (some 15) _ = _
      exact zP
     exact norm_ zJ (hCont ((.agg #[.slice P0 p0.length kP0, .slice P1 l1.length kP1, .slice P2 p2.length kP2, .slice P3 p3.length kP3]), (.agg #[(.int .i64 ee.f0), (.int .i64 ee.f1), (.int .i64 ee.f2), (.int .i64 ee.f3), (.int .i64 ee.f4.f0), (.string ee.f4.f1), (.slice Pe ee.f4.f2.length pe)]), T0, kT0, T1, kT1, T2, kT2, T3, kT3, x3, b6) _ ⟨HU.out, HWO.out, HX3.out, H6.out⟩)
    ·skip
     refine box_step ?hg (N := 15) ?hd (cs := #[.slice none 0 0, .slice none 0 0, .slice none 0 0, .slice none 0 0]) (t := 28) ?hr ?_; (case hd => rfl); (case hg => rfl); (case hr => first | (go_simp; done) | (go_simp; rfl))
     intro b6 hg q8 hbox hb
     have h6 := And.intro hbox (show u16.heap.size ≤ b6 by rw [hg]; exact HU.out.size)
     replace HU := AK (bst HU.out hb)
     replace HP := AK (HP.out.below hb)
     replace HPE := AK (Kd.R_below HPE.out hb)
     have H6 := AK h6
     clear h6 hg hbox hb
     refine hK.out _ _ ⟨box4 (bbl HW1.out.2.1 (bst HBU.out HU.out)), box7 (bbl HW1.out.2.2 (bst HBU.out HU.out))⟩ (fun hHeld => ?_)
     clear hK K
     refine norm_ (a' := ?_) ?_ ?_
     rotate_left
     ·show Act.put _ (some 15) _ = _
      exact zP
     refine one_ (i := 4) (N := some 99) #[tT,tT,tT,tT,tT,fF,fF,fF,tT,fF,fF] rfl rfl (one_of HT_.out (by kernel_rfl)) (by decide) (fun K hK => ?_)
     refine goes_ Try.func46 (by kernel_rfl) rfl #[.agg #[.slice P0 p0.length kP0, .slice P1 l1.length kP1, .slice P2 p2.length kP2, .slice P3 p3.length kP3], .agg #[(.int .i64 ee.f0), (.int .i64 ee.f1), (.int .i64 ee.f2), (.int .i64 ee.f3), (.int .i64 ee.f4.f0), (.string ee.f4.f1), (.slice Pe ee.f4.f2.length pe)]] (by rfl) rfl rfl zI ?_
     refine (MemStep_calls _ _ _ _ _ _ _ _ _ _ ⟨p0, l1, p2, p3⟩ ee _ _ (Below.refl _ _) HP.out.reads HF.out (Kd.R_reads' HPE.out).2.2 (Kd.R_reads' HPE.out).2.1 HL6.out.1 HL6.out.2 R st HST.out).mono ?_
     rintro en q4 ⟨T0, kT0, T1, kT1, T2, kT2, T3, kT3, rfl, hO, hb⟩
     refine ⟨_, rfl, ?_⟩
     obtain ⟨⟨x3, hO⟩, hx3⟩ := hO
     have HX3 := AK hx3
     have hO2 := OwnH.lower hO HU.out.size
     replace HU := AK (bst HU.out hb)
     replace HP := AK (HP.out.below hb)
     replace HPE := AK (Kd.R_below HPE.out hb)
     replace H6 := AK (show _ ∧ _ from ⟨bbl H6.out.1 hb, H6.out.2⟩)
     clear HP HPE
     have HWO := AK hO2
     clear hO hO2 hb hx3
     refine hK.out _ _ ⟨box4 (bbl HW1.out.2.1 (bst HBU.out HU.out)), box7 (bbl HW1.out.2.2 (bst HBU.out HU.out))⟩ (fun hHeld => ?_)
     clear hK K
     refine norm_ (a' := ?_) ?_ ?_
     rotate_left
     ·show Act.put _ (some 99) _ = _
      exact zP
     refine pure_ (i := 5) (N := some 94) (v := ?_) (a' := ?_) #[tT,tT,tT,tT,tT,tT,fF,fF,tT,fF,fF] rfl rfl (any_of HT_.out (by kernel_rfl)) (fun _ _ _ h => h) (Or.inl ⟨by rfl, ?_⟩) ?_ ?_
     rotate_left
     ·intro w'
      go_simp
      with_reducible rfl
     rotate_left
     ·exact zP
     refine pure_ (i := 6) (N := some 100) (v := ?_) (a' := ?_) #[tT,tT,tT,tT,tT,tT,tT,fF,tT,fF,fF] rfl rfl (any_of HT_.out (by kernel_rfl)) (fun _ _ _ h => h) (Or.inl ⟨by rfl, ?_⟩) ?_ ?_
     rotate_left
     ·intro w'
      go_simp
      with_reducible rfl
     rotate_left
     ·exact zP
     refine pure_ (i := 7) (N := some 101) (v := ?_) (a' := ?_) #[tT,tT,tT,tT,tT,tT,tT,tT,tT,fF,fF] rfl rfl (any_of HT_.out (by kernel_rfl)) (fun _ _ _ h => h) (Or.inl ⟨by rfl, ?_⟩) ?_ ?_
     rotate_left
     ·intro w'
      go_simp
      with_reducible rfl
     rotate_left
     ·exact zP
     exact norm_ zJ (hCont ((.agg #[.slice P0 p0.length kP0, .slice P1 l1.length kP1, .slice P2 p2.length kP2, .slice P3 p3.length kP3]), (.agg #[(.int .i64 ee.f0), (.int .i64 ee.f1), (.int .i64 ee.f2), (.int .i64 ee.f3), (.int .i64 ee.f4.f0), (.string ee.f4.f1), (.slice Pe ee.f4.f2.length pe)]), T0, kT0, T1, kT1, T2, kT2, T3, kT3, x3, b6) _ ⟨HU.out, HWO.out, HX3.out, H6.out⟩)
   ·skip
    refine box_step ?hg (N := 15) ?hd (cs := #[.slice none 0 0, .slice none 0 0, .slice none 0 0, .slice none 0 0]) (t := 28) ?hr ?_; (case hd => rfl); (case hg => rfl); (case hr => first | (go_simp; done) | (go_simp; rfl))
    intro b6 hg q8 hbox hb
    have h6 := And.intro hbox (show u16.heap.size ≤ b6 by rw [hg]; exact HU.out.size)
    replace HU := AK (bst HU.out hb)
    replace HP := AK (HP.out.below hb)
    have H6 := AK h6
    clear h6 hg hbox hb
    refine hK.out _ _ ⟨box4 (bbl HW1.out.2.1 (bst HBU.out HU.out)), box7 (bbl HW1.out.2.2 (bst HBU.out HU.out))⟩ (fun hHeld => ?_)
    clear hK K
    refine norm_ (a' := ?_) ?_ ?_
    rotate_left
    ·show Act.put _ (some 15) _ = _
     exact zP
    refine one_ (i := 3) (N := some 98) #[tT,tT,tT,tT,fF,fF,fF,fF,tT,fF,fF] rfl rfl (one_of HT_.out (by kernel_rfl)) (by decide) (fun K hK => ?_)
    refine goes_ Try.func50 (by kernel_rfl) rfl #[.agg #[(.int .i64 e.f0), (.int .i64 e.f1), (.int .i64 e.f2), (.int .i64 e.f3), (.int .i64 e.f4.f0), (.string e.f4.f1), (.slice A6 e.f4.f2.length c6)]] (by rfl) rfl rfl zI ?_
    refine (toEv_c EE.out (Kd.C_below HEV.out (bst HW1.out.1 (bst HBU.out HU.out))) HSE.out.2).mono ?_
    rintro en q3 ⟨Pe, pe, rfl, hO, hb⟩
    refine ⟨_, rfl, ?_⟩
    replace HU := AK (bst HU.out hb)
    replace HP := AK (HP.out.below hb)
    replace H6 := AK (show _ ∧ _ from ⟨bbl H6.out.1 hb, H6.out.2⟩)
    have HPE := AK hO
    clear hO hb
    refine hK.out _ _ ⟨box4 (bbl HW1.out.2.1 (bst HBU.out HU.out)), box7 (bbl HW1.out.2.2 (bst HBU.out HU.out))⟩ (fun hHeld => ?_)
    clear hK K
    refine norm_ (a' := ?_) ?_ ?_
    rotate_left
    ·show Act.put _ (some 98) _ = _
     exact zP
    refine one_ (i := 4) (N := some 99) #[tT,tT,tT,tT,tT,fF,fF,fF,tT,fF,fF] rfl rfl (one_of HT_.out (by kernel_rfl)) (by decide) (fun K hK => ?_)
    refine goes_ Try.func46 (by kernel_rfl) rfl #[.agg #[.slice P0 p0.length kP0, .slice P1 l1.length kP1, .slice P2 p2.length kP2, .slice P3 p3.length kP3], .agg #[(.int .i64 ee.f0), (.int .i64 ee.f1), (.int .i64 ee.f2), (.int .i64 ee.f3), (.int .i64 ee.f4.f0), (.string ee.f4.f1), (.slice Pe ee.f4.f2.length pe)]] (by rfl) rfl rfl zI ?_
    refine (MemStep_calls _ _ _ _ _ _ _ _ _ _ ⟨p0, l1, p2, p3⟩ ee _ _ (Below.refl _ _) HP.out.reads HF.out (Kd.R_reads' HPE.out).2.2 (Kd.R_reads' HPE.out).2.1 HL6.out.1 HL6.out.2 R st HST.out).mono ?_
    rintro en q4 ⟨T0, kT0, T1, kT1, T2, kT2, T3, kT3, rfl, hO, hb⟩
    refine ⟨_, rfl, ?_⟩
    obtain ⟨⟨x3, hO⟩, hx3⟩ := hO
    have HX3 := AK hx3
    have hO2 := OwnH.lower hO HU.out.size
    replace HU := AK (bst HU.out hb)
    replace HP := AK (HP.out.below hb)
    replace HPE := AK (Kd.R_below HPE.out hb)
    replace H6 := AK (show _ ∧ _ from ⟨bbl H6.out.1 hb, H6.out.2⟩)
    clear HP HPE
    have HWO := AK hO2
    clear hO hO2 hb hx3
    refine hK.out _ _ ⟨box4 (bbl HW1.out.2.1 (bst HBU.out HU.out)), box7 (bbl HW1.out.2.2 (bst HBU.out HU.out))⟩ (fun hHeld => ?_)
    clear hK K
    refine norm_ (a' := ?_) ?_ ?_
    rotate_left
    ·show Act.put _ (some 99) _ = _
     exact zP
    refine pure_ (i := 5) (N := some 94) (v := ?_) (a' := ?_) #[tT,tT,tT,tT,tT,tT,fF,fF,tT,fF,fF] rfl rfl (any_of HT_.out (by kernel_rfl)) (fun _ _ _ h => h) (Or.inl ⟨by rfl, ?_⟩) ?_ ?_
    rotate_left
    ·intro w'
     go_simp
     with_reducible rfl
    rotate_left
    ·exact zP
    refine pure_ (i := 6) (N := some 100) (v := ?_) (a' := ?_) #[tT,tT,tT,tT,tT,tT,tT,fF,tT,fF,fF] rfl rfl (any_of HT_.out (by kernel_rfl)) (fun _ _ _ h => h) (Or.inl ⟨by rfl, ?_⟩) ?_ ?_
    rotate_left
    ·intro w'
     go_simp
     with_reducible rfl
    rotate_left
    ·exact zP
    refine pure_ (i := 7) (N := some 101) (v := ?_) (a' := ?_) #[tT,tT,tT,tT,tT,tT,tT,tT,tT,fF,fF] rfl rfl (any_of HT_.out (by kernel_rfl)) (fun _ _ _ h => h) (Or.inl ⟨by rfl, ?_⟩) ?_ ?_
    rotate_left
    ·intro w'
     go_simp
     with_reducible rfl
    rotate_left
    ·exact zP
    exact norm_ zJ (hCont ((.agg #[.slice P0 p0.length kP0, .slice P1 l1.length kP1, .slice P2 p2.length kP2, .slice P3 p3.length kP3]), (.agg #[(.int .i64 ee.f0), (.int .i64 ee.f1), (.int .i64 ee.f2), (.int .i64 ee.f3), (.int .i64 ee.f4.f0), (.string ee.f4.f1), (.slice Pe ee.f4.f2.length pe)]), T0, kT0, T1, kT1, T2, kT2, T3, kT3, x3, b6) _ ⟨HU.out, HWO.out, HX3.out, H6.out⟩)
  ·skip
   refine box_step ?hg (N := 15) ?hd (cs := #[.slice none 0 0, .slice none 0 0, .slice none 0 0, .slice none 0 0]) (t := 28) ?hr ?_; (case hd => rfl); (case hg => rfl); (case hr => first | (go_simp; done) | (go_simp; rfl))
   intro b6 hg q8 hbox hb
   have h6 := And.intro hbox (show u16.heap.size ≤ b6 by rw [hg]; exact HU.out.size)
   replace HU := AK (bst HU.out hb)
   have H6 := AK h6
   clear h6 hg hbox hb
   refine hK.out _ _ ⟨box4 (bbl HW1.out.2.1 (bst HBU.out HU.out)), box7 (bbl HW1.out.2.2 (bst HBU.out HU.out))⟩ (fun hHeld => ?_)
   clear hK K
   refine norm_ (a' := ?_) ?_ ?_
   rotate_left
   ·show Act.put _ (some 15) _ = _
    exact zP
   refine one_ (i := 1) (N := some 96) #[tT,tT,tT,fF,fF,fF,fF,fF,tT,fF,fF] rfl rfl (one_of HT_.out (by kernel_rfl)) (by decide) (fun K hK => ?_)
   refine goes_ Try.func24 (by kernel_rfl) rfl #[.agg #[.slice A0 l0.length c0, .slice A1 l1.length c1, .slice A2 l2.length c2, .slice A3 l3.length c3]] (by rfl) rfl rfl zI ?_
   refine (toHeap_c E0.out E2.out E3.out HS.out (HI0.out.below (bst HW1.out.1 (bst HBU.out HU.out)))).mono ?_
   rintro en q1 ⟨P0, kP0, P1, kP1, P2, kP2, P3, kP3, rfl, hO, hb⟩
   refine ⟨_, rfl, ?_⟩
   replace HU := AK (bst HU.out hb)
   replace H6 := AK (show _ ∧ _ from ⟨bbl H6.out.1 hb, H6.out.2⟩)
   have HP := AK hO
   clear hO hb
   refine hK.out _ _ ⟨box4 (bbl HW1.out.2.1 (bst HBU.out HU.out)), box7 (bbl HW1.out.2.2 (bst HBU.out HU.out))⟩ (fun hHeld => ?_)
   clear hK K
   refine norm_ (a' := ?_) ?_ ?_
   rotate_left
   ·show Act.put _ (some 96) _ = _
    exact zP
   refine one_ (i := 3) (N := some 98) #[tT,tT,tT,tT,fF,fF,fF,fF,tT,fF,fF] rfl rfl (one_of HT_.out (by kernel_rfl)) (by decide) (fun K hK => ?_)
   refine goes_ Try.func50 (by kernel_rfl) rfl #[.agg #[(.int .i64 e.f0), (.int .i64 e.f1), (.int .i64 e.f2), (.int .i64 e.f3), (.int .i64 e.f4.f0), (.string e.f4.f1), (.slice A6 e.f4.f2.length c6)]] (by rfl) rfl rfl zI ?_
   refine (toEv_c EE.out (Kd.C_below HEV.out (bst HW1.out.1 (bst HBU.out HU.out))) HSE.out.2).mono ?_
   rintro en q3 ⟨Pe, pe, rfl, hO, hb⟩
   refine ⟨_, rfl, ?_⟩
   replace HU := AK (bst HU.out hb)
   replace HP := AK (HP.out.below hb)
   replace H6 := AK (show _ ∧ _ from ⟨bbl H6.out.1 hb, H6.out.2⟩)
   have HPE := AK hO
   clear hO hb
   refine hK.out _ _ ⟨box4 (bbl HW1.out.2.1 (bst HBU.out HU.out)), box7 (bbl HW1.out.2.2 (bst HBU.out HU.out))⟩ (fun hHeld => ?_)
   clear hK K
   refine norm_ (a' := ?_) ?_ ?_
   rotate_left
   ·show Act.put _ (some 98) _ = _
    exact zP
   refine one_ (i := 4) (N := some 99) #[tT,tT,tT,tT,tT,fF,fF,fF,tT,fF,fF] rfl rfl (one_of HT_.out (by kernel_rfl)) (by decide) (fun K hK => ?_)
   refine goes_ Try.func46 (by kernel_rfl) rfl #[.agg #[.slice P0 p0.length kP0, .slice P1 l1.length kP1, .slice P2 p2.length kP2, .slice P3 p3.length kP3], .agg #[(.int .i64 ee.f0), (.int .i64 ee.f1), (.int .i64 ee.f2), (.int .i64 ee.f3), (.int .i64 ee.f4.f0), (.string ee.f4.f1), (.slice Pe ee.f4.f2.length pe)]] (by rfl) rfl rfl zI ?_
   refine (MemStep_calls _ _ _ _ _ _ _ _ _ _ ⟨p0, l1, p2, p3⟩ ee _ _ (Below.refl _ _) HP.out.reads HF.out (Kd.R_reads' HPE.out).2.2 (Kd.R_reads' HPE.out).2.1 HL6.out.1 HL6.out.2 R st HST.out).mono ?_
   rintro en q4 ⟨T0, kT0, T1, kT1, T2, kT2, T3, kT3, rfl, hO, hb⟩
   refine ⟨_, rfl, ?_⟩
   obtain ⟨⟨x3, hO⟩, hx3⟩ := hO
   have HX3 := AK hx3
   have hO2 := OwnH.lower hO HU.out.size
   replace HU := AK (bst HU.out hb)
   replace HP := AK (HP.out.below hb)
   replace HPE := AK (Kd.R_below HPE.out hb)
   replace H6 := AK (show _ ∧ _ from ⟨bbl H6.out.1 hb, H6.out.2⟩)
   clear HP HPE
   have HWO := AK hO2
   clear hO hO2 hb hx3
   refine hK.out _ _ ⟨box4 (bbl HW1.out.2.1 (bst HBU.out HU.out)), box7 (bbl HW1.out.2.2 (bst HBU.out HU.out))⟩ (fun hHeld => ?_)
   clear hK K
   refine norm_ (a' := ?_) ?_ ?_
   rotate_left
   ·show Act.put _ (some 99) _ = _
    exact zP
   refine pure_ (i := 5) (N := some 94) (v := ?_) (a' := ?_) #[tT,tT,tT,tT,tT,tT,fF,fF,tT,fF,fF] rfl rfl (any_of HT_.out (by kernel_rfl)) (fun _ _ _ h => h) (Or.inl ⟨by rfl, ?_⟩) ?_ ?_
   rotate_left
   ·intro w'
    go_simp
    with_reducible rfl
   rotate_left
   ·exact zP
   refine pure_ (i := 6) (N := some 100) (v := ?_) (a' := ?_) #[tT,tT,tT,tT,tT,tT,tT,fF,tT,fF,fF] rfl rfl (any_of HT_.out (by kernel_rfl)) (fun _ _ _ h => h) (Or.inl ⟨by rfl, ?_⟩) ?_ ?_
   rotate_left
   ·intro w'
    go_simp
    with_reducible rfl
   rotate_left
   ·exact zP
   refine pure_ (i := 7) (N := some 101) (v := ?_) (a' := ?_) #[tT,tT,tT,tT,tT,tT,tT,tT,tT,fF,fF] rfl rfl (any_of HT_.out (by kernel_rfl)) (fun _ _ _ h => h) (Or.inl ⟨by rfl, ?_⟩) ?_ ?_
   rotate_left
   ·intro w'
    go_simp
    with_reducible rfl
   rotate_left
   ·exact zP
   exact norm_ zJ (hCont ((.agg #[.slice P0 p0.length kP0, .slice P1 l1.length kP1, .slice P2 p2.length kP2, .slice P3 p3.length kP3]), (.agg #[(.int .i64 ee.f0), (.int .i64 ee.f1), (.int .i64 ee.f2), (.int .i64 ee.f3), (.int .i64 ee.f4.f0), (.string ee.f4.f1), (.slice Pe ee.f4.f2.length pe)]), T0, kT0, T1, kT1, T2, kT2, T3, kT3, x3, b6) _ ⟨HU.out, HWO.out, HX3.out, H6.out⟩)
 clear HU hHeld
 rintro ⟨v24, v50, T0, kT0, T1, kT1, T2, kT2, T3, kT3, x3, b6⟩ q9 ⟨hb, ho, hx3, h6⟩
 have HU := AK (show Below u16.heap.size u16 q9 from hb)
 have HWO := AK (show OwnG q9 u16.heap.size T0 kT0 T1 kT1 T2 kT2 T3 x3 R from ho)
 have H6 := AK (show q9.heap[b6]? = some (.cells #[.slice none 0 0, .slice none 0 0, .slice none 0 0, .slice none 0 0] 28 (0, 0)) ∧ u16.heap.size ≤ b6 from h6)
 have HX3T := AK (show R.d.length ≤ kT3 from hx3)
 have hHeld : (fun w' => (w'.cell? ⟨w.heap.size, 0, none⟩ = some (.slice A0 l0.length c0) ∧ w'.cell? ⟨w.heap.size, 1, none⟩ = some (.slice A1 l1.length c1) ∧ w'.cell? ⟨w.heap.size, 2, none⟩ = some (.slice A2 l2.length c2) ∧ w'.cell? ⟨w.heap.size, 3, none⟩ = some (.slice A3 l3.length c3)) ∧ w'.cell? ⟨w.heap.size + 1, 0, none⟩ = some (.int .i64 e.f0) ∧ w'.cell? ⟨w.heap.size + 1, 1, none⟩ = some (.int .i64 e.f1) ∧ w'.cell? ⟨w.heap.size + 1, 2, none⟩ = some (.int .i64 e.f2) ∧ w'.cell? ⟨w.heap.size + 1, 3, none⟩ = some (.int .i64 e.f3) ∧ w'.cell? ⟨w.heap.size + 1, 4, none⟩ = some (.int .i64 e.f4.f0) ∧ w'.cell? ⟨w.heap.size + 1, 5, none⟩ = some (.string e.f4.f1) ∧ w'.cell? ⟨w.heap.size + 1, 6, none⟩ = some (.slice A6 e.f4.f2.length c6)) q9 := ⟨box4 (bbl HW1.out.2.1 (bst HBU.out HU.out)), box7 (bbl HW1.out.2.2 (bst HBU.out HU.out))⟩
 clear hb ho h6 hx3
 refine norm_ (a' := ?_) ?_ ?_
 rotate_left
 ·show (Act.put (Act.put (Act.put (Act.put (Act.put (Act.put (Act.put _ (some 96) _) (some 98) _) (some 99) _) (some 94) _) (some 100) _) (some 101) _) (some 15) _) = _
  exact zP
 refine one_ (i := 9) (N := none) #[tT,tT,tT,tT,tT,tT,tT,tT,tT,tT,fF] rfl rfl (one_of HT_.out (by kernel_rfl)) (by decide) (fun K hK => ?_)
 obtain ⟨z0, z1, z2, z3⟩ := box4 H6.out.1
 have f0 := bfz H6.out.1 0
 have f1 := bfz H6.out.1 1
 have f2 := bfz H6.out.1 2
 have f3 := bfz H6.out.1 3
 have N1 := AK (show ((((q9.setCell ⟨b6, 0, none⟩ (.slice T0 R.o.length kT0)).setCell ⟨b6, 1, none⟩ (.slice T1 R.r.length kT1)).setCell ⟨b6, 2, none⟩ (.slice T2 R.w.length kT2)).setCell ⟨b6, 3, none⟩ (.slice T3 R.d.length kT3)).heap[b6]? = some (.cells #[(.slice T0 R.o.length kT0), (.slice T1 R.r.length kT1), (.slice T2 R.w.length kT2), (.slice T3 R.d.length kT3)] 28 (0, 0)) ∧ u16.heap.size ≤ b6 from ⟨set4_blk H6.out.1, H6.out.2⟩)
 have N2 := AK (show Below u16.heap.size u16 ((((q9.setCell ⟨b6, 0, none⟩ (.slice T0 R.o.length kT0)).setCell ⟨b6, 1, none⟩ (.slice T1 R.r.length kT1)).setCell ⟨b6, 2, none⟩ (.slice T2 R.w.length kT2)).setCell ⟨b6, 3, none⟩ (.slice T3 R.d.length kT3)) from set4_below HU.out H6.out.2)
 have N3 := AK (show OwnG ((((q9.setCell ⟨b6, 0, none⟩ (.slice T0 R.o.length kT0)).setCell ⟨b6, 1, none⟩ (.slice T1 R.r.length kT1)).setCell ⟨b6, 2, none⟩ (.slice T2 R.w.length kT2)).setCell ⟨b6, 3, none⟩ (.slice T3 R.d.length kT3)) u16.heap.size T0 kT0 T1 kT1 T2 kT2 T3 x3 R from OwnH.set4 HWO.out H6.out.1)
 refine skip_ (w1 := ?_) (by rfl) rfl ?_ ?_
 rotate_left
 ·go_simp
  rfl
 clear z0 z1 z2 z3 f0 f1 f2 f3 HU HWO H6
 generalize ((((q9.setCell ⟨b6, 0, none⟩ (.slice T0 R.o.length kT0)).setCell ⟨b6, 1, none⟩ (.slice T1 R.r.length kT1)).setCell ⟨b6, 2, none⟩ (.slice T2 R.w.length kT2)).setCell ⟨b6, 3, none⟩ (.slice T3 R.d.length kT3)) = w17 at N1 N2 N3 ⊢
 have HU := N2
 have HWO := N3
 have H6 := N1
 clear N1 N2 N3
 refine hK.out _ _ ⟨box4 (bbl HW1.out.2.1 (bst HBU.out HU.out)), box7 (bbl HW1.out.2.2 (bst HBU.out HU.out))⟩ (fun hHeld => ?_)
 clear hK K
 refine pure_ (i := 10) (N := some 16) (v := ?_) (a' := ?_) #[tT,tT,tT,tT,tT,tT,tT,tT,tT,tT,tT] rfl rfl (any_of HT_.out (by kernel_rfl)) (fun _ _ _ h => h) (Or.inl ⟨by rfl, ?_⟩) ?_ ?_
 rotate_left
 ·intro w'
  go_simp
  with_reducible rfl
 rotate_left
 ·exact zP
 refine done_ (done_of HT_.out (by kernel_rfl)) ?_
 clear HT_ HW_ hHeld
 replace HT := AK (bst HT.out HU.out)
 replace KW := AK (bbl KW.out HU.out)
 replace HWG := AK (HWG.out.below HU.out)
 replace KG := AK (bbl KG.out HU.out)
 replace HMK := AK (HMK.out.below HU.out)
 have HB := AK (bst HBU.out HU.out)
 have HBX := HB
 have HTB := H6
 have HTO := HWO
 have HTU := HU
 clear H6 HWO HBU HU
 have KH := AK HTB.out.1
 have HHG := HTO
 clear HTB HTO HBX
 obtain ⟨y0, y1, y2, y3⟩ := box4 KH.out
 obtain ⟨z0, z1, z2, z3⟩ := box4 KW.out
 go_wp2_with fail
 clear y0 y1 y2 y3 z0 z1 z2 z3
 refine (eqHeap_c (HHG.out.reads.cut HX3T.out) HWG.out.reads (fun x hx => by have := HSG.out.f x hx; omega)).mono ?_
 rintro en w18 ⟨rfl, hb⟩
 replace HB := AK (bst HB.out hb)
 replace HT := AK (bst HT.out hb)
 replace KW := AK (bbl KW.out hb)
 replace HWG := AK (HWG.out.below hb)
 replace KG := AK (bbl KG.out hb)
 replace HMK := AK (HMK.out.below hb)
 replace KH := AK (bbl KH.out hb)
 replace HHG := AK (HHG.out.below hb)
 clear hb
 obtain ⟨y0, y1, y2, y3⟩ := box4 KG.out
 go_wp2_with fail
 clear y0 y1 y2 y3
 refine (heldHeap_calls HMK.out (by omega) (by have := HSG.out.n; omega) m1 (by rw [EM1.out]; unfold cntHP; omega) (by have := HM.out; omega) HX3.out).mono ?_
 rintro en w19 ⟨rfl, hb⟩
 replace HB := AK (bst HB.out hb)
 replace HT := AK (bst HT.out hb)
 replace KW := AK (bbl KW.out hb)
 replace HWG := AK (HWG.out.below hb)
 replace KG := AK (bbl KG.out hb)
 replace HMK := AK (HMK.out.below hb)
 replace KH := AK (bbl KH.out hb)
 replace HHG := AK (HHG.out.below hb)
 clear hb
 go_wp2
 go_ret
 exact ⟨rfl, bst HW1.out.1 HB.out⟩
end Go.Proofs.Ytigjhfijkdlldaa.H
