import Derived.Test.YtigjhfijkdlldaaSplHip
import Derived.Test.YtigjhfijkdlldaaSplYstr
import Derived.Test.YtigjhfijkdlldaaSplPq
/- The law FnExactMemPlay, walked: for every heap and every row of events it answers true. -/
namespace Go.Proofs.Ytigjhfijkdlldaa.H
open Go.RowKit Go.Proofs.YtigjhfijkdlldaaW.PrintWords Go.Proofs.YtigjhfijkdlldaaW.PrintLast Go.Proofs.YtigjhfijkdlldaaW.PrintMore Go.Proofs.Ytigjhfijkdlldaa.Q
set_option linter.unusedVariables false
set_option linter.unusedSimpArgs false
theorem OwnP.down {w : World} {lo lo' : Nat} {P : Nat → Prop} {A0 A1 A2 A3 : Option Addr} {c0 c1 c2 c3 : Nat} {l0 : List S38} {l1 : List Int} {l2 l3 : List S60} (h : OwnP w lo' P A0 c0 A1 c1 A2 c2 A3 c3 l0 l1 l2 l3) (hb : lo ≤ lo') : OwnP w lo P A0 c0 A1 c1 A2 c2 A3 c3 l0 l1 l2 l3 :=
  ⟨S_lower h.s0 hb, Kd.R_lower h.s1 hb, Kd.R_lower h.s2 hb, Kd.R_lower h.s3 hb⟩
/-- A heap of one's own beside a row of texts: its blocks are not the row's. -/
theorem OwnH.toT {w : World} {lo base : Nat} {P : Nat → Prop} {A0 A1 A2 A3 : Option Addr} {c0 c1 c2 c3 : Nat} {l0 : List S38} {l1 : List Int} {l2 l3 : List S60} {u : Value} {ts : List ByteArray} {ok : Nat → Prop} (h : OwnH w lo A0 c0 A1 c1 A2 c2 A3 c3 l0 l1 l2 l3) (ht : Kd.R Kd.string 9 w base ok u ts) (hP : ∀ k, lo ≤ k → k < w.heap.size → some k ≠ u.ownBlock → P k) : OwnP w lo P A0 c0 A1 c1 A2 c2 A3 c3 l0 l1 l2 l3 :=
  ⟨Kd.S_mono (Kd.S_bound (Kd.S_apart' h.s0 (Kd.R_typed ht) (k38_ap 9 (by decide) (by decide)))) (fun k hk => ⟨hP k hk.2.1 hk.2.2.1 hk.1.2, hk.1.1⟩),
   Kd.R_mono (Kd.R_bound (Kd.R_apart' h.s1 (Kd.R_typed ht) (int_ap 9 (by decide)))) (fun k hk => hP k hk.2.1 hk.2.2.1 hk.1.2),
   Kd.R_mono (Kd.R_bound (Kd.R_apart' h.s2 (Kd.R_typed ht) (k60_ap 9 (by decide)))) (fun k hk => ⟨hP k hk.2.1 hk.2.2.1 hk.1.2, hk.1.1⟩),
   Kd.R_mono (Kd.R_bound (Kd.R_apart' h.s3 (Kd.R_typed ht) (k60_ap 9 (by decide)))) (fun k hk => ⟨hP k hk.2.1 hk.2.2.1 hk.1.2, hk.1.1⟩)⟩
theorem S_lowE {w : World} {base base' : Nat} {ok : Nat → Prop} {v : Value} {xs : List S40} (h : Kd.S k40 40 w base ok v xs) (hb : base' ≤ base) : Kd.S k40 40 w base' ok v xs := by
  obtain ⟨f, hf⟩ := h
  exact ⟨f, Kd.R_lower hf hb⟩
theorem toEvS_n {w : World} {A : Option Addr} {c n : Nat} {l : List S74} {vs : List S40} (hn : n = l.length) (hv : vs = l.map cE) (h : Kd.C k74 w A l.length l) (hl : l.length ≤ 1048576) (hf : ∀ x ∈ l, x.f4.f2.length ≤ 1048576) : Calls Try.prog 54 #[.slice A n c] w fun e w' => ∃ B d, e = .returned (.slice B n d) ∧ Kd.S k40 40 w' w.heap.size (fun _ => True) (.slice B n d) vs ∧ Below w.heap.size w w' := by
  subst hn hv
  exact toEvS_c h hl hf
theorem okP_small {R : Hp} (h : R.ok = true) : SmallG R := by
  have hk : OkH R.o R.r R.w R.d := ok_parts h
  exact ⟨hk.n, fun x hx => (ob_small2 (hk.o x hx)).2, hk.r, hk.w⟩
theorem cntV_cE (es : List S74) (h : ∀ x ∈ es, x.f4.f2.length ≤ 1048576) : cntV (es.map cE) ≤ es.length * 1048582 := by
  induction es with
  | nil => simp [cntV]
  | cons x es ih =>
    have h1 := h x (List.mem_cons_self ..)
    have h2 := ih (fun y hy => h y (List.mem_cons_of_mem _ hy))
    have h3 : lenV (cE x) = x.f4.f2.length := rfl
    simp only [List.map_cons, cntV, List.length_cons, h3]
    omega
theorem xpl14_tab : rtab .any (opsOf Try.f15 14) = (true, [([], []), ([], []), ([1], [1]), ([0, 2, 2], [0, 2]), ([3], [3])]) := by kernel_rfl
theorem xpl14_bits : waitsOk [([], []), ([], []), ([1], [1]), ([0, 2, 2], [0, 2]), ([3], [3])] [0, 0, 2, 7, 15] = true := by kernel_rfl
set_option maxHeartbeats 8000000 in
set_option maxRecDepth 100000 in
theorem FnExactMemPlay_walk (A0 A1 A2 A3 Ee : Option Addr) (c0 c1 c2 c3 ce : Nat) (l0 : List S72) (l1 : List Int) (l2 l3 : List S126) (es : List S74) (w : World) (h : InL w A0 c0 A1 c1 A2 c2 A3 c3 l0 l1 l2 l3) (hf : ∀ x ∈ l0, Fits x.f1 x.f2)
    (he : Kd.C k74 w Ee es.length es) (hfe : ∀ x ∈ es, Fits x.f4.f1 x.f4.f2) :
    Calls Try.prog 15 #[.agg #[.slice A0 l0.length c0, .slice A1 l1.length c1, .slice A2 l2.length c2, .slice A3 l3.length c3], .slice Ee es.length ce] w fun en w' => en = .returned (.bool true) ∧ Below w.heap.size w w' := by
  have HI0 := AK h
  have HF0 := AK hf
  have HEV := AK he
  have HFE := AK hfe
  have HW1 := AK (show Below w.heap.size w (w.alloc (.cells #[.slice A0 l0.length c0, .slice A1 l1.length c1, .slice A2 l2.length c2, .slice A3 l3.length c3] 45 (0, 0))) ∧ (w.alloc (.cells #[.slice A0 l0.length c0, .slice A1 l1.length c1, .slice A2 l2.length c2, .slice A3 l3.length c3] 45 (0, 0))).heap[w.heap.size]? = some (.cells #[.slice A0 l0.length c0, .slice A1 l1.length c1, .slice A2 l2.length c2, .slice A3 l3.length c3] 45 (0, 0)) from ⟨below_alloc (Below.refl w.heap.size w) _, blk_new w _⟩)
  clear h hf he hfe
  go_enter Try.func15, Try.ntmps15
  go_wp2_with fail
  generalize (w.alloc (.cells #[.slice A0 l0.length c0, .slice A1 l1.length c1, .slice A2 l2.length c2, .slice A3 l3.length c3] 45 (0, 0))) = w1 at HW1 ⊢
  have HB := AK (Below.refl w1.heap.size w1)
  refine (szHeap_c ⟨by omega, by omega⟩ (HI0.out.below HW1.out.1).r0 HF0.out (C_max HI0.out.r1) (C_max HI0.out.r2) (C_max HI0.out.r3)).mono ?_
  rintro en w2 ⟨r, rfl, hb, hr1, hr2, hsm⟩
  have HSM := AK hsm
  have HR := AK (And.intro hr1 hr2)
  replace HB := AK (bst HB.out hb)
  clear hb hsm hr1 hr2
  by_cases hc : r < 0
  case pos =>
    have cb : decide (r < 0) = true := deT hc
    clear hc
    go_wp2
    go_ret
    exact ⟨rfl, bst HW1.out.1 HB.out⟩
  have cb : decide (r < 0) = false := deF hc
  have HS := AK (HSM.out (by omega))
  have HR0 := AK (show 0 ≤ r ∧ r ≤ 1048576 from ⟨by omega, HR.out.2⟩)
  clear HSM hc HR
  go_wp2_with fail
  refine (szEvS_c HR0.out (Kd.C_below HEV.out (bst HW1.out.1 HB.out)) HFE.out).mono ?_
  rintro en w3 ⟨r2, rfl, hb, _, _, hse⟩
  have HSE0 := AK hse
  replace HB := AK (bst HB.out hb)
  clear hb hse cb
  by_cases hc : r2 < 0
  case pos =>
    have cb : decide (r2 < 0) = true := deT hc
    clear hc
    go_wp2
    go_ret
    exact ⟨rfl, bst HW1.out.1 HB.out⟩
  have cb : decide (r2 < 0) = false := deF hc
  have HSE := AK (HSE0.out (by omega))
  clear HSE0 hc HR0
  have HLS := AK (show ∀ x ∈ es, x.f4.f2.length ≤ 1048576 from fun x hx => (HSE.out.2 x hx).2)
  obtain ⟨vs, eV⟩ : ∃ vs, vs = es.map cE := ⟨_, rfl⟩
  have hvl : vs.length = es.length := by rw [eV, List.length_map]
  have HVL := AK hvl
  have EV := AK eV
  have HVV := AK (show ∀ x ∈ vs, x.f4.f2.length ≤ 1048576 ∧ (x.f4.f1.size : Int) ≤ 4611686018427387903 from fun x hx => by
    rw [eV] at hx
    obtain ⟨y, hy, rfl⟩ := List.mem_map.1 hx
    have h1 := HSE.out.2 y hy
    exact ⟨h1.2, by have := h1.1; show (y.f4.f1.size : Int) ≤ _; omega⟩)
  have hcv : cntV vs ≤ es.length * 1048582 := by rw [eV]; exact cntV_cE es HLS.out
  have hcv0 := cntV_nonneg vs
  have hle : (es.length : Int) ≤ 1048576 := by have := HSE.out.1; omega
  obtain ⟨p0, e0⟩ : ∃ p0, p0 = l0.map cO := ⟨_, rfl⟩
  obtain ⟨p2, e2⟩ : ∃ p2, p2 = l2.map cW := ⟨_, rfl⟩
  obtain ⟨p3, e3⟩ : ∃ p3, p3 = l3.map cW := ⟨_, rfl⟩
  have E0 := AK e0
  have E2 := AK e2
  have E3 := AK e3
  have HF := AK (small_fine e0 e2 e3 HS.out)
  have hcn : cntHP p0 l1 p2 p3 ≤ 1099517927424 := by rw [e0, e2, e3]; exact cntHP_fine HS.out
  have hc0 : 0 ≤ cntHP p0 l1 p2 p3 := by have := cntO_nonneg p0; unfold cntHP; omega
  obtain ⟨R, st, hR⟩ : ∃ R st, (R, st) = playB ⟨p0, l1, p2, p3⟩ vs := ⟨_, _, rfl⟩
  have HST := AK hR
  have HSG := AK (okP_small (show R.ok = true by have := play_ok ⟨p0, l1, p2, p3⟩ vs; rw [← hR] at this; exact this))
  have hsl : st.length ≤ vs.length := by have := play_len ⟨p0, l1, p2, p3⟩ vs; rw [← hR] at this; exact this
  have hcg := HSG.out.cnt
  obtain ⟨kk, ekk⟩ : ∃ kk, kk = 1 + cntHP p0 l1 p2 p3 := ⟨_, rfl⟩
  have EK := AK ekk
  obtain ⟨k2, ek2⟩ : ∃ k2 : Int, k2 = kk + cntV vs := ⟨_, rfl⟩
  have hk0 : decide (k2 < 0) = false := deF (by omega)
  have EK2 := AK ek2
  obtain ⟨m1, em1⟩ : ∃ m1, m1 = 1 + cntHP R.o R.r R.w R.d := ⟨_, rfl⟩
  have hm1 : decide (m1 < 0) = false := deF (by omega)
  have EM1 := AK em1
  obtain ⟨m2, em2⟩ : ∃ m2 : Int, m2 = m1 + st.length := ⟨_, rfl⟩
  have hm2 : decide (m2 < 0) = false := deF (by omega)
  have hmm : (m2 != m2) = false := by simp
  have EM2 := AK em2
  have HCN := AK (And.intro hcn (And.intro hc0 (show 0 ≤ kk ∧ kk ≤ 1099517927425 ∧ 0 ≤ cntV vs ∧ cntV vs ≤ 1099517927424 from ⟨by omega, by omega, by omega, by omega⟩)))
  have HM := AK (show 0 ≤ m1 ∧ m1 ≤ 529 ∧ (st.length : Int) ≤ 1048576 ∧ vs.length ≤ 1048576 from ⟨by omega, by omega, by omega, by omega⟩)
  clear eV hvl hcv hcv0 hle hsl e0 e2 e3 hcn hc0 hR hcg ekk ek2 em1 em2
  rw [← HVL.out]
  obtain ⟨y0, y1, y2, y3⟩ := box4 (bbl HW1.out.2 HB.out)
  go_wp2_with fail
  clear y0 y1 y2 y3
  refine (toHeap_c E0.out E2.out E3.out HS.out (HI0.out.below (bst HW1.out.1 HB.out))).mono ?_
  rintro en u1 ⟨P0, kP0, P1, kP1, P2, kP2, P3, kP3, rfl, hO, hb⟩
  replace HB := AK (bst HB.out hb)
  have HP := AK hO
  clear hO hb
  go_wp2_with fail
  refine (toEvS_n HVL.out EV.out (Kd.C_below HEV.out (bst HW1.out.1 HB.out)) HSE.out.1 HLS.out).mono ?_
  rintro en u2 ⟨Pe, pe, rfl, hO, hb⟩
  replace HB := AK (bst HB.out hb)
  replace HP := AK (HP.out.below hb)
  have HPE := AK hO
  clear hO hb
  go_wp2_with fail
  refine (specPlay_calls _ _ _ _ _ _ _ _ _ ⟨p0, l1, p2, p3⟩ vs _ _ HP.out.reads HF.out (Kd.R_reads' (Kd.S_R HPE.out)).2.2 HM.out.2.2.2 HVV.out R st HST.out).mono ?_
  rintro en u3 ⟨Q0, kQ0, Q1, kQ1, Q2, kQ2, Q3, kQ3, Tq, tq, rfl, hO, hT, hb⟩
  replace HB := AK (bst HB.out hb)
  replace HP := AK (HP.out.below hb)
  replace HPE := AK (Kd.S_below HPE.out hb)
  have HWG0 := AK (OwnH.toP (P := fun k => k < u3.heap.size) hO (fun k _ hk => hk))
  have HWT0 := AK (show Kd.R Kd.string 9 u3 u2.heap.size (fun k => k < u3.heap.size) (.slice Tq st.length tq) st from Kd.R_mono (Kd.R_bound hT) (fun k hk => hk.2.2.1))
  clear hO hT hb HP HPE
  obtain ⟨y0, y1, y2, y3⟩ := box4 (bbl HW1.out.2 HB.out)
  have hz := blk_lt (bbl HW1.out.2 HB.out)
  go_wp2_with fail
  clear hz
  clear y0 y1 y2 y3
  have KW := AK (blk_new u3 (.cells #[(.slice Q0 R.o.length kQ0), (.slice Q1 R.r.length kQ1), (.slice Q2 R.w.length kQ2), (.slice Q3 R.d.length kQ3)] 28 (0, 0)))
  replace HB := AK (bst HB.out (below_alloc (Below.refl _ _) (.cells #[(.slice Q0 R.o.length kQ0), (.slice Q1 R.r.length kQ1), (.slice Q2 R.w.length kQ2), (.slice Q3 R.d.length kQ3)] 28 (0, 0))))
  replace HWG0 := AK (HWG0.out.below (below_alloc (Below.refl _ _) (.cells #[(.slice Q0 R.o.length kQ0), (.slice Q1 R.r.length kQ1), (.slice Q2 R.w.length kQ2), (.slice Q3 R.d.length kQ3)] 28 (0, 0))))
  replace HWT0 := AK (Kd.R_below HWT0.out (below_alloc (Below.refl _ _) (.cells #[(.slice Q0 R.o.length kQ0), (.slice Q1 R.r.length kQ1), (.slice Q2 R.w.length kQ2), (.slice Q3 R.d.length kQ3)] 28 (0, 0))))
  have hsz_w4 : (u3.alloc (.cells #[(.slice Q0 R.o.length kQ0), (.slice Q1 R.r.length kQ1), (.slice Q2 R.w.length kQ2), (.slice Q3 R.d.length kQ3)] 28 (0, 0))).heap.size = u3.heap.size + 1 := Array.size_push ..
  generalize e_w4 : u3.alloc (.cells #[(.slice Q0 R.o.length kQ0), (.slice Q1 R.r.length kQ1), (.slice Q2 R.w.length kQ2), (.slice Q3 R.d.length kQ3)] 28 (0, 0)) = w4 at HB HWG0 HWT0 KW hsz_w4 ⊢
  clear e_w4
  have HZ_w4 := AK hsz_w4
  clear hsz_w4
  have HWG := HWG0
  have HWT := HWT0
  clear HWG0 HWT0
  have HBA := AK HB.out
  have HT := AK (Below.refl w4.heap.size w4)
  refine (toHeap_c E0.out E2.out E3.out HS.out (HI0.out.below (bst HW1.out.1 HB.out))).mono ?_
  rintro en w5 ⟨X0, kX0, X1, kX1, X2, kX2, X3, kX3, rfl, hO, hb⟩
  replace HB := AK (bst HB.out hb)
  replace KW := AK (bbl KW.out hb)
  replace HWG := AK (HWG.out.below hb)
  replace HWT := AK (Kd.R_below HWT.out hb)
  replace HT := AK (bst HT.out hb)
  have HX := AK hO
  have HXO := AK (OwnH.toP (P := fun k => k < w5.heap.size) hO (fun k _ hk => hk))
  have HZ_54 := AK hb.size
  clear hO hb HX
  go_wp2_with fail
  have KX := AK (blk_new w5 (.cells #[(.slice X0 p0.length kX0), (.slice X1 l1.length kX1), (.slice X2 p2.length kX2), (.slice X3 p3.length kX3)] 28 (0, 0)))
  replace HB := AK (bst HB.out (below_alloc (Below.refl _ _) (.cells #[(.slice X0 p0.length kX0), (.slice X1 l1.length kX1), (.slice X2 p2.length kX2), (.slice X3 p3.length kX3)] 28 (0, 0))))
  replace KW := AK (bbl KW.out (below_alloc (Below.refl _ _) (.cells #[(.slice X0 p0.length kX0), (.slice X1 l1.length kX1), (.slice X2 p2.length kX2), (.slice X3 p3.length kX3)] 28 (0, 0))))
  replace HWG := AK (HWG.out.below (below_alloc (Below.refl _ _) (.cells #[(.slice X0 p0.length kX0), (.slice X1 l1.length kX1), (.slice X2 p2.length kX2), (.slice X3 p3.length kX3)] 28 (0, 0))))
  replace HWT := AK (Kd.R_below HWT.out (below_alloc (Below.refl _ _) (.cells #[(.slice X0 p0.length kX0), (.slice X1 l1.length kX1), (.slice X2 p2.length kX2), (.slice X3 p3.length kX3)] 28 (0, 0))))
  replace HT := AK (bst HT.out (below_alloc (Below.refl _ _) (.cells #[(.slice X0 p0.length kX0), (.slice X1 l1.length kX1), (.slice X2 p2.length kX2), (.slice X3 p3.length kX3)] 28 (0, 0))))
  replace HXO := AK (HXO.out.below (below_alloc (Below.refl _ _) (.cells #[(.slice X0 p0.length kX0), (.slice X1 l1.length kX1), (.slice X2 p2.length kX2), (.slice X3 p3.length kX3)] 28 (0, 0))))
  have hsz_w6 : (w5.alloc (.cells #[(.slice X0 p0.length kX0), (.slice X1 l1.length kX1), (.slice X2 p2.length kX2), (.slice X3 p3.length kX3)] 28 (0, 0))).heap.size = w5.heap.size + 1 := Array.size_push ..
  generalize e_w6 : w5.alloc (.cells #[(.slice X0 p0.length kX0), (.slice X1 l1.length kX1), (.slice X2 p2.length kX2), (.slice X3 p3.length kX3)] 28 (0, 0)) = w6 at HB KW HWG HWT HT HXO KX hsz_w6 ⊢
  clear e_w6
  have HZ_w6 := AK hsz_w6
  clear hsz_w6
  refine (toEvS_n HVL.out EV.out (Kd.C_below HEV.out (bst HW1.out.1 HB.out)) HSE.out.1 HLS.out).mono ?_
  rintro en w7 ⟨Ae, ae, rfl, hO, hb⟩
  replace HB := AK (bst HB.out hb)
  replace KW := AK (bbl KW.out hb)
  replace HWG := AK (HWG.out.below hb)
  replace HWT := AK (Kd.R_below HWT.out hb)
  replace HT := AK (bst HT.out hb)
  replace HXO := AK (HXO.out.below hb)
  replace KX := AK (bbl KX.out hb)
  have HZ_76 := AK hb.size
  have HEO := AK (show Kd.S k40 40 w7 w4.heap.size (fun k => w6.heap.size ≤ k ∧ k < w7.heap.size) (.slice Ae vs.length ae) vs from S_lowE (Kd.S_mono (Kd.S_bound hO) (fun k hk => ⟨hk.2.1, hk.2.2.1⟩)) (by have := HZ_w6.out; have := HZ_54.out; omega))
  clear hO hb
  obtain ⟨y0, y1, y2, y3⟩ := box4 KX.out
  have hz := blk_lt KX.out
  go_wp2_with fail
  clear hz
  clear y0 y1 y2 y3
  refine (MemPlay_calls _ _ _ _ _ _ _ _ _ ⟨p0, l1, p2, p3⟩ vs _ _ HXO.out.reads HF.out (Kd.R_reads' (Kd.S_R HEO.out)).2.2 HM.out.2.2.2 HVV.out R st HST.out).mono ?_
  rintro en w8 ⟨Y0, kY0, Y1, kY1, Y2, kY2, Y3, kY3, Ty, ty, rfl, hO, hT, hb⟩
  obtain ⟨⟨xY, hO⟩, hx3⟩ := hO
  have HXY := AK hx3
  replace HB := AK (bst HB.out hb)
  replace KW := AK (bbl KW.out hb)
  replace HWG := AK (HWG.out.below hb)
  replace HWT := AK (Kd.R_below HWT.out hb)
  replace HT := AK (bst HT.out hb)
  replace HXO := AK (HXO.out.below hb)
  replace KX := AK (bbl KX.out hb)
  replace HEO := AK (Kd.S_below HEO.out hb)
  have HZ_87 := AK hb.size
  have HGO := AK (OwnP.down (lo := w4.heap.size) (OwnH.toT (P := (fun k => w7.heap.size ≤ k ∧ k < w8.heap.size ∧ some k ≠ (Value.slice Ty st.length ty).ownBlock)) hO hT (fun k h1 h2 h3 => ⟨h1, h2, h3⟩)) (by have := HZ_w6.out; have := HZ_54.out; have := HZ_76.out; omega))
  have HGT := AK (show Kd.R Kd.string 9 w8 w4.heap.size (fun k => w7.heap.size ≤ k ∧ k < w8.heap.size ∧ some k = (Value.slice Ty st.length ty).ownBlock) (.slice Ty st.length ty) st from Kd.R_lower (Kd.R_mono (Kd.R_bound (Kd.R_tight rfl hT)) (fun k hk => ⟨hk.2.1, hk.2.2.1, hk.1⟩)) (by have := HZ_w6.out; have := HZ_54.out; have := HZ_76.out; omega))
  clear hO hT hb hx3
  obtain ⟨y0, y1, y2, y3⟩ := box4 KW.out
  have hz := blk_lt KW.out
  go_wp2_with fail
  clear hz
  clear y0 y1 y2 y3
  have KG := AK (blk_new w8 (.cells #[(.slice Y0 R.o.length kY0), (.slice Y1 R.r.length kY1), (.slice Y2 R.w.length kY2), (.slice Y3 R.d.length kY3)] 28 (0, 0)))
  replace HB := AK (bst HB.out (below_alloc (Below.refl _ _) (.cells #[(.slice Y0 R.o.length kY0), (.slice Y1 R.r.length kY1), (.slice Y2 R.w.length kY2), (.slice Y3 R.d.length kY3)] 28 (0, 0))))
  replace KW := AK (bbl KW.out (below_alloc (Below.refl _ _) (.cells #[(.slice Y0 R.o.length kY0), (.slice Y1 R.r.length kY1), (.slice Y2 R.w.length kY2), (.slice Y3 R.d.length kY3)] 28 (0, 0))))
  replace HWG := AK (HWG.out.below (below_alloc (Below.refl _ _) (.cells #[(.slice Y0 R.o.length kY0), (.slice Y1 R.r.length kY1), (.slice Y2 R.w.length kY2), (.slice Y3 R.d.length kY3)] 28 (0, 0))))
  replace HWT := AK (Kd.R_below HWT.out (below_alloc (Below.refl _ _) (.cells #[(.slice Y0 R.o.length kY0), (.slice Y1 R.r.length kY1), (.slice Y2 R.w.length kY2), (.slice Y3 R.d.length kY3)] 28 (0, 0))))
  replace HT := AK (bst HT.out (below_alloc (Below.refl _ _) (.cells #[(.slice Y0 R.o.length kY0), (.slice Y1 R.r.length kY1), (.slice Y2 R.w.length kY2), (.slice Y3 R.d.length kY3)] 28 (0, 0))))
  replace HXO := AK (HXO.out.below (below_alloc (Below.refl _ _) (.cells #[(.slice Y0 R.o.length kY0), (.slice Y1 R.r.length kY1), (.slice Y2 R.w.length kY2), (.slice Y3 R.d.length kY3)] 28 (0, 0))))
  replace KX := AK (bbl KX.out (below_alloc (Below.refl _ _) (.cells #[(.slice Y0 R.o.length kY0), (.slice Y1 R.r.length kY1), (.slice Y2 R.w.length kY2), (.slice Y3 R.d.length kY3)] 28 (0, 0))))
  replace HEO := AK (Kd.S_below HEO.out (below_alloc (Below.refl _ _) (.cells #[(.slice Y0 R.o.length kY0), (.slice Y1 R.r.length kY1), (.slice Y2 R.w.length kY2), (.slice Y3 R.d.length kY3)] 28 (0, 0))))
  replace HGO := AK (HGO.out.below (below_alloc (Below.refl _ _) (.cells #[(.slice Y0 R.o.length kY0), (.slice Y1 R.r.length kY1), (.slice Y2 R.w.length kY2), (.slice Y3 R.d.length kY3)] 28 (0, 0))))
  replace HGT := AK (Kd.R_below HGT.out (below_alloc (Below.refl _ _) (.cells #[(.slice Y0 R.o.length kY0), (.slice Y1 R.r.length kY1), (.slice Y2 R.w.length kY2), (.slice Y3 R.d.length kY3)] 28 (0, 0))))
  have hsz_w9 : (w8.alloc (.cells #[(.slice Y0 R.o.length kY0), (.slice Y1 R.r.length kY1), (.slice Y2 R.w.length kY2), (.slice Y3 R.d.length kY3)] 28 (0, 0))).heap.size = w8.heap.size + 1 := Array.size_push ..
  generalize e_w9 : w8.alloc (.cells #[(.slice Y0 R.o.length kY0), (.slice Y1 R.r.length kY1), (.slice Y2 R.w.length kY2), (.slice Y3 R.d.length kY3)] 28 (0, 0)) = w9 at HB KW HWG HWT HT HXO KX HEO HGO HGT KG hsz_w9 ⊢
  clear e_w9
  have HZ_w9 := AK hsz_w9
  clear hsz_w9
  have HZ := AK (show u3.heap.size + 1 = w4.heap.size ∧ w4.heap.size ≤ w5.heap.size ∧ w5.heap.size + 1 = w6.heap.size ∧ w6.heap.size ≤ w7.heap.size ∧ w7.heap.size ≤ w8.heap.size ∧ w8.heap.size + 1 = w9.heap.size from ⟨HZ_w4.out.symm, HZ_54.out, HZ_w6.out.symm, HZ_76.out, HZ_87.out, HZ_w9.out.symm⟩)
  clear HZ_w4 HZ_54 HZ_w6 HZ_76 HZ_87 HZ_w9
  refine (eqHeap_c (HGO.out.reads.cap HXY.out) HWG.out.reads (fun x hx => by have := HSG.out.f x hx; omega)).mono ?_
  rintro en wa ⟨rfl, hb⟩
  replace HB := AK (bst HB.out hb)
  replace KW := AK (bbl KW.out hb)
  replace HWG := AK (HWG.out.below hb)
  replace HWT := AK (Kd.R_below HWT.out hb)
  replace HT := AK (bst HT.out hb)
  replace HXO := AK (HXO.out.below hb)
  replace KX := AK (bbl KX.out hb)
  replace HEO := AK (Kd.S_below HEO.out hb)
  replace HGO := AK (HGO.out.below hb)
  replace HGT := AK (Kd.R_below HGT.out hb)
  replace KG := AK (bbl KG.out hb)
  clear hb
  go_wp2_with fail
  refine (eqStr_q (Kd.R_reads' HGT.out).2.2 (Kd.R_reads' HWT.out).2.2).mono ?_
  rintro en wb ⟨rfl, hd⟩
  have hb := hd.below
  replace HB := AK (bst HB.out hb)
  replace KW := AK (bbl KW.out hb)
  replace HWG := AK (HWG.out.below hb)
  replace HWT := AK (Kd.R_below HWT.out hb)
  replace HT := AK (bst HT.out hb)
  replace HXO := AK (HXO.out.below hb)
  replace KX := AK (bbl KX.out hb)
  replace HEO := AK (Kd.S_below HEO.out hb)
  replace HGO := AK (HGO.out.below hb)
  replace HGT := AK (Kd.R_below HGT.out hb)
  replace KG := AK (bbl KG.out hb)
  clear hb hd
  go_wp2_with fail
  replace HB := AK (bst HB.out (below_drew1 (Below.refl _ _)))
  replace KW := AK (bbl KW.out (below_drew1 (Below.refl _ _)))
  replace HWG := AK (HWG.out.below (below_drew1 (Below.refl _ _)))
  replace HWT := AK (Kd.R_below HWT.out (below_drew1 (Below.refl _ _)))
  replace HT := AK (bst HT.out (below_drew1 (Below.refl _ _)))
  replace HXO := AK (HXO.out.below (below_drew1 (Below.refl _ _)))
  replace KX := AK (bbl KX.out (below_drew1 (Below.refl _ _)))
  replace HEO := AK (Kd.S_below HEO.out (below_drew1 (Below.refl _ _)))
  replace HGO := AK (HGO.out.below (below_drew1 (Below.refl _ _)))
  replace HGT := AK (Kd.R_below HGT.out (below_drew1 (Below.refl _ _)))
  replace KG := AK (bbl KG.out (below_drew1 (Below.refl _ _)))
  refine start_ (n := 5) (S := (fun w' => (w'.cell? ⟨w5.heap.size, 0, none⟩ = some (.slice X0 p0.length kX0) ∧ w'.cell? ⟨w5.heap.size, 1, none⟩ = some (.slice X1 l1.length kX1) ∧ w'.cell? ⟨w5.heap.size, 2, none⟩ = some (.slice X2 p2.length kX2) ∧ w'.cell? ⟨w5.heap.size, 3, none⟩ = some (.slice X3 p3.length kX3)) ∧ w'.cell? ⟨w.heap.size, 0, none⟩ = some (.slice A0 l0.length c0) ∧ w'.cell? ⟨w.heap.size, 1, none⟩ = some (.slice A1 l1.length c1) ∧ w'.cell? ⟨w.heap.size, 2, none⟩ = some (.slice A2 l2.length c2) ∧ w'.cell? ⟨w.heap.size, 3, none⟩ = some (.slice A3 l3.length c3))) (ds := []) #[fF,fF,fF,fF,fF] (by kernel_rfl) rfl rfl ⟨box4 KX.out, box4 (bbl HW1.out.2 HB.out)⟩ (fun hHeld => ?_); refine with_tabW xpl14_tab xpl14_bits (fun HT_ HW_ => ?_)
  generalize wb.drew = w_ at HB KW HWG HWT HT HXO KX HEO HGO HGT KG hHeld ⊢
  refine take_ (i := 0) (N := some 55) (v := ?_) (a' := ?_) #[tT,fF,fF,fF,fF] rfl rfl (take_ofW HT_.out HW_.out (by kernel_rfl)) (fun _ _ _ h => h) (Or.inl ⟨by rfl, ?_⟩) hHeld ?_ ?_
  rotate_left
  · rintro w' ⟨⟨s0, s1, s2, s3⟩, s4, s5, s6, s7⟩
    go_simp
    with_reducible rfl
  rotate_left
  · exact zP
  refine take_ (i := 1) (N := some 56) (v := ?_) (a' := ?_) #[tT,tT,fF,fF,fF] rfl rfl (take_ofW HT_.out HW_.out (by kernel_rfl)) (fun _ _ _ h => h) (Or.inl ⟨by rfl, ?_⟩) hHeld ?_ ?_
  rotate_left
  · rintro w' ⟨⟨s0, s1, s2, s3⟩, s4, s5, s6, s7⟩
    go_simp
    with_reducible rfl
  rotate_left
  · exact zP
  refine one_ (i := 2) (N := some 57) #[tT,tT,tT,fF,fF] rfl rfl (one_of HT_.out (by kernel_rfl)) (by decide) (fun K hK => ?_)
  refine goes_ Try.func24 (by kernel_rfl) rfl #[.agg #[.slice A0 l0.length c0, .slice A1 l1.length c1, .slice A2 l2.length c2, .slice A3 l3.length c3]] (by rfl) rfl rfl zI ?_
  refine (toHeap_c E0.out E2.out E3.out HS.out (HI0.out.below (bst HW1.out.1 HB.out))).mono ?_
  rintro en vz ⟨V0, kV0, V1, kV1, V2, kV2, V3, kV3, rfl, hO, hb⟩
  refine ⟨_, rfl, ?_⟩
  replace HB := AK (bst HB.out hb)
  replace KW := AK (bbl KW.out hb)
  replace HWG := AK (HWG.out.below hb)
  replace HWT := AK (Kd.R_below HWT.out hb)
  replace HT := AK (bst HT.out hb)
  replace HXO := AK (HXO.out.below hb)
  replace KX := AK (bbl KX.out hb)
  replace HEO := AK (Kd.S_below HEO.out hb)
  replace HGO := AK (HGO.out.below hb)
  replace HGT := AK (Kd.R_below HGT.out hb)
  replace KG := AK (bbl KG.out hb)
  have HV := AK hO
  clear hO hb
  refine hK.out _ _ ⟨box4 KX.out, box4 (bbl HW1.out.2 HB.out)⟩ (fun hHeld => ?_)
  clear hK K
  refine norm_ (a' := ?_) ?_ ?_
  rotate_left
  · show Act.put _ (some 57) _ = _
    exact zP
  refine one_ (i := 3) (N := some 58) #[tT,tT,tT,tT,fF] rfl rfl (one_of HT_.out (by kernel_rfl)) (by decide) (fun K hK => ?_)
  refine goes_ Try.func26 (by kernel_rfl) rfl #[.agg #[.slice X0 p0.length kX0, .slice X1 l1.length kX1, .slice X2 p2.length kX2, .slice X3 p3.length kX3], .agg #[.slice V0 p0.length kV0, .slice V1 l1.length kV1, .slice V2 p2.length kV2, .slice V3 p3.length kV3]] (by rfl) rfl rfl zI ?_
  refine (eqHeap_c HXO.out.reads HV.out.reads (fun x hx => by have := (HF.out.f x hx).2; omega)).mono ?_
  rintro en ve ⟨rfl, hb⟩
  refine ⟨_, rfl, ?_⟩
  clear HV
  replace HB := AK (bst HB.out hb)
  replace KW := AK (bbl KW.out hb)
  replace HWG := AK (HWG.out.below hb)
  replace HWT := AK (Kd.R_below HWT.out hb)
  replace HT := AK (bst HT.out hb)
  replace HXO := AK (HXO.out.below hb)
  replace KX := AK (bbl KX.out hb)
  replace HEO := AK (Kd.S_below HEO.out hb)
  replace HGO := AK (HGO.out.below hb)
  replace HGT := AK (Kd.R_below HGT.out hb)
  replace KG := AK (bbl KG.out hb)
  clear hb
  refine hK.out _ _ ⟨box4 KX.out, box4 (bbl HW1.out.2 HB.out)⟩ (fun hHeld => ?_)
  clear hK K
  refine norm_ (a' := ?_) ?_ ?_
  rotate_left
  · show Act.put _ (some 58) _ = _
    exact zP
  refine pure_ (i := 4) (N := some 59) (v := ?_) (a' := ?_) #[tT,tT,tT,tT,tT] rfl rfl (any_of HT_.out (by kernel_rfl)) (fun _ _ _ h => h) (Or.inl ⟨by rfl, ?_⟩) ?_ ?_
  rotate_left
  · intro w'
    go_simp
    with_reducible rfl
  rotate_left
  · exact zP
  refine done_ (done_of HT_.out (by kernel_rfl)) ?_
  clear HT_ HW_ hHeld
  go_wp2_with fail
  refine (toEvS_n HVL.out EV.out (Kd.C_below HEV.out (bst HW1.out.1 HB.out)) HSE.out.1 HLS.out).mono ?_
  rintro en vy ⟨Be, be, rfl, hO, hb⟩
  replace HB := AK (bst HB.out hb)
  replace KW := AK (bbl KW.out hb)
  replace HWG := AK (HWG.out.below hb)
  replace HWT := AK (Kd.R_below HWT.out hb)
  replace HT := AK (bst HT.out hb)
  replace HXO := AK (HXO.out.below hb)
  replace KX := AK (bbl KX.out hb)
  replace HEO := AK (Kd.S_below HEO.out hb)
  replace HGO := AK (HGO.out.below hb)
  replace HGT := AK (Kd.R_below HGT.out hb)
  replace KG := AK (bbl KG.out hb)
  have HV := AK hO
  clear hO hb
  go_wp2_with fail
  refine (eqEvS_q (Kd.R_reads' (Kd.S_R HEO.out)).2.2 (Kd.R_reads' (Kd.S_R HV.out)).2.2).mono ?_
  rintro en vf ⟨rfl, hb⟩
  clear HV
  replace HB := AK (bst HB.out hb)
  replace KW := AK (bbl KW.out hb)
  replace HWG := AK (HWG.out.below hb)
  replace HWT := AK (Kd.R_below HWT.out hb)
  replace HT := AK (bst HT.out hb)
  replace HXO := AK (HXO.out.below hb)
  replace KX := AK (bbl KX.out hb)
  replace HEO := AK (Kd.S_below HEO.out hb)
  replace HGO := AK (HGO.out.below hb)
  replace HGT := AK (Kd.R_below HGT.out hb)
  replace KG := AK (bbl KG.out hb)
  clear hb
  obtain ⟨y0, y1, y2, y3⟩ := box4 KX.out
  go_wp2_with fail
  clear y0 y1 y2 y3
  refine (markHeapP_calls 1 (fun k => k < w5.heap.size) w4 vf _ _ _ _ _ _ _ _ _ _ _ _ HT.out HXO.out (fun k hk => by have h1 := blk_lt KX.out; have h3 : k < w5.heap.size := hk; omega) (by omega) (by have := HCN.out; omega) (by have := HF.out.o; omega)).mono ?_
  rintro en wc ⟨rfl, _, hb, hk⟩
  rw [← EK.out]
  clear KX HXO
  replace hk : Kept vf wc (fun k => w4.heap.size ≤ k ∧ k < w5.heap.size) := hk
  replace HT := AK (hb)
  replace HB := AK (bst HBA.out hb)
  replace KW := AK (blk_kept KW.out hk (fun h1 => by have h2 := HZ.out; have h3 := h1.1; have h4 := h1.2; omega))
  replace KG := AK (blk_kept KG.out hk (fun h1 => by have h2 := HZ.out; have h3 := h1.1; have h4 := h1.2; omega))
  replace HWG := AK (HWG.out.kept hk (fun k h1 h2 => by have h4 : k < u3.heap.size := h1; have h5 := h2.1; have h6 := HZ.out; omega))
  replace HWT := AK (Kd.R_kept HWT.out hk (fun k h1 h2 => by have h4 : k < u3.heap.size := h1; have h5 := h2.1; have h6 := HZ.out; omega))
  replace HGO := AK (HGO.out.kept hk (fun k h1 h2 => by have h4 := h1.1; have h5 := h2.2; have h6 := HZ.out; omega))
  replace HGT := AK (Kd.R_kept HGT.out hk (fun k h1 h2 => by have h4 := h1.1; have h5 := h2.2; have h6 := HZ.out; omega))
  replace HEO := AK (Kd.S_kept HEO.out hk (fun k h1 h2 => by have h4 := h1.1; have h5 := h2.2; have h6 := HZ.out; omega))
  clear hb hk
  go_wp2_with fail
  refine (markEvS_q kk w4 wc _ _ vs HT.out HEO.out HCN.out.2.2.1 (by have := HCN.out; omega) HM.out.2.2.2).mono ?_
  rintro en wd ⟨rfl, hb, hk⟩
  rw [← EK2.out]
  clear HEO
  replace hk : Kept wc wd (fun k => w6.heap.size ≤ k ∧ k < w7.heap.size) := hk
  replace HT := AK (hb)
  replace HB := AK (bst HBA.out hb)
  replace KW := AK (blk_kept KW.out hk (fun h1 => by have h2 := HZ.out; have h3 := h1.1; have h4 := h1.2; omega))
  replace KG := AK (blk_kept KG.out hk (fun h1 => by have h2 := HZ.out; have h3 := h1.1; have h4 := h1.2; omega))
  replace HWG := AK (HWG.out.kept hk (fun k h1 h2 => by have h4 : k < u3.heap.size := h1; have h5 := h2.1; have h6 := HZ.out; omega))
  replace HWT := AK (Kd.R_kept HWT.out hk (fun k h1 h2 => by have h4 : k < u3.heap.size := h1; have h5 := h2.1; have h6 := HZ.out; omega))
  replace HGO := AK (HGO.out.kept hk (fun k h1 h2 => by have h4 := h1.1; have h5 := h2.2; have h6 := HZ.out; omega))
  replace HGT := AK (Kd.R_kept HGT.out hk (fun k h1 h2 => by have h4 := h1.1; have h5 := h2.2; have h6 := HZ.out; omega))
  clear hb hk
  obtain ⟨y0, y1, y2, y3⟩ := box4 KG.out
  obtain ⟨z0, z1, z2, z3⟩ := box4 KW.out
  go_wp2_with fail
  clear y0 y1 y2 y3 z0 z1 z2 z3
  refine (eqHeap_c (HGO.out.reads.cap HXY.out) HWG.out.reads (fun x hx => by have := HSG.out.f x hx; omega)).mono ?_
  rintro en we ⟨rfl, hb⟩
  replace HB := AK (bst HB.out hb)
  replace KW := AK (bbl KW.out hb)
  replace HWG := AK (HWG.out.below hb)
  replace HWT := AK (Kd.R_below HWT.out hb)
  replace HT := AK (bst HT.out hb)
  replace HGO := AK (HGO.out.below hb)
  replace HGT := AK (Kd.R_below HGT.out hb)
  replace KG := AK (bbl KG.out hb)
  clear hb
  go_wp2_with fail
  refine (eqStr_q (Kd.R_reads' HGT.out).2.2 (Kd.R_reads' HWT.out).2.2).mono ?_
  rintro en wf ⟨rfl, hd⟩
  have hb := hd.below
  replace HB := AK (bst HB.out hb)
  replace KW := AK (bbl KW.out hb)
  replace HWG := AK (HWG.out.below hb)
  replace HWT := AK (Kd.R_below HWT.out hb)
  replace HT := AK (bst HT.out hb)
  replace HGO := AK (HGO.out.below hb)
  replace HGT := AK (Kd.R_below HGT.out hb)
  replace KG := AK (bbl KG.out hb)
  clear hb hd
  obtain ⟨y0, y1, y2, y3⟩ := box4 KG.out
  go_wp2_with fail
  clear y0 y1 y2 y3
  refine (markHeapP_calls 1 (fun k => w7.heap.size ≤ k ∧ k < w8.heap.size ∧ some k ≠ (Value.slice Ty st.length ty).ownBlock) w4 wf _ _ _ _ _ _ _ _ _ _ _ _ HT.out HGO.out (fun k hk => by have h1 := blk_lt KG.out; have h2 := hk.2.1; omega) (by omega) (by rw [← EM1.out]; have := HM.out; omega) (by have := HSG.out.n; omega)).mono ?_
  rintro en wg ⟨rfl, hmk, hb, hk⟩
  rw [← EM1.out]
  clear HGO
  have HMK := AK hmk
  replace hk : Kept wf wg (fun k => w4.heap.size ≤ k ∧ w7.heap.size ≤ k ∧ k < w8.heap.size ∧ some k ≠ (Value.slice Ty st.length ty).ownBlock) := hk
  replace HT := AK (hb)
  replace HB := AK (bst HBA.out hb)
  replace KW := AK (blk_kept KW.out hk (fun h1 => by have h2 := HZ.out; have h3 := h1.1; have h4 := h1.2.2.1; omega))
  replace KG := AK (blk_kept KG.out hk (fun h1 => by have h2 := HZ.out; have h3 := h1.1; have h4 := h1.2.2.1; omega))
  replace HWG := AK (HWG.out.kept hk (fun k h1 h2 => by have h4 : k < u3.heap.size := h1; have h5 := h2.1; have h6 := HZ.out; omega))
  replace HWT := AK (Kd.R_kept HWT.out hk (fun k h1 h2 => by have h4 : k < u3.heap.size := h1; have h5 := h2.1; have h6 := HZ.out; omega))
  replace HGT := AK (Kd.R_kept HGT.out hk (fun k h1 h2 => h2.2.2.2 h1.2.2))
  clear hmk hb hk
  go_wp2_with fail
  refine (markStr_c m1 HM.out.1 HT.out HGT.out (by have := HM.out; omega)).mono ?_
  rintro en wh ⟨rfl, hr, hb, hk⟩
  rw [← EM2.out]
  have hne : ∀ k, some k = (Value.slice Ty st.length ty).ownBlock → w7.heap.size ≤ k ∧ k < w8.heap.size := fun k hk => by have h1 := HGT.out.1 k hk.symm; exact ⟨h1.1, h1.2.1⟩
  replace hk : Kept wg wh (fun k => some k = (Value.slice Ty st.length ty).ownBlock) := hk
  clear HGT
  have HGT := AK hr
  replace HT := AK (hb)
  replace HB := AK (bst HBA.out hb)
  replace KW := AK (blk_kept KW.out hk (fun h1 => by have h2 := HZ.out; have h3 := hne _ h1; omega))
  replace KG := AK (blk_kept KG.out hk (fun h1 => by have h2 := HZ.out; have h3 := hne _ h1; omega))
  replace HWG := AK (HWG.out.kept hk (fun k h1 h2 => by have h4 : k < u3.heap.size := h1; have h5 := hne k h2; have h6 := HZ.out; omega))
  replace HWT := AK (Kd.R_kept HWT.out hk (fun k h1 h2 => by have h4 : k < u3.heap.size := h1; have h5 := hne k h2; have h6 := HZ.out; omega))
  replace HMK := AK (HMK.out.kept hk (fun k h1 h2 => h1.2.2 h2))
  clear hr hb hk hne
  obtain ⟨y0, y1, y2, y3⟩ := box4 KG.out
  go_wp2_with fail
  clear y0 y1 y2 y3
  refine (heldHeap_calls HMK.out (by omega) (by have := HSG.out.n; omega) m1 (by rw [EM1.out]; unfold cntHP; omega) (by have := HM.out; omega) HXY.out).mono ?_
  rintro en wi ⟨rfl, hb⟩
  replace HB := AK (bst HB.out hb)
  replace KW := AK (bbl KW.out hb)
  replace HWG := AK (HWG.out.below hb)
  replace HWT := AK (Kd.R_below HWT.out hb)
  replace HT := AK (bst HT.out hb)
  replace HGT := AK (Kd.R_below HGT.out hb)
  replace KG := AK (bbl KG.out hb)
  replace HMK := AK (HMK.out.below hb)
  clear hb
  go_wp2_with fail
  refine (heldStr_c (n := st.length) HM.out.1 (by have := HM.out; omega) (by have h1 := (Kd.R_reads' HGT.out).2.2; rwa [marksT_length] at h1)).mono ?_
  rintro en wj ⟨rfl, hb⟩
  rw [← EM2.out]
  replace HB := AK (bst HB.out hb)
  replace KW := AK (bbl KW.out hb)
  replace HWG := AK (HWG.out.below hb)
  replace HWT := AK (Kd.R_below HWT.out hb)
  replace HT := AK (bst HT.out hb)
  replace HGT := AK (Kd.R_below HGT.out hb)
  replace KG := AK (bbl KG.out hb)
  replace HMK := AK (HMK.out.below hb)
  clear hb
  obtain ⟨y0, y1, y2, y3⟩ := box4 (bbl HW1.out.2 HB.out)
  go_wp2_with fail
  clear y0 y1 y2 y3
  refine (toHeap_c E0.out E2.out E3.out HS.out (HI0.out.below (bst HW1.out.1 HB.out))).mono ?_
  rintro en wk ⟨P0, kP0, P1, kP1, P2, kP2, P3, kP3, rfl, hO, hb⟩
  replace HB := AK (bst HB.out hb)
  replace KW := AK (bbl KW.out hb)
  replace HWG := AK (HWG.out.below hb)
  replace HWT := AK (Kd.R_below HWT.out hb)
  replace HT := AK (bst HT.out hb)
  replace HGT := AK (Kd.R_below HGT.out hb)
  replace KG := AK (bbl KG.out hb)
  replace HMK := AK (HMK.out.below hb)
  have HP := AK hO
  clear hO hb
  go_wp2_with fail
  refine (toEvS_n HVL.out EV.out (Kd.C_below HEV.out (bst HW1.out.1 HB.out)) HSE.out.1 HLS.out).mono ?_
  rintro en wl ⟨Pf, pf, rfl, hO, hb⟩
  replace HB := AK (bst HB.out hb)
  replace KW := AK (bbl KW.out hb)
  replace HWG := AK (HWG.out.below hb)
  replace HWT := AK (Kd.R_below HWT.out hb)
  replace HT := AK (bst HT.out hb)
  replace HGT := AK (Kd.R_below HGT.out hb)
  replace KG := AK (bbl KG.out hb)
  replace HMK := AK (HMK.out.below hb)
  replace HP := AK (HP.out.below hb)
  have HPE := AK hO
  clear hO hb
  go_wp2_with fail
  refine (MemPlay_calls _ _ _ _ _ _ _ _ _ ⟨p0, l1, p2, p3⟩ vs _ _ HP.out.reads HF.out (Kd.R_reads' (Kd.S_R HPE.out)).2.2 HM.out.2.2.2 HVV.out R st HST.out).mono ?_
  rintro en wm ⟨T0, kT0, T1, kT1, T2, kT2, T3, kT3, Tt, tt, rfl, hO, hT, hb⟩
  obtain ⟨⟨xT, hO⟩, hx3⟩ := hO
  have HXT := AK hx3
  replace HB := AK (bst HB.out hb)
  replace KW := AK (bbl KW.out hb)
  replace HWG := AK (HWG.out.below hb)
  replace HWT := AK (Kd.R_below HWT.out hb)
  replace HT := AK (bst HT.out hb)
  replace HGT := AK (Kd.R_below HGT.out hb)
  replace KG := AK (bbl KG.out hb)
  replace HMK := AK (HMK.out.below hb)
  replace HP := AK (HP.out.below hb)
  replace HPE := AK (Kd.S_below HPE.out hb)
  have HHG := AK hO
  have HHT := AK hT
  clear hO hT hb hx3 HP HPE
  obtain ⟨y0, y1, y2, y3⟩ := box4 KW.out
  have hz := blk_lt KW.out
  go_wp2_with fail
  clear hz
  clear y0 y1 y2 y3
  have KH := AK (blk_new wm (.cells #[(.slice T0 R.o.length kT0), (.slice T1 R.r.length kT1), (.slice T2 R.w.length kT2), (.slice T3 R.d.length kT3)] 28 (0, 0)))
  replace HB := AK (bst HB.out (below_alloc (Below.refl _ _) (.cells #[(.slice T0 R.o.length kT0), (.slice T1 R.r.length kT1), (.slice T2 R.w.length kT2), (.slice T3 R.d.length kT3)] 28 (0, 0))))
  replace KW := AK (bbl KW.out (below_alloc (Below.refl _ _) (.cells #[(.slice T0 R.o.length kT0), (.slice T1 R.r.length kT1), (.slice T2 R.w.length kT2), (.slice T3 R.d.length kT3)] 28 (0, 0))))
  replace HWG := AK (HWG.out.below (below_alloc (Below.refl _ _) (.cells #[(.slice T0 R.o.length kT0), (.slice T1 R.r.length kT1), (.slice T2 R.w.length kT2), (.slice T3 R.d.length kT3)] 28 (0, 0))))
  replace HWT := AK (Kd.R_below HWT.out (below_alloc (Below.refl _ _) (.cells #[(.slice T0 R.o.length kT0), (.slice T1 R.r.length kT1), (.slice T2 R.w.length kT2), (.slice T3 R.d.length kT3)] 28 (0, 0))))
  replace HT := AK (bst HT.out (below_alloc (Below.refl _ _) (.cells #[(.slice T0 R.o.length kT0), (.slice T1 R.r.length kT1), (.slice T2 R.w.length kT2), (.slice T3 R.d.length kT3)] 28 (0, 0))))
  replace HGT := AK (Kd.R_below HGT.out (below_alloc (Below.refl _ _) (.cells #[(.slice T0 R.o.length kT0), (.slice T1 R.r.length kT1), (.slice T2 R.w.length kT2), (.slice T3 R.d.length kT3)] 28 (0, 0))))
  replace KG := AK (bbl KG.out (below_alloc (Below.refl _ _) (.cells #[(.slice T0 R.o.length kT0), (.slice T1 R.r.length kT1), (.slice T2 R.w.length kT2), (.slice T3 R.d.length kT3)] 28 (0, 0))))
  replace HMK := AK (HMK.out.below (below_alloc (Below.refl _ _) (.cells #[(.slice T0 R.o.length kT0), (.slice T1 R.r.length kT1), (.slice T2 R.w.length kT2), (.slice T3 R.d.length kT3)] 28 (0, 0))))
  replace HHG := AK (HHG.out.below (below_alloc (Below.refl _ _) (.cells #[(.slice T0 R.o.length kT0), (.slice T1 R.r.length kT1), (.slice T2 R.w.length kT2), (.slice T3 R.d.length kT3)] 28 (0, 0))))
  replace HHT := AK (Kd.R_below HHT.out (below_alloc (Below.refl _ _) (.cells #[(.slice T0 R.o.length kT0), (.slice T1 R.r.length kT1), (.slice T2 R.w.length kT2), (.slice T3 R.d.length kT3)] 28 (0, 0))))
  have hsz_wn : (wm.alloc (.cells #[(.slice T0 R.o.length kT0), (.slice T1 R.r.length kT1), (.slice T2 R.w.length kT2), (.slice T3 R.d.length kT3)] 28 (0, 0))).heap.size = wm.heap.size + 1 := Array.size_push ..
  generalize e_wn : wm.alloc (.cells #[(.slice T0 R.o.length kT0), (.slice T1 R.r.length kT1), (.slice T2 R.w.length kT2), (.slice T3 R.d.length kT3)] 28 (0, 0)) = wn at HB KW HWG HWT HT HGT KG HMK HHG HHT KH hsz_wn ⊢
  clear e_wn
  have HZ_wn := AK hsz_wn
  clear hsz_wn
  refine (eqHeap_c (HHG.out.reads.cap HXT.out) HWG.out.reads (fun x hx => by have := HSG.out.f x hx; omega)).mono ?_
  rintro en wo ⟨rfl, hb⟩
  replace HB := AK (bst HB.out hb)
  replace KW := AK (bbl KW.out hb)
  replace HWG := AK (HWG.out.below hb)
  replace HWT := AK (Kd.R_below HWT.out hb)
  replace HT := AK (bst HT.out hb)
  replace HGT := AK (Kd.R_below HGT.out hb)
  replace KG := AK (bbl KG.out hb)
  replace HMK := AK (HMK.out.below hb)
  replace HHG := AK (HHG.out.below hb)
  replace HHT := AK (Kd.R_below HHT.out hb)
  replace KH := AK (bbl KH.out hb)
  clear hb
  go_wp2_with fail
  refine (eqStr_q (Kd.R_reads' HHT.out).2.2 (Kd.R_reads' HWT.out).2.2).mono ?_
  rintro en wp ⟨rfl, hd⟩
  have hb := hd.below
  replace HB := AK (bst HB.out hb)
  replace KW := AK (bbl KW.out hb)
  replace HWG := AK (HWG.out.below hb)
  replace HWT := AK (Kd.R_below HWT.out hb)
  replace HT := AK (bst HT.out hb)
  replace HGT := AK (Kd.R_below HGT.out hb)
  replace KG := AK (bbl KG.out hb)
  replace HMK := AK (HMK.out.below hb)
  replace HHG := AK (HHG.out.below hb)
  replace HHT := AK (Kd.R_below HHT.out hb)
  replace KH := AK (bbl KH.out hb)
  clear hb hd
  obtain ⟨y0, y1, y2, y3⟩ := box4 KG.out
  go_wp2_with fail
  clear y0 y1 y2 y3
  refine (heldHeap_calls HMK.out (by omega) (by have := HSG.out.n; omega) m1 (by rw [EM1.out]; unfold cntHP; omega) (by have := HM.out; omega) HXY.out).mono ?_
  rintro en wq ⟨rfl, hb⟩
  replace HB := AK (bst HB.out hb)
  replace KW := AK (bbl KW.out hb)
  replace HWG := AK (HWG.out.below hb)
  replace HWT := AK (Kd.R_below HWT.out hb)
  replace HT := AK (bst HT.out hb)
  replace HGT := AK (Kd.R_below HGT.out hb)
  replace KG := AK (bbl KG.out hb)
  replace HMK := AK (HMK.out.below hb)
  replace HHG := AK (HHG.out.below hb)
  replace HHT := AK (Kd.R_below HHT.out hb)
  replace KH := AK (bbl KH.out hb)
  clear hb
  go_wp2_with fail
  refine (heldStr_c (n := st.length) HM.out.1 (by have := HM.out; omega) (by have h1 := (Kd.R_reads' HGT.out).2.2; rwa [marksT_length] at h1)).mono ?_
  rintro en wr ⟨rfl, hb⟩
  rw [← EM2.out]
  replace HB := AK (bst HB.out hb)
  replace KW := AK (bbl KW.out hb)
  replace HWG := AK (HWG.out.below hb)
  replace HWT := AK (Kd.R_below HWT.out hb)
  replace HT := AK (bst HT.out hb)
  replace HGT := AK (Kd.R_below HGT.out hb)
  replace KG := AK (bbl KG.out hb)
  replace HMK := AK (HMK.out.below hb)
  replace HHG := AK (HHG.out.below hb)
  replace HHT := AK (Kd.R_below HHT.out hb)
  replace KH := AK (bbl KH.out hb)
  clear hb
  go_wp2
  go_ret
  exact ⟨rfl, bst HW1.out.1 HB.out⟩
end Go.Proofs.Ytigjhfijkdlldaa.H
