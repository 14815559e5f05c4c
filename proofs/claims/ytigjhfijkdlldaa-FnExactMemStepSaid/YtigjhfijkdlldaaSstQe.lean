import Derived.Test.YtigjhfijkdlldaaSstQc
import Derived.Test.YtigjhfijkdlldaaSstHsd
section
/- The boxes of MemStep, spec's and impl's. -/
namespace Go.Proofs.Ytigjhfijkdlldaa.H
open Go.RowKit Go.Proofs.YtigjhfijkdlldaaW.PrintWords Go.Proofs.YtigjhfijkdlldaaW.PrintLast Go.Proofs.YtigjhfijkdlldaaW.PrintMore Go.Proofs.Ytigjhfijkdlldaa.Q
set_option linter.unusedVariables false
/-- n: the first box (the heap's; then the event's, then the result's). -/
structure SK (v w0 : World) (n : Nat) (X E : Array Value) (w' : World) : Prop where
  b : Below v.heap.size v w'
  bw : Below w0.heap.size w0 w'
  n0 : v.heap.size ≤ n
  h : w'.heap[n]? = some (.cells X 28 (0, 0))
  e : w'.heap[n + 1]? = some (.cells E 40 (0, 0))
  o : w'.heap[n + 2]? = some (.cells nilC 28 (0, 0))
section
variable {v w0 w w1 : World} {n : Nat} {X E : Array Value}
theorem SK.below (h : SK v w0 n X E w) (hb : Below w.heap.size w w1) : SK v w0 n X E w1 :=
  ⟨bst h.b hb, bst h.bw hb, h.n0, bbl h.h hb, bbl h.e hb, bbl h.o hb⟩
theorem SK.start (hB : Below v.heap.size v w) (X E : Array Value) : SK v w w.heap.size X E (((w.alloc (.cells X 28 (0, 0))).alloc (.cells E 40 (0, 0))).alloc (.cells nilC 28 (0, 0))) := by
  have hb := below_alloc (below_alloc (below_alloc (Below.refl w.heap.size w) (.cells X 28 (0, 0))) (.cells E 40 (0, 0))) (.cells nilC 28 (0, 0))
  refine ⟨bst hB hb, hb, hB.size, blk_alloc (blk_alloc (blk_new w _) _) _, blk_alloc ?_ _, ?_⟩
  · have := blk_new (w.alloc (.cells X 28 (0, 0))) (.cells E 40 (0, 0))
    rwa [show (w.alloc (.cells X 28 (0, 0))).heap.size = w.heap.size + 1 from Array.size_push ..] at this
  · have := blk_new ((w.alloc (.cells X 28 (0, 0))).alloc (.cells E 40 (0, 0))) (.cells nilC 28 (0, 0))
    rwa [show ((w.alloc (.cells X 28 (0, 0))).alloc (.cells E 40 (0, 0))).heap.size = w.heap.size + 2 by
      rw [show ((w.alloc (.cells X 28 (0, 0))).alloc (.cells E 40 (0, 0))).heap.size = (w.alloc (.cells X 28 (0, 0))).heap.size + 1 from Array.size_push .., show (w.alloc (.cells X 28 (0, 0))).heap.size = w.heap.size + 1 from Array.size_push ..]] at this
theorem SK.oc (h : SK v w0 n X E w) : w.cell? ⟨n + 2, 0, none⟩ = some (.slice none 0 0) ∧ w.cell? ⟨n + 2, 1, none⟩ = some (.slice none 0 0) ∧ w.cell? ⟨n + 2, 2, none⟩ = some (.slice none 0 0) ∧ w.cell? ⟨n + 2, 3, none⟩ = some (.slice none 0 0) := box4 h.o
theorem SK.of (h : SK v w0 n X E w) (j : Nat) : w.frozen? ⟨n + 2, j, none⟩ = false := bfz h.o j
theorem ec7 {e : S40} {A6 : Option Addr} {c6 : Nat} {g : Nat} (h : w.heap[g]? = some (.cells (evC e A6 c6) 40 (0, 0))) : w.cell? ⟨g, 0, none⟩ = some (.int .i64 e.f0) ∧ w.cell? ⟨g, 1, none⟩ = some (.int .i64 e.f1) ∧ w.cell? ⟨g, 2, none⟩ = some (.int .i64 e.f2) ∧ w.cell? ⟨g, 3, none⟩ = some (.int .i64 e.f3) ∧ w.cell? ⟨g, 4, none⟩ = some (.int .i64 e.f4.f0) ∧ w.cell? ⟨g, 5, none⟩ = some (.string e.f4.f1) ∧ w.cell? ⟨g, 6, none⟩ = some (.slice A6 e.f4.f2.length c6) :=
  ⟨(bcl h 0).trans rfl, (bcl h 1).trans rfl, (bcl h 2).trans rfl, (bcl h 3).trans rfl, (bcl h 4).trans rfl, (bcl h 5).trans rfl, (bcl h 6).trans rfl⟩
end
end Go.Proofs.Ytigjhfijkdlldaa.H
end
section
/- spec.MemStep, walked. -/
namespace Go.Proofs.Ytigjhfijkdlldaa.H
open Go.RowKit Go.Proofs.YtigjhfijkdlldaaW.PrintWords Go.Proofs.YtigjhfijkdlldaaW.PrintLast Go.Proofs.YtigjhfijkdlldaaW.PrintMore Go.Proofs.Ytigjhfijkdlldaa.Q
set_option linter.unusedVariables false
set_option linter.unusedSimpArgs false
set_option maxHeartbeats 4000000 in
set_option maxRecDepth 100000 in
theorem specStep_calls (v w : World) (A0 A1 A2 A3 : Option Addr) (c0 c1 c2 c3 : Nat) (G : Hp) (e : S40) (A6 : Option Addr) (c6 : Nat) (hB : Below v.heap.size v w) (h : InH w A0 c0 A1 c1 A2 c2 A3 c3 G.o G.r G.w G.d) (hf : Fine G.o G.r G.w G.d) (he : Kd.C (Kd.int .i64) w A6 e.f4.f2.length e.f4.f2) (hc : e.f4.f2.length ≤ c6) (hl6 : e.f4.f2.length ≤ 1048576) (hs6 : (e.f4.f1.size : Int) ≤ 4611686018427387903) (R : Hp) (s : ByteArray) (hR : (R, s) = stepB G e) :
  Calls Try.prog 47 #[.agg #[.slice A0 G.o.length c0, .slice A1 G.r.length c1, .slice A2 G.w.length c2, .slice A3 G.d.length c3], .agg #[.int .i64 e.f0, .int .i64 e.f1, .int .i64 e.f2, .int .i64 e.f3, .int .i64 e.f4.f0, .string e.f4.f1, .slice A6 e.f4.f2.length c6]] w fun en w' => ∃ B0 d0 B1 d1 B2 d2 B3 d3, en = .returned (.tuple #[.agg #[.slice B0 R.o.length d0, .slice B1 R.r.length d1, .slice B2 R.w.length d2, .slice B3 R.d.length d3], .string s]) ∧
   OwnG w' v.heap.size B0 d0 B1 d1 B2 d2 B3 d3 R ∧ Below v.heap.size v w' := by
 have HI := AK h
 have HF := AK hf
 have HE0 := AK (And.intro he hc)
 have HL6 := AK (And.intro hl6 hs6)
 have HR := AK hR
 obtain ⟨b, eb⟩ : ∃ b, b = okB G.o G.r G.w G.d := ⟨_, rfl⟩
 have EB := AK eb
 have K0 := AK (SK.start hB (hpC A0 c0 A1 c1 A2 c2 A3 c3 G) (evC e A6 c6))
 clear hB h hf he hc hl6 hs6 hR eb
 go_enter Try.func47, Try.ntmps47
 go_wp2_with fail
 have K := AK (show SK v w w.heap.size (hpC A0 c0 A1 c1 A2 c2 A3 c3 G) (evC e A6 c6) (((w.alloc (.cells #[.slice A0 G.o.length c0, .slice A1 G.r.length c1, .slice A2 G.w.length c2, .slice A3 G.d.length c3] 28 (0, 0))).alloc (.cells #[.int .i64 e.f0, .int .i64 e.f1, .int .i64 e.f2, .int .i64 e.f3, .int .i64 e.f4.f0, .string e.f4.f1, .slice A6 e.f4.f2.length c6] 40 (0, 0))).alloc (.cells #[.slice none 0 0, .slice none 0 0, .slice none 0 0, .slice none 0 0] 28 (0, 0))) from K0.out)
 generalize (((w.alloc (.cells #[.slice A0 G.o.length c0, .slice A1 G.r.length c1, .slice A2 G.w.length c2, .slice A3 G.d.length c3] 28 (0, 0))).alloc (.cells #[.int .i64 e.f0, .int .i64 e.f1, .int .i64 e.f2, .int .i64 e.f3, .int .i64 e.f4.f0, .string e.f4.f1, .slice A6 e.f4.f2.length c6] 40 (0, 0))).alloc (.cells #[.slice none 0 0, .slice none 0 0, .slice none 0 0, .slice none 0 0] 28 (0, 0))) = w1 at K ⊢
 generalize w.heap.size = n at K ⊢
 clear K0
 refine (specOk_c (HI.out.below K.out.bw) (by have := HF.out.o; omega) HF.out.f (by have := HF.out.r; omega) (by have := HF.out.w; omega)).mono ?_
 rintro en w2 ⟨rfl, hb⟩
 rw [← EB.out]
 replace K := AK (K.out.below hb)
 clear hb
 cases b with
 | false =>
  have he : (R, s) = (hp0, sNo) := by rw [HR.out]; unfold stepB Hp.ok; rw [← EB.out]; rfl
  injection he with he1 he2
  subst he1 he2
  obtain ⟨z0, z1, z2, z3⟩ := K.out.oc
  have y0 := K.out.of 0
  have y1 := K.out.of 1
  have y2 := K.out.of 2
  have y3 := K.out.of 3
  go_wp2
  refine bodyPost_ret (results_ct rfl _ _ (n + 2) 28 #[.slice none 0 0, .slice none 0 0, .slice none 0 0, .slice none 0 0] (0, 0) _ rfl (set4_blk K.out.o) Try.underlying28 rfl (by kernel_rfl)) rfl ?_
  exact ⟨none, 0, none, 0, none, 0, none, 0, rfl, ⟨Kd.S_nil _ _ _ _ _, Kd.R_nil _ _ _ _ _, Kd.R_nil _ _ _ _ _, Kd.R_nil _ _ _ _ _⟩, set4_below K.out.b (by have := K.out.n0; omega)⟩
 | true =>
 have HK := AK (ok_parts EB.out.symm)
 have HST := AK (show (R, s) = if e.f0 = 7 ∨ toB G e = true then doB G e else (G, sNo) by rw [HR.out]; unfold stepB Hp.ok; rw [← EB.out]; rfl)
 clear HR
 obtain ⟨p0, p1, p2, p3⟩ := box4 K.out.h
 go_wp2_with fail
 clear p0 p1 p2 p3
 refine (l1Copy_calls _ _ _ _ _ _ _ _ _ _ _ _ _ (HI.out.below K.out.bw) (lim_ok HK.out)).mono ?_
 rintro en w3 ⟨B0, b0, B1, b1, B2, b2, B3, b3, rfl, hO, hb⟩
 have HO := AK (OwnH.lower hO K.out.b.size)
 replace K := AK (K.out.below hb)
 have HX := AK (blk_new w3 (.cells #[.slice B0 G.o.length b0, .slice B1 G.r.length b1, .slice B2 G.w.length b2, .slice B3 G.d.length b3] 28 (0, 0)))
 have HXB := AK (below_alloc (Below.refl w3.heap.size w3) (.cells #[.slice B0 G.o.length b0, .slice B1 G.r.length b1, .slice B2 G.w.length b2, .slice B3 G.d.length b3] 28 (0, 0)))
 have K4 := AK (K.out.below HXB.out)
 have HO4 := AK (HO.out.below HXB.out)
 clear hO hb K HO HXB
 have hwl := HK.out.r
 by_cases c7 : e.f0 = 7
 case pos =>
  have f7 : (e.f0 != 7) = false := bne_eq_false_iff_eq.mpr c7
  have HDO := AK (show (R, s) = doB G e by rw [HST.out, if_pos (.inl c7)])
  have HC7 := AK c7
  clear c7
  obtain ⟨q0, q1, q2, q3, q4, q5, q6⟩ := ec7 K4.out.e
  go_wp2_with fail
  clear q0 q1 q2 q3 q4 q5 q6 f7
  generalize (w3.alloc (.cells #[.slice B0 G.o.length b0, .slice B1 G.r.length b1, .slice B2 G.w.length b2, .slice B3 G.d.length b3] 28 (0, 0))) = w4 at K4 HX HO4 ⊢
  refine (l4Do_calls v w4 B0 B1 B2 B3 b0 b1 b2 b3 G e A6 c6 K4.out.b HO4.out HK.out (Kd.C_below HE0.out.1 K4.out.bw) HE0.out.2 HL6.out.1 HL6.out.2 (.inl HC7.out) R s HDO.out).mono ?_
  rintro en w6 ⟨D0, d0, D1, d1, D2, d2, D3, d3, rfl, hO6, hb6, hkp⟩
  have HZ := AK (show w6.heap[n + 2]? = some (.cells #[.slice none 0 0, .slice none 0 0, .slice none 0 0, .slice none 0 0] 28 (0, 0)) from hkp _ _ _ K4.out.o (by decide) (by decide) (by decide))
  have HN := AK K4.out.n0
  have HY := AK (below_alloc (Below.refl w6.heap.size w6) (.cells #[.slice D0 R.o.length d0, .slice D1 R.r.length d1, .slice D2 R.w.length d2, .slice D3 R.d.length d3] 28 (0, 0)))
  have HB7 := AK (bst hb6 HY.out)
  have HZ7 := AK (bbl HZ.out HY.out)
  have HI7 := AK (hO6.below HY.out).reads
  have HRK := AK (ok_parts (show okB R.o R.r R.w R.d = true by have h := do_ok (h := G) (EB.out.symm) e; rw [← HDO.out] at h; exact h))
  clear hO6 hb6 hkp K4 HO4 HX HZ HY
  go_wp2_with fail
  refine (l1Copy_calls _ _ _ _ _ _ _ _ _ _ _ _ _ HI7.out (lim_ok HRK.out)).mono ?_
  rintro en w8 ⟨F0, e0, F1, e1, F2, e2, F3, e3, rfl, hO8, hb8⟩
  have HZ8 := AK (bbl HZ7.out hb8)
  have HB8 := AK (bst HB7.out hb8)
  have HO8 := AK (OwnH.lower hO8 HB7.out.size)
  clear hO8 hb8
  obtain ⟨z0, z1, z2, z3⟩ := box4 HZ8.out
  have y0 := bfz HZ8.out 0
  have y1 := bfz HZ8.out 1
  have y2 := bfz HZ8.out 2
  have y3 := bfz HZ8.out 3
  go_wp2
  refine bodyPost_ret (results_ct rfl _ _ (n + 2) 28 #[.slice F0 R.o.length e0, .slice F1 R.r.length e1, .slice F2 R.w.length e2, .slice F3 R.d.length e3] (0, 0) _ rfl (set4_blk HZ8.out) Try.underlying28 rfl (by kernel_rfl)) rfl ?_
  exact ⟨F0, e0, F1, e1, F2, e2, F3, e3, rfl, HO8.out.set4 HZ8.out, set4_below HB8.out (by have := HN.out; omega)⟩
 have f7 : (e.f0 != 7) = true := bne_iff_ne.mpr c7
 have HC7 := AK c7
 clear c7
 obtain ⟨q0, q1, q2, q3, q4, q5, q6⟩ := ec7 K4.out.e
 obtain ⟨p0, p1, p2, p3⟩ := box4 K4.out.h
 have hwr : wrap64 ((G.r.length : Int) - 1) = (G.r.length : Int) - 1 := by unfold wrap64; omega
 go_wp2_with fail
 clear q0 q1 q2 q3 q4 q5 q6 p0 p1 p2 p3 f7 hwr
 generalize (w3.alloc (.cells #[.slice B0 G.o.length b0, .slice B1 G.r.length b1, .slice B2 G.w.length b2, .slice B3 G.d.length b3] 28 (0, 0))) = w4 at K4 HX HO4 ⊢
 generalize w3.heap.size = m at HX ⊢
 refine l1In_c.mono ?_
 rintro en w5 ⟨rfl, rfl⟩
 rw [show lB e.f1 0 ((G.r.length : Int) - 1) = toB G e by unfold lB toB; congr 1; exact decide_eq_decide.2 (by omega)]
 obtain ⟨b2_, eb2⟩ : ∃ b2_, b2_ = toB G e := ⟨_, rfl⟩
 have EB2 := AK eb2
 rw [← eb2]
 clear eb2
 cases b2_ with
 | false =>
  have he : (R, s) = (G, sNo) := by rw [HST.out]; exact if_neg (fun h => h.elim HC7.out (fun h => by rw [← EB2.out] at h; cases h))
  injection he with he1 he2
  subst he1 he2
  obtain ⟨z0, z1, z2, z3⟩ := K4.out.oc
  have y0 := K4.out.of 0
  have y1 := K4.out.of 1
  have y2 := K4.out.of 2
  have y3 := K4.out.of 3
  obtain ⟨x0, x1, x2, x3⟩ := box4 HX.out
  go_wp2
  refine bodyPost_ret (results_ct rfl _ _ (n + 2) 28 #[.slice B0 R.o.length b0, .slice B1 R.r.length b1, .slice B2 R.w.length b2, .slice B3 R.d.length b3] (0, 0) _ rfl (set4_blk K4.out.o) Try.underlying28 rfl (by kernel_rfl)) rfl ?_
  exact ⟨B0, b0, B1, b1, B2, b2, B3, b3, rfl, HO4.out.set4 K4.out.o, set4_below K4.out.b (by have := K4.out.n0; omega)⟩
 | true =>
  have HDO := AK (show (R, s) = doB G e by rw [HST.out, if_pos (.inr EB2.out.symm)])
  obtain ⟨q0, q1, q2, q3, q4, q5, q6⟩ := ec7 K4.out.e
  obtain ⟨x0, x1, x2, x3⟩ := box4 HX.out
  go_wp2_with fail
  clear q0 q1 q2 q3 q4 q5 q6 x0 x1 x2 x3
  refine (l4Do_calls v w5 B0 B1 B2 B3 b0 b1 b2 b3 G e A6 c6 K4.out.b HO4.out HK.out (Kd.C_below HE0.out.1 K4.out.bw) HE0.out.2 HL6.out.1 HL6.out.2 (.inr EB2.out.symm) R s HDO.out).mono ?_
  rintro en w6 ⟨D0, d0, D1, d1, D2, d2, D3, d3, rfl, hO6, hb6, hkp⟩
  have HZ := AK (show w6.heap[n + 2]? = some (.cells #[.slice none 0 0, .slice none 0 0, .slice none 0 0, .slice none 0 0] 28 (0, 0)) from hkp _ _ _ K4.out.o (by decide) (by decide) (by decide))
  have HN := AK K4.out.n0
  have HY := AK (below_alloc (Below.refl w6.heap.size w6) (.cells #[.slice D0 R.o.length d0, .slice D1 R.r.length d1, .slice D2 R.w.length d2, .slice D3 R.d.length d3] 28 (0, 0)))
  have HB7 := AK (bst hb6 HY.out)
  have HZ7 := AK (bbl HZ.out HY.out)
  have HI7 := AK (hO6.below HY.out).reads
  have HRK := AK (ok_parts (show okB R.o R.r R.w R.d = true by have h := do_ok (h := G) (EB.out.symm) e; rw [← HDO.out] at h; exact h))
  clear hO6 hb6 hkp K4 HO4 HX HZ HY
  go_wp2_with fail
  refine (l1Copy_calls _ _ _ _ _ _ _ _ _ _ _ _ _ HI7.out (lim_ok HRK.out)).mono ?_
  rintro en w8 ⟨F0, e0, F1, e1, F2, e2, F3, e3, rfl, hO8, hb8⟩
  have HZ8 := AK (bbl HZ7.out hb8)
  have HB8 := AK (bst HB7.out hb8)
  have HO8 := AK (OwnH.lower hO8 HB7.out.size)
  clear hO8 hb8
  obtain ⟨z0, z1, z2, z3⟩ := box4 HZ8.out
  have y0 := bfz HZ8.out 0
  have y1 := bfz HZ8.out 1
  have y2 := bfz HZ8.out 2
  have y3 := bfz HZ8.out 3
  go_wp2
  refine bodyPost_ret (results_ct rfl _ _ (n + 2) 28 #[.slice F0 R.o.length e0, .slice F1 R.r.length e1, .slice F2 R.w.length e2, .slice F3 R.d.length e3] (0, 0) _ rfl (set4_blk HZ8.out) Try.underlying28 rfl (by kernel_rfl)) rfl ?_
  exact ⟨F0, e0, F1, e1, F2, e2, F3, e3, rfl, HO8.out.set4 HZ8.out, set4_below HB8.out (by have := HN.out; omega)⟩
end Go.Proofs.Ytigjhfijkdlldaa.H
end
section
/- impl's small functions of a step, walked: what is known, what is a guardian, what is a part, what is seen. -/
namespace Go.Proofs.Ytigjhfijkdlldaa.H
open Go.RowKit Go.Proofs.YtigjhfijkdlldaaW.PrintWords Go.Proofs.YtigjhfijkdlldaaW.PrintLast Go.Proofs.YtigjhfijkdlldaaW.PrintMore Go.Proofs.Ytigjhfijkdlldaa.Q
set_option linter.unusedVariables false
set_option linter.unusedSimpArgs false
section
variable {w : World} {n m : Nat} {A0 A1 A2 A3 A6 : Option Addr} {c0 c1 c2 c3 c6 : Nat} {G : Hp} {e : S40}
theorem known_c {p : Int} (hb : w.heap[n]? = some (.cells (hpC A0 c0 A1 c1 A2 c2 A3 c3 G) 28 (0, 0))) (h : InH w A0 c0 A1 c1 A2 c2 A3 c3 G.o G.r G.w G.d) :
    Calls Try.prog 122 #[.int .i64 p, .pointer (some ⟨n, 0, none⟩)] w fun e w' => e = .returned (.int .i64 (knownL G.r p)) ∧ Drawn0 w w' := by
  obtain ⟨p0, p1, p2, p3⟩ := box4 hb
  have HI := AK h.r1
  clear h hb
  obtain ⟨r, er⟩ : ∃ r, r = knownL G.r p := ⟨_, rfl⟩
  rw [← er]
  by_cases a : p < 0
  case pos =>
    have a1 : decide (p < 0) = true := deT a
    have e : r = -1 := by rw [er]; unfold knownL; exact if_neg (by omega)
    subst e
    clear er a p0 p2 p3
    go_enter Try.func122, Try.ntmps122
    go_wp2
    go_ret
    exact ⟨rfl, Drawn0.refl _⟩
  have a1 : decide (p < 0) = false := deF a
  by_cases b : p < G.r.length
  case neg =>
    have b1 : decide ((G.r.length : Int) ≤ p) = true := deT (by omega)
    have e : r = -1 := by rw [er]; unfold knownL; exact if_neg (by omega)
    subst e
    clear er a p0 p2 p3 b
    go_enter Try.func122, Try.ntmps122
    go_wp2
    go_ret
    exact ⟨rfl, Drawn0.refl _⟩
  have b1 : decide ((G.r.length : Int) ≤ p) = false := deF (by omega)
  obtain ⟨ad, ea, hr⟩ := Kd.at_int HI.out p (by omega) (by exact b)
  subst ea
  have e : r = rd G.r p := by rw [er]; unfold knownL; exact if_pos ⟨by omega, b⟩
  rw [← e] at hr
  have h0 := eq_true (show 0 ≤ p by omega)
  have h1 := eq_true (show p < (G.r.length : Int) from b)
  clear er e a b p0 p2 p3
  go_enter Try.func122, Try.ntmps122
  go_wp2
  go_ret
  exact ⟨rfl, Drawn0.refl _⟩
theorem is_c {p : Int} (hb : w.heap[n]? = some (.cells (hpC A0 c0 A1 c1 A2 c2 A3 c3 G) 28 (0, 0))) (h : InH w A0 c0 A1 c1 A2 c2 A3 c3 G.o G.r G.w G.d) (hp : p < G.o.length) :
    Calls Try.prog 123 #[.int .i64 p, .int .i64 4, .pointer (some ⟨n, 0, none⟩)] w fun e w' => e = .returned (.bool (isGuard G p)) ∧ Drawn0 w w' := by
  obtain ⟨p0, p1, p2, p3⟩ := box4 hb
  have HI := AK h.r0
  clear h hb
  by_cases a : 0 ≤ p
  case neg =>
    have a1 : decide (0 ≤ p) = false := deF a
    rw [show isGuard G p = false by unfold isGuard; rw [a1]; rfl]
    clear a p1 p2 p3
    go_enter Try.func123, Try.ntmps123
    go_wp2
    go_ret
    exact ⟨rfl, Drawn0.refl _⟩
  have a1 : decide (0 ≤ p) = true := deT a
  obtain ⟨ad, Af, cf, ea, ha0, _, _, _, _⟩ := at_T38 HI.out p a hp
  subst ea
  have h0 := eq_true a
  have h1 := eq_true hp
  rw [show isGuard G p = ((rd_T38 G.o p).f0 == 4) by unfold isGuard; rw [a1, Bool.true_and]; exact Bool.eq_iff_iff.2 (by rw [decide_eq_true_eq, beq_iff_eq])]
  obtain ⟨k, ek⟩ : ∃ k, k = (rd_T38 G.o p).f0 := ⟨_, rfl⟩
  rw [← ek] at ha0 ⊢
  clear ek a hp p1 p2 p3
  go_enter Try.func123, Try.ntmps123
  go_wp2
  go_ret
  exact ⟨rfl, Drawn0.refl _⟩
def partB (G : Hp) (p a : Int) : Bool := decide (0 ≤ p) && (decide (0 ≤ a) && decide (a < (rd_T38 G.o p).f2.length))
theorem isPart_c {p : Int} (hb : w.heap[n]? = some (.cells (hpC A0 c0 A1 c1 A2 c2 A3 c3 G) 28 (0, 0))) (he : w.heap[m]? = some (.cells (evC e A6 c6) 40 (0, 0))) (h : InH w A0 c0 A1 c1 A2 c2 A3 c3 G.o G.r G.w G.d) (hp : p < G.o.length) :
    Calls Try.prog 124 #[.int .i64 p, .pointer (some ⟨m, 0, none⟩), .pointer (some ⟨n, 0, none⟩)] w fun en w' => en = .returned (.bool (partB G p e.f3)) ∧ Drawn0 w w' := by
  obtain ⟨p0, p1, p2, p3⟩ := box4 hb
  obtain ⟨q0, q1, q2, q3, q4, q5, q6⟩ := ec7 he
  have HI := AK h.r0
  clear h hb he p1 p2 p3 q0 q1 q2 q4 q5 q6
  by_cases a : 0 ≤ p
  case neg =>
    have a1 : decide (0 ≤ p) = false := deF a
    rw [show partB G p e.f3 = false by unfold partB; rw [a1]; rfl]
    clear a
    go_enter Try.func124, Try.ntmps124
    go_wp2
    go_quiet (fail)
    go_wp2
    go_ret
    exact ⟨rfl, Drawn0.step (Drawn0.refl _) _⟩
  have a1 : decide (0 ≤ p) = true := deT a
  by_cases b : 0 ≤ e.f3
  case neg =>
    have b1 : decide (0 ≤ e.f3) = false := deF b
    rw [show partB G p e.f3 = false by unfold partB; rw [b1]; simp]
    clear a b
    go_enter Try.func124, Try.ntmps124
    go_wp2
    go_quiet (fail)
    go_wp2
    go_ret
    exact ⟨rfl, Drawn0.step (Drawn0.refl _) _⟩
  have b1 : decide (0 ≤ e.f3) = true := deT b
  obtain ⟨ad, Af, cf, ea, _, _, ha2, _, _⟩ := at_T38 HI.out p a hp
  subst ea
  have h0 := eq_true a
  have h1 := eq_true hp
  rw [show partB G p e.f3 = decide (e.f3 < (rd_T38 G.o p).f2.length) by unfold partB; rw [a1, b1]; simp]
  obtain ⟨k, ek⟩ : ∃ k, k = (rd_T38 G.o p).f2.length := ⟨_, rfl⟩
  rw [← ek] at ha2 ⊢
  clear ek a b hp
  go_enter Try.func124, Try.ntmps124
  go_wp2
  go_quiet (fail)
  go_wp2
  go_ret
  exact ⟨rfl, Drawn0.step (Drawn0.refl _) _⟩
set_option maxRecDepth 100000 in
theorem seen_c {p : Int} (h : InH w A0 c0 A1 c1 A2 c2 A3 c3 G.o G.r G.w G.d) (hp : p < G.o.length) (hl : 0 ≤ p → (rd_T38 G.o p).f2.length ≤ 6) :
    Calls Try.prog 125 #[.agg #[.slice A0 G.o.length c0, .slice A1 G.r.length c1, .slice A2 G.w.length c2, .slice A3 G.d.length c3], .int .i64 p] w fun e w' => e = .returned (.string (seesB G.o p)) ∧ Below w.heap.size w w' := by
  have HI := AK h.r0
  clear h
  obtain ⟨r, er⟩ : ∃ r, r = seesB G.o p := ⟨_, rfl⟩
  rw [← er]
  by_cases a : p < 0
  case pos =>
    have a1 : decide (p < 0) = true := deT a
    have e : r = sNone := by rw [er]; unfold seesB; exact if_pos a
    subst e
    clear er a hl hp
    go_enter Try.func125, Try.ntmps125
    go_wp2
    go_ret
    exact ⟨rfl, below_alloc (Below.refl _ _) _⟩
  have a1 : decide (p < 0) = false := deF a
  obtain ⟨ad, Af, cf, ea, ha0, ha1, ha2, _, _⟩ := at_T38 HI.out p (by omega) hp
  subst ea
  have h0 := eq_true (show 0 ≤ p by omega)
  have h1 := eq_true hp
  have h6 := hl (by omega)
  have es : r = if (rd_T38 G.o p).f0 = 1 then (rd_T38 G.o p).f1 else if (rd_T38 G.o p).f0 = 2 then sCell ++ strOfNums [48 + ((rd_T38 G.o p).f2.length : Int)] else if (rd_T38 G.o p).f0 = 3 then sWeak else sGuard := by rw [er]; unfold seesB; exact if_neg a
  obtain ⟨z, ez⟩ : ∃ z, z = rd_T38 G.o p := ⟨_, rfl⟩
  rw [← ez] at ha0 ha1 ha2 es h6
  obtain ⟨k, hk⟩ : ∃ k, k = z.f2.length := ⟨_, rfl⟩
  rw [← hk] at ha2 es h6
  clear hk
  have hb := below_alloc (Below.refl w.heap.size w) (.cells #[.slice (some ad) G.o.length c0, .slice A1 G.r.length c1, .slice A2 G.w.length c2, .slice A3 G.d.length c3] 28 (0, 0))
  have HB := AK hb
  have HX := AK (blk_new w (.cells #[.slice (some ad) G.o.length c0, .slice A1 G.r.length c1, .slice A2 G.w.length c2, .slice A3 G.d.length c3] 28 (0, 0)))
  replace ha0 := pcb hb ha0
  replace ha1 := pcb hb ha1
  replace ha2 := pcb hb ha2
  clear ez er a hl hp HI hb
  go_enter Try.func125, Try.ntmps125
  go_upto_region 3 with fail
  generalize (w.alloc (.cells #[.slice (some ad) G.o.length c0, .slice A1 G.r.length c1, .slice A2 G.w.length c2, .slice A3 G.d.length c3] 28 (0, 0))) = w1 at HB HX ha0 ha1 ha2 ⊢
  have hx := (box4 HX.out).1
  clear HX
  by_cases k1 : z.f0 = 1
  case pos =>
    have f1 : (z.f0 == 1) = true := beq_iff_eq.mpr k1
    rw [if_pos k1] at es
    subst es
    clear k1 h6
    go_wp2
    go_ret
    exact ⟨rfl, below_alloc HB.out _⟩
  have f1 : (z.f0 == 1) = false := beq_eq_false_iff_ne.mpr k1
  rw [if_neg k1] at es
  clear k1
  by_cases k2 : z.f0 = 2
  case pos =>
    have f2 : (z.f0 == 2) = true := beq_iff_eq.mpr k2
    rw [if_pos k2] at es
    clear k2
    have hk : k = 0 ∨ k = 1 ∨ k = 2 ∨ k = 3 ∨ k = 4 ∨ k = 5 ∨ k = 6 := by omega
    clear h6
    rcases hk with rfl | rfl | rfl | rfl | rfl | rfl | rfl
    all_goals (subst es; go_wp2; go_ret; exact ⟨rfl, below_alloc HB.out _⟩)
  have f2 : (z.f0 == 2) = false := beq_eq_false_iff_ne.mpr k2
  rw [if_neg k2] at es
  clear k2 h6
  by_cases k3 : z.f0 = 3
  case pos =>
    have f3 : (z.f0 == 3) = true := beq_iff_eq.mpr k3
    rw [if_pos k3] at es
    subst es
    clear k3
    go_wp2
    go_ret
    exact ⟨rfl, below_alloc HB.out _⟩
  have f3 : (z.f0 == 3) = false := beq_eq_false_iff_ne.mpr k3
  rw [if_neg k3] at es
  subst es
  clear k3
  go_wp2
  go_ret
  exact ⟨rfl, below_alloc HB.out _⟩
end
end Go.Proofs.Ytigjhfijkdlldaa.H
end
section
/- What a guardian was told of, cut and appended to itself: the row behind it may be a cut of the old one. -/
namespace Go.Proofs.Ytigjhfijkdlldaa.H
open Go.RowKit Go.Proofs.YtigjhfijkdlldaaW.PrintWords Go.Proofs.YtigjhfijkdlldaaW.PrintLast Go.Proofs.YtigjhfijkdlldaaW.PrintMore Go.Proofs.Ytigjhfijkdlldaa.Q
set_option linter.unusedVariables false
/-- s[:j:j] -/
theorem cut_hm {P : Program} (t e : TypeId) (kh : IntKind) {i : TypeInfo} (ht : P.underlying t = some (.slice e)) (hi : P.info? e = some i) (A : Option Addr) (n c : Nat) (j : Int) (h0 : 0 ≤ j) (hm : j ≤ c) :
    ∀ W : World, (Instr.slice t (.slice A n c) none (some (.int kh j)) (some (.int kh j))).run P W = .ok (.slice A j.toNat j.toNat) W := by
  intro W
  have hel : P.elem t = e := by simp [Program.elem, ht]
  have hu : P.underlying t = some (.slice (P.elem t)) := by rw [hel]; exact ht
  have ha : (A.map fun x => x.add 0) = A := by cases A <;> simp [Addr.add]
  rw [run_slice_hm W t A n c hu kh kh j j h0 (by omega) (by omega), hel]
  simp [sizeOf, typeInfo, hi, sliced, Result.andThen, ha]
/-- xs, full, with ys behind it: either ys is empty and nothing was made, or a new row. -/
def FullR (W : World) (A : Option Addr) (i : Nat) (xs ys : List S60) (v1 : Value) (w1 : World) : Prop :=
  Below W.heap.size W w1 ∧ ∃ B d, v1 = .slice B (xs ++ ys).length d ∧ ((ys = [] ∧ w1 = W ∧ B = A ∧ d = i) ∨ Kd.R k60 60 w1 W.heap.size (fun _ => True) (.slice B (xs ++ ys).length d) (xs ++ ys))
section
variable {P : Program} {ops : Array Oper} {o : Oper} {a : Act} {Q : Exit → Act → World → Prop} {Kc : Act → World → Prop}
theorem app_full_step {W : World} (hw : Region.wanted o (yielded ops a.tmps) = true) (s x : Operand)
    (ho : o.op = .call { callee := .builtin .append, args := #[s, x], argTypes := #[26, 26] }) (ht : P.underlying 26 = some (.slice 60)) (hinfo : (P.info? 60).map (fun i => (i.zero, i.size, i.bytes)) = some (some (.agg #[.int .i64 0, .int .i64 0]), 2, 16))
    (A : Addr) (i : Nat) (xs : List S60) (hs : a.eval s = .slice (some A) i i) (HX : Kd.C k60 W (some A) i xs) (B : Option Addr) (m c : Nat) (ys : List S60) (hx : a.eval x = .slice B m c) (HY : Kd.C k60 W B m ys) (hl : i + m ≤ 1000)
    (h : ∀ v1 w1, FullR W (some A) i xs ys v1 w1 → Kc (a.put o.dst v1) w1) : if Region.wanted o (yielded ops a.tmps) = true then Oper.wp P o a W Kc Q else Kc (a.put o.dst undef) W := by
  obtain ⟨i0, hi, hzz⟩ := Option.map_eq_some_iff.1 hinfo
  simp only [Prod.mk.injEq] at hzz
  obtain ⟨hz0, hz1, hz2⟩ := hzz
  have hxl : xs.length = i := HX.1
  have hyl : ys.length = m := HY.1
  have hrun : ∃ v1 w1, (Builtin.append_ #[26, 26] o.type #[.slice (some A) i i, .slice B m c]).run P W = .ok v1 w1 ∧ FullR W (some A) i xs ys v1 w1 := by
    by_cases h0 : m = 0
    · subst h0
      obtain rfl : ys = [] := List.eq_nil_of_length_eq_zero hyl
      refine ⟨.slice (some A) i i, W, ?_, Below.refl _ _, some A, i, by rw [List.append_nil, hxl], .inl ⟨rfl, rfl, rfl, rfl⟩⟩
      rcases B with _ | B <;> simp [Builtin.append_, run_underlying ht, sizeOf, typeInfo, hi, Builtin.lenOf, Builtin.firstCells, storeCells, loadCells, loadCellsFrom]
    · obtain ⟨ad, e, _⟩ := HY.2.2 (by omega)
      subst e
      obtain ⟨olds, hor, hoc⟩ := ReadsRow.inner_ HX
      obtain ⟨news, hnr, hnc⟩ := ReadsRow.inner_ HY
      obtain ⟨v1, w1, hr, hown, hg⟩ := run_append_arg_grows (P := P) W 26 o.type 60 i0 _ 2 16 ht hi hz0 hz1 hz2 (by decide) (by decide) A i i olds (by rw [hor.1, hxl]; rfl) hoc ad m c news (by rw [hnr.1, hyl]; rfl) hnc (by omega) (by simp only [maxLen]; omega) (by omega)
      have hb : Below W.heap.size W w1 := (Below.refl W.heap.size W).grown hg (Nat.le_refl _) (fun k hk => by cases hk)
      have hR : Kd.R k60 60 w1 W.heap.size (fun _ => True) v1 (xs ++ ys) := ⟨fun _ _ => trivial, olds ++ news, by rw [List.length_append, hxl, hyl]; exact hown, Kd.reps_append (hor.imp_ (fun _ _ h => h)) (hnr.imp_ (fun _ _ h => h))⟩
      obtain ⟨B', d, e⟩ := Kd.R_slice hR
      subst e
      exact ⟨_, w1, hr, hb, B', d, rfl, .inr hR⟩
  obtain ⟨v1, w1, hr1, hF⟩ := hrun
  rw [if_pos hw]
  unfold Oper.wp execOp
  simp only [ho, resolve, invoke, builtin, Sem.run_bind, Sem.run_pure, Result.andThen_ok, List.map_toArray, List.map_cons, List.map_nil, hs, hx, hr1]
  exact h v1 w1 hF
end
/-- A step under way whose told list may be a cut of its row (x3: the row's own room). -/
structure WKX (v : World) (n : Nat) (A0 : Option Addr) (c0 : Nat) (A1 : Option Addr) (c1 : Nat) (A2 : Option Addr) (c2 : Nat) (A3 : Option Addr) (c3 x3 : Nat) (G : Hp) (e : S40) (A6 : Option Addr) (c6 : Nat) (w' : World) : Prop where
  b : Below v.heap.size v w'
  n0 : v.heap.size ≤ n
  h : w'.heap[n]? = some (.cells (hpC A0 c0 A1 c1 A2 c2 A3 c3 G) 28 (0, 0))
  e : w'.heap[n + 1]? = some (.cells (evC e A6 c6) 40 (0, 0))
  o : w'.heap[n + 2]? = some (.cells nilC 28 (0, 0))
  ow : OwnG w' v.heap.size A0 c0 A1 c1 A2 c2 A3 x3 G
  k : G.d.length ≤ c3
section
variable {v w0 w w1 : World} {n : Nat} {A0 A1 A2 A3 A6 : Option Addr} {c0 c1 c2 c3 c6 x3 : Nat} {G : Hp} {e : S40}
theorem WKX.below (h : WKX v n A0 c0 A1 c1 A2 c2 A3 c3 x3 G e A6 c6 w) (hb : Below w.heap.size w w1) : WKX v n A0 c0 A1 c1 A2 c2 A3 c3 x3 G e A6 c6 w1 :=
  ⟨bst h.b hb, h.n0, bbl h.h hb, bbl h.e hb, bbl h.o hb, h.ow.below hb, h.k⟩
theorem WKX.reads (h : WKX v n A0 c0 A1 c1 A2 c2 A3 c3 x3 G e A6 c6 w) : InH w A0 c0 A1 c1 A2 c2 A3 c3 G.o G.r G.w G.d :=
  have r := h.ow.reads
  ⟨r.r0, r.r1, r.r2, r.r3, r.k0, r.k1, r.k2, h.k⟩
theorem WKX.hc (h : WKX v n A0 c0 A1 c1 A2 c2 A3 c3 x3 G e A6 c6 w) : w.cell? ⟨n, 0, none⟩ = some (.slice A0 G.o.length c0) ∧ w.cell? ⟨n, 1, none⟩ = some (.slice A1 G.r.length c1) ∧ w.cell? ⟨n, 2, none⟩ = some (.slice A2 G.w.length c2) ∧ w.cell? ⟨n, 3, none⟩ = some (.slice A3 G.d.length c3) := box4 h.h
theorem WKX.ec (h : WKX v n A0 c0 A1 c1 A2 c2 A3 c3 x3 G e A6 c6 w) : w.cell? ⟨n + 1, 0, none⟩ = some (.int .i64 e.f0) ∧ w.cell? ⟨n + 1, 1, none⟩ = some (.int .i64 e.f1) ∧ w.cell? ⟨n + 1, 2, none⟩ = some (.int .i64 e.f2) ∧ w.cell? ⟨n + 1, 3, none⟩ = some (.int .i64 e.f3) ∧ w.cell? ⟨n + 1, 4, none⟩ = some (.int .i64 e.f4.f0) ∧ w.cell? ⟨n + 1, 5, none⟩ = some (.string e.f4.f1) ∧ w.cell? ⟨n + 1, 6, none⟩ = some (.slice A6 e.f4.f2.length c6) := ec7 h.e
theorem WKX.oc (h : WKX v n A0 c0 A1 c1 A2 c2 A3 c3 x3 G e A6 c6 w) : w.cell? ⟨n + 2, 0, none⟩ = some (.slice none 0 0) ∧ w.cell? ⟨n + 2, 1, none⟩ = some (.slice none 0 0) ∧ w.cell? ⟨n + 2, 2, none⟩ = some (.slice none 0 0) ∧ w.cell? ⟨n + 2, 3, none⟩ = some (.slice none 0 0) := box4 h.o
theorem WKX.of (h : WKX v n A0 c0 A1 c1 A2 c2 A3 c3 x3 G e A6 c6 w) (j : Nat) : w.frozen? ⟨n + 2, j, none⟩ = false := bfz h.o j
theorem WKX.fin (h : WKX v n A0 c0 A1 c1 A2 c2 A3 c3 x3 G e A6 c6 w) {p q r s : Value} : OwnG (H.set4 w (n + 2) p q r s) v.heap.size A0 c0 A1 c1 A2 c2 A3 x3 G ∧ Below v.heap.size v (H.set4 w (n + 2) p q r s) ∧ (H.set4 w (n + 2) p q r s).heap[n + 2]? = some (.cells #[p, q, r, s] 28 (0, 0)) :=
  ⟨h.ow.set4 h.o, set4_below h.b (by have := h.n0; omega), set4_blk h.o⟩
/-- What is left of the told list is laid into the heap's box. -/
theorem WK.cutD {A : Addr} (K : WK v w0 n A0 c0 A1 c1 A2 c2 (some A) c3 G e A6 c6 w) {i : Nat} {D : List S60} {B : Option Addr} {d : Nat} {xs ys : List S60} (hD : D = xs ++ ys) (hxs : xs = G.d.take i) (hi : i ≤ G.d.length) (hF : FullR w (some A) i xs ys (.slice B D.length d) w1) :
    ∃ x3, WKX v n A0 c0 A1 c1 A2 c2 B d x3 ⟨G.o, G.r, G.w, D⟩ e A6 c6 (w1.setCell ⟨n, 3, none⟩ (.slice B D.length d)) := by
  obtain ⟨hb, B', d', e1, h2⟩ := hF
  rw [← hD] at e1 h2
  injection e1 with e1 _ e3
  subst e1 e3
  rcases h2 with ⟨rfl, rfl, rfl, rfl⟩ | hR
  · rw [List.append_nil] at hD
    subst hxs hD
    have hl : (G.d.take d).length = d := by rw [List.length_take]; omega
    refine ⟨c3, below_set K.b K.n0, K.n0, blk_put K.h 3 _ rfl, blk_far K.e (p := ⟨n, 3, none⟩) (by show n + 1 ≠ n; omega) _, blk_far K.o (p := ⟨n, 3, none⟩) (by show n + 2 ≠ n; omega) _, ?_, by show (G.d.take d).length ≤ d; omega⟩
    have s3 := Kd.R_take (m := d) K.own.s3 hi
    exact ⟨Kd.S_set K.own.s0 K.h (k38_ap 28 (by decide) (by decide)) 3 _, Kd.R_set K.own.s1 K.h (int_ap 28 (by decide)) 3 _, Kd.R_set K.own.s2 K.h (k60_ap 28 (by decide)) 3 _, by
      show Kd.R k60 60 _ _ _ (.slice _ (G.d.take d).length _) _
      rw [hl]; exact Kd.R_set s3 K.h (k60_ap 28 (by decide)) 3 _⟩
  · have K2 := K.newD hb hR
    exact ⟨d, K2.b, K2.n0, K2.h, K2.e, K2.o, K2.own, K2.own.reads.k3⟩
end
end Go.Proofs.Ytigjhfijkdlldaa.H
end
