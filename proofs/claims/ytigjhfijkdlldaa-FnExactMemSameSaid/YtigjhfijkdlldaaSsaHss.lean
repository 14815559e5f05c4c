/- spec.MemSame, walked. Condition: the heaps are of a size that a law lets in. -/
import Derived.Test.YtigjhfijkdlldaaSsaHsm
import Derived.Test.YtigjhfijkdlldaaSsaC
namespace Go.Proofs.Ytigjhfijkdlldaa.H
open Go.RowKit Go.Proofs.YtigjhfijkdlldaaW.PrintWords Go.Proofs.YtigjhfijkdlldaaW.PrintLast Go.Proofs.YtigjhfijkdlldaaW.PrintMore Go.Proofs.Ytigjhfijkdlldaa.Q
set_option linter.unusedVariables false
set_option linter.unusedSimpArgs false
theorem l2Reach_c {w : World} {A0 A1 A2 A3 : Option Addr} {c0 c1 c2 c3 : Nat} {l0 : List S38} {l1 : List Int} {l2 l3 : List S60} (h : InH w A0 c0 A1 c1 A2 c2 A3 c3 l0 l1 l2 l3) (hk : OkH l0 l1 l2 l3) :
    Calls Try.prog 86 #[.agg #[.slice A0 l0.length c0, .slice A1 l1.length c1, .slice A2 l2.length c2, .slice A3 l3.length c3]] w fun e w' =>
      ∃ v : Value, e = .returned v ∧ Kd.R (Kd.int .i64) 3 w' w.heap.size (fun _ => True) v (reachL l0 l1 l3) ∧ Below w.heap.size w w' := by
  obtain ⟨k, hk⟩ := (l2Reach_f hk).rounds
  exact spec_l2Reach.calls k A0 c0 l0 A1 c1 l1 A2 c2 l2 A3 c3 l3 _ w h.r0 h.k0 h.r1 h.k1 h.r2 h.k2 h.r3 h.k3 hk
theorem l2Where_c {w : World} {A : Option Addr} {c : Nat} {l : List Int} (h : Kd.C (Kd.int .i64) w A l.length l) (hc : l.length ≤ c) (p : Int) :
    Calls Try.prog 89 #[.slice A l.length c, .int .i64 p] w fun e w' => e = .returned (.int .i64 (wh l p)) ∧ Drawn0 w w' :=
  spec_l2Where.calls (l.length + 1) A c l p _ w h hc (l2Where_k l p (C_max h) _ (by omega))
theorem l2Alike_c {w : World} {A B C D : Option Addr} {c d e f : Nat} {o u : S38} {x y : List Int} (ha : Kd.C (Kd.int .i64) w A o.f2.length o.f2) (hc : o.f2.length ≤ c) (hb : Kd.C (Kd.int .i64) w B u.f2.length u.f2) (hd : u.f2.length ≤ d)
    (hx : Kd.C (Kd.int .i64) w C x.length x) (he : x.length ≤ e) (hy : Kd.C (Kd.int .i64) w D y.length y) (hf : y.length ≤ f) :
    Calls Try.prog 90 #[.agg #[.int .i64 o.f0, .string o.f1, .slice A o.f2.length c], .agg #[.int .i64 u.f0, .string u.f1, .slice B u.f2.length d], .slice C x.length e, .slice D y.length f] w fun e w' => e = .returned (.bool (alikeB x y o u)) ∧ Below w.heap.size w w' := by
  obtain ⟨k, hk⟩ := (l2Alike_f x y (C_max hx) (C_max hy) o u (C_max ha)).rounds
  exact spec_l2Alike.calls k o.f0 o.f1 A c o.f2 u.f0 u.f1 B d u.f2 C e x D f y _ w ha hc hb hd hx he hy hf hk
theorem l2Watches_c {w : World} {A B : Option Addr} {c d : Nat} {l : List S60} {x : List Int} (ha : Kd.C k60 w A l.length l) (hc : l.length ≤ c) (hb : Kd.C (Kd.int .i64) w B x.length x) (hd : x.length ≤ d) (hl : (l.length : Int) ≤ 1048576) :
    Calls Try.prog 92 #[.slice A l.length c, .slice B x.length d] w fun e w' => ∃ v : Value, e = .returned v ∧ Kd.R k60 60 w' w.heap.size (fun _ => True) v (seenW x l) ∧ Below w.heap.size w w' := by
  obtain ⟨k, hk⟩ := (l2Watches_f x (C_max hb) l (by omega)).rounds
  exact spec_l2Watches.calls k A c l B d x _ w ha hc hb hd hk
theorem l2SameWatches_c {w : World} {A B : Option Addr} {c d : Nat} {l m : List S60} (ha : Kd.C k60 w A l.length l) (hc : l.length ≤ c) (hb : Kd.C k60 w B m.length m) (hd : m.length ≤ d) :
    Calls Try.prog 91 #[.slice A l.length c, .slice B m.length d] w fun e w' => e = .returned (.bool (sameW l m)) ∧ Drawn0 w w' := by
  obtain ⟨k, hk⟩ := (l2SameWatches_f l m (C_max ha)).rounds
  exact spec_l2SameWatches.calls k A c l B d m _ w ha hc hb hd hk
theorem ssame10_tab : rtab .any (opsOf Try.f33 10) = (true, [([], []), ([], []), ([1], [1]), ([], []), ([2, 3], [2, 3]), ([4], [4]), ([0, 5], [0, 5]), ([], []), ([], []), ([8], [8]), ([], []), ([9, 10], [9, 10]), ([11], [11]), ([7, 12, 6], [7, 12]), ([6, 13], [6, 13])]) := by kernel_rfl
theorem ssame10_bits : waitsOk [([], []), ([], []), ([1], [1]), ([], []), ([2, 3], [2, 3]), ([4], [4]), ([0, 5], [0, 5]), ([], []), ([], []), ([8], [8]), ([], []), ([9, 10], [9, 10]), ([11], [11]), ([7, 12, 6], [7, 12]), ([6, 13], [6, 13])] [0, 0, 2, 0, 14, 30, 63, 0, 0, 256, 0, 1792, 3840, 8191, 16383] = true := by kernel_rfl
theorem ssame15_tab : rtab .any (opsOf Try.f33 15) = (true, [([], []), ([0], [0]), ([], []), ([], []), ([2, 3], [2, 3]), ([4], [4]), ([1, 5], [1, 5]), ([6], [6]), ([], []), ([8], [8]), ([], []), ([], []), ([10, 11], [10, 11]), ([12], [12]), ([9, 13], [9, 13]), ([14], [14]), ([], []), ([], []), ([7, 15, 16, 17], [7, 15, 16, 17]), ([18], [18])]) := by kernel_rfl
theorem ssame15_bits : waitsOk [([], []), ([0], [0]), ([], []), ([], []), ([2, 3], [2, 3]), ([4], [4]), ([1, 5], [1, 5]), ([6], [6]), ([], []), ([8], [8]), ([], []), ([], []), ([10, 11], [10, 11]), ([12], [12]), ([9, 13], [9, 13]), ([14], [14]), ([], []), ([], []), ([7, 15, 16, 17], [7, 15, 16, 17]), ([18], [18])] [0, 1, 0, 0, 12, 28, 63, 127, 0, 256, 0, 0, 3072, 7168, 16128, 32512, 0, 0, 262143, 524287] = true := by kernel_rfl
theorem ssame17_tab : rtab .any (opsOf Try.f33 17) = (true, [([], []), ([0], [0]), ([], []), ([1, 2], [1, 2]), ([], []), ([4], [4]), ([], []), ([5, 6, 3], [5, 6]), ([3, 7, 7], [3, 7]), ([8, 8], [8]), ([9], [9]), ([10, 9], [9, 10]), ([9], [9]), ([11, 12, 9, 9], [9, 11, 12]), ([9], [9]), ([14, 9], [9, 14]), ([9], [9]), ([15, 16, 13, 9], [9, 15, 16]), ([13, 17, 17, 9], [9, 13, 17]), ([9, 18], [9, 18]), ([19, 18, 0, 1, 2, 3, 4, 5, 6, 7, 8, 9, 10, 11, 12, 13, 14, 15, 16, 17, 18, 19], [19])]) := by kernel_rfl
theorem ssame17_bits : waitsOk [([], []), ([0], [0]), ([], []), ([1, 2], [1, 2]), ([], []), ([4], [4]), ([], []), ([5, 6, 3], [5, 6]), ([3, 7, 7], [3, 7]), ([8, 8], [8]), ([9], [9]), ([10, 9], [9, 10]), ([9], [9]), ([11, 12, 9, 9], [9, 11, 12]), ([9], [9]), ([14, 9], [9, 14]), ([9], [9]), ([15, 16, 13, 9], [9, 15, 16]), ([13, 17, 17, 9], [9, 13, 17]), ([9, 18], [9, 18]), ([19, 18, 0, 1, 2, 3, 4, 5, 6, 7, 8, 9, 10, 11, 12, 13, 14, 15, 16, 17, 18, 19], [19])] [0, 1, 0, 7, 0, 16, 0, 127, 255, 511, 1023, 2047, 1023, 8191, 1023, 17407, 1023, 131071, 262143, 524287, 1048575] = true := by kernel_rfl
set_option maxHeartbeats 4000000 in
set_option maxRecDepth 100000 in
theorem specSame_calls (A0 A1 A2 A3 B0 B1 B2 B3 : Option Addr) (c0 c1 c2 c3 d0 d1 d2 d3 : Nat) (l0 : List S38) (l1 : List Int) (l2 l3 : List S60) (m0 : List S38) (m1 : List Int) (m2 m3 : List S60) (w : World)
    (h : InH w A0 c0 A1 c1 A2 c2 A3 c3 l0 l1 l2 l3) (h' : InH w B0 d0 B1 d1 B2 d2 B3 d3 m0 m1 m2 m3) (hf : Fine l0 l1 l2 l3) (hf' : Fine m0 m1 m2 m3) :
    Calls Try.prog 33 #[.agg #[.slice A0 l0.length c0, .slice A1 l1.length c1, .slice A2 l2.length c2, .slice A3 l3.length c3], .agg #[.slice B0 m0.length d0, .slice B1 m1.length d1, .slice B2 m2.length d2, .slice B3 m3.length d3]] w
      fun e w' => e = .returned (.bool (sameB l0 l1 l2 l3 m0 m1 m2 m3)) ∧ Below w.heap.size w w' := by
  have HI0 := Aside0.mk h
  have HJ0 := Aside0.mk h'
  have HW1 := Aside0.mk (show Below w.heap.size w ((w.alloc (.cells #[.slice A0 l0.length c0, .slice A1 l1.length c1, .slice A2 l2.length c2, .slice A3 l3.length c3] 28 (0, 0))).alloc (.cells #[.slice B0 m0.length d0, .slice B1 m1.length d1, .slice B2 m2.length d2, .slice B3 m3.length d3] 28 (0, 0))) ∧ ((w.alloc (.cells #[.slice A0 l0.length c0, .slice A1 l1.length c1, .slice A2 l2.length c2, .slice A3 l3.length c3] 28 (0, 0))).alloc (.cells #[.slice B0 m0.length d0, .slice B1 m1.length d1, .slice B2 m2.length d2, .slice B3 m3.length d3] 28 (0, 0))).heap[w.heap.size]? = some (.cells #[.slice A0 l0.length c0, .slice A1 l1.length c1, .slice A2 l2.length c2, .slice A3 l3.length c3] 28 (0, 0)) ∧ ((w.alloc (.cells #[.slice A0 l0.length c0, .slice A1 l1.length c1, .slice A2 l2.length c2, .slice A3 l3.length c3] 28 (0, 0))).alloc (.cells #[.slice B0 m0.length d0, .slice B1 m1.length d1, .slice B2 m2.length d2, .slice B3 m3.length d3] 28 (0, 0))).heap[w.heap.size + 1]? = some (.cells #[.slice B0 m0.length d0, .slice B1 m1.length d1, .slice B2 m2.length d2, .slice B3 m3.length d3] 28 (0, 0)) from ⟨below_alloc (below_alloc (Below.refl w.heap.size w) _) _, blk_alloc (blk_new w _) _, blk_new2 w _ _⟩)
  have HF := Aside0.mk hf
  have HG := Aside0.mk hf'
  obtain ⟨r, er⟩ : ∃ r, r = sameB l0 l1 l2 l3 m0 m1 m2 m3 := ⟨_, rfl⟩
  obtain ⟨bA, ea⟩ : ∃ b, b = okB l0 l1 l2 l3 := ⟨_, rfl⟩
  obtain ⟨bB, eb⟩ : ∃ b, b = okB m0 m1 m2 m3 := ⟨_, rfl⟩
  rw [← er]
  have ER := Aside0.mk er
  have EA := Aside0.mk ea
  have EB := Aside0.mk eb
  clear h h' hf hf' er ea eb
  go_enter Try.func33, Try.ntmps33
  go_wp2_with fail
  generalize ((w.alloc (.cells #[.slice A0 l0.length c0, .slice A1 l1.length c1, .slice A2 l2.length c2, .slice A3 l3.length c3] 28 (0, 0))).alloc (.cells #[.slice B0 m0.length d0, .slice B1 m1.length d1, .slice B2 m2.length d2, .slice B3 m3.length d3] 28 (0, 0))) = w1 at HW1 ⊢
  have HB := Aside0.mk (Below.refl w1.heap.size w1)
  refine (specOk_c (HI0.out.below HW1.out.1) (by have := HF.out.o; omega) HF.out.f (by have := HF.out.r; omega) (by have := HF.out.w; omega)).mono ?_
  rintro e w2 ⟨rfl, hb⟩
  rw [← EA.out]
  replace HB := Aside0.mk (below_step HB.out hb)
  clear hb
  cases bA with
  | false =>
    have e0 : r = false := by rw [ER.out]; unfold sameB; rw [← EA.out]; rfl
    subst e0
    go_wp2
    go_ret
    exact ⟨rfl, below_step HW1.out.1 HB.out⟩
  | true =>
  obtain ⟨p0, p1, p2, p3⟩ := box4 (blk_below HW1.out.2.2 HB.out)
  go_wp2_with fail
  clear p0 p1 p2 p3
  refine (specOk_c (HJ0.out.below (below_step HW1.out.1 HB.out)) (by have := HG.out.o; omega) HG.out.f (by have := HG.out.r; omega) (by have := HG.out.w; omega)).mono ?_
  rintro e w3 ⟨rfl, hb⟩
  rw [← EB.out]
  replace HB := Aside0.mk (below_step HB.out hb)
  clear hb
  obtain ⟨p0, p1, p2, p3⟩ := box4 (blk_below HW1.out.2.1 HB.out)
  obtain ⟨q0, q1, q2, q3⟩ := box4 (blk_below HW1.out.2.2 HB.out)
  cases bB with
  | false =>
    have e0 : r = false := by rw [ER.out]; unfold sameB; rw [← EA.out, ← EB.out]; rfl
    subst e0
    clear p0 p1 p2 p3 q0 q1 q2 q3
    go_wp2
    go_ret
    exact ⟨rfl, below_step HW1.out.1 HB.out⟩
  | true =>
  by_cases hrl : l1.length = m1.length
  case neg =>
    have ccl : ((l1.length : Int) != m1.length) = true := by simp; omega
    have e0 : r = false := by rw [ER.out]; unfold sameB; rw [← EA.out, ← EB.out, decide_eq_false hrl]; rfl
    subst e0
    clear hrl
    go_wp2
    go_ret
    exact ⟨rfl, below_step HW1.out.1 HB.out⟩
  have ccl : ((l1.length : Int) != m1.length) = false := by simp [hrl]
  have HRL := Aside0.mk hrl
  have HKA := Aside0.mk (ok_parts EA.out.symm)
  have HKB := Aside0.mk (ok_parts EB.out.symm)
  obtain ⟨x, ex⟩ : ∃ x, x = reachL l0 l1 l3 := ⟨_, rfl⟩
  obtain ⟨y, ey⟩ : ∃ y, y = reachL m0 m1 m3 := ⟨_, rfl⟩
  have ER1 := Aside0.mk (show r = sameC l0 l1 l2 l3 m0 m1 m2 m3 x y by rw [ER.out, ex, ey]; unfold sameB; rw [← EA.out, ← EB.out, decide_eq_true hrl]; rfl)
  have HGX := Aside0.mk (show GoodL l0.length x by rw [ex]; exact reach_good HKA.out)
  have HGY := Aside0.mk (show GoodL m0.length y by rw [ey]; exact reach_good HKB.out)
  have EX := Aside0.mk ex
  have EY := Aside0.mk ey
  clear hrl ex ey
  go_wp2_with fail
  clear p0 p1 p2 p3 q0 q1 q2 q3
  refine (l2Reach_c (HI0.out.below (below_step HW1.out.1 HB.out)) HKA.out).mono ?_
  rintro e w4 ⟨v, rfl, hr, hb⟩
  rw [← EX.out] at hr
  obtain ⟨Ax, cx, ev⟩ := Kd.R_slice hr
  subst ev
  have HX := Aside0.mk (Kd.R_lower hr (below_step HW1.out.1 HB.out).size)
  replace HB := Aside0.mk (below_step HB.out hb)
  clear hr hb
  obtain ⟨q0, q1, q2, q3⟩ := box4 (blk_below HW1.out.2.2 HB.out)
  go_wp2_with fail
  clear q0 q1 q2 q3
  refine (l2Reach_c (HJ0.out.below (below_step HW1.out.1 HB.out)) HKB.out).mono ?_
  rintro e w5 ⟨v, rfl, hr, hb⟩
  rw [← EY.out] at hr
  obtain ⟨Ay, cy, ev⟩ := Kd.R_slice hr
  subst ev
  have HS9 := Aside0.mk (SF.mk (below_step HW1.out.1 (below_step HB.out hb)) (blk_below HW1.out.2.1 (below_step HB.out hb)) (blk_below HW1.out.2.2 (below_step HB.out hb)) (Kd.R_below HX.out hb) (Kd.R_lower hr (below_step HW1.out.1 HB.out).size))
  clear hr hb HX HB HW1
  by_cases hxy : x.length = y.length
  case neg =>
    have cxy : ((x.length : Int) != y.length) = true := by simp; omega
    have e0 : r = false := by rw [ER1.out]; unfold sameC; rw [decide_eq_false hxy]; rfl
    subst e0
    clear hxy
    go_wp2
    go_ret
    exact ⟨rfl, HS9.out.b⟩
  have cxy : ((x.length : Int) != y.length) = false := by simp [hxy]
  have HXY := Aside0.mk hxy
  clear hxy
  obtain ⟨s2, es2⟩ : ∃ b, b = sameW (seenW x l2) (seenW y m2) := ⟨_, rfl⟩
  obtain ⟨s3, es3⟩ : ∃ b, b = sameW (seenW x l3) (seenW y m3) := ⟨_, rfl⟩
  obtain ⟨ob, eob⟩ : ∃ b, b = objsB l0 m0 x y := ⟨_, rfl⟩
  have ER2 := Aside0.mk (show r = (cmp2 (whB x y) (l1.drop (0 : Int).toNat) (m1.drop (0 : Int).toNat) && (ob && (s2 && s3))) by
    rw [ER1.out, eob, es2, es3]; unfold sameC; rw [decide_eq_true HXY.out]; rfl)
  have EOB := Aside0.mk eob
  have ES2 := Aside0.mk es2
  have ES3 := Aside0.mk es3
  clear es2 es3 eob
  go_wp2
  have HB := Aside0.mk (Below.refl w5.heap.size w5)
  go_loopg [7] l1.length (fun kq v7 w' => ∃ i : Int, v7 = .int .i64 i ∧ Aside0 (0 ≤ i ∧ i + kq = l1.length) ∧ Aside0 (r = (cmp2 (whB x y) (l1.drop i.toNat) (m1.drop i.toNat) && (ob && (s2 && s3)))) ∧ Aside0 (Below w5.heap.size w5 w'))
  case atStart => exact ⟨0, rfl, ⟨by omega, by omega⟩, ER2, HB⟩
  case round =>
    clear HB ER2
    obtain ⟨i, rfl, HI, ER4, HB⟩ := hrel
    obtain ⟨p0, p1, p2, p3⟩ := box4 (blk_below HS9.out.xa HB.out)
    cases gk with
    | succ k1 =>
      have c58 : decide (i < (l1.length : Int)) = true := decide_eq_true (by have := HI.out; omega)
      have hi0 := eq_true (show 0 ≤ i by have := HI.out; omega)
      have hi1 := eq_true (show i < (l1.length : Int) by have := HI.out; omega)
      have hi2 := eq_true (show i < (m1.length : Int) by have := HI.out; have := HRL.out; omega)
      have hr := ER4.out
      rw [cmp2_at _ l1 m1 0 0 i (by have := HI.out; omega) (by have := HI.out; omega) (by have := HI.out; have := HRL.out; omega)] at hr
      obtain ⟨adx, ex, hx0⟩ := Kd.at_int (HI0.out.below HS9.out.b).r1 i (by have := HI.out; omega) (by have := HI.out; omega)
      obtain ⟨ady, ey, hy0⟩ := Kd.at_int (HJ0.out.below HS9.out.b).r1 i (by have := HI.out; omega) (by have := HI.out; have := HRL.out; omega)
      subst ex
      subst ey
      obtain ⟨p, ep⟩ : ∃ p, p = rd l1 i := ⟨_, rfl⟩
      obtain ⟨q, eq⟩ : ∃ q, q = rd m1 i := ⟨_, rfl⟩
      rw [← ep] at hx0
      rw [← eq] at hy0
      have ER5 := Aside0.mk (show r = ((whB x y p q && cmp2 (whB x y) (l1.drop (i + 1).toNat) (m1.drop (i + 1).toNat)) && (ob && (s2 && s3))) by rw [hr, ep, eq]; rfl)
      have CS := Aside0.mk (And.intro (box4 HS9.out.xa).2.1 (And.intro (box4 HS9.out.xb).2.1 (And.intro hx0 hy0)))
      clear ER4 hr ep eq hx0 hy0
      go_wp2_with fail
      clear p0 p1 p2 p3
      replace HB := Aside0.mk (below_drew HB.out)
      refine start_ (n := 15) (S := (fun w' => w'.cell? ⟨w.heap.size, 1, none⟩ = some (.slice (some adx) l1.length c1) ∧ w'.cell? ⟨w.heap.size + 1, 1, none⟩ = some (.slice (some ady) m1.length d1) ∧ w'.cell? (adx.add i.toNat) = some (.int .i64 p) ∧ w'.cell? (ady.add i.toNat) = some (.int .i64 q))) (ds := []) #[false, false, false, false, false, false, false, false, false, false, false, false, false, false, false] (by kernel_rfl) rfl rfl ⟨pw_cell_below HB.out CS.out.1, pw_cell_below HB.out CS.out.2.1, pw_cell_below HB.out CS.out.2.2.1, pw_cell_below HB.out CS.out.2.2.2⟩ (fun hHeld => ?_); refine with_tabW ssame10_tab ssame10_bits (fun HT_ HW_ => ?_)
      generalize wr.drew = w10 at HB hHeld ⊢
      refine pure_ (i := 0) (N := some 42) (v := ?_) (a' := ?_) #[true, false, false, false, false, false, false, false, false, false, false, false, false, false, false] rfl rfl (any_of HT_.out (by kernel_rfl)) (fun _ _ _ h => h) (Or.inl ⟨by rfl, ?_⟩) ?_ ?_
      rotate_left
      · intro w'
        go_simp
        with_reducible rfl
      rotate_left
      · simp only [Act.put, List.setIfInBounds_toArray, List.set_cons_zero, List.set_cons_succ, i64_w, i32_w]
        rfl
      refine pure_ (i := 1) (N := some 43) (v := ?_) (a' := ?_) #[true, true, false, false, false, false, false, false, false, false, false, false, false, false, false] rfl rfl (any_of HT_.out (by kernel_rfl)) (fun _ _ _ h => h) (Or.inl ⟨by rfl, ?_⟩) ?_ ?_
      rotate_left
      · intro w'
        go_simp
        with_reducible rfl
      rotate_left
      · simp only [Act.put, List.setIfInBounds_toArray, List.set_cons_zero, List.set_cons_succ, i64_w, i32_w]
        rfl
      refine take_ (i := 2) (N := some 44) (v := ?_) (a' := ?_) #[true, true, true, false, false, false, false, false, false, false, false, false, false, false, false] rfl rfl (take_ofW HT_.out HW_.out (by kernel_rfl)) (fun _ _ _ h => h) (Or.inl ⟨by rfl, ?_⟩) hHeld ?_ ?_
      rotate_left
      · rintro w' ⟨s0, s1, s2', s3'⟩
        go_simp
        with_reducible rfl
      rotate_left
      · simp only [Act.put, List.setIfInBounds_toArray, List.set_cons_zero, List.set_cons_succ, i64_w, i32_w]
        rfl
      refine pure_ (i := 3) (N := some 45) (v := ?_) (a' := ?_) #[true, true, true, true, false, false, false, false, false, false, false, false, false, false, false] rfl rfl (any_of HT_.out (by kernel_rfl)) (fun _ _ _ h => h) (Or.inl ⟨by rfl, ?_⟩) ?_ ?_
      rotate_left
      · intro w'
        go_simp
        with_reducible rfl
      rotate_left
      · simp only [Act.put, List.setIfInBounds_toArray, List.set_cons_zero, List.set_cons_succ, i64_w, i32_w]
        rfl
      refine pure_ (i := 4) (N := some 46) (v := ?_) (a' := ?_) #[true, true, true, true, true, false, false, false, false, false, false, false, false, false, false] rfl rfl (any_of HT_.out (by kernel_rfl)) (fun _ _ _ h => h) (Or.inl ⟨by rfl, ?_⟩) ?_ ?_
      rotate_left
      · intro w'
        go_simp
        with_reducible rfl
      rotate_left
      · simp only [Act.put, List.setIfInBounds_toArray, List.set_cons_zero, List.set_cons_succ, i64_w, i32_w]
        rfl
      refine take_ (i := 5) (N := some 47) (v := ?_) (a' := ?_) #[true, true, true, true, true, true, false, false, false, false, false, false, false, false, false] rfl rfl (take_ofW HT_.out HW_.out (by kernel_rfl)) (fun _ _ _ h => h) (Or.inl ⟨by rfl, ?_⟩) hHeld ?_ ?_
      rotate_left
      · rintro w' ⟨s0, s1, s2', s3'⟩
        go_simp
        with_reducible rfl
      rotate_left
      · simp only [Act.put, List.setIfInBounds_toArray, List.set_cons_zero, List.set_cons_succ, i64_w, i32_w]
        rfl
      refine pure_ (i := 7) (N := some 49) (v := ?_) (a' := ?_) #[true, true, true, true, true, true, false, true, false, false, false, false, false, false, false] rfl rfl (any_of HT_.out (by kernel_rfl)) (fun _ _ _ h => h) (Or.inl ⟨by rfl, ?_⟩) ?_ ?_
      rotate_left
      · intro w'
        go_simp
        with_reducible rfl
      rotate_left
      · simp only [Act.put, List.setIfInBounds_toArray, List.set_cons_zero, List.set_cons_succ, i64_w, i32_w]
        rfl
      refine pure_ (i := 8) (N := some 50) (v := ?_) (a' := ?_) #[true, true, true, true, true, true, false, true, true, false, false, false, false, false, false] rfl rfl (any_of HT_.out (by kernel_rfl)) (fun _ _ _ h => h) (Or.inl ⟨by rfl, ?_⟩) ?_ ?_
      rotate_left
      · intro w'
        go_simp
        with_reducible rfl
      rotate_left
      · simp only [Act.put, List.setIfInBounds_toArray, List.set_cons_zero, List.set_cons_succ, i64_w, i32_w]
        rfl
      refine take_ (i := 9) (N := some 51) (v := ?_) (a' := ?_) #[true, true, true, true, true, true, false, true, true, true, false, false, false, false, false] rfl rfl (take_ofW HT_.out HW_.out (by kernel_rfl)) (fun _ _ _ h => h) (Or.inl ⟨by rfl, ?_⟩) hHeld ?_ ?_
      rotate_left
      · rintro w' ⟨s0, s1, s2', s3'⟩
        go_simp
        with_reducible rfl
      rotate_left
      · simp only [Act.put, List.setIfInBounds_toArray, List.set_cons_zero, List.set_cons_succ, i64_w, i32_w]
        rfl
      refine pure_ (i := 10) (N := some 52) (v := ?_) (a' := ?_) #[true, true, true, true, true, true, false, true, true, true, true, false, false, false, false] rfl rfl (any_of HT_.out (by kernel_rfl)) (fun _ _ _ h => h) (Or.inl ⟨by rfl, ?_⟩) ?_ ?_
      rotate_left
      · intro w'
        go_simp
        with_reducible rfl
      rotate_left
      · simp only [Act.put, List.setIfInBounds_toArray, List.set_cons_zero, List.set_cons_succ, i64_w, i32_w]
        rfl
      refine pure_ (i := 11) (N := some 53) (v := ?_) (a' := ?_) #[true, true, true, true, true, true, false, true, true, true, true, true, false, false, false] rfl rfl (any_of HT_.out (by kernel_rfl)) (fun _ _ _ h => h) (Or.inl ⟨by rfl, ?_⟩) ?_ ?_
      rotate_left
      · intro w'
        go_simp
        with_reducible rfl
      rotate_left
      · simp only [Act.put, List.setIfInBounds_toArray, List.set_cons_zero, List.set_cons_succ, i64_w, i32_w]
        rfl
      refine take_ (i := 12) (N := some 54) (v := ?_) (a' := ?_) #[true, true, true, true, true, true, false, true, true, true, true, true, true, false, false] rfl rfl (take_ofW HT_.out HW_.out (by kernel_rfl)) (fun _ _ _ h => h) (Or.inl ⟨by rfl, ?_⟩) hHeld ?_ ?_
      rotate_left
      · rintro w' ⟨s0, s1, s2', s3'⟩
        go_simp
        with_reducible rfl
      rotate_left
      · simp only [Act.put, List.setIfInBounds_toArray, List.set_cons_zero, List.set_cons_succ, i64_w, i32_w]
        rfl
      refine one_ (i := 6) (N := some 48) #[true, true, true, true, true, true, true, true, true, true, true, true, true, false, false] rfl rfl (one_of HT_.out (by kernel_rfl)) (by decide) (fun K hK => ?_)
      refine goes_ Try.func89 (by kernel_rfl) rfl #[.slice Ax x.length cx, .int .i64 p] (by rfl) rfl rfl (by (try simp only [List.map_toArray, List.map_cons, List.map_nil]); first | done | rfl) ?_
      refine (l2Where_c (Kd.R_reads' (Kd.R_below HS9.out.x HB.out)).2.2 (Kd.R_reads' HS9.out.x).2.1 p).mono ?_
      rintro e v6 ⟨rfl, hd⟩
      refine ⟨_, rfl, ?_⟩
      replace HB := Aside0.mk (below_step HB.out hd.below)
      clear hd
      refine hK.out _ _ ⟨pw_cell_below HB.out CS.out.1, pw_cell_below HB.out CS.out.2.1, pw_cell_below HB.out CS.out.2.2.1, pw_cell_below HB.out CS.out.2.2.2⟩ (fun hHeld => ?_)
      clear hK K
      refine norm_ (a' := ?_) ?_ ?_
      rotate_left
      · show Act.put _ (some 48) _ = _
        simp only [Act.put, List.setIfInBounds_toArray, List.set_cons_zero, List.set_cons_succ, i64_w, i32_w]
        rfl
      refine one_ (i := 13) (N := some 55) #[true, true, true, true, true, true, true, true, true, true, true, true, true, true, false] rfl rfl (one_of HT_.out (by kernel_rfl)) (by decide) (fun K hK => ?_)
      refine goes_ Try.func89 (by kernel_rfl) rfl #[.slice Ay y.length cy, .int .i64 q] (by rfl) rfl rfl (by (try simp only [List.map_toArray, List.map_cons, List.map_nil]); first | done | rfl) ?_
      refine (l2Where_c (Kd.R_reads' (Kd.R_below HS9.out.y HB.out)).2.2 (Kd.R_reads' HS9.out.y).2.1 q).mono ?_
      rintro e v13 ⟨rfl, hd⟩
      refine ⟨_, rfl, ?_⟩
      replace HB := Aside0.mk (below_step HB.out hd.below)
      clear hd
      refine hK.out _ _ ⟨pw_cell_below HB.out CS.out.1, pw_cell_below HB.out CS.out.2.1, pw_cell_below HB.out CS.out.2.2.1, pw_cell_below HB.out CS.out.2.2.2⟩ (fun hHeld => ?_)
      clear hK K
      refine norm_ (a' := ?_) ?_ ?_
      rotate_left
      · show Act.put _ (some 55) _ = _
        simp only [Act.put, List.setIfInBounds_toArray, List.set_cons_zero, List.set_cons_succ, i64_w, i32_w]
        rfl
      refine pure_ (i := 14) (N := some 56) (v := ?_) (a' := ?_) #[true, true, true, true, true, true, true, true, true, true, true, true, true, true, true] rfl rfl (any_of HT_.out (by kernel_rfl)) (fun _ _ _ h => h) (Or.inl ⟨by rfl, ?_⟩) ?_ ?_
      rotate_left
      · intro w'
        go_simp
        with_reducible rfl
      rotate_left
      · simp only [Act.put, List.setIfInBounds_toArray, List.set_cons_zero, List.set_cons_succ, i64_w, i32_w]
        rfl
      refine done_ (done_of HT_.out (by kernel_rfl)) ?_
      clear HT_ HW_ hHeld
      have HBW := Aside0.mk (below_step HS9.out.b HB.out)
      by_cases hk : wh x p = wh y q
      · have ck : (wh x p != wh y q) = false := by simp [hk]
        have ER6 := Aside0.mk (show r = (cmp2 (whB x y) (l1.drop (i + 1).toNat) (m1.drop (i + 1).toNat) && (ob && (s2 && s3))) by rw [ER5.out]; unfold whB; rw [beq_iff_eq.2 hk]; rfl)
        clear hk
        go_wp2
        go_roundg k1
        case measure => omega
        case rel =>
          have h1 := HI.out
          have h3 := HKA.out.r
          rw [wrap_succ i (by omega) (by omega)]
          exact ⟨i + 1, rfl, ⟨by omega, by omega⟩, ER6, HB⟩
      · have ck : (wh x p != wh y q) = true := by simp [hk]
        have e0 : r = false := by rw [ER5.out]; unfold whB; rw [beq_eq_false_iff_ne.2 hk]; rfl
        subst e0
        clear hk
        go_wp2
        go_ret
        exact ⟨rfl, HBW.out⟩
    | zero =>
      have c58 : decide (i < (l1.length : Int)) = false := decide_eq_false (by have := HI.out; omega)
      have ER3 := Aside0.mk (show r = (cmp2 (fun p q => alikeB x y (rd_T38 l0 p) (rd_T38 m0 q)) (x.drop (0 : Int).toNat) (y.drop (0 : Int).toNat) && (s2 && s3)) by rw [ER4.out, cmp2_end _ _ _ _ (by have := HI.out; omega), EOB.out]; rfl)
      clear HI ER4
      go_wp2
      clear p0 p1 p2 p3
      go_loopg [8] x.length (fun kq v8 w' => ∃ i : Int, v8 = .int .i64 i ∧ Aside0 (0 ≤ i ∧ i + kq = x.length) ∧ Aside0 (r = (cmp2 (fun p q => alikeB x y (rd_T38 l0 p) (rd_T38 m0 q)) (x.drop i.toNat) (y.drop i.toNat) && (s2 && s3))) ∧ Aside0 (Below w5.heap.size w5 w'))
      case atStart => exact ⟨0, rfl, ⟨by omega, by omega⟩, ER3, HB⟩
      case round =>
        clear HB ER3
        obtain ⟨i, rfl, HI, ER4, HB⟩ := hrel
        cases gk with
        | succ k1 =>
          have c58 : decide (i < (x.length : Int)) = true := decide_eq_true (by have := HI.out; omega)
          have hi0 := eq_true (show 0 ≤ i by have := HI.out; omega)
          have hi1 := eq_true (show i < (x.length : Int) by have := HI.out; omega)
          have hi2 := eq_true (show i < (y.length : Int) by have := HI.out; have := HXY.out; omega)
          have hr := ER4.out
          rw [cmp2_at _ x y 0 0 i (by have := HI.out; omega) (by have := HI.out; omega) (by have := HI.out; have := HXY.out; omega)] at hr
          have hgp := HGX.out.2 _ (getD_mem x 0 i (by have := HI.out; omega) (by have := HI.out; omega))
          have hgq := HGY.out.2 _ (getD_mem y 0 i (by have := HI.out; omega) (by have := HI.out; have := HXY.out; omega))
          obtain ⟨adx, ex, hx0⟩ := Kd.at_int (Kd.R_reads' HS9.out.x).2.2 i (by have := HI.out; omega) (by have := HI.out; omega)
          obtain ⟨ady, ey, hy0⟩ := Kd.at_int (Kd.R_reads' HS9.out.y).2.2 i (by have := HI.out; omega) (by have := HI.out; have := HXY.out; omega)
          subst ex
          subst ey
          obtain ⟨p, ep⟩ : ∃ p, p = rd x i := ⟨_, rfl⟩
          obtain ⟨q, eq⟩ : ∃ q, q = rd y i := ⟨_, rfl⟩
          replace hgp : 0 ≤ p ∧ p < l0.length := by rw [ep]; exact hgp
          replace hgq : 0 ≤ q ∧ q < m0.length := by rw [eq]; exact hgq
          rw [← ep] at hx0
          rw [← eq] at hy0
          obtain ⟨o, eo⟩ : ∃ o, o = rd_T38 l0 p := ⟨_, rfl⟩
          obtain ⟨u, eu⟩ : ∃ u, u = rd_T38 m0 q := ⟨_, rfl⟩
          obtain ⟨al, eal⟩ : ∃ b, b = alikeB x y o u := ⟨_, rfl⟩
          have EAL := Aside0.mk eal
          have ER5 := Aside0.mk (show r = ((al && cmp2 (fun p q => alikeB x y (rd_T38 l0 p) (rd_T38 m0 q)) (x.drop (i + 1).toNat) (y.drop (i + 1).toNat)) && (s2 && s3)) by rw [hr, eal, eo, eu, ep, eq]; rfl)
          obtain ⟨ad0, Ao, co, e, ha0, ha1, ha2, hal, hag⟩ := at_T38 (HI0.out.below HS9.out.b).r0 p hgp.1 hgp.2
          subst e
          obtain ⟨bd0, Au, cu, e, hb0, hb1, hb2, hbl, hbg⟩ := at_T38 (HJ0.out.below HS9.out.b).r0 q hgq.1 hgq.2
          subst e
          rw [← eo] at ha0 ha1 ha2 hal hag
          rw [← eu] at hb0 hb1 hb2 hbl hbg
          have HO := Aside0.mk (And.intro hag hal)
          have HU := Aside0.mk (And.intro hbg hbl)
          have hp0 := eq_true hgp.1
          have hp1 := eq_true hgp.2
          have hq0 := eq_true hgq.1
          have hq1 := eq_true hgq.2
          have CS := Aside0.mk (And.intro (box4 HS9.out.xa).1 (And.intro (box4 HS9.out.xb).1 (And.intro hx0 (And.intro hy0 (And.intro ha0 (And.intro ha1 (And.intro ha2 (And.intro hb0 (And.intro hb1 hb2)))))))))
          clear ER4 hr hgp hgq ep eq eo eu eal hx0 hy0 ha0 ha1 ha2 hal hag hb0 hb1 hb2 hbl hbg
          go_wp2_with fail
          replace HB := Aside0.mk (below_drew HB.out)
          refine start_ (n := 20) (S := (fun w' => w'.cell? ⟨w.heap.size, 0, none⟩ = some (.slice (some ad0) l0.length c0) ∧ w'.cell? ⟨w.heap.size + 1, 0, none⟩ = some (.slice (some bd0) m0.length d0) ∧ w'.cell? (adx.add i.toNat) = some (.int .i64 p) ∧ w'.cell? (ady.add i.toNat) = some (.int .i64 q) ∧ w'.cell? (ad0.add (p.toNat * 3)) = some (.int .i64 o.f0) ∧ w'.cell? ⟨(ad0.add (p.toNat * 3)).block, (ad0.add (p.toNat * 3)).off + 1, none⟩ = some (.string o.f1) ∧ w'.cell? ⟨(ad0.add (p.toNat * 3)).block, (ad0.add (p.toNat * 3)).off + 2, none⟩ = some (.slice Ao o.f2.length co) ∧ w'.cell? (bd0.add (q.toNat * 3)) = some (.int .i64 u.f0) ∧ w'.cell? ⟨(bd0.add (q.toNat * 3)).block, (bd0.add (q.toNat * 3)).off + 1, none⟩ = some (.string u.f1) ∧ w'.cell? ⟨(bd0.add (q.toNat * 3)).block, (bd0.add (q.toNat * 3)).off + 2, none⟩ = some (.slice Au u.f2.length cu))) (ds := []) #[false, false, false, false, false, false, false, false, false, false, false, false, false, false, false, false, false, false, false, false] (by kernel_rfl) rfl rfl ⟨pw_cell_below HB.out CS.out.1, pw_cell_below HB.out CS.out.2.1, pw_cell_below HB.out CS.out.2.2.1, pw_cell_below HB.out CS.out.2.2.2.1, pw_cell_below HB.out CS.out.2.2.2.2.1, pw_cell_below HB.out CS.out.2.2.2.2.2.1, pw_cell_below HB.out CS.out.2.2.2.2.2.2.1, pw_cell_below HB.out CS.out.2.2.2.2.2.2.2.1, pw_cell_below HB.out CS.out.2.2.2.2.2.2.2.2.1, pw_cell_below HB.out CS.out.2.2.2.2.2.2.2.2.2⟩ (fun hHeld => ?_); refine with_tabW ssame15_tab ssame15_bits (fun HT_ HW_ => ?_)
          generalize wr.drew = w10 at HB hHeld ⊢
          refine pure_ (i := 0) (N := some 63) (v := ?_) (a' := ?_) #[true, false, false, false, false, false, false, false, false, false, false, false, false, false, false, false, false, false, false, false] rfl rfl (any_of HT_.out (by kernel_rfl)) (fun _ _ _ h => h) (Or.inl ⟨by rfl, ?_⟩) ?_ ?_
          rotate_left
          · intro w'
            go_simp
            with_reducible rfl
          rotate_left
          · simp only [Act.put, List.setIfInBounds_toArray, List.set_cons_zero, List.set_cons_succ, i64_w, i32_w]
            rfl
          refine take_ (i := 1) (N := some 64) (v := ?_) (a' := ?_) #[true, true, false, false, false, false, false, false, false, false, false, false, false, false, false, false, false, false, false, false] rfl rfl (take_ofW HT_.out HW_.out (by kernel_rfl)) (fun _ _ _ h => h) (Or.inl ⟨by rfl, ?_⟩) hHeld ?_ ?_
          rotate_left
          · rintro w' ⟨s0, s1, s2', s3', s4, s5, s6, s7, s8, s9⟩
            go_simp
            with_reducible rfl
          rotate_left
          · simp only [Act.put, List.setIfInBounds_toArray, List.set_cons_zero, List.set_cons_succ, i64_w, i32_w]
            rfl
          refine pure_ (i := 2) (N := some 65) (v := ?_) (a' := ?_) #[true, true, true, false, false, false, false, false, false, false, false, false, false, false, false, false, false, false, false, false] rfl rfl (any_of HT_.out (by kernel_rfl)) (fun _ _ _ h => h) (Or.inl ⟨by rfl, ?_⟩) ?_ ?_
          rotate_left
          · intro w'
            go_simp
            with_reducible rfl
          rotate_left
          · simp only [Act.put, List.setIfInBounds_toArray, List.set_cons_zero, List.set_cons_succ, i64_w, i32_w]
            rfl
          refine pure_ (i := 3) (N := some 66) (v := ?_) (a' := ?_) #[true, true, true, true, false, false, false, false, false, false, false, false, false, false, false, false, false, false, false, false] rfl rfl (any_of HT_.out (by kernel_rfl)) (fun _ _ _ h => h) (Or.inl ⟨by rfl, ?_⟩) ?_ ?_
          rotate_left
          · intro w'
            go_simp
            with_reducible rfl
          rotate_left
          · simp only [Act.put, List.setIfInBounds_toArray, List.set_cons_zero, List.set_cons_succ, i64_w, i32_w]
            rfl
          refine pure_ (i := 4) (N := some 67) (v := ?_) (a' := ?_) #[true, true, true, true, true, false, false, false, false, false, false, false, false, false, false, false, false, false, false, false] rfl rfl (any_of HT_.out (by kernel_rfl)) (fun _ _ _ h => h) (Or.inl ⟨by rfl, ?_⟩) ?_ ?_
          rotate_left
          · intro w'
            go_simp
            with_reducible rfl
          rotate_left
          · simp only [Act.put, List.setIfInBounds_toArray, List.set_cons_zero, List.set_cons_succ, i64_w, i32_w]
            rfl
          refine take_ (i := 5) (N := some 68) (v := ?_) (a' := ?_) #[true, true, true, true, true, true, false, false, false, false, false, false, false, false, false, false, false, false, false, false] rfl rfl (take_ofW HT_.out HW_.out (by kernel_rfl)) (fun _ _ _ h => h) (Or.inl ⟨by rfl, ?_⟩) hHeld ?_ ?_
          rotate_left
          · rintro w' ⟨s0, s1, s2', s3', s4, s5, s6, s7, s8, s9⟩
            go_simp
            with_reducible rfl
          rotate_left
          · simp only [Act.put, List.setIfInBounds_toArray, List.set_cons_zero, List.set_cons_succ, i64_w, i32_w]
            rfl
          refine pure_ (i := 6) (N := some 69) (v := ?_) (a' := ?_) #[true, true, true, true, true, true, true, false, false, false, false, false, false, false, false, false, false, false, false, false] rfl rfl (any_of HT_.out (by kernel_rfl)) (fun _ _ _ h => h) (Or.inl ⟨by rfl, ?_⟩) ?_ ?_
          rotate_left
          · intro w'
            go_simp
            with_reducible rfl
          rotate_left
          · simp only [Act.put, List.setIfInBounds_toArray, List.set_cons_zero, List.set_cons_succ, i64_w, i32_w]
            rfl
          refine take_ (i := 7) (N := some 70) (v := ?_) (a' := ?_) #[true, true, true, true, true, true, true, true, false, false, false, false, false, false, false, false, false, false, false, false] rfl rfl (take_ofW HT_.out HW_.out (by kernel_rfl)) (fun _ _ _ h => h) (Or.inl ⟨by rfl, ?_⟩) hHeld ?_ ?_
          rotate_left
          · rintro w' ⟨s0, s1, s2', s3', s4, s5, s6, s7, s8, s9⟩
            go_simp
            with_reducible rfl
          rotate_left
          · simp only [Act.put, List.setIfInBounds_toArray, List.set_cons_zero, List.set_cons_succ, i64_w, i32_w]
            rfl
          refine pure_ (i := 8) (N := some 71) (v := ?_) (a' := ?_) #[true, true, true, true, true, true, true, true, true, false, false, false, false, false, false, false, false, false, false, false] rfl rfl (any_of HT_.out (by kernel_rfl)) (fun _ _ _ h => h) (Or.inl ⟨by rfl, ?_⟩) ?_ ?_
          rotate_left
          · intro w'
            go_simp
            with_reducible rfl
          rotate_left
          · simp only [Act.put, List.setIfInBounds_toArray, List.set_cons_zero, List.set_cons_succ, i64_w, i32_w]
            rfl
          refine take_ (i := 9) (N := some 72) (v := ?_) (a' := ?_) #[true, true, true, true, true, true, true, true, true, true, false, false, false, false, false, false, false, false, false, false] rfl rfl (take_ofW HT_.out HW_.out (by kernel_rfl)) (fun _ _ _ h => h) (Or.inl ⟨by rfl, ?_⟩) hHeld ?_ ?_
          rotate_left
          · rintro w' ⟨s0, s1, s2', s3', s4, s5, s6, s7, s8, s9⟩
            go_simp
            with_reducible rfl
          rotate_left
          · simp only [Act.put, List.setIfInBounds_toArray, List.set_cons_zero, List.set_cons_succ, i64_w, i32_w]
            rfl
          refine pure_ (i := 10) (N := some 73) (v := ?_) (a' := ?_) #[true, true, true, true, true, true, true, true, true, true, true, false, false, false, false, false, false, false, false, false] rfl rfl (any_of HT_.out (by kernel_rfl)) (fun _ _ _ h => h) (Or.inl ⟨by rfl, ?_⟩) ?_ ?_
          rotate_left
          · intro w'
            go_simp
            with_reducible rfl
          rotate_left
          · simp only [Act.put, List.setIfInBounds_toArray, List.set_cons_zero, List.set_cons_succ, i64_w, i32_w]
            rfl
          refine pure_ (i := 11) (N := some 74) (v := ?_) (a' := ?_) #[true, true, true, true, true, true, true, true, true, true, true, true, false, false, false, false, false, false, false, false] rfl rfl (any_of HT_.out (by kernel_rfl)) (fun _ _ _ h => h) (Or.inl ⟨by rfl, ?_⟩) ?_ ?_
          rotate_left
          · intro w'
            go_simp
            with_reducible rfl
          rotate_left
          · simp only [Act.put, List.setIfInBounds_toArray, List.set_cons_zero, List.set_cons_succ, i64_w, i32_w]
            rfl
          refine pure_ (i := 12) (N := some 75) (v := ?_) (a' := ?_) #[true, true, true, true, true, true, true, true, true, true, true, true, true, false, false, false, false, false, false, false] rfl rfl (any_of HT_.out (by kernel_rfl)) (fun _ _ _ h => h) (Or.inl ⟨by rfl, ?_⟩) ?_ ?_
          rotate_left
          · intro w'
            go_simp
            with_reducible rfl
          rotate_left
          · simp only [Act.put, List.setIfInBounds_toArray, List.set_cons_zero, List.set_cons_succ, i64_w, i32_w]
            rfl
          refine take_ (i := 13) (N := some 76) (v := ?_) (a' := ?_) #[true, true, true, true, true, true, true, true, true, true, true, true, true, true, false, false, false, false, false, false] rfl rfl (take_ofW HT_.out HW_.out (by kernel_rfl)) (fun _ _ _ h => h) (Or.inl ⟨by rfl, ?_⟩) hHeld ?_ ?_
          rotate_left
          · rintro w' ⟨s0, s1, s2', s3', s4, s5, s6, s7, s8, s9⟩
            go_simp
            with_reducible rfl
          rotate_left
          · simp only [Act.put, List.setIfInBounds_toArray, List.set_cons_zero, List.set_cons_succ, i64_w, i32_w]
            rfl
          refine pure_ (i := 14) (N := some 77) (v := ?_) (a' := ?_) #[true, true, true, true, true, true, true, true, true, true, true, true, true, true, true, false, false, false, false, false] rfl rfl (any_of HT_.out (by kernel_rfl)) (fun _ _ _ h => h) (Or.inl ⟨by rfl, ?_⟩) ?_ ?_
          rotate_left
          · intro w'
            go_simp
            with_reducible rfl
          rotate_left
          · simp only [Act.put, List.setIfInBounds_toArray, List.set_cons_zero, List.set_cons_succ, i64_w, i32_w]
            rfl
          refine take_ (i := 15) (N := some 78) (v := ?_) (a' := ?_) #[true, true, true, true, true, true, true, true, true, true, true, true, true, true, true, true, false, false, false, false] rfl rfl (take_ofW HT_.out HW_.out (by kernel_rfl)) (fun _ _ _ h => h) (Or.inl ⟨by rfl, ?_⟩) hHeld ?_ ?_
          rotate_left
          · rintro w' ⟨s0, s1, s2', s3', s4, s5, s6, s7, s8, s9⟩
            go_simp
            with_reducible rfl
          rotate_left
          · simp only [Act.put, List.setIfInBounds_toArray, List.set_cons_zero, List.set_cons_succ, i64_w, i32_w]
            rfl
          refine pure_ (i := 16) (N := some 79) (v := ?_) (a' := ?_) #[true, true, true, true, true, true, true, true, true, true, true, true, true, true, true, true, true, false, false, false] rfl rfl (any_of HT_.out (by kernel_rfl)) (fun _ _ _ h => h) (Or.inl ⟨by rfl, ?_⟩) ?_ ?_
          rotate_left
          · intro w'
            go_simp
            with_reducible rfl
          rotate_left
          · simp only [Act.put, List.setIfInBounds_toArray, List.set_cons_zero, List.set_cons_succ, i64_w, i32_w]
            rfl
          refine pure_ (i := 17) (N := some 80) (v := ?_) (a' := ?_) #[true, true, true, true, true, true, true, true, true, true, true, true, true, true, true, true, true, true, false, false] rfl rfl (any_of HT_.out (by kernel_rfl)) (fun _ _ _ h => h) (Or.inl ⟨by rfl, ?_⟩) ?_ ?_
          rotate_left
          · intro w'
            go_simp
            with_reducible rfl
          rotate_left
          · simp only [Act.put, List.setIfInBounds_toArray, List.set_cons_zero, List.set_cons_succ, i64_w, i32_w]
            rfl
          refine one_ (i := 18) (N := some 81) #[true, true, true, true, true, true, true, true, true, true, true, true, true, true, true, true, true, true, true, false] rfl rfl (one_of HT_.out (by kernel_rfl)) (by decide) (fun K hK => ?_)
          refine goes_ Try.func90 (by kernel_rfl) rfl #[.agg #[.int .i64 o.f0, .string o.f1, .slice Ao o.f2.length co], .agg #[.int .i64 u.f0, .string u.f1, .slice Au u.f2.length cu], .slice (some adx) x.length cx, .slice (some ady) y.length cy] (by rfl) rfl rfl (by (try simp only [List.map_toArray, List.map_cons, List.map_nil]); first | done | rfl) ?_
          refine (l2Alike_c (Kd.C_below HO.out.1 HB.out) HO.out.2 (Kd.C_below HU.out.1 HB.out) HU.out.2 (Kd.R_reads' (Kd.R_below HS9.out.x HB.out)).2.2 (Kd.R_reads' HS9.out.x).2.1 (Kd.R_reads' (Kd.R_below HS9.out.y HB.out)).2.2 (Kd.R_reads' HS9.out.y).2.1).mono ?_
          rintro e v18 ⟨rfl, hb⟩
          rw [← EAL.out]
          refine ⟨_, rfl, ?_⟩
          replace HB := Aside0.mk (below_step HB.out hb)
          clear hb
          refine hK.out _ _ ⟨pw_cell_below HB.out CS.out.1, pw_cell_below HB.out CS.out.2.1, pw_cell_below HB.out CS.out.2.2.1, pw_cell_below HB.out CS.out.2.2.2.1, pw_cell_below HB.out CS.out.2.2.2.2.1, pw_cell_below HB.out CS.out.2.2.2.2.2.1, pw_cell_below HB.out CS.out.2.2.2.2.2.2.1, pw_cell_below HB.out CS.out.2.2.2.2.2.2.2.1, pw_cell_below HB.out CS.out.2.2.2.2.2.2.2.2.1, pw_cell_below HB.out CS.out.2.2.2.2.2.2.2.2.2⟩ (fun hHeld => ?_)
          clear hK K
          refine norm_ (a' := ?_) ?_ ?_
          rotate_left
          · show Act.put _ (some 81) _ = _
            simp only [Act.put, List.setIfInBounds_toArray, List.set_cons_zero, List.set_cons_succ, i64_w, i32_w]
            rfl
          refine pure_ (i := 19) (N := some 82) (v := ?_) (a' := ?_) #[true, true, true, true, true, true, true, true, true, true, true, true, true, true, true, true, true, true, true, true] rfl rfl (any_of HT_.out (by kernel_rfl)) (fun _ _ _ h => h) (Or.inl ⟨by rfl, ?_⟩) ?_ ?_
          rotate_left
          · intro w'
            go_simp
            with_reducible rfl
          rotate_left
          · simp only [Act.put, List.setIfInBounds_toArray, List.set_cons_zero, List.set_cons_succ, i64_w, i32_w]
            rfl
          refine done_ (done_of HT_.out (by kernel_rfl)) ?_
          clear HT_ HW_ hHeld
          have HBW := Aside0.mk (below_step HS9.out.b HB.out)
          cases al with
          | true =>
            go_wp2
            go_roundg k1
            case measure => omega
            case rel =>
              have h1 := HI.out
              have h2 := nodup_len _ _ HGX.out
              have h3 := HKA.out.n
              rw [wrap_succ i (by omega) (by omega)]
              exact ⟨i + 1, rfl, ⟨by omega, by omega⟩, ⟨by rw [ER5.out]; rfl⟩, HB⟩
          | false =>
            have e0 : r = false := by rw [ER5.out]; rfl
            subst e0
            go_wp2
            go_ret
            exact ⟨rfl, HBW.out⟩
        | zero =>
          have c58 : decide (i < (x.length : Int)) = false := decide_eq_false (by have := HI.out; omega)
          have ER7 := Aside0.mk (show r = (s2 && s3) by rw [ER4.out, cmp2_end _ _ _ _ (by have := HI.out; omega)]; rfl)
          have CS := Aside0.mk (And.intro (box4 HS9.out.xa).2.2.1 (And.intro (box4 HS9.out.xa).2.2.2 (And.intro (box4 HS9.out.xb).2.2.1 (box4 HS9.out.xb).2.2.2)))
          clear ER4 HI
          go_wp2_with fail
          cases s2 with
          | false =>
            have e0 : r = false := by rw [ER7.out]; rfl
            subst e0
            replace HB := Aside0.mk (below_drew HB.out)
            refine start_ (n := 21) (S := (fun w' => w'.cell? ⟨w.heap.size, 2, none⟩ = some (.slice A2 l2.length c2) ∧ w'.cell? ⟨w.heap.size, 3, none⟩ = some (.slice A3 l3.length c3) ∧ w'.cell? ⟨w.heap.size + 1, 2, none⟩ = some (.slice B2 m2.length d2) ∧ w'.cell? ⟨w.heap.size + 1, 3, none⟩ = some (.slice B3 m3.length d3))) (ds := []) #[false, false, false, false, false, false, false, false, false, false, false, false, false, false, false, false, false, false, false, false, false] (by kernel_rfl) rfl rfl ⟨pw_cell_below HB.out CS.out.1, pw_cell_below HB.out CS.out.2.1, pw_cell_below HB.out CS.out.2.2.1, pw_cell_below HB.out CS.out.2.2.2⟩ (fun hHeld => ?_); refine with_tabW ssame17_tab ssame17_bits (fun HT_ HW_ => ?_)
            generalize wr.drew = w10 at HB hHeld ⊢
            refine pure_ (i := 0) (N := some 83) (v := ?_) (a' := ?_) #[true, false, false, false, false, false, false, false, false, false, false, false, false, false, false, false, false, false, false, false, false] rfl rfl (any_of HT_.out (by kernel_rfl)) (fun _ _ _ h => h) (Or.inl ⟨by rfl, ?_⟩) ?_ ?_
            rotate_left
            · intro w'
              go_simp
              with_reducible rfl
            rotate_left
            · simp only [Act.put, List.setIfInBounds_toArray, List.set_cons_zero, List.set_cons_succ, i64_w, i32_w]
              rfl
            refine take_ (i := 1) (N := some 84) (v := ?_) (a' := ?_) #[true, true, false, false, false, false, false, false, false, false, false, false, false, false, false, false, false, false, false, false, false] rfl rfl (take_ofW HT_.out HW_.out (by kernel_rfl)) (fun _ _ _ h => h) (Or.inl ⟨by rfl, ?_⟩) hHeld ?_ ?_
            rotate_left
            · rintro w' ⟨s0, s1, s2', s3'⟩
              go_simp
              with_reducible rfl
            rotate_left
            · simp only [Act.put, List.setIfInBounds_toArray, List.set_cons_zero, List.set_cons_succ, i64_w, i32_w]
              rfl
            refine pure_ (i := 2) (N := some 85) (v := ?_) (a' := ?_) #[true, true, true, false, false, false, false, false, false, false, false, false, false, false, false, false, false, false, false, false, false] rfl rfl (any_of HT_.out (by kernel_rfl)) (fun _ _ _ h => h) (Or.inl ⟨by rfl, ?_⟩) ?_ ?_
            rotate_left
            · intro w'
              go_simp
              with_reducible rfl
            rotate_left
            · simp only [Act.put, List.setIfInBounds_toArray, List.set_cons_zero, List.set_cons_succ, i64_w, i32_w]
              rfl
            refine pure_ (i := 4) (N := some 87) (v := ?_) (a' := ?_) #[true, true, true, false, true, false, false, false, false, false, false, false, false, false, false, false, false, false, false, false, false] rfl rfl (any_of HT_.out (by kernel_rfl)) (fun _ _ _ h => h) (Or.inl ⟨by rfl, ?_⟩) ?_ ?_
            rotate_left
            · intro w'
              go_simp
              with_reducible rfl
            rotate_left
            · simp only [Act.put, List.setIfInBounds_toArray, List.set_cons_zero, List.set_cons_succ, i64_w, i32_w]
              rfl
            refine take_ (i := 5) (N := some 88) (v := ?_) (a' := ?_) #[true, true, true, false, true, true, false, false, false, false, false, false, false, false, false, false, false, false, false, false, false] rfl rfl (take_ofW HT_.out HW_.out (by kernel_rfl)) (fun _ _ _ h => h) (Or.inl ⟨by rfl, ?_⟩) hHeld ?_ ?_
            rotate_left
            · rintro w' ⟨s0, s1, s2', s3'⟩
              go_simp
              with_reducible rfl
            rotate_left
            · simp only [Act.put, List.setIfInBounds_toArray, List.set_cons_zero, List.set_cons_succ, i64_w, i32_w]
              rfl
            refine pure_ (i := 6) (N := some 89) (v := ?_) (a' := ?_) #[true, true, true, false, true, true, true, false, false, false, false, false, false, false, false, false, false, false, false, false, false] rfl rfl (any_of HT_.out (by kernel_rfl)) (fun _ _ _ h => h) (Or.inl ⟨by rfl, ?_⟩) ?_ ?_
            rotate_left
            · intro w'
              go_simp
              with_reducible rfl
            rotate_left
            · simp only [Act.put, List.setIfInBounds_toArray, List.set_cons_zero, List.set_cons_succ, i64_w, i32_w]
              rfl
            refine one_ (i := 3) (N := some 86) #[true, true, true, true, true, true, true, false, false, false, false, false, false, false, false, false, false, false, false, false, false] rfl rfl (one_of HT_.out (by kernel_rfl)) (by decide) (fun K hK => ?_)
            refine goes_ Try.func92 (by kernel_rfl) rfl #[.slice A2 l2.length c2, .slice Ax x.length cx] (by rfl) rfl rfl (by (try simp only [List.map_toArray, List.map_cons, List.map_nil]); first | done | rfl) ?_
            refine (l2Watches_c (HI0.out.below (below_step HS9.out.b HB.out)).r2 HI0.out.k2 (Kd.R_reads' (Kd.R_below HS9.out.x HB.out)).2.2 (Kd.R_reads' HS9.out.x).2.1 (by have := HF.out.w; omega)).mono ?_
            rintro e v3 ⟨t3, rfl, hr, hb⟩
            obtain ⟨S3, e3, e⟩ := Kd.R_slice hr
            subst e
            refine ⟨_, rfl, ?_⟩
            have V3 := Aside0.mk hr
            replace HB := Aside0.mk (below_step HB.out hb)
            clear hr hb
            refine hK.out _ _ ⟨pw_cell_below HB.out CS.out.1, pw_cell_below HB.out CS.out.2.1, pw_cell_below HB.out CS.out.2.2.1, pw_cell_below HB.out CS.out.2.2.2⟩ (fun hHeld => ?_)
            clear hK K
            refine norm_ (a' := ?_) ?_ ?_
            rotate_left
            · show Act.put _ (some 86) _ = _
              simp only [Act.put, List.setIfInBounds_toArray, List.set_cons_zero, List.set_cons_succ, i64_w, i32_w]
              rfl
            refine one_ (i := 7) (N := some 90) #[true, true, true, true, true, true, true, true, false, false, false, false, false, false, false, false, false, false, false, false, false] rfl rfl (one_of HT_.out (by kernel_rfl)) (by decide) (fun K hK => ?_)
            refine goes_ Try.func92 (by kernel_rfl) rfl #[.slice B2 m2.length d2, .slice Ay y.length cy] (by rfl) rfl rfl (by (try simp only [List.map_toArray, List.map_cons, List.map_nil]); first | done | rfl) ?_
            refine (l2Watches_c (HJ0.out.below (below_step HS9.out.b HB.out)).r2 HJ0.out.k2 (Kd.R_reads' (Kd.R_below HS9.out.y HB.out)).2.2 (Kd.R_reads' HS9.out.y).2.1 (by have := HG.out.w; omega)).mono ?_
            rintro e v7 ⟨t7, rfl, hr, hb⟩
            obtain ⟨S7, e7, e⟩ := Kd.R_slice hr
            subst e
            refine ⟨_, rfl, ?_⟩
            replace V3 := Aside0.mk (Kd.R_below V3.out hb)
            have V7 := Aside0.mk hr
            replace HB := Aside0.mk (below_step HB.out hb)
            clear hr hb
            refine hK.out _ _ ⟨pw_cell_below HB.out CS.out.1, pw_cell_below HB.out CS.out.2.1, pw_cell_below HB.out CS.out.2.2.1, pw_cell_below HB.out CS.out.2.2.2⟩ (fun hHeld => ?_)
            clear hK K
            refine norm_ (a' := ?_) ?_ ?_
            rotate_left
            · show Act.put _ (some 90) _ = _
              simp only [Act.put, List.setIfInBounds_toArray, List.set_cons_zero, List.set_cons_succ, i64_w, i32_w]
              rfl
            refine one_ (i := 8) (N := some 91) #[true, true, true, true, true, true, true, true, true, false, false, false, false, false, false, false, false, false, false, false, false] rfl rfl (one_of HT_.out (by kernel_rfl)) (by decide) (fun K hK => ?_)
            refine goes_ Try.func91 (by kernel_rfl) rfl #[.slice S3 (seenW x l2).length e3, .slice S7 (seenW y m2).length e7] (by rfl) rfl rfl (by (try simp only [List.map_toArray, List.map_cons, List.map_nil]); first | done | rfl) ?_
            refine (l2SameWatches_c (Kd.R_reads' V3.out).2.2 (Kd.R_reads' V3.out).2.1 (Kd.R_reads' V7.out).2.2 (Kd.R_reads' V7.out).2.1).mono ?_
            rintro e v8 ⟨rfl, hd⟩
            rw [← ES2.out]
            refine ⟨_, rfl, ?_⟩
            replace HB := Aside0.mk (below_step HB.out hd.below)
            clear hd
            refine hK.out _ _ ⟨pw_cell_below HB.out CS.out.1, pw_cell_below HB.out CS.out.2.1, pw_cell_below HB.out CS.out.2.2.1, pw_cell_below HB.out CS.out.2.2.2⟩ (fun hHeld => ?_)
            clear hK K
            refine norm_ (a' := ?_) ?_ ?_
            rotate_left
            · show Act.put _ (some 91) _ = _
              simp only [Act.put, List.setIfInBounds_toArray, List.set_cons_zero, List.set_cons_succ, i64_w, i32_w]
              rfl
            refine pure_ (i := 9) (N := some 92) (v := ?_) (a' := ?_) #[true, true, true, true, true, true, true, true, true, true, false, false, false, false, false, false, false, false, false, false, false] rfl rfl (any_of HT_.out (by kernel_rfl)) (fun _ _ _ h => h) (Or.inl ⟨by rfl, ?_⟩) ?_ ?_
            rotate_left
            · intro w'
              go_simp
              with_reducible rfl
            rotate_left
            · simp only [Act.put, List.setIfInBounds_toArray, List.set_cons_zero, List.set_cons_succ, i64_w, i32_w]
              rfl
            refine pure_ (i := 10) (N := some 93) (v := undef) (a' := ?_) #[true, true, true, true, true, true, true, true, true, true, true, false, false, false, false, false, false, false, false, false, false] rfl rfl (any_of HT_.out (by kernel_rfl)) (fun _ _ _ h => h) (Or.inr ⟨by rfl, rfl⟩) ?_ ?_
            rotate_left
            · simp only [Act.put, List.setIfInBounds_toArray, List.set_cons_zero, List.set_cons_succ, i64_w, i32_w]
              rfl
            refine pure_ (i := 11) (N := some 94) (v := undef) (a' := ?_) #[true, true, true, true, true, true, true, true, true, true, true, true, false, false, false, false, false, false, false, false, false] rfl rfl (any_of HT_.out (by kernel_rfl)) (fun _ _ _ h => h) (Or.inr ⟨by rfl, rfl⟩) ?_ ?_
            rotate_left
            · simp only [Act.put, List.setIfInBounds_toArray, List.set_cons_zero, List.set_cons_succ, i64_w, i32_w]
              rfl
            refine pure_ (i := 12) (N := some 95) (v := undef) (a' := ?_) #[true, true, true, true, true, true, true, true, true, true, true, true, true, false, false, false, false, false, false, false, false] rfl rfl (any_of HT_.out (by kernel_rfl)) (fun _ _ _ h => h) (Or.inr ⟨by rfl, rfl⟩) ?_ ?_
            rotate_left
            · simp only [Act.put, List.setIfInBounds_toArray, List.set_cons_zero, List.set_cons_succ, i64_w, i32_w]
              rfl
            refine pure_ (i := 13) (N := some 96) (v := undef) (a' := ?_) #[true, true, true, true, true, true, true, true, true, true, true, true, true, true, false, false, false, false, false, false, false] rfl rfl (any_of HT_.out (by kernel_rfl)) (fun _ _ _ h => h) (Or.inr ⟨by rfl, rfl⟩) ?_ ?_
            rotate_left
            · simp only [Act.put, List.setIfInBounds_toArray, List.set_cons_zero, List.set_cons_succ, i64_w, i32_w]
              rfl
            refine pure_ (i := 14) (N := some 97) (v := undef) (a' := ?_) #[true, true, true, true, true, true, true, true, true, true, true, true, true, true, true, false, false, false, false, false, false] rfl rfl (any_of HT_.out (by kernel_rfl)) (fun _ _ _ h => h) (Or.inr ⟨by rfl, rfl⟩) ?_ ?_
            rotate_left
            · simp only [Act.put, List.setIfInBounds_toArray, List.set_cons_zero, List.set_cons_succ, i64_w, i32_w]
              rfl
            refine pure_ (i := 15) (N := some 98) (v := undef) (a' := ?_) #[true, true, true, true, true, true, true, true, true, true, true, true, true, true, true, true, false, false, false, false, false] rfl rfl (any_of HT_.out (by kernel_rfl)) (fun _ _ _ h => h) (Or.inr ⟨by rfl, rfl⟩) ?_ ?_
            rotate_left
            · simp only [Act.put, List.setIfInBounds_toArray, List.set_cons_zero, List.set_cons_succ, i64_w, i32_w]
              rfl
            refine pure_ (i := 16) (N := some 99) (v := undef) (a' := ?_) #[true, true, true, true, true, true, true, true, true, true, true, true, true, true, true, true, true, false, false, false, false] rfl rfl (any_of HT_.out (by kernel_rfl)) (fun _ _ _ h => h) (Or.inr ⟨by rfl, rfl⟩) ?_ ?_
            rotate_left
            · simp only [Act.put, List.setIfInBounds_toArray, List.set_cons_zero, List.set_cons_succ, i64_w, i32_w]
              rfl
            refine pure_ (i := 17) (N := some 100) (v := undef) (a' := ?_) #[true, true, true, true, true, true, true, true, true, true, true, true, true, true, true, true, true, true, false, false, false] rfl rfl (any_of HT_.out (by kernel_rfl)) (fun _ _ _ h => h) (Or.inr ⟨by rfl, rfl⟩) ?_ ?_
            rotate_left
            · simp only [Act.put, List.setIfInBounds_toArray, List.set_cons_zero, List.set_cons_succ, i64_w, i32_w]
              rfl
            refine pure_ (i := 18) (N := some 101) (v := undef) (a' := ?_) #[true, true, true, true, true, true, true, true, true, true, true, true, true, true, true, true, true, true, true, false, false] rfl rfl (any_of HT_.out (by kernel_rfl)) (fun _ _ _ h => h) (Or.inr ⟨by rfl, rfl⟩) ?_ ?_
            rotate_left
            · simp only [Act.put, List.setIfInBounds_toArray, List.set_cons_zero, List.set_cons_succ, i64_w, i32_w]
              rfl
            refine pure_ (i := 19) (N := some 102) (v := ?_) (a' := ?_) #[true, true, true, true, true, true, true, true, true, true, true, true, true, true, true, true, true, true, true, true, false] rfl rfl (any_of HT_.out (by kernel_rfl)) (fun _ _ _ h => h) (Or.inl ⟨by rfl, ?_⟩) ?_ ?_
            rotate_left
            · intro w'
              go_simp
              with_reducible rfl
            rotate_left
            · simp only [Act.put, List.setIfInBounds_toArray, List.set_cons_zero, List.set_cons_succ, i64_w, i32_w]
              rfl
            refine pure_ (i := 20) (N := some 4) (v := ?_) (a' := ?_) #[true, true, true, true, true, true, true, true, true, true, true, true, true, true, true, true, true, true, true, true, true] rfl rfl (any_of HT_.out (by kernel_rfl)) (fun _ _ _ h => h) (Or.inl ⟨by rfl, ?_⟩) ?_ ?_
            rotate_left
            · intro w'
              go_simp
              with_reducible rfl
            rotate_left
            · simp only [Act.put, List.setIfInBounds_toArray, List.set_cons_zero, List.set_cons_succ, i64_w, i32_w]
              rfl
            refine done_ (done_of HT_.out (by kernel_rfl)) ?_
            clear HT_ HW_ hHeld
            go_wp2
            go_ret
            exact ⟨rfl, below_step HS9.out.b HB.out⟩
          | true =>
            have e0 : r = s3 := by rw [ER7.out]; rfl
            subst e0
            replace HB := Aside0.mk (below_drew HB.out)
            refine start_ (n := 21) (S := (fun w' => w'.cell? ⟨w.heap.size, 2, none⟩ = some (.slice A2 l2.length c2) ∧ w'.cell? ⟨w.heap.size, 3, none⟩ = some (.slice A3 l3.length c3) ∧ w'.cell? ⟨w.heap.size + 1, 2, none⟩ = some (.slice B2 m2.length d2) ∧ w'.cell? ⟨w.heap.size + 1, 3, none⟩ = some (.slice B3 m3.length d3))) (ds := []) #[false, false, false, false, false, false, false, false, false, false, false, false, false, false, false, false, false, false, false, false, false] (by kernel_rfl) rfl rfl ⟨pw_cell_below HB.out CS.out.1, pw_cell_below HB.out CS.out.2.1, pw_cell_below HB.out CS.out.2.2.1, pw_cell_below HB.out CS.out.2.2.2⟩ (fun hHeld => ?_); refine with_tabW ssame17_tab ssame17_bits (fun HT_ HW_ => ?_)
            generalize wr.drew = w10 at HB hHeld ⊢
            refine pure_ (i := 0) (N := some 83) (v := ?_) (a' := ?_) #[true, false, false, false, false, false, false, false, false, false, false, false, false, false, false, false, false, false, false, false, false] rfl rfl (any_of HT_.out (by kernel_rfl)) (fun _ _ _ h => h) (Or.inl ⟨by rfl, ?_⟩) ?_ ?_
            rotate_left
            · intro w'
              go_simp
              with_reducible rfl
            rotate_left
            · simp only [Act.put, List.setIfInBounds_toArray, List.set_cons_zero, List.set_cons_succ, i64_w, i32_w]
              rfl
            refine take_ (i := 1) (N := some 84) (v := ?_) (a' := ?_) #[true, true, false, false, false, false, false, false, false, false, false, false, false, false, false, false, false, false, false, false, false] rfl rfl (take_ofW HT_.out HW_.out (by kernel_rfl)) (fun _ _ _ h => h) (Or.inl ⟨by rfl, ?_⟩) hHeld ?_ ?_
            rotate_left
            · rintro w' ⟨s0, s1, s2', s3'⟩
              go_simp
              with_reducible rfl
            rotate_left
            · simp only [Act.put, List.setIfInBounds_toArray, List.set_cons_zero, List.set_cons_succ, i64_w, i32_w]
              rfl
            refine pure_ (i := 2) (N := some 85) (v := ?_) (a' := ?_) #[true, true, true, false, false, false, false, false, false, false, false, false, false, false, false, false, false, false, false, false, false] rfl rfl (any_of HT_.out (by kernel_rfl)) (fun _ _ _ h => h) (Or.inl ⟨by rfl, ?_⟩) ?_ ?_
            rotate_left
            · intro w'
              go_simp
              with_reducible rfl
            rotate_left
            · simp only [Act.put, List.setIfInBounds_toArray, List.set_cons_zero, List.set_cons_succ, i64_w, i32_w]
              rfl
            refine pure_ (i := 4) (N := some 87) (v := ?_) (a' := ?_) #[true, true, true, false, true, false, false, false, false, false, false, false, false, false, false, false, false, false, false, false, false] rfl rfl (any_of HT_.out (by kernel_rfl)) (fun _ _ _ h => h) (Or.inl ⟨by rfl, ?_⟩) ?_ ?_
            rotate_left
            · intro w'
              go_simp
              with_reducible rfl
            rotate_left
            · simp only [Act.put, List.setIfInBounds_toArray, List.set_cons_zero, List.set_cons_succ, i64_w, i32_w]
              rfl
            refine take_ (i := 5) (N := some 88) (v := ?_) (a' := ?_) #[true, true, true, false, true, true, false, false, false, false, false, false, false, false, false, false, false, false, false, false, false] rfl rfl (take_ofW HT_.out HW_.out (by kernel_rfl)) (fun _ _ _ h => h) (Or.inl ⟨by rfl, ?_⟩) hHeld ?_ ?_
            rotate_left
            · rintro w' ⟨s0, s1, s2', s3'⟩
              go_simp
              with_reducible rfl
            rotate_left
            · simp only [Act.put, List.setIfInBounds_toArray, List.set_cons_zero, List.set_cons_succ, i64_w, i32_w]
              rfl
            refine pure_ (i := 6) (N := some 89) (v := ?_) (a' := ?_) #[true, true, true, false, true, true, true, false, false, false, false, false, false, false, false, false, false, false, false, false, false] rfl rfl (any_of HT_.out (by kernel_rfl)) (fun _ _ _ h => h) (Or.inl ⟨by rfl, ?_⟩) ?_ ?_
            rotate_left
            · intro w'
              go_simp
              with_reducible rfl
            rotate_left
            · simp only [Act.put, List.setIfInBounds_toArray, List.set_cons_zero, List.set_cons_succ, i64_w, i32_w]
              rfl
            refine one_ (i := 3) (N := some 86) #[true, true, true, true, true, true, true, false, false, false, false, false, false, false, false, false, false, false, false, false, false] rfl rfl (one_of HT_.out (by kernel_rfl)) (by decide) (fun K hK => ?_)
            refine goes_ Try.func92 (by kernel_rfl) rfl #[.slice A2 l2.length c2, .slice Ax x.length cx] (by rfl) rfl rfl (by (try simp only [List.map_toArray, List.map_cons, List.map_nil]); first | done | rfl) ?_
            refine (l2Watches_c (HI0.out.below (below_step HS9.out.b HB.out)).r2 HI0.out.k2 (Kd.R_reads' (Kd.R_below HS9.out.x HB.out)).2.2 (Kd.R_reads' HS9.out.x).2.1 (by have := HF.out.w; omega)).mono ?_
            rintro e v3 ⟨t3, rfl, hr, hb⟩
            obtain ⟨S3, e3, e⟩ := Kd.R_slice hr
            subst e
            refine ⟨_, rfl, ?_⟩
            have V3 := Aside0.mk hr
            replace HB := Aside0.mk (below_step HB.out hb)
            clear hr hb
            refine hK.out _ _ ⟨pw_cell_below HB.out CS.out.1, pw_cell_below HB.out CS.out.2.1, pw_cell_below HB.out CS.out.2.2.1, pw_cell_below HB.out CS.out.2.2.2⟩ (fun hHeld => ?_)
            clear hK K
            refine norm_ (a' := ?_) ?_ ?_
            rotate_left
            · show Act.put _ (some 86) _ = _
              simp only [Act.put, List.setIfInBounds_toArray, List.set_cons_zero, List.set_cons_succ, i64_w, i32_w]
              rfl
            refine one_ (i := 7) (N := some 90) #[true, true, true, true, true, true, true, true, false, false, false, false, false, false, false, false, false, false, false, false, false] rfl rfl (one_of HT_.out (by kernel_rfl)) (by decide) (fun K hK => ?_)
            refine goes_ Try.func92 (by kernel_rfl) rfl #[.slice B2 m2.length d2, .slice Ay y.length cy] (by rfl) rfl rfl (by (try simp only [List.map_toArray, List.map_cons, List.map_nil]); first | done | rfl) ?_
            refine (l2Watches_c (HJ0.out.below (below_step HS9.out.b HB.out)).r2 HJ0.out.k2 (Kd.R_reads' (Kd.R_below HS9.out.y HB.out)).2.2 (Kd.R_reads' HS9.out.y).2.1 (by have := HG.out.w; omega)).mono ?_
            rintro e v7 ⟨t7, rfl, hr, hb⟩
            obtain ⟨S7, e7, e⟩ := Kd.R_slice hr
            subst e
            refine ⟨_, rfl, ?_⟩
            replace V3 := Aside0.mk (Kd.R_below V3.out hb)
            have V7 := Aside0.mk hr
            replace HB := Aside0.mk (below_step HB.out hb)
            clear hr hb
            refine hK.out _ _ ⟨pw_cell_below HB.out CS.out.1, pw_cell_below HB.out CS.out.2.1, pw_cell_below HB.out CS.out.2.2.1, pw_cell_below HB.out CS.out.2.2.2⟩ (fun hHeld => ?_)
            clear hK K
            refine norm_ (a' := ?_) ?_ ?_
            rotate_left
            · show Act.put _ (some 90) _ = _
              simp only [Act.put, List.setIfInBounds_toArray, List.set_cons_zero, List.set_cons_succ, i64_w, i32_w]
              rfl
            refine one_ (i := 8) (N := some 91) #[true, true, true, true, true, true, true, true, true, false, false, false, false, false, false, false, false, false, false, false, false] rfl rfl (one_of HT_.out (by kernel_rfl)) (by decide) (fun K hK => ?_)
            refine goes_ Try.func91 (by kernel_rfl) rfl #[.slice S3 (seenW x l2).length e3, .slice S7 (seenW y m2).length e7] (by rfl) rfl rfl (by (try simp only [List.map_toArray, List.map_cons, List.map_nil]); first | done | rfl) ?_
            refine (l2SameWatches_c (Kd.R_reads' V3.out).2.2 (Kd.R_reads' V3.out).2.1 (Kd.R_reads' V7.out).2.2 (Kd.R_reads' V7.out).2.1).mono ?_
            rintro e v8 ⟨rfl, hd⟩
            rw [← ES2.out]
            refine ⟨_, rfl, ?_⟩
            replace HB := Aside0.mk (below_step HB.out hd.below)
            clear hd
            refine hK.out _ _ ⟨pw_cell_below HB.out CS.out.1, pw_cell_below HB.out CS.out.2.1, pw_cell_below HB.out CS.out.2.2.1, pw_cell_below HB.out CS.out.2.2.2⟩ (fun hHeld => ?_)
            clear hK K
            refine norm_ (a' := ?_) ?_ ?_
            rotate_left
            · show Act.put _ (some 91) _ = _
              simp only [Act.put, List.setIfInBounds_toArray, List.set_cons_zero, List.set_cons_succ, i64_w, i32_w]
              rfl
            refine pure_ (i := 9) (N := some 92) (v := ?_) (a' := ?_) #[true, true, true, true, true, true, true, true, true, true, false, false, false, false, false, false, false, false, false, false, false] rfl rfl (any_of HT_.out (by kernel_rfl)) (fun _ _ _ h => h) (Or.inl ⟨by rfl, ?_⟩) ?_ ?_
            rotate_left
            · intro w'
              go_simp
              with_reducible rfl
            rotate_left
            · simp only [Act.put, List.setIfInBounds_toArray, List.set_cons_zero, List.set_cons_succ, i64_w, i32_w]
              rfl
            refine pure_ (i := 10) (N := some 93) (v := ?_) (a' := ?_) #[true, true, true, true, true, true, true, true, true, true, true, false, false, false, false, false, false, false, false, false, false] rfl rfl (any_of HT_.out (by kernel_rfl)) (fun _ _ _ h => h) (Or.inl ⟨by rfl, ?_⟩) ?_ ?_
            rotate_left
            · intro w'
              go_simp
              with_reducible rfl
            rotate_left
            · simp only [Act.put, List.setIfInBounds_toArray, List.set_cons_zero, List.set_cons_succ, i64_w, i32_w]
              rfl
            refine take_ (i := 11) (N := some 94) (v := ?_) (a' := ?_) #[true, true, true, true, true, true, true, true, true, true, true, true, false, false, false, false, false, false, false, false, false] rfl rfl (take_ofW HT_.out HW_.out (by kernel_rfl)) (fun _ _ _ h => h) (Or.inl ⟨by rfl, ?_⟩) hHeld ?_ ?_
            rotate_left
            · rintro w' ⟨s0, s1, s2', s3'⟩
              go_simp
              with_reducible rfl
            rotate_left
            · simp only [Act.put, List.setIfInBounds_toArray, List.set_cons_zero, List.set_cons_succ, i64_w, i32_w]
              rfl
            refine pure_ (i := 12) (N := some 95) (v := ?_) (a' := ?_) #[true, true, true, true, true, true, true, true, true, true, true, true, true, false, false, false, false, false, false, false, false] rfl rfl (any_of HT_.out (by kernel_rfl)) (fun _ _ _ h => h) (Or.inl ⟨by rfl, ?_⟩) ?_ ?_
            rotate_left
            · intro w'
              go_simp
              with_reducible rfl
            rotate_left
            · simp only [Act.put, List.setIfInBounds_toArray, List.set_cons_zero, List.set_cons_succ, i64_w, i32_w]
              rfl
            refine pure_ (i := 14) (N := some 97) (v := ?_) (a' := ?_) #[true, true, true, true, true, true, true, true, true, true, true, true, true, false, true, false, false, false, false, false, false] rfl rfl (any_of HT_.out (by kernel_rfl)) (fun _ _ _ h => h) (Or.inl ⟨by rfl, ?_⟩) ?_ ?_
            rotate_left
            · intro w'
              go_simp
              with_reducible rfl
            rotate_left
            · simp only [Act.put, List.setIfInBounds_toArray, List.set_cons_zero, List.set_cons_succ, i64_w, i32_w]
              rfl
            refine take_ (i := 15) (N := some 98) (v := ?_) (a' := ?_) #[true, true, true, true, true, true, true, true, true, true, true, true, true, false, true, true, false, false, false, false, false] rfl rfl (take_ofW HT_.out HW_.out (by kernel_rfl)) (fun _ _ _ h => h) (Or.inl ⟨by rfl, ?_⟩) hHeld ?_ ?_
            rotate_left
            · rintro w' ⟨s0, s1, s2', s3'⟩
              go_simp
              with_reducible rfl
            rotate_left
            · simp only [Act.put, List.setIfInBounds_toArray, List.set_cons_zero, List.set_cons_succ, i64_w, i32_w]
              rfl
            refine pure_ (i := 16) (N := some 99) (v := ?_) (a' := ?_) #[true, true, true, true, true, true, true, true, true, true, true, true, true, false, true, true, true, false, false, false, false] rfl rfl (any_of HT_.out (by kernel_rfl)) (fun _ _ _ h => h) (Or.inl ⟨by rfl, ?_⟩) ?_ ?_
            rotate_left
            · intro w'
              go_simp
              with_reducible rfl
            rotate_left
            · simp only [Act.put, List.setIfInBounds_toArray, List.set_cons_zero, List.set_cons_succ, i64_w, i32_w]
              rfl
            refine one_ (i := 13) (N := some 96) #[true, true, true, true, true, true, true, true, true, true, true, true, true, true, true, true, true, false, false, false, false] rfl rfl (one_of HT_.out (by kernel_rfl)) (by decide) (fun K hK => ?_)
            refine goes_ Try.func92 (by kernel_rfl) rfl #[.slice A3 l3.length c3, .slice Ax x.length cx] (by rfl) rfl rfl (by (try simp only [List.map_toArray, List.map_cons, List.map_nil]); first | done | rfl) ?_
            refine (l2Watches_c (HI0.out.below (below_step HS9.out.b HB.out)).r3 HI0.out.k3 (Kd.R_reads' (Kd.R_below HS9.out.x HB.out)).2.2 (Kd.R_reads' HS9.out.x).2.1 (by have := HF.out.w; omega)).mono ?_
            rintro e v13 ⟨t13, rfl, hr, hb⟩
            obtain ⟨S13, e13, e⟩ := Kd.R_slice hr
            subst e
            refine ⟨_, rfl, ?_⟩
            have V13 := Aside0.mk hr
            replace HB := Aside0.mk (below_step HB.out hb)
            clear hr hb
            refine hK.out _ _ ⟨pw_cell_below HB.out CS.out.1, pw_cell_below HB.out CS.out.2.1, pw_cell_below HB.out CS.out.2.2.1, pw_cell_below HB.out CS.out.2.2.2⟩ (fun hHeld => ?_)
            clear hK K
            refine norm_ (a' := ?_) ?_ ?_
            rotate_left
            · show Act.put _ (some 96) _ = _
              simp only [Act.put, List.setIfInBounds_toArray, List.set_cons_zero, List.set_cons_succ, i64_w, i32_w]
              rfl
            refine one_ (i := 17) (N := some 100) #[true, true, true, true, true, true, true, true, true, true, true, true, true, true, true, true, true, true, false, false, false] rfl rfl (one_of HT_.out (by kernel_rfl)) (by decide) (fun K hK => ?_)
            refine goes_ Try.func92 (by kernel_rfl) rfl #[.slice B3 m3.length d3, .slice Ay y.length cy] (by rfl) rfl rfl (by (try simp only [List.map_toArray, List.map_cons, List.map_nil]); first | done | rfl) ?_
            refine (l2Watches_c (HJ0.out.below (below_step HS9.out.b HB.out)).r3 HJ0.out.k3 (Kd.R_reads' (Kd.R_below HS9.out.y HB.out)).2.2 (Kd.R_reads' HS9.out.y).2.1 (by have := HG.out.w; omega)).mono ?_
            rintro e v17 ⟨t17, rfl, hr, hb⟩
            obtain ⟨S17, e17, e⟩ := Kd.R_slice hr
            subst e
            refine ⟨_, rfl, ?_⟩
            replace V13 := Aside0.mk (Kd.R_below V13.out hb)
            have V17 := Aside0.mk hr
            replace HB := Aside0.mk (below_step HB.out hb)
            clear hr hb
            refine hK.out _ _ ⟨pw_cell_below HB.out CS.out.1, pw_cell_below HB.out CS.out.2.1, pw_cell_below HB.out CS.out.2.2.1, pw_cell_below HB.out CS.out.2.2.2⟩ (fun hHeld => ?_)
            clear hK K
            refine norm_ (a' := ?_) ?_ ?_
            rotate_left
            · show Act.put _ (some 100) _ = _
              simp only [Act.put, List.setIfInBounds_toArray, List.set_cons_zero, List.set_cons_succ, i64_w, i32_w]
              rfl
            refine one_ (i := 18) (N := some 101) #[true, true, true, true, true, true, true, true, true, true, true, true, true, true, true, true, true, true, true, false, false] rfl rfl (one_of HT_.out (by kernel_rfl)) (by decide) (fun K hK => ?_)
            refine goes_ Try.func91 (by kernel_rfl) rfl #[.slice S13 (seenW x l3).length e13, .slice S17 (seenW y m3).length e17] (by rfl) rfl rfl (by (try simp only [List.map_toArray, List.map_cons, List.map_nil]); first | done | rfl) ?_
            refine (l2SameWatches_c (Kd.R_reads' V13.out).2.2 (Kd.R_reads' V13.out).2.1 (Kd.R_reads' V17.out).2.2 (Kd.R_reads' V17.out).2.1).mono ?_
            rintro e v18 ⟨rfl, hd⟩
            rw [← ES3.out]
            refine ⟨_, rfl, ?_⟩
            replace HB := Aside0.mk (below_step HB.out hd.below)
            clear hd
            refine hK.out _ _ ⟨pw_cell_below HB.out CS.out.1, pw_cell_below HB.out CS.out.2.1, pw_cell_below HB.out CS.out.2.2.1, pw_cell_below HB.out CS.out.2.2.2⟩ (fun hHeld => ?_)
            clear hK K
            refine norm_ (a' := ?_) ?_ ?_
            rotate_left
            · show Act.put _ (some 101) _ = _
              simp only [Act.put, List.setIfInBounds_toArray, List.set_cons_zero, List.set_cons_succ, i64_w, i32_w]
              rfl
            refine pure_ (i := 19) (N := some 102) (v := ?_) (a' := ?_) #[true, true, true, true, true, true, true, true, true, true, true, true, true, true, true, true, true, true, true, true, false] rfl rfl (any_of HT_.out (by kernel_rfl)) (fun _ _ _ h => h) (Or.inl ⟨by rfl, ?_⟩) ?_ ?_
            rotate_left
            · intro w'
              go_simp
              with_reducible rfl
            rotate_left
            · simp only [Act.put, List.setIfInBounds_toArray, List.set_cons_zero, List.set_cons_succ, i64_w, i32_w]
              rfl
            refine pure_ (i := 20) (N := some 4) (v := ?_) (a' := ?_) #[true, true, true, true, true, true, true, true, true, true, true, true, true, true, true, true, true, true, true, true, true] rfl rfl (any_of HT_.out (by kernel_rfl)) (fun _ _ _ h => h) (Or.inl ⟨by rfl, ?_⟩) ?_ ?_
            rotate_left
            · intro w'
              go_simp
              with_reducible rfl
            rotate_left
            · simp only [Act.put, List.setIfInBounds_toArray, List.set_cons_zero, List.set_cons_succ, i64_w, i32_w]
              rfl
            refine done_ (done_of HT_.out (by kernel_rfl)) ?_
            clear HT_ HW_ hHeld
            go_wp2
            go_ret
            exact ⟨rfl, below_step HS9.out.b HB.out⟩
end Go.Proofs.Ytigjhfijkdlldaa.H
