/- spec.l3Tell, walked: telling, started from what is known. -/
import Derived.Test.YtigjhfijkdlldaaScoPx
namespace Go.Proofs.Ytigjhfijkdlldaa.H
open Go.RowKit Go.Proofs.YtigjhfijkdlldaaW.PrintWords Go.Proofs.YtigjhfijkdlldaaW.PrintLast Go.Proofs.YtigjhfijkdlldaaW.PrintMore Go.Proofs.Ytigjhfijkdlldaa.Q
set_option linter.unusedVariables false
set_option linter.unusedSimpArgs false
theorem l2Reach_c2 {w : World} {A0 A1 A2 A3 : Option Addr} {c0 c1 c2 c3 : Nat} {l0 : List S38} {l1 : List Int} {l2 l3 : List S60} (h : InH w A0 c0 A1 c1 A2 c2 A3 c3 l0 l1 l2 l3) (hk : OkH l0 l1 l2 l3) :
  Calls Try.prog 86 #[.agg #[.slice A0 l0.length c0, .slice A1 l1.length c1, .slice A2 l2.length c2, .slice A3 l3.length c3]] w fun e w' =>
   ∃ v : Value, e = .returned v ∧ Kd.R (Kd.int .i64) 3 w' w.heap.size (fun _ => True) v (reachL l0 l1 l3) ∧ Below w.heap.size w w' := by
 obtain ⟨k, hk⟩ := (l2Reach_f hk).rounds
 exact spec_l2Reach.calls k A0 c0 l0 A1 c1 l1 A2 c2 l2 A3 c3 l3 _ w h.r0 h.k0 h.r1 h.k1 h.r2 h.k2 h.r3 h.k3 hk
theorem l3Told_c {w : World} {A0 A1 A2 A3 K : Option Addr} {c0 c1 c2 c3 ck : Nat} {l0 : List S38} {l1 : List Int} {l2 l3 : List S60} {x : List Int} (h : InH w A0 c0 A1 c1 A2 c2 A3 c3 l0 l1 l2 l3) (hx : Kd.C (Kd.int .i64) w K x.length x) (hc : x.length ≤ ck) (hl : l2.length ≤ 1048576) :
  Calls Try.prog 119 #[.agg #[.slice A0 l0.length c0, .slice A1 l1.length c1, .slice A2 l2.length c2, .slice A3 l3.length c3], .slice K x.length ck] w fun e w' =>
   ∃ v : Value, e = .returned v ∧ Kd.R k60 60 w' w.heap.size (fun _ => True) v (toldL x l2) ∧ Below w.heap.size w w' :=
 spec_l3Told.calls _ A0 c0 l0 A1 c1 l1 A2 c2 l2 A3 c3 l3 K ck x _ w h.r0 h.k0 h.r1 h.k1 h.r2 h.k2 h.r3 h.k3 hx hc (l3Told_f x (C_max hx) l0 l1 l2 l3 (by omega))
theorem l3Without_c {w : World} {A B : Option Addr} {c d : Nat} {l t : List S60} (h : Kd.C k60 w A l.length l) (hc : l.length ≤ c) (h' : Kd.C k60 w B t.length t) (hd : t.length ≤ d) (hl : l.length ≤ 1048576) (ht : t.length ≤ 1048576) :
  Calls Try.prog 120 #[.slice A l.length c, .slice B t.length d] w fun e w' => ∃ v : Value, e = .returned v ∧ Kd.R k60 60 w' w.heap.size (fun _ => True) v (withoutL t l) ∧ Below w.heap.size w w' := by
 obtain ⟨k, hk⟩ := l3Without_f t l (by omega) (by omega)
 exact spec_l3Without.calls k A c l B d t _ w h hc h' hd hk
theorem l2Put_c {w w1 : World} {K : Option Addr} {ck : Nat} {x : List Int} (hB : Below w.heap.size w w1) (h : Kd.R (Kd.int .i64) 3 w1 w.heap.size (fun _ => True) (.slice K x.length ck) x) (hl : x.length ≤ 1048576) (p : Int) :
  Calls Try.prog 117 #[.slice K x.length ck, .int .i64 p] w1 fun e w' => ∃ v : Value, e = .returned v ∧ Kd.R (Kd.int .i64) 3 w' w.heap.size (fun _ => True) v (putL x p) ∧ Below w.heap.size w w' ∧ Kept w1 w' (fun k => some k = (Value.slice K x.length ck).ownBlock) := by
 obtain ⟨k, hk⟩ := (l2Put_f x p hl).rounds
 refine (spec_l2Put.calls k (fun k => some k = (Value.slice K x.length ck).ownBlock) _ x p _ w w1 hB (Kd.R_tight rfl h) hk).mono ?_
 rintro e w' ⟨v, rfl, hr, hb, hkp⟩
 exact ⟨v, rfl, Kd.R_mono hr (fun _ _ => trivial), hb, hkp⟩
theorem l2Trace_c {w w1 : World} {A0 A1 W D K : Option Addr} {c0 c1 cw cd ck : Nat} {l0 : List S38} {l1 : List Int} {m2 m3 : List S60} {x : List Int} (h0 : Kd.C k38 w A0 l0.length l0) (k0 : l0.length ≤ c0) (h1 : Kd.C (Kd.int .i64) w A1 l1.length l1) (k1 : l1.length ≤ c1)
  (hw : RD w w1 W m2 cw) (hd : RD w w1 D m3 cd) (hB : Below w.heap.size w w1) (h : Kd.R (Kd.int .i64) 3 w1 w.heap.size (fun _ => True) (.slice K x.length ck) x) (hk : OkH l0 l1 m2 m3) (hg : GoodL l0.length x) :
  Calls Try.prog 118 #[.agg #[.slice A0 l0.length c0, .slice A1 l1.length c1, .slice W m2.length cw, .slice D m3.length cd], .slice K x.length ck] w1 fun e w' => ∃ v : Value, e = .returned v ∧
   Kd.R (Kd.int .i64) 3 w' w.heap.size (fun _ => True) v (traceL l0 m3 (l0.length + 1) 0 x) ∧ Below w.heap.size w w' ∧ Kept w1 w' (fun k => some k = (Value.slice K x.length ck).ownBlock) := by
 obtain ⟨k, hkk⟩ := (l2Trace_f hk x hg).rounds
 refine (spec_l2Trace.calls k (fun k => k < w.heap.size) A0 c0 l0 A1 c1 l1 W cw m2 D cd m3 (fun k => some k = (Value.slice K x.length ck).ownBlock) (.slice K x.length ck) x _ w w1 hB
  (Kd.V_mono (Kd.V_mk k0 (Kd.F_below (Kd.C_F k38_heap h0) hB)) (fun k hk => ⟨hk, fun e => Nat.not_le.2 hk (Kd.R_base h k e.symm)⟩))
  (Kd.C_kept_came (Kd.heap_int .i64) h1 hB (fun k hs => Kd.R_base h k hs.symm)) k1 (hw.after hB h) hw.le (hd.after hB h) hd.le (Kd.R_tight rfl h) hkk).mono ?_
 rintro e w' ⟨v, rfl, hr, hb, hkp⟩
 exact ⟨v, rfl, Kd.R_mono hr (fun _ _ => trivial), hb, hkp⟩
theorem putAll_fst (x : List Int) (t : List S60) (j : Int) (h0 : 0 ≤ j) (h1 : j < t.length) : putL (putAll x ((t.take j.toNat).map (·.f1))) (rd_T60 t j).f1 = putAll x ((t.take (j + 1).toNat).map (·.f1)) := by
 have h2 : j.toNat < t.length := by omega
 rw [show (j + 1).toNat = j.toNat + 1 by omega, List.take_add_one, List.getElem?_eq_getElem h2, List.map_append, putAll_append]
 simp [rd_T60, List.getD_eq_getElem?_getD, List.getElem?_eq_getElem h2, putAll]
theorem tell4_tab : rtab .any (opsOf Try.f95 4) = (true, [([], []), ([], []), ([1], [1]), ([0, 2, 0], [0]), ([2, 3, 0, 1, 2, 3], [2])]) := by kernel_rfl
theorem tell4_bits : waitsOk [([], []), ([], []), ([1], [1]), ([0, 2, 0], [0]), ([2, 3, 0, 1, 2, 3], [2])] [0, 0, 2, 7, 15] = true := by kernel_rfl
set_option maxHeartbeats 4000000 in
set_option maxRecDepth 100000 in
theorem l3Tell_calls (A0 A1 A2 A3 : Option Addr) (c0 c1 c2 c3 : Nat) (l0 : List S38) (l1 : List Int) (l2 l3 : List S60) (w : World) (h : InH w A0 c0 A1 c1 A2 c2 A3 c3 l0 l1 l2 l3) (hk : OkH l0 l1 l2 l3) (t2 t3 : List S60) (x : List Int) (ht : (t2, t3) = tellL l0 l1 (l2.length + 1) l2 l3) (hx : x = reachL l0 l1 t3) :
  Calls Try.prog 95 #[.agg #[.slice A0 l0.length c0, .slice A1 l1.length c1, .slice A2 l2.length c2, .slice A3 l3.length c3]] w fun e w' => ∃ W cw D cd K ck, e = .returned (.tuple #[.agg #[.slice A0 l0.length c0, .slice A1 l1.length c1, .slice W t2.length cw, .slice D t3.length cd], .slice K x.length ck]) ∧
   InH w' A0 c0 A1 c1 W cw D cd l0 l1 t2 t3 ∧ Kd.R (Kd.int .i64) 3 w' w.heap.size (fun _ => True) (.slice K x.length ck) x ∧ Below w.heap.size w w' := by
 have HI0 := AK h
 have HK := AK hk
 have HTE := AK ht
 have HXE := AK hx
 have HW1 := AK (show Below w.heap.size w ((w.alloc (.cells #[.slice A0 l0.length c0, .slice A1 l1.length c1, .slice A2 l2.length c2, .slice A3 l3.length c3] 28 (0, 0))).alloc (.cells #[.slice none 0 0, .slice none 0 0, .slice none 0 0, .slice none 0 0] 28 (0, 0))) ∧ ((w.alloc (.cells #[.slice A0 l0.length c0, .slice A1 l1.length c1, .slice A2 l2.length c2, .slice A3 l3.length c3] 28 (0, 0))).alloc (.cells #[.slice none 0 0, .slice none 0 0, .slice none 0 0, .slice none 0 0] 28 (0, 0))).heap[w.heap.size]? = some (.cells #[.slice A0 l0.length c0, .slice A1 l1.length c1, .slice A2 l2.length c2, .slice A3 l3.length c3] 28 (0, 0)) ∧ ((w.alloc (.cells #[.slice A0 l0.length c0, .slice A1 l1.length c1, .slice A2 l2.length c2, .slice A3 l3.length c3] 28 (0, 0))).alloc (.cells #[.slice none 0 0, .slice none 0 0, .slice none 0 0, .slice none 0 0] 28 (0, 0))).heap[w.heap.size + 1]? = some (.cells #[.slice none 0 0, .slice none 0 0, .slice none 0 0, .slice none 0 0] 28 (0, 0)) from ⟨below_alloc (below_alloc (Below.refl w.heap.size w) _) _, blk_alloc (blk_new w _) _, blk_new1 w _ _⟩)
 clear h hk ht hx
 go_enter Try.func95, Try.ntmps95
 go_wp2_with fail
 generalize ((w.alloc (.cells #[.slice A0 l0.length c0, .slice A1 l1.length c1, .slice A2 l2.length c2, .slice A3 l3.length c3] 28 (0, 0))).alloc (.cells #[.slice none 0 0, .slice none 0 0, .slice none 0 0, .slice none 0 0] 28 (0, 0))) = w1 at HW1 ⊢
 refine (l2Reach_c2 (HI0.out.below HW1.out.1) HK.out).mono ?_
 rintro e w2 ⟨v, rfl, hr, hb⟩
 obtain ⟨K0, ck0, e⟩ := Kd.R_slice hr
 subst e
 have HT := AK (show TK w #[.slice A0 l0.length c0, .slice A1 l1.length c1, .slice A2 l2.length c2, .slice A3 l3.length c3] A2 A3 c2 c3 l2 l3 K0 ck0 (reachL l0 l1 l3) w2 from ⟨bst HW1.out.1 hb, bbl HW1.out.2.1 hb, bbl HW1.out.2.2 hb, ⟨HI0.out.k2, .inl HI0.out.r2⟩, ⟨HI0.out.k3, .inl HI0.out.r3⟩, Kd.R_lower hr HW1.out.1.size⟩)
 have HG := AK (reach_good HK.out)
 clear hr hb HW1
 go_wp2_with fail
 go_loopg [4] (l2.length + 1) (fun kq v4 w' => ∃ (m2 m3 : List S60) (W D : Option Addr) (cw cd : Nat) (K : Option Addr) (ck : Nat) (y : List Int), v4 = .slice K y.length ck ∧ Aside0 (OkH l0 l1 m2 m3) ∧ Aside0 (m2.length < kq) ∧ Aside0 (tellL l0 l1 kq m2 m3 = tellL l0 l1 (l2.length + 1) l2 l3) ∧
  Aside0 (GoodL l0.length y ∧ ∀ p, p ∈ y ↔ p ∈ reachL l0 l1 m3) ∧ Aside0 (TK w #[.slice A0 l0.length c0, .slice A1 l1.length c1, .slice W m2.length cw, .slice D m3.length cd] W D cw cd m2 m3 K ck y w'))
 case atStart => exact ⟨l2, l3, A2, A3, c2, c3, K0, ck0, _, rfl, HK, ⟨by omega⟩, ⟨rfl⟩, ⟨HG.out, fun p => Iff.rfl⟩, HT⟩
 case round =>
  clear HT HG HK
  obtain ⟨m2, m3, W, D, cw, cd, K, ck, y, rfl, HK, HM, HE, HY, HT⟩ := hrel
  obtain ⟨k1, rfl⟩ : ∃ k1, gk = k1 + 1 := ⟨gk - 1, by have := HM.out; omega⟩
  have HE1 := AK (show (if (toldL y m2).length = 0 then (m2, m3) else tellL l0 l1 k1 (stayL y m2) (m3 ++ toldL y m2)) = tellL l0 l1 (l2.length + 1) l2 l3 by
   rw [toldL_congr HY.out.2, stayL_congr HY.out.2, ← HE.out]; rfl)
  have HI := AK (show InH wr A0 c0 A1 c1 W cw D cd l0 l1 m2 m3 from ⟨Kd.C_below HI0.out.r0 HT.out.b, Kd.C_below HI0.out.r1 HT.out.b, HT.out.rw.now HT.out.b, HT.out.rd.now HT.out.b, HI0.out.k0, HI0.out.k1, HT.out.rw.le, HT.out.rd.le⟩)
  obtain ⟨p0, p1, p2, p3⟩ := box4 HT.out.yh
  clear HE
  go_wp2_with fail
  clear p0 p1 p2 p3
  refine (l3Told_c HI.out (Kd.R_reads' HT.out.kn).2.2 (Kd.R_reads' HT.out.kn).2.1 (by have := HK.out.w; omega)).mono ?_
  rintro e w3 ⟨v, rfl, hr, hb⟩
  have hln := told_stay_len y m2
  have hkk := HE1.out
  have hok := tell_step_ok HK.out y
  have hwo := without_told y m2
  have htk := tell_known HK.out y HY.out.1 HY.out.2
  obtain ⟨s5, e5⟩ : ∃ s, s = stayL y m2 := ⟨_, rfl⟩
  obtain ⟨s6, e6⟩ : ∃ s, s = toldL y m2 := ⟨_, rfl⟩
  have HGT := AK (show ∀ z ∈ s6, z.f1 < (l0.length : Int) from fun z hz => by rw [e6] at hz; exact (wt_parts (HK.out.ws z (List.mem_filter.1 hz).1)).2.2.2.2)
  rw [← e6] at hr
  rw [← e5, ← e6] at hln hkk hok hwo
  replace htk : ∀ p, p ∈ traceL l0 (m3 ++ s6) (l0.length + 1) 0 (putAll y (s6.map (·.f1))) ↔ p ∈ reachL l0 l1 (m3 ++ s6) := by rw [e6]; exact htk
  have HLN := AK hln
  have HE2 := AK hkk
  have HOK := AK hok
  have HWO := AK hwo
  have HTKN := AK htk
  obtain ⟨S6, c6, e⟩ := Kd.R_slice hr
  subst e
  have HR6 := AK (Kd.R_lower hr HT.out.b.size)
  replace HT := AK (HT.out.below hb)
  replace HI := AK (HI.out.below hb)
  clear e5 e6 hln hkk hok hwo htk hr hb HE1
  obtain ⟨p0, p1, p2, p3⟩ := box4 HT.out.yh
  by_cases hz : s6.length = 0
  case pos =>
   have hz2 := List.length_eq_zero_iff.1 hz
   subst hz2
   have HE3 := AK (show (m2, m3) = (t2, t3) by rw [HTE.out, ← HE2.out]; rfl)
   have he := HE3.out
   injection he with he2 he3
   subst he2
   subst he3
   clear HE2 HOK HWO HTKN HLN hz HE3
   go_wp2_with fail
   clear p0 p1 p2 p3
   have HB := AK (below_drew (Below.refl w3.heap.size w3))
   refine start_ (n := 5) (S := (fun w' => w'.cell? ⟨w.heap.size, 0, none⟩ = some (.slice A0 l0.length c0) ∧ w'.cell? ⟨w.heap.size, 1, none⟩ = some (.slice A1 l1.length c1) ∧ w'.cell? ⟨w.heap.size, 2, none⟩ = some (.slice W m2.length cw) ∧ w'.cell? ⟨w.heap.size, 3, none⟩ = some (.slice D m3.length cd))) (ds := []) #[fF,fF,fF,fF,fF] (by kernel_rfl) rfl rfl ⟨pcb HB.out (box4 HT.out.yh).1, pcb HB.out (box4 HT.out.yh).2.1, pcb HB.out (box4 HT.out.yh).2.2.1, pcb HB.out (box4 HT.out.yh).2.2.2⟩ (fun hHeld => ?_); refine with_tabW tell4_tab tell4_bits (fun HT_ HW_ => ?_)
   generalize w3.drew = v4 at HB hHeld ⊢
   refine take_ (i := 0) (N := some 15) (v := ?_) (a' := ?_) #[tT,fF,fF,fF,fF] rfl rfl (take_ofW HT_.out HW_.out (by kernel_rfl)) (fun _ _ _ h => h) (Or.inl ⟨by rfl, ?_⟩) hHeld ?_ ?_
   rotate_left
   ·rintro w' ⟨s_0, s_1, s_2, s_3⟩
    go_simp
    with_reducible rfl
   rotate_left
   ·exact zP
   refine take_ (i := 1) (N := some 16) (v := ?_) (a' := ?_) #[tT,tT,fF,fF,fF] rfl rfl (take_ofW HT_.out HW_.out (by kernel_rfl)) (fun _ _ _ h => h) (Or.inl ⟨by rfl, ?_⟩) hHeld ?_ ?_
   rotate_left
   ·rintro w' ⟨s_0, s_1, s_2, s_3⟩
    go_simp
    with_reducible rfl
   rotate_left
   ·exact zP
   refine one_ (i := 2) (N := some 17) #[tT,tT,tT,fF,fF] rfl rfl (one_of HT_.out (by kernel_rfl)) (by decide) (fun K hK => ?_)
   refine goes_ Try.func86 (by kernel_rfl) rfl #[.agg #[.slice A0 l0.length c0, .slice A1 l1.length c1, .slice W m2.length cw, .slice D m3.length cd]] (by rfl) rfl rfl zI ?_
   refine (l2Reach_c2 (HI.out.below HB.out) HK.out).mono ?_
   rintro e v5 ⟨v, rfl, hr, hb⟩
   rw [← HXE.out] at hr
   obtain ⟨Kx, kx, e⟩ := Kd.R_slice hr
   subst e
   refine ⟨_, rfl, ?_⟩
   have HKX := AK (Kd.R_lower hr (HT.out.below HB.out).b.size)
   replace HB := AK (bst HB.out hb)
   clear hr hb
   refine hK.out _ _ ⟨pcb HB.out (box4 HT.out.yh).1, pcb HB.out (box4 HT.out.yh).2.1, pcb HB.out (box4 HT.out.yh).2.2.1, pcb HB.out (box4 HT.out.yh).2.2.2⟩ (fun hHeld => ?_)
   clear hK K
   refine norm_ (a' := ?_) ?_ ?_
   rotate_left
   ·show Act.put _ (some 17) _ = _
    exact zP
   refine one_ (i := 3) (N := none) #[tT,tT,tT,tT,fF] rfl rfl (one_of HT_.out (by kernel_rfl)) (by decide) (fun K hK => ?_)
   have ht := HT.out.below HB.out
   obtain ⟨z0, z1, z2, z3⟩ := box4 ht.yz
   have y0 := bfz ht.yz 0
   have y1 := bfz ht.yz 1
   have y2 := bfz ht.yz 2
   have y3 := bfz ht.yz 3
   refine skip_ (w1 := ?_) (by rfl) rfl ?_ ?_
   rotate_left
   ·go_simp
    rfl
   have hh := set4_far (g := w.heap.size + 1) (a := (.slice A0 l0.length c0)) (b := (.slice A1 l1.length c1)) (c := (.slice W m2.length cw)) (d := (.slice D m3.length cd)) ht.yh (show w.heap.size ≠ w.heap.size + 1 by omega)
   clear z0 z1 z2 z3 y0 y1 y2 y3
   refine hK.out _ _ (box4 hh) (fun hHeld => ?_)
   clear hK K
   refine pure_ (i := 4) (N := some 3) (v := ?_) (a' := ?_) #[tT,tT,tT,tT,tT] rfl rfl (any_of HT_.out (by kernel_rfl)) (fun _ _ _ h => h) (Or.inl ⟨by rfl, ?_⟩) ?_ ?_
   rotate_left
   ·intro w'
    go_simp
    with_reducible rfl
   rotate_left
   ·exact zP
   refine done_ (done_of HT_.out (by kernel_rfl)) ?_
   clear HT_ HW_ hHeld
   go_wp2
   refine bodyPost_ret (results_ct rfl _ _ (w.heap.size + 1) 28 #[.slice A0 l0.length c0, .slice A1 l1.length c1, .slice W m2.length cw, .slice D m3.length cd] (0, 0) _ rfl (set4_blk ht.yz) Try.underlying28 rfl (by kernel_rfl)) rfl ?_
   have hb4 := set4_below (a := .slice A0 l0.length c0) (b := .slice A1 l1.length c1) (c := .slice W m2.length cw) (d := .slice D m3.length cd) ht.b (show w.heap.size ≤ w.heap.size + 1 by omega)
   have hrr : ∀ {A : Option Addr} {m : List S60} {c : Nat}, RD w v5 A m c → RD w (set4 v5 (w.heap.size + 1) (.slice A0 l0.length c0) (.slice A1 l1.length c1) (.slice W m2.length cw) (.slice D m3.length cd)) A m c := fun h => ⟨h.le, h.r.elim .inl (fun h => .inr (set4_R h ht.yz (k60_ap 28 (by decide))))⟩
   exact ⟨W, cw, D, cd, Kx, kx, rfl, ⟨Kd.C_below HI0.out.r0 hb4, Kd.C_below HI0.out.r1 hb4, (hrr ht.rw).now hb4, (hrr ht.rd).now hb4, HI0.out.k0, HI0.out.k1, ht.rw.le, ht.rd.le⟩, set4_R HKX.out ht.yz (int_ap 28 (by decide)), hb4⟩
  have g1 : ((s6.length : Int) == 0) = false := by simp; intro h; rw [h] at hz; exact hz rfl
  have g2 : ¬ s6 = [] := fun h => hz (by rw [h]; rfl)
  have g3 : decide (s6.length = 0) = false := deF hz
  have HE3 := AK (show tellL l0 l1 k1 s5 (m3 ++ s6) = tellL l0 l1 (l2.length + 1) l2 l3 by rw [← HE2.out, if_neg hz])
  have HZ := AK (Nat.pos_of_ne_zero hz)
  clear hz HE2
  obtain ⟨a3, ea3⟩ : ∃ a, a = m3 ++ s6 := ⟨_, rfl⟩
  rw [← ea3] at HE3 HOK HTKN
  have EA3 := AK ea3
  clear ea3
  go_wp2_with fail
  clear p0 p1 p2 p3 g1 g2 g3
  refine (l3Without_c HI.out.r2 HI.out.k2 (Kd.R_reads' HR6.out).2.2 (Kd.R_reads' HR6.out).2.1 (by have := HK.out.w; omega) (by have := HK.out.w; have := HLN.out; omega)).mono ?_
  rintro e w4 ⟨v, rfl, hr, hb⟩
  rw [HWO.out] at hr
  obtain ⟨S5, c5, e⟩ := Kd.R_slice hr
  subst e
  have HR5 := AK (Kd.R_lower hr HT.out.b.size)
  replace HT := AK (HT.out.below hb)
  replace HR6 := AK (Kd.R_below HR6.out hb)
  clear hr hb HI
  obtain ⟨p0, p1, p2, p3⟩ := box4 HT.out.yh
  have y2 := bfz HT.out.yh 2
  have y3 := bfz HT.out.yh 3
  have N0 := AK (show TK w #[.slice A0 l0.length c0, .slice A1 l1.length c1, .slice S5 s5.length c5, .slice D m3.length cd] S5 D c5 cd s5 m3 K ck y (w4.setCell ⟨w.heap.size, 2, none⟩ (.slice S5 s5.length c5)) from ⟨(HT.out.set 2 (.slice S5 s5.length c5) #[.slice A0 l0.length c0, .slice A1 l1.length c1, .slice S5 s5.length c5, .slice D m3.length cd] rfl).b, (HT.out.set 2 (.slice S5 s5.length c5) #[.slice A0 l0.length c0, .slice A1 l1.length c1, .slice S5 s5.length c5, .slice D m3.length cd] rfl).yh, (HT.out.set 2 (.slice S5 s5.length c5) #[.slice A0 l0.length c0, .slice A1 l1.length c1, .slice S5 s5.length c5, .slice D m3.length cd] rfl).yz, RD.own (Kd.R_set HR5.out HT.out.yh (k60_ap 28 (by decide)) 2 _), (HT.out.set 2 (.slice S5 s5.length c5) #[.slice A0 l0.length c0, .slice A1 l1.length c1, .slice S5 s5.length c5, .slice D m3.length cd] rfl).rd, (HT.out.set 2 (.slice S5 s5.length c5) #[.slice A0 l0.length c0, .slice A1 l1.length c1, .slice S5 s5.length c5, .slice D m3.length cd] rfl).kn⟩)
  have N6 := AK (Kd.R_set HR6.out HT.out.yh (k60_ap 28 (by decide)) 2 (.slice S5 s5.length c5))
  clear HT HR6 HR5
  go_wp2_with (first | ((with_reducible refine gate_store (t := 26) (p := 22) (v := .tmp 21) rfl ?_); refine skip_event (W1 := (w4.setCell ⟨w.heap.size, 2, none⟩ (.slice S5 s5.length c5))) rfl rfl ?hr ?_; (case hr => first | (go_simp; done) | (go_simp; rfl)); clear p0 p1 p2 p3 y2 y3; generalize (w4.setCell ⟨w.heap.size, 2, none⟩ (.slice S5 s5.length c5)) = w5 at N0 N6 ⊢; have HT := N0; have HR6 := N6; clear N0 N6; obtain ⟨p0, p1, p2, p3⟩ := box4 HT.out.yh; have y3 := bfz HT.out.yh 3) | ((with_reducible refine gate_dst (N := 23) rfl ?_); refine Kd.R_lit k60 (w0 := w5) w5.heap.size 60 ?hg (N := 23) ?hd (xs := ([] : List S60)) (inner := []) (ok := fun _ => True) (okp := fun _ => True) ?hr ?hp (fun _ hk => hk) trivial (Below.refl _ _) (Nat.le_refl _) (by simp) ?_; (case hd => rfl); (case hg => rfl); (case hr => first | (go_simp; done) | (go_simp; rfl)); (case hp => exact Reps.none _ _); intro v23 w6 hr hb hg hn; have HR23 := AK hr; have HB := AK hb; clear p0 p1 p2 p3 y3; obtain ⟨p0, p1, p2, p3⟩ := box4 (HT.out.below HB.out).yh; have y3 := bfz (HT.out.below HB.out).yh 3; clear hr hb hg hn) | ((with_reducible refine gate_dst (N := 26) rfl ?_); at_builtin; refine Kd.R_append_rows k60 (w0 := w5) w5.heap.size rfl (.tmp 23) (.tmp 25) 26 60 (.agg #[.int .i64 0, .int .i64 0]) 16 rfl Try.underlying26 info60 rfl (by decide) (by omega) v23 [] m3 D m3.length cd (fun _ => True) (fun _ => False) rfl rfl ?aO ?aR (fun _ _ h => h) (fun _ h => h.elim) (fun _ _ => trivial) ?aB ?aS ?aL ?_; (case aO => exact HR23.out); (case aR => exact ((HT.out.below HB.out).rd.now (HT.out.below HB.out).b)); (case aB => exact HB.out); (case aS => exact HB.out.size); (case aL => have := HK.out.w; have := HLN.out; have h1 : ([] : List S60).length = 0 := rfl; omega); intro v26 w7 hr hb hg hat; clear hg hat; replace hr : Kd.R k60 60 w7 w5.heap.size (fun _ => True) v26 m3 := hr; clear HR23; have HR23 := AK hr; replace HB := AK hb; clear hr hb p0 p1 p2 p3 y3; obtain ⟨p0, p1, p2, p3⟩ := box4 (HT.out.below HB.out).yh; have y3 := bfz (HT.out.below HB.out).yh 3) | ((with_reducible refine gate_dst (N := 28) rfl ?_); at_builtin; refine Kd.R_append_rows k60 (w0 := w5) w5.heap.size rfl (.tmp 26) (.tmp 27) 26 60 (.agg #[.int .i64 0, .int .i64 0]) 16 rfl Try.underlying26 info60 rfl (by decide) (by omega) v26 m3 s6 S6 s6.length c6 (fun _ => True) (fun _ => False) rfl rfl ?aO ?aR (fun _ _ h => h) (fun _ h => h.elim) (fun _ _ => trivial) ?aB ?aS ?aL ?_; (case aO => exact HR23.out); (case aR => exact (Kd.R_reads' (Kd.R_below HR6.out HB.out)).2.2); (case aB => exact HB.out); (case aS => exact HB.out.size); (case aL => have := HK.out.w; have := HLN.out; have h1 : ([] : List S60).length = 0 := rfl; omega); intro v28 w8 hr hb hg hat; clear hg hat; rw [← EA3.out] at hr; obtain ⟨D2, cd2, e⟩ := Kd.R_slice hr; subst e; clear HR23; have HR23 := AK hr; replace HB := AK hb; clear hr hb p0 p1 p2 p3 y3; obtain ⟨p0, p1, p2, p3⟩ := box4 (HT.out.below HB.out).yh; have y3 := bfz (HT.out.below HB.out).yh 3))
  have ht := HT.out.below HB.out
  have hs := ht.set 3 (.slice D2 a3.length cd2) #[.slice A0 l0.length c0, .slice A1 l1.length c1, .slice S5 s5.length c5, .slice D2 a3.length cd2] rfl
  have N0 := AK (show TK w #[.slice A0 l0.length c0, .slice A1 l1.length c1, .slice S5 s5.length c5, .slice D2 a3.length cd2] S5 D2 c5 cd2 s5 a3 K ck y (w8.setCell ⟨w.heap.size, 3, none⟩ (.slice D2 a3.length cd2)) from ⟨hs.b, hs.yh, hs.yz, hs.rw, RD.own (Kd.R_set (Kd.R_lower HR23.out HT.out.b.size) ht.yh (k60_ap 28 (by decide)) 3 _), hs.kn⟩)
  have N6 := AK (show RD w (w8.setCell ⟨w.heap.size, 3, none⟩ (.slice D2 a3.length cd2)) S6 s6 c6 from RD.own (Kd.R_set (Kd.R_below HR6.out HB.out) ht.yh (k60_ap 28 (by decide)) 3 _))
  clear ht hs HT HR6 HR23 HB p0 p1 p2 p3 y3
  generalize (w8.setCell ⟨w.heap.size, 3, none⟩ (.slice D2 a3.length cd2)) = w9 at N0 N6 ⊢
  go_loopg [4, 6] s6.length (fun kq v4 v6 w' => ∃ (j : Int) (K : Option Addr) (ck : Nat) (y' : List Int), v4 = .slice K y'.length ck ∧ v6 = .int .i64 j ∧ Aside0 (0 ≤ j ∧ j + kq = s6.length) ∧ Aside0 (y' = putAll y ((s6.take j.toNat).map (·.f1))) ∧ Aside0 (TK w #[.slice A0 l0.length c0, .slice A1 l1.length c1, .slice S5 s5.length c5, .slice D2 a3.length cd2] S5 D2 c5 cd2 s5 a3 K ck y' w') ∧ Aside0 (RD w w' S6 s6 c6))
  case atStart => exact ⟨0, K, ck, y, rfl, rfl, ⟨by omega, by omega⟩, ⟨rfl⟩, N0, N6⟩
  case round =>
   clear N0 N6
   obtain ⟨j, K, ck, y', rfl, rfl, HJ, HYJ, HT, H6⟩ := hrel
   have HGY := AK (show GoodL l0.length y' by rw [HYJ.out]; exact good_putAll _ HY.out.1 (fun q hq => by obtain ⟨z, hz, rfl⟩ := List.mem_map.1 hq; exact HGT.out z (List.mem_of_mem_take hz)))
   cases gk with
   | succ k2 =>
    have c33 : decide (j < (s6.length : Int)) = true := deT (by have := HJ.out; omega)
    have hj0 := eq_true (show 0 ≤ j by have := HJ.out; omega)
    have hj1 := eq_true (show j < (s6.length : Int) by have := HJ.out; omega)
    obtain ⟨ad2, e, hz0, hz1⟩ := at_T60 (H6.out.now HT.out.b) j (by have := HJ.out; omega) (by have := HJ.out; omega)
    subst e
    have HPS := AK (putAll_fst y s6 j (by have := HJ.out; omega) (by have := HJ.out; omega))
    obtain ⟨z, ez⟩ : ∃ z, z = rd_T60 s6 j := ⟨_, rfl⟩
    rw [← ez] at hz0 hz1 HPS
    clear ez
    go_wp2_with fail
    clear hz0 hz1 hj0 hj1
    refine (l2Put_c HT.out.b HT.out.kn (by have := nodup_len _ _ HGY.out; have := HK.out.n; omega) z.f1).mono ?_
    rintro e w10 ⟨v, rfl, hr, hb, hkp⟩
    obtain ⟨K2, ck2, e⟩ := Kd.R_slice hr
    subst e
    have N0 := AK (HT.out.known hb hkp hr)
    have N6 := AK (H6.out.kept HT.out.kn hkp)
    have NY := AK (show putL y' z.f1 = putAll y ((s6.take (j + 1).toNat).map (·.f1)) by rw [HYJ.out]; exact HPS.out)
    obtain ⟨y2, ey2⟩ : ∃ y2, y2 = putL y' z.f1 := ⟨_, rfl⟩
    rw [← ey2] at N0 NY ⊢
    clear hr hb hkp ey2 HT H6
    go_wp2
    go_roundg k2
    case measure => omega
    case rel =>
     have h1 := HJ.out
     have h2 := HLN.out
     have h3 := HK.out.w
     rw [wrap_succ j (by omega) (by omega)]
     exact ⟨j + 1, K2, ck2, y2, rfl, rfl, ⟨by omega, by omega⟩, NY, N0, N6⟩
   | zero =>
    have c33 : decide (j < (s6.length : Int)) = false := deF (by have := HJ.out; omega)
    have HYE := AK (show y' = putAll y (s6.map (·.f1)) by rw [HYJ.out, take_all _ _ (by have := HJ.out; omega)])
    clear HYJ H6 HJ
    obtain ⟨p0, p1, p2, p3⟩ := box4 HT.out.yh
    go_wp2_with fail
    clear p0 p1 p2 p3
    refine (l2Trace_c HI0.out.r0 HI0.out.k0 HI0.out.r1 HI0.out.k1 HT.out.rw HT.out.rd HT.out.b HT.out.kn HOK.out HGY.out).mono ?_
    rintro e w11 ⟨v, rfl, hr, hb, hkp⟩
    obtain ⟨K3, ck3, e⟩ := Kd.R_slice hr
    subst e
    have N0 := AK (HT.out.known hb hkp hr)
    have NG := AK (trace_good HOK.out (l0.length + 1) 0 y' HGY.out (by omega))
    have NK := AK (show ∀ p, p ∈ traceL l0 a3 (l0.length + 1) 0 y' ↔ p ∈ reachL l0 l1 a3 by rw [HYE.out]; exact HTKN.out)
    obtain ⟨y3, ey3⟩ : ∃ y3, y3 = traceL l0 a3 (l0.length + 1) 0 y' := ⟨_, rfl⟩
    rw [← ey3] at N0 NG NK ⊢
    clear hr hb hkp ey3 HT
    go_wp2
    go_roundg k1
    case measure => omega
    case rel => exact ⟨s5, a3, S5, D2, c5, cd2, K3, ck3, y3, rfl, HOK, ⟨by have := HLN.out; have := HM.out; have := HZ.out; omega⟩, HE3, ⟨NG.out, NK.out⟩, N0⟩
end Go.Proofs.Ytigjhfijkdlldaa.H
