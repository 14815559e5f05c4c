/- laws.heldMemObjS, laws.heldMemHeap: a marked heap is held. -/
import Derived.Test.YtigjhfijkdlldaaScoHmp
import Derived.Test.YtigjhfijkdlldaaScoV
namespace Go.Proofs.Ytigjhfijkdlldaa.H
open Go.RowKit Go.Proofs.YtigjhfijkdlldaaW.PrintWords Go.Proofs.YtigjhfijkdlldaaW.PrintLast Go.Proofs.YtigjhfijkdlldaaW.PrintMore Go.Proofs.Ytigjhfijkdlldaa.Q
set_option linter.unusedVariables false
set_option linter.unusedSimpArgs false
theorem markO_rd (a : Int) (l : List S38) (i : Int) (h0 : 0 ≤ i) (h1 : i < l.length) : rd_T38 (markO a l) i = ⟨a + cntO (l.take i.toNat), mtxt (a + cntO (l.take i.toNat) + 1), marksI (a + cntO (l.take i.toNat) + 2) (rd_T38 l i).f2.length⟩ := by
 have h2 : i.toNat < l.length := by omega
 have e : l[i.toNat] = rd_T38 l i := by unfold rd_T38; rw [List.getD_eq_getElem?_getD, List.getElem?_eq_getElem h2]; rfl
 have hl : (markO a (l.take i.toNat)).length = i.toNat := by rw [markO_length, List.length_take]; omega
 conv => lhs; unfold rd_T38; rw [show l = l.take i.toNat ++ l.drop i.toNat from (List.take_append_drop _ _).symm, markO_append, List.drop_eq_getElem_cons h2]
 rw [show markO (a + cntO (List.take i.toNat l)) (l[i.toNat] :: List.drop (i.toNat + 1) l) = _ :: _ from rfl, getD_at _ _ _ _ _ hl, e]
theorem heldInt_c3 {w : World} {A : Option Addr} {c : Nat} {a : Int} {n : Nat} (h : Kd.C (Kd.int .i64) w A (marksI a n).length (marksI a n)) (hc : (marksI a n).length ≤ c) (ha : 0 ≤ a) (hn : a + n ≤ 1152921504606846976) :
  Calls Try.prog 32 #[.slice A (marksI a n).length c, .int .i64 a] w fun e w' => e = .returned (.int .i64 (a + n)) ∧ Drawn0 w w' :=
 laws_heldIntS.calls (n + 1) A c (marksI a n) a _ w h hc (heldIntS_f a ha n hn _ (by omega))
theorem heldWatch_c3 {w : World} {A : Option Addr} {c : Nat} {a : Int} {n : Nat} (h : Kd.C k60 w A (marksW a n).length (marksW a n)) (hc : (marksW a n).length ≤ c) (ha : 0 ≤ a) (hn : a + 2 * n ≤ 1152921504606846976) :
  Calls Try.prog 101 #[.slice A (marksW a n).length c, .int .i64 a] w fun e w' => e = .returned (.int .i64 (a + 2 * n)) ∧ Drawn0 w w' :=
 laws_heldMemWatchS.calls (n + 1) A c (marksW a n) a _ w h hc (heldMemWatchS_f a ha n hn _ (by omega))
theorem held7_tab : rtab .any (opsOf Try.f100 7) = (true, [([], []), ([], []), ([0, 1], [0, 1]), ([2], [2]), ([3], [3]), ([], []), ([5], [5]), ([4, 6], [4, 6])]) := by kernel_rfl
theorem held7_bits : waitsOk [([], []), ([], []), ([0, 1], [0, 1]), ([2], [2]), ([3], [3]), ([], []), ([5], [5]), ([4, 6], [4, 6])] [0, 0, 3, 7, 15, 0, 32, 127] = true := by kernel_rfl
set_option maxHeartbeats 4000000 in
set_option maxRecDepth 100000 in
theorem heldMemObjS_calls (a : Int) (w : World) (A : Option Addr) (c : Nat) (l : List S38) (h : Kd.C k38 w A l.length (markO a l)) (hk : l.length ≤ c) (ha : 0 ≤ a) (hc : a + cntO l ≤ 1152921504606846976) (hl : l.length ≤ 1048576) :
  Calls Try.prog 100 #[.slice A l.length c, .int .i64 a] w fun e w' => e = .returned (.int .i64 (a + cntO l)) ∧ Below w.heap.size w w' := by
 have HS := AK h
 have HB := AK (Below.refl w.heap.size w)
 have HC := AK hc
 have HA := AK ha
 have HL := AK hl
 clear h hk ha hc hl
 go_enter Try.func100, Try.ntmps100
 go_wp2
 go_loopg [1, 5] l.length (fun kq v1 v5 w' => ∃ (x i : Int), v1 = .int .i64 x ∧ v5 = .int .i64 i ∧ Aside0 (0 ≤ i ∧ i + kq = l.length) ∧ Aside0 (x = a + cntO (l.take i.toNat)) ∧ Aside0 (Below w.heap.size w w'))
 case atStart => exact ⟨a, 0, rfl, rfl, ⟨by omega, by omega⟩, ⟨by simp [cntO]⟩, HB⟩
 case round =>
  clear HB
  obtain ⟨x, i, rfl, rfl, HI, HX, HB⟩ := hrel
  cases gk with
  | succ k1 =>
   have c9 : decide (i < (l.length : Int)) = true := deT (by have := HI.out; omega)
   have hi0 := eq_true (show 0 ≤ i by have := HI.out; omega)
   have hi1 := eq_true (show i < (l.length : Int) by have := HI.out; omega)
   obtain ⟨ad, As, cs, e, z0, z1, z2, zl, zc⟩ := at_T38 HS.out i (by have := HI.out; omega) (by have := HI.out; omega)
   subst e
   rw [markO_rd a l i (by have := HI.out; omega) (by have := HI.out; omega), ← HX.out] at z0 z1 z2 zl zc
   have hcn := cnt_step l i (by have := HI.out; omega) (by have := HI.out; omega)
   have hcl2 := cnt_le l (i + 1).toNat
   have hnn := cntO_nonneg (l.take i.toNat)
   obtain ⟨n, en⟩ : ∃ n, n = (rd_T38 l i).f2.length := ⟨_, rfl⟩
   rw [← en] at z2 zl zc hcn
   rw [show x + 2 = x + 1 + 1 by omega] at z2 zl zc
   have bx0 : 0 ≤ x := by have := HX.out; have := HA.out; omega
   have bx1 : x + 2 + n ≤ 1152921504606846976 := by have := HX.out; have := HC.out; omega
   have bx2 : x ≤ 1152921504606846976 := by omega
   obtain ⟨kt, hkt⟩ := (mtxt_f (x + 1) (by omega)).rounds
   have HKT := AK hkt
   have HXN := AK (show a + cntO (l.take (i + 1).toNat) = x + 2 + n by rw [hcn, HX.out]; omega)
   have hxx : (x != x) = false := by simp
   obtain ⟨tx, etx⟩ : ∃ tx, tx = mtxt (x + 1) := ⟨_, rfl⟩
   rw [← etx] at z1 HKT
   have htt : (tx.toList != tx.toList) = false := by simp
   have HZ := AK (And.intro zc zl)
   have Z1 := AK z1
   have Z2 := AK z2
   have HB1 := AK bx1
   obtain ⟨y0, ey0⟩ : ∃ y0, y0 = wr.cell? (ad.add (i.toNat * 3)) := ⟨_, rfl⟩
   rw [pcb HB.out z0] at ey0
   replace z0 := pcb HB.out z0
   clear hcn hcl2 hnn en etx hkt z1 z2 zl zc ey0
   go_wp2_with fail
   clear z0
   obtain ⟨u7, hu7⟩ : ∃ u, u = wr := ⟨_, rfl⟩
   subst hu7
   replace HB := AK (below_drew1 HB.out)
   refine start_ (n := 8) (S := (fun w' => w'.cell? ⟨(ad.add (i.toNat * 3)).block, (ad.add (i.toNat * 3)).off + 1, none⟩ = some (.string tx))) (ds := []) #[fF,fF,fF,fF,fF,fF,fF,fF] (by kernel_rfl) rfl rfl (pcb HB.out Z1.out) (fun hHeld => ?_); refine with_tabW held7_tab held7_bits (fun HT_ HW_ => ?_)
   generalize u7.drew = v5 at HB hHeld ⊢
   refine pure_ (i := 0) (N := some 21) (v := ?_) (a' := ?_) #[tT,fF,fF,fF,fF,fF,fF,fF] rfl rfl (any_of HT_.out (by kernel_rfl)) (fun _ _ _ h => h) (Or.inl ⟨by rfl, ?_⟩) ?_ ?_
   rotate_left
   ·intro w'
    go_simp
    with_reducible rfl
   rotate_left
   ·exact zP
   refine pure_ (i := 1) (N := some 22) (v := ?_) (a' := ?_) #[tT,tT,fF,fF,fF,fF,fF,fF] rfl rfl (any_of HT_.out (by kernel_rfl)) (fun _ _ _ h => h) (Or.inl ⟨by rfl, ?_⟩) ?_ ?_
   rotate_left
   ·intro w'
    go_simp
    with_reducible rfl
   rotate_left
   ·exact zP
   refine pure_ (i := 2) (N := some 23) (v := ?_) (a' := ?_) #[tT,tT,tT,fF,fF,fF,fF,fF] rfl rfl (any_of HT_.out (by kernel_rfl)) (fun _ _ _ h => h) (Or.inl ⟨by rfl, ?_⟩) ?_ ?_
   rotate_left
   ·intro w'
    go_simp
    with_reducible rfl
   rotate_left
   ·exact zP
   refine pure_ (i := 3) (N := some 24) (v := ?_) (a' := ?_) #[tT,tT,tT,tT,fF,fF,fF,fF] rfl rfl (any_of HT_.out (by kernel_rfl)) (fun _ _ _ h => h) (Or.inl ⟨by rfl, ?_⟩) ?_ ?_
   rotate_left
   ·intro w'
    go_simp
    with_reducible rfl
   rotate_left
   ·exact zP
   refine take_ (i := 4) (N := some 25) (v := ?_) (a' := ?_) #[tT,tT,tT,tT,tT,fF,fF,fF] rfl rfl (take_ofW HT_.out HW_.out (by kernel_rfl)) (fun _ _ _ h => h) (Or.inl ⟨by rfl, ?_⟩) hHeld ?_ ?_
   rotate_left
   ·rintro w' s_0
    go_simp
    with_reducible rfl
   rotate_left
   ·exact zP
   refine pure_ (i := 5) (N := some 26) (v := ?_) (a' := ?_) #[tT,tT,tT,tT,tT,tT,fF,fF] rfl rfl (any_of HT_.out (by kernel_rfl)) (fun _ _ _ h => h) (Or.inl ⟨by rfl, ?_⟩) ?_ ?_
   rotate_left
   ·intro w'
    go_simp
    with_reducible rfl
   rotate_left
   ·exact zP
   refine one_ (i := 6) (N := some 27) #[tT,tT,tT,tT,tT,tT,tT,fF] rfl rfl (one_of HT_.out (by kernel_rfl)) (by decide) (fun K hK => ?_)
   refine goes_ Try.func112 (by kernel_rfl) rfl #[.int .i64 (x + 1)] (by rfl) rfl rfl zI ?_
   refine (laws_markText.calls kt (x + 1) tx _ HKT.out).mono ?_
   rintro e v6 ⟨rfl, hb⟩
   refine ⟨_, rfl, ?_⟩
   replace HB := AK (bst HB.out hb)
   clear hb
   refine hK.out _ _ (pcb HB.out Z1.out) (fun hHeld => ?_)
   clear hK K
   refine norm_ (a' := ?_) ?_ ?_
   rotate_left
   ·show Act.put _ (some 27) _ = _
    exact zP
   refine pure_ (i := 7) (N := some 28) (v := ?_) (a' := ?_) #[tT,tT,tT,tT,tT,tT,tT,tT] rfl rfl (any_of HT_.out (by kernel_rfl)) (fun _ _ _ h => h) (Or.inl ⟨by rfl, ?_⟩) ?_ ?_
   rotate_left
   ·intro w'
    go_simp
    with_reducible rfl
   rotate_left
   ·exact zP
   refine done_ (done_of HT_.out (by kernel_rfl)) ?_
   clear HT_ HW_ hHeld
   have z2 := pcb HB.out Z2.out
   go_wp2_with fail
   clear z2
   refine (heldInt_c3 (Kd.C_below HZ.out.1 HB.out) HZ.out.2 (by omega) (by omega)).mono ?_
   rintro e v8 ⟨rfl, hd⟩
   replace HB := AK (bst HB.out hd.below)
   have hlt : decide (x + 1 + 1 + (n : Int) < 0) = false := deF (by omega)
   clear hd
   go_wp2
   go_roundg k1
   case measure => omega
   case rel =>
    have h1 := HI.out
    have h2 := HL.out
    have h3 := HXN.out
    rw [wrap_succ i (by omega) (by omega)]
    exact ⟨_, i + 1, rfl, rfl, ⟨by omega, by omega⟩, ⟨by omega⟩, HB⟩
  | zero =>
   have c9 : decide (i < (l.length : Int)) = false := deF (by have := HI.out; omega)
   go_wp2
   go_ret
   have h2 := HX.out
   rw [take_all _ _ (by have := HI.out; omega)] at h2
   exact ⟨by rw [h2]; rfl, HB.out⟩
theorem Mkd.at0 {w : World} {lo : Nat} {P : Nat → Prop} {a : Int} {A0 A1 A2 A3 : Option Addr} {c0 c1 c2 c3 n1 n2 n3 : Nat} {l0 : List S38} (h : Mkd w lo P a A0 c0 A1 c1 A2 c2 A3 c3 l0 n1 n2 n3) : Kd.C k38 w A0 l0.length (markO a l0) ∧ l0.length ≤ c0 := by
 have h1 := Kd.R_reads' (Kd.S_R h.s0)
 rw [markO_length] at h1
 exact ⟨h1.2.2, h1.2.1⟩
set_option maxHeartbeats 4000000 in
set_option maxRecDepth 100000 in
theorem heldHeap_calls {w : World} {lo : Nat} {P : Nat → Prop} {a : Int} {A0 A1 A2 A3 : Option Addr} {c0 c1 c2 c3 n1 n2 n3 : Nat} {l0 : List S38} (h : Mkd w lo P a A0 c0 A1 c1 A2 c2 A3 c3 l0 n1 n2 n3) (ha : 0 ≤ a) (hl : l0.length ≤ 1048576) (b : Int) (hb : b = a + cntO l0 + n1 + 2 * n2 + 2 * n3) (hc : b ≤ 1152921504606846976) :
  Calls Try.prog 40 #[.agg #[.slice A0 l0.length c0, .slice A1 n1 c1, .slice A2 n2 c2, .slice A3 n3 c3], .int .i64 a] w fun e w' => e = .returned (.int .i64 b) ∧ Below w.heap.size w w' := by
 have HM := AK h
 have HL := AK hl
 have hn := cntO_nonneg l0
 obtain ⟨b0, e0⟩ : ∃ b0, b0 = a + cntO l0 := ⟨_, rfl⟩
 obtain ⟨b1, e1⟩ : ∃ b1 : Int, b1 = b0 + n1 := ⟨_, rfl⟩
 obtain ⟨b2, e2⟩ : ∃ b2 : Int, b2 = b1 + 2 * n2 := ⟨_, rfl⟩
 have hb0 : decide (b0 < 0) = false := deF (by omega)
 have hb1 : decide (b1 < 0) = false := deF (by omega)
 have hb2 : decide (b2 < 0) = false := deF (by omega)
 have hb3 : decide (b < 0) = false := deF (by omega)
 have HE := AK (show b0 = a + cntO l0 ∧ b1 = b0 + n1 ∧ b2 = b1 + 2 * n2 ∧ b = b2 + 2 * n3 by omega)
 have HN := AK (show 0 ≤ a ∧ 0 ≤ b0 ∧ 0 ≤ b1 ∧ 0 ≤ b2 ∧ b ≤ 1152921504606846976 by omega)
 have HB := AK (below_alloc (Below.refl w.heap.size w) (.cells #[.slice A0 l0.length c0, .slice A1 n1 c1, .slice A2 n2 c2, .slice A3 n3 c3] 28 (0, 0)))
 have HX := AK (blk_new w (.cells #[.slice A0 l0.length c0, .slice A1 n1 c1, .slice A2 n2 c2, .slice A3 n3 c3] 28 (0, 0)))
 clear h hn ha hl hb hc e0 e1 e2
 go_enter Try.func40, Try.ntmps40
 go_wp2_with fail
 have hm := HM.out.below HB.out
 refine (heldMemObjS_calls a _ A0 c0 l0 hm.at0.1 hm.at0.2 HN.out.1 (by have := HE.out; have := HN.out; omega) HL.out).mono ?_
 rintro e v1 ⟨rfl, hb⟩
 clear hm
 rw [← HE.out.1]
 replace HB := AK (bst HB.out hb)
 replace HX := AK (bbl HX.out hb)
 clear hb
 obtain ⟨q0, q1, q2, q3⟩ := box4 HX.out
 go_wp2_with fail
 clear q0 q1 q2 q3
 have h1 := Kd.R_reads' (HM.out.below HB.out).s1
 have e1 : n1 = (marksI b0 n1).length := (marksI_length _ _).symm
 rw [← HE.out.1, ← e1] at h1
 have hq := @heldInt_c3 v1 A1 c1 b0 n1 (by rw [← e1]; exact h1.2.2) (by rw [← e1]; exact h1.2.1) HN.out.2.1 (by have := HE.out; have := HN.out; omega)
 rw [← e1] at hq
 refine hq.mono ?_
 rintro e v2 ⟨rfl, hd⟩
 have hb := hd.below
 clear hq h1 e1 hd
 rw [← HE.out.2.1]
 replace HB := AK (bst HB.out hb)
 replace HX := AK (bbl HX.out hb)
 clear hb
 obtain ⟨q0, q1, q2, q3⟩ := box4 HX.out
 go_wp2_with fail
 clear q0 q1 q2 q3
 have h1 := Kd.R_reads' (HM.out.below HB.out).s2
 have e1 : n2 = (marksW b1 n2).length := (marksW_length _ _).symm
 rw [← HE.out.1, ← HE.out.2.1, ← e1] at h1
 have hq := @heldWatch_c3 v2 A2 c2 b1 n2 (by rw [← e1]; exact h1.2.2) (by rw [← e1]; exact h1.2.1) HN.out.2.2.1 (by have := HE.out; have := HN.out; omega)
 rw [← e1] at hq
 refine hq.mono ?_
 rintro e v3 ⟨rfl, hd⟩
 have hb := hd.below
 clear hq h1 e1 hd
 rw [← HE.out.2.2.1]
 replace HB := AK (bst HB.out hb)
 replace HX := AK (bbl HX.out hb)
 clear hb
 obtain ⟨q0, q1, q2, q3⟩ := box4 HX.out
 go_wp2_with fail
 clear q0 q1 q2 q3
 have h1 := Kd.R_reads' (HM.out.below HB.out).s3
 have e1 : n3 = (marksW b2 n3).length := (marksW_length _ _).symm
 rw [← HE.out.1, ← HE.out.2.1, ← HE.out.2.2.1, ← e1] at h1
 have hq := @heldWatch_c3 v3 A3 c3 b2 n3 (by rw [← e1]; exact h1.2.2) (by rw [← e1]; exact h1.2.1) HN.out.2.2.2.1 (by have := HE.out; have := HN.out; omega)
 rw [← e1] at hq
 refine hq.mono ?_
 rintro e v4 ⟨rfl, hd⟩
 have hb := hd.below
 clear hq h1 e1 hd
 rw [← HE.out.2.2.2]
 replace HB := AK (bst HB.out hb)
 clear hb
 go_wp2
 go_ret
 exact ⟨rfl, HB.out⟩
end Go.Proofs.Ytigjhfijkdlldaa.H
