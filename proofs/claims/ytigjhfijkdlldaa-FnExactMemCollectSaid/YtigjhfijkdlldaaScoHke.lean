/- impl.MemCollect's closure, walked: what guardians watch, where it has gone. -/
import Derived.Test.YtigjhfijkdlldaaScoHse
import Derived.Test.YtigjhfijkdlldaaScoPt
import Derived.Test.YtigjhfijkdlldaaScoV
namespace Go.Proofs.Ytigjhfijkdlldaa.H
open Go.RowKit Go.Proofs.YtigjhfijkdlldaaW.PrintWords Go.Proofs.YtigjhfijkdlldaaW.PrintLast Go.Proofs.YtigjhfijkdlldaaW.PrintMore Go.Proofs.Ytigjhfijkdlldaa.Q
set_option linter.unusedVariables false
set_option linter.unusedSimpArgs false
def keptB (x : List Int) (z : S60) : Bool := decide (0 ≤ idxL x z.f0) && decide (0 ≤ idxL x z.f1)
theorem movedW_take (x : List Int) (ws : List S60) (i : Int) (h0 : 0 ≤ i) (h1 : i < ws.length) :
  movedW x (ws.take (i + 1).toNat) = movedW x (ws.take i.toNat) ++ if keptB x (rd_T60 ws i) then [⟨idxL x (rd_T60 ws i).f0, idxL x (rd_T60 ws i).f1⟩] else [] := by
 have h2 : i.toNat < ws.length := by omega
 have e1 : rd_T60 ws i = ws[i.toNat] := by simp [rd_T60, List.getD_eq_getElem?_getD, h2]
 rw [show (i + 1).toNat = i.toNat + 1 by omega, List.take_add_one, List.getElem?_eq_getElem h2, ← e1]
 unfold movedW
 simp only [Option.toList_some, List.filter_append, List.map_append]
 congr 1
 by_cases c : keptB x (rd_T60 ws i) = true
 ·rw [if_pos c]; show List.map _ (List.filter (keptB x) _) = _; rw [List.filter_cons_of_pos c]; rfl
 ·rw [if_neg c]; show List.map _ (List.filter (keptB x) _) = _; rw [List.filter_cons_of_neg c]; rfl
theorem movedW_len (x : List Int) (ws : List S60) : (movedW x ws).length ≤ ws.length := by unfold movedW; rw [List.length_map]; exact List.length_filter_le ..
theorem kept6_tab : rtab .any (opsOf Try.f99 6) = (true, [([], []), ([], []), ([], []), ([2], [2]), ([1, 3], [1, 3]), ([4], [4]), ([], []), ([], []), ([7], [7]), ([6, 8], [6, 8]), ([9], [9]), ([5, 10], [5, 10]), ([11], [11]), ([0, 12], [0, 12]), ([13, 13, 0, 1, 2, 3, 4, 5, 6, 7, 8, 9, 10, 11, 12, 13], [0, 13])]) := by kernel_rfl
theorem kept6_bits : waitsOk [([], []), ([], []), ([], []), ([2], [2]), ([1, 3], [1, 3]), ([4], [4]), ([], []), ([], []), ([7], [7]), ([6, 8], [6, 8]), ([9], [9]), ([5, 10], [5, 10]), ([11], [11]), ([0, 12], [0, 12]), ([13, 13, 0, 1, 2, 3, 4, 5, 6, 7, 8, 9, 10, 11, 12, 13], [0, 13])] [0, 0, 0, 4, 14, 30, 0, 0, 128, 448, 960, 2046, 4094, 8191, 16383] = true := by kernel_rfl
set_option maxHeartbeats 4000000 in
set_option maxRecDepth 100000 in
theorem kept_calls (A P : Option Addr) (c d bp : Nat) (ws : List S60) (pl : List Int) (x : List Int) (w : World) (hr : Kd.C k60 w A ws.length ws) (hc : ws.length ≤ c) (hp : Kd.C (Kd.int .i64) w P pl.length pl) (hd : pl.length ≤ d)
  (hbp : w.heap[bp]? = some (.cells #[.slice P pl.length d] 25 (0, 0))) (hw : ∀ z ∈ ws, (0 ≤ z.f0 ∧ z.f0 < pl.length) ∧ 0 ≤ z.f1 ∧ z.f1 < pl.length) (hx : ∀ p : Int, 0 ≤ p → p < pl.length → rd pl p = idxL x p) (hl : ws.length ≤ 20) :
  Calls Try.prog 99 #[.slice A ws.length c, .pointer (some ⟨bp, 0, none⟩)] w fun e w' => ∃ v : Value, e = .returned v ∧ Kd.R k60 60 w' w.heap.size (fun _ => True) v (movedW x ws) ∧ Below w.heap.size w w' := by
 have HR := AK hr
 have HP := AK hp
 have HBP := AK hbp
 have HW := AK hw
 have HX := AK hx
 have HL := AK hl
 clear hr hc hp hd hbp hw hx hl
 go_enter Try.func99, Try.ntmps99
 go_wp2
 go_loopg [4, 9] ws.length (fun kq v4 v9 w' => ∃ i : Int, v9 = .int .i64 i ∧ Aside0 (0 ≤ i ∧ i + kq = ws.length) ∧ Aside0 (Kd.R k60 60 w' w.heap.size (fun _ => True) v4 (movedW x (ws.take i.toNat))) ∧ Aside0 (Below w.heap.size w w'))
 case atStart => exact ⟨0, rfl, ⟨by omega, by omega⟩, ⟨by exact Kd.R_nil _ _ _ _ _⟩, ⟨Below.refl _ _⟩⟩
 case round =>
  obtain ⟨i, rfl, HI, HO, HB⟩ := hrel
  cases gk with
  | zero =>
   have c4b : decide (i < (ws.length : Int)) = false := deF (by have := HI.out; omega)
   go_wp2
   go_ret
   exact ⟨_, rfl, by have h1 := HO.out; rwa [take_all _ _ (by have := HI.out; omega)] at h1, HB.out⟩
  | succ k1 =>
   have c4b : decide (i < (ws.length : Int)) = true := deT (by have := HI.out; omega)
   have e4a := eq_true (show 0 ≤ i by have := HI.out; omega)
   have e4b := eq_true (show i < (ws.length : Int) by have := HI.out; omega)
   obtain ⟨ad2, e, hz0, hz1⟩ := at_T60 HR.out i (by have := HI.out; omega) (by have := HI.out; omega)
   subst e
   replace hz0 := pcb HB.out hz0
   replace hz1 := pcb HB.out hz1
   have hw := HW.out _ (getD_mem ws z60 i (by have := HI.out; omega) (by have := HI.out; omega))
   have HT := AK (movedW_take x ws i (by have := HI.out; omega) (by have := HI.out; omega))
   obtain ⟨z, ez⟩ : ∃ z, z = rd_T60 ws i := ⟨_, rfl⟩
   have hw' : (0 ≤ z.f0 ∧ z.f0 < pl.length) ∧ 0 ≤ z.f1 ∧ z.f1 < pl.length := by rw [ez]; exact hw
   rw [← ez] at hz0 hz1 HT
   obtain ⟨m, em⟩ : ∃ m, m = movedW x (ws.take i.toNat) := ⟨_, rfl⟩
   have HLS := AK (show m.length ≤ ws.length by rw [em]; exact Nat.le_trans (movedW_len x (ws.take i.toNat)) (by rw [List.length_take]; omega))
   rw [← em] at HO HT
   clear em
   obtain ⟨⟨hw0, hw1⟩, hw2, hw3⟩ := hw'
   obtain ⟨ad3, e3, hy0⟩ := Kd.at_int HP.out z.f0 hw0 hw1
   obtain ⟨ad4, e4, hy1⟩ := Kd.at_int HP.out z.f1 hw2 hw3
   subst e3
   injection e4 with e4
   subst e4
   rw [HX.out _ hw0 hw1] at hy0
   rw [HX.out _ hw2 hw3] at hy1
   have CS := AK (And.intro (box1 HBP.out).1 (And.intro hy0 hy1))
   have hyb : ∀ o : Obj, (wr.alloc o).cell? ⟨bp, 0, none⟩ = some (.slice (some ad3) pl.length d) := fun o => pcb (below_alloc HB.out o) CS.out.1
   replace hy0 : ∀ o : Obj, (wr.alloc o).cell? (ad3.add z.f0.toNat) = some (.int .i64 (idxL x z.f0)) := fun o => pcb (below_alloc HB.out o) hy0
   replace hy1 : ∀ o : Obj, (wr.alloc o).cell? (ad3.add z.f1.toNat) = some (.int .i64 (idxL x z.f1)) := fun o => pcb (below_alloc HB.out o) hy1
   have hbl := Nat.lt_of_lt_of_le (blk_lt HBP.out) HB.out.size
   have f0 := eq_true hw0
   have f1 := eq_true hw1
   have f2 := eq_true hw2
   have f3 := eq_true hw3
   obtain ⟨Om, cm, e⟩ := Kd.R_slice HO.out
   subst e
   clear ez hw hw0 hw1 hw2 hw3
   have HO2 := AK (Kd.R_alloc HO.out (.cells #[.int .i64 z.f0, .int .i64 z.f1] 60 (0, 0)))
   have HB2 := AK (below_alloc HB.out (.cells #[.int .i64 z.f0, .int .i64 z.f1] 60 (0, 0)))
   have K6 := AK (blk_new wr (.cells #[.int .i64 z.f0, .int .i64 z.f1] 60 (0, 0)))
   have HLT := AK (fun k (e : (Value.slice Om m.length cm).ownBlock = some k) => Kd.R_lt HO.out k e)
   by_cases hv : 0 ≤ idxL x z.f0
   ·have c6 : decide (idxL x z.f0 ≥ 0) = true := deT hv
    have c6' : decide (0 ≤ idxL x z.f0) = true := deT hv
    have HV := AK hv
    clear hv
    by_cases hv : 0 ≤ idxL x z.f1
    ·have c7 : decide (idxL x z.f1 ≥ 0) = true := deT hv
     have c7' : decide (0 ≤ idxL x z.f1) = true := deT hv
     have HT2 := AK (show movedW x (ws.take (i + 1).toNat) = m ++ [⟨idxL x z.f0, idxL x z.f1⟩] by rw [HT.out]; unfold keptB; rw [deT HV.out, deT hv]; rfl)
     clear hv
     go_wp2_with fail
     clear hyb hy0 hy1 hz0 hz1 HO HB
     replace HB2 := AK (below_drew HB2.out)
     replace HO2 := AK (Kd.R_drew HO2.out)
     replace K6 := AK (blk_drew K6.out)
     refine start_ (n := 15) (S := (fun w' => w'.cell? ⟨bp, 0, none⟩ = some (.slice (some ad3) pl.length d) ∧ w'.cell? (ad3.add z.f0.toNat) = some (.int .i64 (idxL x z.f0)) ∧ w'.cell? (ad3.add z.f1.toNat) = some (.int .i64 (idxL x z.f1)) ∧ w'.cell? ⟨wr.heap.size, 0, none⟩ = some (.int .i64 z.f0) ∧ w'.cell? ⟨wr.heap.size, 1, none⟩ = some (.int .i64 z.f1))) (ds := []) #[fF,fF,fF,fF,fF,fF,fF,fF,fF,fF,fF,fF,fF,fF,fF] (by kernel_rfl) rfl rfl ⟨pcb HB2.out CS.out.1, pcb HB2.out CS.out.2.1, pcb HB2.out CS.out.2.2, (box2 K6.out).1, (box2 K6.out).2⟩ (fun hHeld => ?_); refine with_tabW kept6_tab kept6_bits (fun HT_ HW_ => ?_)
     generalize (wr.alloc (.cells #[.int .i64 z.f0, .int .i64 z.f1] 60 (0, 0))).drew = w2 at HB2 HO2 K6 hHeld ⊢
     refine pure_ (i := 0) (N := some 27) (v := ?_) (a' := ?_) #[tT,fF,fF,fF,fF,fF,fF,fF,fF,fF,fF,fF,fF,fF,fF] rfl rfl (any_of HT_.out (by kernel_rfl)) (fun _ _ _ h => h) (Or.inl ⟨by rfl, ?_⟩) ?_ ?_
     rotate_left
     ·intro w'
      go_simp
      with_reducible rfl
     rotate_left
     ·exact zP
     refine take_ (i := 1) (N := some 28) (v := ?_) (a' := ?_) #[tT,tT,fF,fF,fF,fF,fF,fF,fF,fF,fF,fF,fF,fF,fF] rfl rfl (take_ofW HT_.out HW_.out (by kernel_rfl)) (fun _ _ _ h => h) (Or.inl ⟨by rfl, ?_⟩) hHeld ?_ ?_
     rotate_left
     ·rintro w' ⟨s0, s1, s2', s3', s4⟩
      go_simp
      with_reducible rfl
     rotate_left
     ·exact zP
     refine pure_ (i := 2) (N := some 29) (v := ?_) (a' := ?_) #[tT,tT,tT,fF,fF,fF,fF,fF,fF,fF,fF,fF,fF,fF,fF] rfl rfl (any_of HT_.out (by kernel_rfl)) (fun _ _ _ h => h) (Or.inl ⟨by rfl, ?_⟩) ?_ ?_
     rotate_left
     ·intro w'
      go_simp
      with_reducible rfl
     rotate_left
     ·exact zP
     refine take_ (i := 3) (N := some 30) (v := ?_) (a' := ?_) #[tT,tT,tT,tT,fF,fF,fF,fF,fF,fF,fF,fF,fF,fF,fF] rfl rfl (take_ofW HT_.out HW_.out (by kernel_rfl)) (fun _ _ _ h => h) (Or.inl ⟨by rfl, ?_⟩) hHeld ?_ ?_
     rotate_left
     ·rintro w' ⟨s0, s1, s2', s3', s4⟩
      go_simp
      with_reducible rfl
     rotate_left
     ·exact zP
     refine pure_ (i := 4) (N := some 31) (v := ?_) (a' := ?_) #[tT,tT,tT,tT,tT,fF,fF,fF,fF,fF,fF,fF,fF,fF,fF] rfl rfl (any_of HT_.out (by kernel_rfl)) (fun _ _ _ h => h) (Or.inl ⟨by rfl, ?_⟩) ?_ ?_
     rotate_left
     ·intro w'
      go_simp
      with_reducible rfl
     rotate_left
     ·exact zP
     refine take_ (i := 5) (N := some 32) (v := ?_) (a' := ?_) #[tT,tT,tT,tT,tT,tT,fF,fF,fF,fF,fF,fF,fF,fF,fF] rfl rfl (take_ofW HT_.out HW_.out (by kernel_rfl)) (fun _ _ _ h => h) (Or.inl ⟨by rfl, ?_⟩) hHeld ?_ ?_
     rotate_left
     ·rintro w' ⟨s0, s1, s2', s3', s4⟩
      go_simp
      with_reducible rfl
     rotate_left
     ·exact zP
     refine take_ (i := 6) (N := some 33) (v := ?_) (a' := ?_) #[tT,tT,tT,tT,tT,tT,tT,fF,fF,fF,fF,fF,fF,fF,fF] rfl rfl (take_ofW HT_.out HW_.out (by kernel_rfl)) (fun _ _ _ h => h) (Or.inl ⟨by rfl, ?_⟩) hHeld ?_ ?_
     rotate_left
     ·rintro w' ⟨s0, s1, s2', s3', s4⟩
      go_simp
      with_reducible rfl
     rotate_left
     ·exact zP
     refine pure_ (i := 7) (N := some 34) (v := ?_) (a' := ?_) #[tT,tT,tT,tT,tT,tT,tT,tT,fF,fF,fF,fF,fF,fF,fF] rfl rfl (any_of HT_.out (by kernel_rfl)) (fun _ _ _ h => h) (Or.inl ⟨by rfl, ?_⟩) ?_ ?_
     rotate_left
     ·intro w'
      go_simp
      with_reducible rfl
     rotate_left
     ·exact zP
     refine take_ (i := 8) (N := some 35) (v := ?_) (a' := ?_) #[tT,tT,tT,tT,tT,tT,tT,tT,tT,fF,fF,fF,fF,fF,fF] rfl rfl (take_ofW HT_.out HW_.out (by kernel_rfl)) (fun _ _ _ h => h) (Or.inl ⟨by rfl, ?_⟩) hHeld ?_ ?_
     rotate_left
     ·rintro w' ⟨s0, s1, s2', s3', s4⟩
      go_simp
      with_reducible rfl
     rotate_left
     ·exact zP
     refine pure_ (i := 9) (N := some 36) (v := ?_) (a' := ?_) #[tT,tT,tT,tT,tT,tT,tT,tT,tT,tT,fF,fF,fF,fF,fF] rfl rfl (any_of HT_.out (by kernel_rfl)) (fun _ _ _ h => h) (Or.inl ⟨by rfl, ?_⟩) ?_ ?_
     rotate_left
     ·intro w'
      go_simp
      with_reducible rfl
     rotate_left
     ·exact zP
     refine take_ (i := 10) (N := some 37) (v := ?_) (a' := ?_) #[tT,tT,tT,tT,tT,tT,tT,tT,tT,tT,tT,fF,fF,fF,fF] rfl rfl (take_ofW HT_.out HW_.out (by kernel_rfl)) (fun _ _ _ h => h) (Or.inl ⟨by rfl, ?_⟩) hHeld ?_ ?_
     rotate_left
     ·rintro w' ⟨s0, s1, s2', s3', s4⟩
      go_simp
      with_reducible rfl
     rotate_left
     ·exact zP
     refine pure_ (i := 11) (N := some 38) (v := ?_) (a' := ?_) #[tT,tT,tT,tT,tT,tT,tT,tT,tT,tT,tT,tT,fF,fF,fF] rfl rfl (any_of HT_.out (by kernel_rfl)) (fun _ _ _ h => h) (Or.inl ⟨by rfl, ?_⟩) ?_ ?_
     rotate_left
     ·intro w'
      go_simp
      with_reducible rfl
     rotate_left
     ·exact zP
     refine one_ (i := 12) (N := some 39) #[tT,tT,tT,tT,tT,tT,tT,tT,tT,tT,tT,tT,tT,fF,fF] rfl rfl (one_of HT_.out (by kernel_rfl)) (by decide) (fun K hK => ?_)
     refine value_ (v := .slice (some ⟨w2.heap.size, 0, none⟩) 1 1) (w1 := w2.alloc (.cells #[.int .i64 (idxL x z.f0), .int .i64 (idxL x z.f1)] 60 (0, 0))) (by rfl) rfl ?hr ?_; (case hr => first | (go_simp; done) | (go_simp; rfl))
     refine hK.out _ _ ⟨pcb (below_alloc HB2.out _) CS.out.1, pcb (below_alloc HB2.out _) CS.out.2.1, pcb (below_alloc HB2.out _) CS.out.2.2, (box2 (blk_alloc K6.out _)).1, (box2 (blk_alloc K6.out _)).2⟩ (fun hHeld => ?_)
     clear hK K
     refine norm_ (a' := ?_) ?_ ?_
     rotate_left
     ·show Act.put _ (some 39) _ = _
      exact zP
     refine one_ (i := 13) (N := some 40) #[tT,tT,tT,tT,tT,tT,tT,tT,tT,tT,tT,tT,tT,tT,fF] rfl rfl (one_of HT_.out (by kernel_rfl)) (by decide) (fun K hK => ?_)
     refine Kd.R_append_step k60 (w0 := w) (W := w2) w.heap.size (by rfl) (.tmp 27) (.tmp 39) 26 60 (.agg #[(.int .i64 0), (.int .i64 0)]) 16 rfl Try.underlying26 info60 rfl (by decide) (by omega) (.slice Om m.length cm) m (⟨idxL x z.f0, idxL x z.f1⟩ : S60) [.int .i64 (idxL x z.f0), .int .i64 (idxL x z.f1)] (fun _ => True) (fun _ => False) rfl rfl ?aP (fun _ hk => hk.elim) ?aF ?aO ?aB ?aS ?aL ?_; (case aP => exact k60_mkM _ _ _ (⟨idxL x z.f0, idxL x z.f1⟩ : S60)); (case aF => exact fun _ _ => trivial); (case aO => exact HO2.out); (case aB => exact HB2.out); (case aS => exact HB2.out.size); (case aL => have := HL.out; have := HLS.out; omega)
     intro v5 w5 ho hb hg hat
     have HO5 := AK ho
     have HB5 := AK hb
     have K5 := AK (blk_grown K6.out hg (fun e => Nat.lt_irrefl _ (HLT.out _ e.symm)))
     clear ho hb hg hat
     refine hK.out _ _ ⟨pcb HB5.out CS.out.1, pcb HB5.out CS.out.2.1, pcb HB5.out CS.out.2.2, (box2 K5.out).1, (box2 K5.out).2⟩ (fun hHeld => ?_)
     clear hK K
     refine norm_ (a' := ?_) ?_ ?_
     rotate_left
     ·show Act.put _ (some 40) _ = _
      exact zP
     refine pure_ (i := 14) (N := some 4) (v := ?_) (a' := ?_) #[tT,tT,tT,tT,tT,tT,tT,tT,tT,tT,tT,tT,tT,tT,tT] rfl rfl (any_of HT_.out (by kernel_rfl)) (fun _ _ _ h => h) (Or.inl ⟨by rfl, ?_⟩) ?_ ?_
     rotate_left
     ·intro w'
      go_simp
      with_reducible rfl
     rotate_left
     ·exact zP
     refine done_ (done_of HT_.out (by kernel_rfl)) ?_
     clear HT_ HW_ hHeld
     go_wp2
     go_roundg k1
     case measure => omega
     case rel =>
      have h1 := HI.out
      have h2 := HL.out
      rw [wrap_succ i (by omega) (by omega)]
      exact ⟨i + 1, rfl, ⟨by omega, by omega⟩, ⟨by rw [HT2.out]; exact HO5.out⟩, HB5⟩
    ·have c7 : decide (idxL x z.f1 ≥ 0) = false := deF hv
     have c7' : decide (0 ≤ idxL x z.f1) = false := deF hv
     have HT2 := AK (show movedW x (ws.take (i + 1).toNat) = m by rw [HT.out]; unfold keptB; rw [deF hv]; simp)
     clear hv
     go_wp2
     go_roundg k1
     case measure => omega
     case rel =>
      have h1 := HI.out
      have h2 := HL.out
      rw [wrap_succ i (by omega) (by omega)]
      exact ⟨i + 1, rfl, ⟨by omega, by omega⟩, ⟨by rw [HT2.out]; exact HO2.out⟩, HB2⟩
   ·have c6 : decide (idxL x z.f0 ≥ 0) = false := deF hv
    have c6' : decide (0 ≤ idxL x z.f0) = false := deF hv
    have HT2 := AK (show movedW x (ws.take (i + 1).toNat) = m by rw [HT.out]; unfold keptB; rw [deF hv]; simp)
    clear hv
    go_wp2
    go_roundg k1
    case measure => omega
    case rel =>
     have h1 := HI.out
     have h2 := HL.out
     rw [wrap_succ i (by omega) (by omega)]
     exact ⟨i + 1, rfl, ⟨by omega, by omega⟩, ⟨by rw [HT2.out]; exact HO2.out⟩, HB2⟩
end Go.Proofs.Ytigjhfijkdlldaa.H
