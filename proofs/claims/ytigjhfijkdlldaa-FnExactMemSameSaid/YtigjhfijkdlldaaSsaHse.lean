/- impl.MemSame's closures, walked. -/
import Derived.Test.YtigjhfijkdlldaaSsaHpl
import Derived.Deep.RegionHeld3
namespace Go.Proofs.Ytigjhfijkdlldaa.H
open Go.RowKit Go.Proofs.YtigjhfijkdlldaaW.PrintWords Go.Proofs.YtigjhfijkdlldaaW.PrintLast Go.Proofs.YtigjhfijkdlldaaW.PrintMore Go.Proofs.Ytigjhfijkdlldaa.Q
set_option linter.unusedVariables false
theorem seenW_take (x : List Int) (ws : List S60) (i : Int) (h0 : 0 ≤ i) (h1 : i < ws.length) :
    seenW x (ws.take (i + 1).toNat) = seenW x (ws.take i.toNat) ++ if 0 ≤ idxL x (rd_T60 ws i).f0 then [⟨idxL x (rd_T60 ws i).f0, idxL x (rd_T60 ws i).f1⟩] else [] := by
  have h2 : i.toNat < ws.length := by omega
  have e1 : rd_T60 ws i = ws[i.toNat] := by simp [rd_T60, List.getD_eq_getElem?_getD, h2]
  rw [show (i + 1).toNat = i.toNat + 1 by omega, List.take_add_one, List.getElem?_eq_getElem h2, ← e1]
  unfold seenW
  simp only [Option.toList_some, List.filter_append, List.map_append]
  congr 1
  by_cases c : 0 ≤ idxL x (rd_T60 ws i).f0
  · rw [if_pos c, List.filter_cons_of_pos (by simpa using c)]; rfl
  · rw [if_neg c, List.filter_cons_of_neg (by simpa using c)]; rfl
theorem seenW_len (x : List Int) (ws : List S60) : (seenW x ws).length ≤ ws.length := by unfold seenW; rw [List.length_map]; exact List.length_filter_le ..
set_option maxHeartbeats 4000000 in
set_option maxRecDepth 100000 in
theorem seen_calls (A P : Option Addr) (c d : Nat) (ws : List S60) (pl : List Int) (x : List Int) (w : World) (hr : Kd.C k60 w A ws.length ws) (hc : ws.length ≤ c) (hp : Kd.C (Kd.int .i64) w P pl.length pl) (hd : pl.length ≤ d)
    (hw : ∀ z ∈ ws, (0 ≤ z.f0 ∧ z.f0 < pl.length) ∧ 0 ≤ z.f1 ∧ z.f1 < pl.length) (hx : ∀ p : Int, 0 ≤ p → p < pl.length → rd pl p = idxL x p) (hl : ws.length ≤ 20) :
    Calls Try.prog 71 #[.slice A ws.length c, .slice P pl.length d] w fun e w' => ∃ v : Value, e = .returned v ∧ Kd.R k60 60 w' w.heap.size (fun _ => True) v (seenW x ws) ∧ Below w.heap.size w w' := by
  have HR := Aside0.mk hr
  have HP := Aside0.mk hp
  have HW := Aside0.mk hw
  have HX := Aside0.mk hx
  have HL := Aside0.mk hl
  clear hr hc hp hd hw hx hl
  go_enter Try.func71, Try.ntmps71
  go_wp2
  go_loopg [5, 10] ws.length (fun kq v5 v10 w' => ∃ i : Int, v10 = .int .i64 i ∧ Aside0 (0 ≤ i ∧ i + kq = ws.length) ∧ Aside0 (Kd.R k60 60 w' w.heap.size (fun _ => True) v5 (seenW x (ws.take i.toNat))) ∧ Aside0 (Below w.heap.size w w'))
  case atStart => exact ⟨0, rfl, ⟨by omega, by omega⟩, ⟨by exact Kd.R_nil _ _ _ _ _⟩, ⟨Below.refl _ _⟩⟩
  case round =>
    obtain ⟨i, rfl, HI, HO, HB⟩ := hrel
    cases gk with
    | zero =>
      have c4b : decide (i < (ws.length : Int)) = false := decide_eq_false (by have := HI.out; omega)
      go_wp2
      go_ret
      exact ⟨_, rfl, by have h1 := HO.out; rwa [take_all _ _ (by have := HI.out; omega)] at h1, HB.out⟩
    | succ k1 =>
      have c4b : decide (i < (ws.length : Int)) = true := decide_eq_true (by have := HI.out; omega)
      have e4a := eq_true (show 0 ≤ i by have := HI.out; omega)
      have e4b := eq_true (show i < (ws.length : Int) by have := HI.out; omega)
      obtain ⟨ad2, e, hz0, hz1⟩ := at_T60 HR.out i (by have := HI.out; omega) (by have := HI.out; omega)
      subst e
      replace hz0 := pw_cell_below HB.out hz0
      replace hz1 := pw_cell_below HB.out hz1
      have hw := HW.out _ (getD_mem ws z60 i (by have := HI.out; omega) (by have := HI.out; omega))
      have HT := Aside0.mk (seenW_take x ws i (by have := HI.out; omega) (by have := HI.out; omega))
      obtain ⟨z, ez⟩ : ∃ z, z = rd_T60 ws i := ⟨_, rfl⟩
      have EZ := Aside0.mk ez
      have hw' : (0 ≤ z.f0 ∧ z.f0 < pl.length) ∧ 0 ≤ z.f1 ∧ z.f1 < pl.length := by rw [ez]; exact hw
      rw [← ez] at hz0 hz1 HT
      obtain ⟨⟨hw0, hw1⟩, hw2, hw3⟩ := hw'
      obtain ⟨ad3, e3, hy0⟩ := Kd.at_int HP.out z.f0 hw0 hw1
      obtain ⟨ad4, e4, hy1⟩ := Kd.at_int HP.out z.f1 hw2 hw3
      subst e3
      injection e4 with e4
      subst e4
      rw [HX.out _ hw0 hw1] at hy0
      rw [HX.out _ hw2 hw3] at hy1
      have hyw0 := hy0
      have hyw1 := hy1
      have HLS := Aside0.mk (Nat.le_trans (seenW_len x (ws.take i.toNat)) (by rw [List.length_take]; omega : (ws.take i.toNat).length ≤ ws.length))
      replace hy0 : ∀ o : Obj, (wr.alloc o).cell? (ad3.add z.f0.toNat) = some (.int .i64 (idxL x z.f0)) := fun o => pw_cell_below (below_alloc HB.out o) hy0
      replace hy1 : ∀ o : Obj, (wr.alloc o).cell? (ad3.add z.f1.toNat) = some (.int .i64 (idxL x z.f1)) := fun o => pw_cell_below (below_alloc HB.out o) hy1
      have f0 := eq_true hw0
      have f1 := eq_true hw1
      have f2 := eq_true hw2
      have f3 := eq_true hw3
      clear ez hw hw0 hw1 hw2 hw3
      by_cases hv : 0 ≤ idxL x z.f0
      · have c6 : decide (idxL x z.f0 ≥ 0) = true := decide_eq_true hv
        have c6' : decide (0 ≤ idxL x z.f0) = true := decide_eq_true hv
        have HV := Aside0.mk hv
        clear hv
        have HNE := Aside0.mk (show ∀ k, u5.ownBlock = some k → k < wr.heap.size from fun k e => ((Kd.R_bound HO.out).1 k e).2.2.1)
        have HO2 := Aside0.mk (Kd.R_alloc HO.out (.cells #[.int .i64 z.f0, .int .i64 z.f1] 60 (0, 0)))
        have HB2 := Aside0.mk (below_alloc HB.out (.cells #[.int .i64 z.f0, .int .i64 z.f1] 60 (0, 0)))
        go_wp2_with fail
        have HBX := Aside0.mk (blk_new wr (.cells #[.int .i64 z.f0, .int .i64 z.f1] 60 (0, 0)))
        have HW0 := Aside0.mk (And.intro hyw0 hyw1)
        clear hy0 hy1 hz0 hz1 HO HB
        generalize wr.alloc (.cells #[.int .i64 z.f0, .int .i64 z.f1] 60 (0, 0)) = w2 at HO2 HB2 HBX ⊢
        go_region_held3 (fun w' => (w'.cell? ⟨wr.heap.size, 0, none⟩ = some (.int .i64 z.f0) ∧ w'.cell? ⟨wr.heap.size, 1, none⟩ = some (.int .i64 z.f1)) ∧ w'.cell? (ad3.add z.f0.toNat) = some (.int .i64 (idxL x z.f0)) ∧ w'.cell? (ad3.add z.f1.toNat) = some (.int .i64 (idxL x z.f1)))
          (first | exact ⟨⟨blk_cell HBX.out 0, blk_cell HBX.out 1⟩, pw_cell_below HB2.out HW0.out.1, pw_cell_below HB2.out HW0.out.2⟩ | exact ⟨⟨blk_cell (blk_alloc HBX.out _) 0, blk_cell (blk_alloc HBX.out _) 1⟩, pw_cell_below (below_alloc HB2.out _) HW0.out.1, pw_cell_below (below_alloc HB2.out _) HW0.out.2⟩ | exact ⟨⟨blk_cell HBX5.out 0, blk_cell HBX5.out 1⟩, pw_cell_below HB5.out HW0.out.1, pw_cell_below HB5.out HW0.out.2⟩)
          (first | (refine Kd.R_append_step k60 (w0 := w) (W := w2.drew) w.heap.size (by rfl) (.tmp 20) (.tmp 32) 26 60 (.agg #[(.int .i64 0), (.int .i64 0)]) 16 rfl Try.underlying26 info60 rfl (by decide) (by omega) u5 (seenW x (ws.take i.toNat)) (⟨idxL x z.f0, idxL x z.f1⟩ : S60) [.int .i64 (idxL x z.f0), .int .i64 (idxL x z.f1)] (fun _ => True) (fun _ => False) rfl rfl ?aP (fun _ hk => hk.elim) ?aF ?aO ?aB ?aS ?aL ?_; (case aP => exact k60_mkM _ _ _ (⟨idxL x z.f0, idxL x z.f1⟩ : S60)); (case aF => exact fun _ _ => trivial); (case aO => exact Kd.R_drew HO2.out); (case aB => exact below_drew1 HB2.out); (case aS => exact (below_drew1 HB2.out).size); (case aL => have := HL.out; have := HLS.out; omega); intro v5 w5 ho hb hg hat; have HO5 := Aside0.mk ho; have HB5 := Aside0.mk hb; have HBX5 := Aside0.mk (blk_grown (blk_drew HBX.out) hg (fun e => Nat.lt_irrefl _ (HNE.out _ e.symm))); clear ho hb hg hat))
        go_wp2
        go_roundg k1
        case measure => omega
        case rel =>
          have h1 := HI.out
          have h2 := HL.out
          rw [wrap_succ i (by omega) (by omega)]
          refine ⟨i + 1, rfl, ⟨by omega, by omega⟩, ⟨?_⟩, HB5⟩
          rw [HT.out, if_pos HV.out]; exact HO5.out
      · have c6 : decide (idxL x z.f0 ≥ 0) = false := decide_eq_false hv
        have c6' : decide (0 ≤ idxL x z.f0) = false := decide_eq_false hv
        have HV := Aside0.mk hv
        clear hv
        go_wp2
        go_roundg k1
        case measure => omega
        case rel =>
          have h1 := HI.out
          have h2 := HL.out
          rw [wrap_succ i (by omega) (by omega)]
          refine ⟨i + 1, rfl, ⟨by omega, by omega⟩, ⟨?_⟩, ⟨below_alloc HB.out _⟩⟩
          rw [HT.out, if_neg (by have := HV.out; omega), List.append_nil]; exact Kd.R_alloc HO.out _
end Go.Proofs.Ytigjhfijkdlldaa.H
