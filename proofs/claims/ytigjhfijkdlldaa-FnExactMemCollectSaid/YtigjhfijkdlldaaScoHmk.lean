/- laws.markMemObjS: each object of a row of the law's own is marked; nothing else is written. -/
import Derived.Test.YtigjhfijkdlldaaScoPm
import Derived.Test.YtigjhfijkdlldaaScoC
namespace Go.Proofs.Ytigjhfijkdlldaa.H
open Go.RowKit Go.Proofs.YtigjhfijkdlldaaW.PrintWords Go.Proofs.YtigjhfijkdlldaaW.PrintLast Go.Proofs.YtigjhfijkdlldaaW.PrintMore Go.Proofs.Ytigjhfijkdlldaa.Q
set_option linter.unusedVariables false
theorem markO_append (l l' : List S38) : ∀ a : Int, markO a (l ++ l') = markO a l ++ markO (a + cntO l) l' := by
  induction l with
  | nil => intro a; simp [markO, cntO]
  | cons x l ih => intro a; simp only [List.cons_append, markO, cntO, ih]; rw [show a + 2 + (x.f2.length : Int) + cntO l = a + (2 + x.f2.length + cntO l) by omega]
theorem cntO_append (l l' : List S38) : cntO (l ++ l') = cntO l + cntO l' := by
  induction l with
  | nil => simp [cntO]
  | cons x l ih => simp only [List.cons_append, cntO, ih]; omega
theorem markO_length (l : List S38) : ∀ a : Int, (markO a l).length = l.length := by
  induction l with
  | nil => intro a; rfl
  | cons x l ih => intro a; simp [markO, ih]
theorem mark_step (a : Int) (l : List S38) (i : Int) (h0 : 0 ≤ i) (h1 : i < l.length) :
    (markO a (l.take i.toNat) ++ l.drop i.toNat).set i.toNat ⟨a + cntO (l.take i.toNat), mtxt (a + cntO (l.take i.toNat) + 1), marksI (a + cntO (l.take i.toNat) + 2) (rd_T38 l i).f2.length⟩ = markO a (l.take (i + 1).toNat) ++ l.drop (i + 1).toNat := by
  have h2 : i.toNat < l.length := by omega
  have hl : (markO a (l.take i.toNat)).length = i.toNat := by rw [markO_length, List.length_take]; omega
  have e : l[i.toNat] = rd_T38 l i := by unfold rd_T38; rw [List.getD_eq_getElem?_getD, List.getElem?_eq_getElem h2]; rfl
  rw [show (i + 1).toNat = i.toNat + 1 by omega, List.take_succ_eq_append_getElem h2, markO_append, List.drop_eq_getElem_cons h2, set_at _ _ _ _ _ hl, e]
  simp [markO]
theorem cnt_step (l : List S38) (i : Int) (h0 : 0 ≤ i) (h1 : i < l.length) : cntO (l.take (i + 1).toNat) = cntO (l.take i.toNat) + 2 + (rd_T38 l i).f2.length := by
  have h2 : i.toNat < l.length := by omega
  have e : l[i.toNat] = rd_T38 l i := by unfold rd_T38; rw [List.getD_eq_getElem?_getD, List.getElem?_eq_getElem h2]; rfl
  rw [show (i + 1).toNat = i.toNat + 1 by omega, List.take_succ_eq_append_getElem h2, cntO_append, e]
  simp [cntO]; omega
theorem cnt_le (l : List S38) (i : Nat) : cntO (l.take i) ≤ cntO l := by
  have h := cntO_append (l.take i) (l.drop i)
  rw [List.take_append_drop] at h
  have := cntO_nonneg (l.drop i)
  omega
theorem rd_mark (a : Int) (l : List S38) (i : Int) (h0 : 0 ≤ i) (h1 : i < l.length) : (markO a (l.take i.toNat) ++ l.drop i.toNat).getD i.toNat z38 = rd_T38 l i := by
  have h2 : i.toNat < l.length := by omega
  have hl : (markO a (l.take i.toNat)).length = i.toNat := by rw [markO_length, List.length_take]; omega
  have e : l[i.toNat] = rd_T38 l i := by unfold rd_T38; rw [List.getD_eq_getElem?_getD, List.getElem?_eq_getElem h2]; rfl
  rw [List.drop_eq_getElem_cons h2, getD_at _ _ _ _ _ hl, e]
theorem H_at {α : Type} {d : Kd α} {e g n cap : Nat} {W : World} {base : Nat} {ok oki : Nat → Prop} {xs : List α} {i : Int} {c : List Value} (h : Kd.H d e W base ok (.slice (some ⟨g, 0, none⟩) n cap) xs i oki c) (h0 : 0 ≤ i) (h1 : i < n) :
    (∀ j u, c[j]? = some u → W.cell? ⟨g, i.toNat * d.sz + j, none⟩ = some u) ∧ ∀ j, W.frozen? ⟨g, j, none⟩ = false := by
  obtain ⟨_, _, _, _, _, hcc, _⟩ := Kd.H_raw h h0 h1
  obtain ⟨_, f, hR⟩ := h
  obtain ⟨cells, hc⟩ := Kd.R_typed hR g (by simp [Value.ownBlock])
  exact ⟨hcc, fun j => bfz hc j⟩
theorem H_seg1 {α : Type} {d : Kd α} {e g n cap : Nat} {W : World} {base : Nat} {ok oki : Nat → Prop} {xs : List α} {i : Int} {c : List Value} (h : Kd.H d e W base ok (.slice (some ⟨g, 0, none⟩) n cap) xs i oki c) (h0 : 0 ≤ i) (h1 : i < n) (j : Nat) (u : Value) (hj : j + 1 ≤ d.sz) (hu : u.oneCell' = true) :
    Kd.H d e (W.setCell ⟨g, i.toNat * d.sz + j, none⟩ u) base ok (.slice (some ⟨g, 0, none⟩) n cap) xs i oki (c.take j ++ [u] ++ c.drop (j + 1)) ∧ W.grownBy (W.setCell ⟨g, i.toNat * d.sz + j, none⟩ u) (some g) :=
  Kd.H_seg h h0 h1 (seg := [u]) (j := j) hj (fun q hq => by rw [List.mem_singleton.1 hq]; exact hu)
theorem below_grown2 {w0 w w1 : World} {g : Nat} (h : Below w0.heap.size w0 w) (hg : w.grownBy w1 (some g)) (hg' : w0.heap.size ≤ g) : Below w0.heap.size w0 w1 :=
  h.grown hg h.size (fun k hk => by cases hk; exact hg')
set_option maxHeartbeats 4000000 in
set_option maxRecDepth 100000 in
theorem markMemObjS_calls (a : Int) (w0 w : World) (P : Nat → Prop) (v : Value) (l : List S38) (hB : Below w0.heap.size w0 w) (hS : Kd.S k38 38 w w0.heap.size P v l) (ha : 0 ≤ a) (hc : a + cntO l ≤ 1152921504606846976) (hl : l.length ≤ 1048576) :
    Calls Try.prog 87 #[v, .int .i64 a] w fun e w' => e = .returned (.int .i64 (a + cntO l)) ∧ Kd.S k38 38 w' w0.heap.size P v (markO a l) ∧ Below w0.heap.size w0 w' ∧ Kept w w' P := by
  have HS := AK hS
  have HB := AK hB
  have HC := AK hc
  have HA := AK ha
  have HL := AK hl
  obtain ⟨A, c, rfl⟩ := Kd.S_slice hS
  clear hS hB hc ha hl
  go_enter Try.func87, Try.ntmps87
  go_wp2
  go_loopg [1, 5] l.length (fun kq v1 v5 w' => ∃ (x i : Int), v1 = .int .i64 x ∧ v5 = .int .i64 i ∧ Aside0 (0 ≤ i ∧ i + kq = l.length) ∧ Aside0 (x = a + cntO (l.take i.toNat)) ∧
    Aside0 (Kd.S k38 38 w' w0.heap.size P (.slice A l.length c) (markO a (l.take i.toNat) ++ l.drop i.toNat)) ∧ Aside0 (Below w0.heap.size w0 w') ∧ Aside0 (Kept w w' P))
  case atStart => exact ⟨a, 0, rfl, rfl, ⟨by omega, by omega⟩, ⟨by simp [cntO]⟩, HS, HB, ⟨Kept.refl _ _⟩⟩
  case round =>
    clear HS HB
    obtain ⟨x, i, rfl, rfl, HI, HX, HS, HB, HK⟩ := hrel
    cases gk with
    | succ k1 =>
      have c4b : decide (i < (l.length : Int)) = true := deT (by have := HI.out; omega)
      have e4a := eq_true (show 0 ≤ i by have := HI.out; omega)
      have e4b := eq_true (show i < (l.length : Int) by have := HI.out; omega)
      have hlen : (markO a (l.take i.toNat) ++ l.drop i.toNat).length = l.length := by rw [List.length_append, markO_length, List.length_take, List.length_drop]; have := HI.out; omega
      obtain ⟨g, cap, hv, gb, gl, cl, hg⟩ := Kd.S_form HS.out (by rw [hlen]; have := HI.out; omega)
      injection hv with hv1 hv2 hv3
      subst hv1 hv3
      obtain ⟨oki, ce, hcl, hM, hcc, hfr, hoki, hH⟩ := Kd.S_elem HS.out z38 i (by have := HI.out; omega) (by have := HI.out; omega)
      rw [rd_mark a l i (by have := HI.out; omega) (by have := HI.out; omega)] at hM
      obtain ⟨sv, rfl, hR⟩ := k38_openM hM
      obtain ⟨As, cs, rfl⟩ := Kd.R_slice hR
      have x0 : wr.cell? ⟨g, i.toNat * 3, none⟩ = some (.int .i64 (rd_T38 l i).f0) := hcc 0 _ rfl
      have f0 : wr.frozen? ⟨g, i.toNat * 3, none⟩ = false := hfr 0
      have hcn := cnt_step l i (by have := HI.out; omega) (by have := HI.out; omega)
      have hcl2 := cnt_le l (i + 1).toNat
      have hnn := cntO_nonneg (l.take i.toNat)
      have bx0 : 0 ≤ x := by have := HX.out; have := HA.out; omega
      have bx1 : x + 2 + (rd_T38 l i).f2.length ≤ 1152921504606846976 := by have := HX.out; have := HC.out; omega
      have bx2 : x ≤ 1152921504606846976 := by omega
      obtain ⟨kt, hkt⟩ := (mtxt_f (x + 1) (by omega)).rounds
      have HKT := AK hkt
      have HMI := AK (markIntS_f (x + 2) (by omega) (rd_T38 l i).f2 (by omega) ((rd_T38 l i).f2.length + 1) (by omega))
      have HCN := AK hcn
      have HB1 := AK bx1
      have HR := AK hR
      have HH := AK hH
      have HO := AK hoki
      have HGB := AK gb
      have HPG := AK (show P g from (Kd.S_R HS.out).1 g rfl)
      have HI2 := AK (show 0 ≤ i ∧ i < (l.length : Int) by have := HI.out; omega)
      clear hlen gb gl hg hcl hM hcc hfr hoki hH hR hv2 hcn hcl2 hnn hkt bx1 HS
      go_wp2_with (first | ((with_reducible refine gate_store (t := 3) (p := 16) rfl ?_); refine store_event (t := 3) (p := 16) (v := ?vo1) (w1 := wr.setCell ⟨g, i.toNat * 3, none⟩ (.int .i64 x)) ?hg ?ho ?hn ?hr ?_; (case ho => rfl); (case hg => rfl); (case hn => rfl); (case hr => first | (go_simp; done) | (go_simp; rfl)); intro w2 hw; obtain ⟨h2, g2⟩ := H_seg1 HH.out HI2.out.1 HI2.out.2 0 (.int .i64 x) (show 0 + 1 ≤ 3 by omega) rfl; have hg2 : wr.grownBy w2 (some g) := (by rw [hw]; exact g2); have HH2 := AK (show Kd.H k38 38 w2 w0.heap.size P (.slice (some ⟨g, 0, none⟩) l.length c) (markO a (l.take i.toNat) ++ l.drop i.toNat) i oki [.int .i64 x, .string (rd_T38 l i).f1, .slice As (rd_T38 l i).f2.length cs] by rw [hw]; exact h2); have HR2 := AK (Kd.R_grown HR.out hg2 (fun k hk he => (HO.out k hk).2 (Option.some.inj he))); have HB2 := AK (below_grown2 HB.out hg2 HGB.out); have HK2 := AK (Kept.of_grown hg2 HK.out (fun k hk => by cases hk; exact .inl HPG.out)); clear hw h2 g2 hg2 HH HR HB HK) | (go_at_call 112; refine (laws_markText.calls kt (x + 1) (mtxt (x + 1)) _ HKT.out).mono ?_; rintro e w3 ⟨rfl, hb⟩; have HH3 := AK (Kd.H_below HH2.out hb); have HR3 := AK (Kd.R_below HR2.out hb); have HB3 := AK (bst HB2.out hb); have HK3 := AK (Kept.below HK2.out hb); clear hb HH2 HR2 HB2 HK2; have q1 : w3.cell? ⟨g, i.toNat * 3 + 1, none⟩ = some (.string (rd_T38 l i).f1) := (H_at HH3.out HI2.out.1 HI2.out.2).1 1 _ rfl; have f1 : w3.frozen? ⟨g, i.toNat * 3 + 1, none⟩ = false := (H_at HH3.out HI2.out.1 HI2.out.2).2 _) | ((with_reducible refine gate_store (t := 9) (p := 24) rfl ?_); refine store_event (t := 9) (p := 24) (v := ?vo2) (w1 := w3.setCell ⟨g, i.toNat * 3 + 1, none⟩ (.string (mtxt (x + 1)))) ?hg ?ho ?hn ?hr ?_; (case ho => rfl); (case hg => rfl); (case hn => rfl); (case hr => first | (go_simp; done) | (go_simp; rfl)); intro w4 hw; obtain ⟨h2, g2⟩ := H_seg1 HH3.out HI2.out.1 HI2.out.2 1 (.string (mtxt (x + 1))) (show 1 + 1 ≤ 3 by omega) rfl; have hg2 : w3.grownBy w4 (some g) := (by rw [hw]; exact g2); have HH4 := AK (show Kd.H k38 38 w4 w0.heap.size P (.slice (some ⟨g, 0, none⟩) l.length c) (markO a (l.take i.toNat) ++ l.drop i.toNat) i oki [.int .i64 x, .string (mtxt (x + 1)), .slice As (rd_T38 l i).f2.length cs] by rw [hw]; exact h2); have HR4 := AK (Kd.R_grown HR3.out hg2 (fun k hk he => (HO.out k hk).2 (Option.some.inj he))); have HB4 := AK (below_grown2 HB3.out hg2 HGB.out); have HK4 := AK (Kept.of_grown hg2 HK3.out (fun k hk => by cases hk; exact .inl HPG.out)); clear hw h2 g2 hg2 HH3 HR3 HB3 HK3; have q2 : w4.cell? ⟨g, i.toNat * 3 + 2, none⟩ = some (.slice As (rd_T38 l i).f2.length cs) := (H_at HH4.out HI2.out.1 HI2.out.2).1 2 _ rfl) | (go_at_call 31; refine (laws_markIntS.calls ((rd_T38 l i).f2.length + 1) oki _ (rd_T38 l i).f2 (x + 1 + 1) _ _ w0 _ HB4.out HR4.out (by rw [show x + 1 + 1 = x + 2 by omega]; exact HMI.out)).mono ?_; rintro e w5 ⟨rfl, hr, hb, hk⟩; have HR5 := AK hr; have HB5 := AK hb; have HK5 := AK (Kept.then_ HK4.out hk (fun k hk => .inl (HO.out k hk).1)); have HH5 := AK (Kd.H_step HH4.out (fun k _ hn hlt => hk.2 k hlt hn)); have HOW := AK HR4.out.1; clear hr hb hk HH4 HR4 HB4 HK4))
      go_roundg k1
      case measure => omega
      case rel =>
        have h1 := HI.out
        have h2 := HX.out
        have h3 := HCN.out
        have h4 := HL.out
        have h5 := HB1.out
        rw [wrap_succ i (by omega) (by omega)]
        refine ⟨_, i + 1, rfl, rfl, ⟨by omega, by omega⟩, ⟨by rw [h3, h2]; omega⟩, ⟨?_⟩, HB5, HK5⟩
        have hM : k38.M w5 w0.heap.size oki (⟨x, mtxt (x + 1), marksI (x + 2) (rd_T38 l i).f2.length⟩ : S38) [.int .i64 x, .string (mtxt (x + 1)), .slice As (rd_T38 l i).f2.length cs] :=
          k38_mkM _ _ _ (⟨x, mtxt (x + 1), marksI (x + 2) (rd_T38 l i).f2.length⟩ : S38) (Kd.R_mono (Kd.R_tight rfl HR5.out) (fun k hk => HOW.out k hk.symm))
        have hb := Kd.H_back HH5.out hM (fun _ hk => hk)
        rw [← mark_step a l i (by omega) (by omega), ← h2]
        exact hb
    | zero =>
      have c4b : decide (i < (l.length : Int)) = false := deF (by have := HI.out; omega)
      go_wp2
      go_ret
      have h1 := HI.out
      have h2 := HX.out
      have h3 := HS.out
      rw [take_all _ _ (by omega)] at h2 h3
      rw [drop_end _ _ (by omega), List.append_nil] at h3
      exact ⟨by rw [h2]; rfl, h3, HB.out, HK.out⟩
end Go.Proofs.Ytigjhfijkdlldaa.H
