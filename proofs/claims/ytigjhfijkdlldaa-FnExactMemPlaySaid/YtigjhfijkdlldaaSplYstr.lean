import Derived.Test.YtigjhfijkdlldaaSplHip
import Derived.Test.YtigjhfijkdlldaaSplC
import Derived.Test.YtigjhfijkdlldaaSplPq
section
/- The laws' functions over rows of events: sizes, copies, comparison (of equal rows), walked. -/
namespace Go.Proofs.Ytigjhfijkdlldaa.H
open Go.RowKit Go.Proofs.YtigjhfijkdlldaaW.PrintWords Go.Proofs.YtigjhfijkdlldaaW.PrintLast Go.Proofs.YtigjhfijkdlldaaW.PrintMore Go.Proofs.Ytigjhfijkdlldaa.Q
set_option linter.unusedVariables false
set_option linter.unusedSimpArgs false
section
variable {w : World} {A B : Option Addr} {c d : Nat}
set_option maxHeartbeats 1000000 in
theorem szEvS_c {l : List S74} {a : Int} (ha : 0 ≤ a ∧ a ≤ 1048576) (hr : Kd.C k74 w A l.length l) (hf : ∀ x ∈ l, Fits x.f4.f1 x.f4.f2) : Calls Try.prog 53 #[.slice A l.length c, .int .i64 a] w fun e w' => ∃ r, e = .returned (.int .i64 r) ∧ Below w.heap.size w w' ∧ -1 ≤ r ∧ r ≤ a ∧ (0 ≤ r → l.length ≤ 1048576 ∧ ∀ x ∈ l, x.f4.f1.size ≤ 1048576 ∧ x.f4.f2.length ≤ 1048576) := by
  have HF := AK (And.intro ha (And.intro hr (And.intro hr.2.1 hf)))
  have hw : wrap64 (a - l.length) = a - l.length := by have := hr.2.1; unfold wrap64; omega
  clear ha hr hf
  by_cases h : a - (l.length : Int) < 0
  case pos =>
    have h1 : decide (a - (l.length : Int) < 0) = true := deT h
    clear h
    go_enter Try.func53, Try.ntmps53
    go_wp2
    go_ret
    exact ⟨_, rfl, Below.refl _ _, by omega, by have := HF.out; omega, fun h => by omega⟩
  have h1 : decide (a - (l.length : Int) < 0) = false := deF h
  have HN := AK h
  clear h
  go_enter Try.func53, Try.ntmps53
  go_wp2
  go_loopg [1, 5] l.length (fun kq v1 v5 w' => ∃ (r i : Int), v1 = .int .i64 r ∧ v5 = .int .i64 i ∧ Aside0 (0 ≤ i ∧ i + kq = l.length) ∧ Aside0 (0 ≤ r ∧ r ≤ a - l.length) ∧ Aside0 (∀ x ∈ l.take i.toNat, x.f4.f1.size ≤ 1048576 ∧ x.f4.f2.length ≤ 1048576) ∧ Aside0 (Below w.heap.size w w'))
  case atStart => exact ⟨_, 0, rfl, rfl, ⟨by omega, by omega⟩, ⟨by have := HN.out; omega, by omega⟩, ⟨fun x hx => by simp at hx⟩, ⟨Below.refl _ _⟩⟩
  case round =>
    obtain ⟨r, i, rfl, rfl, HI, HR, HX, HB⟩ := hrel
    cases gk with
    | zero =>
      have c9 : decide (i < (l.length : Int)) = false := deF (by have := HI.out; omega)
      have hx := HX.out
      rw [take_all _ _ (by have := HI.out; omega)] at hx
      replace HX := AK hx
      clear hx
      go_wp2
      go_ret
      exact ⟨r, rfl, HB.out, by have := HR.out; omega, by have := HR.out; omega, fun _ => ⟨by have := HF.out; have := HN.out; omega, HX.out⟩⟩
    | succ k1 =>
      have c9 : decide (i < (l.length : Int)) = true := deT (by have := HI.out; omega)
      have hi0 := eq_true (show 0 ≤ i by have := HI.out; omega)
      have hi1 := eq_true (show i < (l.length : Int) by have := HI.out; omega)
      have hm := getD_mem l z74 i (by have := HI.out; omega) (by have := HI.out; omega)
      obtain ⟨ad, F, f, e1, x0, x1, x2, x3, x4, x5, x6, _, hx⟩ := at_T74 (Kd.C_below HF.out.2.1 HB.out) i (by have := HI.out; omega) (by have := HI.out; omega)
      subst e1
      have HT := AK (take_one l z74 i (by have := HI.out; omega) (by have := HI.out; omega))
      have HZ := AK (HF.out.2.2.2 _ hm)
      obtain ⟨z, ez⟩ : ∃ z, z = rd_T74 l i := ⟨_, rfl⟩
      rw [show l.getD i.toNat z74 = z from ez.symm] at HT HZ
      rw [← ez] at x0 x1 x2 x3 x4 x5 x6 hx
      clear ez hm hx
      go_wp2_with fail
      refine (szEv_c (by have := HR.out; have := HF.out; omega) HZ.out).mono ?_
      rintro e w2 ⟨r2, rfl, hb, h1, h2, h3⟩
      replace HB := AK (bst HB.out hb)
      have HR2 := AK (And.intro h1 (And.intro h2 h3))
      clear hb h1 h2 h3 x0 x1 x2 x3 x4 x5 x6
      by_cases h : r2 < 0
      case pos =>
        have h2 : decide (r2 < 0) = true := deT h
        clear h
        go_wp2
        go_ret
        exact ⟨_, rfl, HB.out, by omega, by have := HF.out; omega, fun h => by omega⟩
      have h2 : decide (r2 < 0) = false := deF h
      have HP := AK h
      clear h
      go_wp2
      go_roundg k1
      case measure => omega
      case rel =>
        rw [wrap_succ i (by have := HI.out; omega) (by have := HI.out; have := HF.out.2.2.1; omega)]
        refine ⟨r2, i + 1, rfl, rfl, ⟨by have := HI.out; omega, by have := HI.out; omega⟩, ⟨by have := HP.out; omega, by have := HR.out; have := HR2.out; omega⟩, ⟨fun x hx => ?_⟩, HB⟩
        rw [HT.out] at hx
        rcases List.mem_append.1 hx with hx | hx
        · exact HX.out x hx
        · rw [List.mem_singleton.1 hx]; exact HR2.out.2.2 (by have := HP.out; omega)
set_option maxHeartbeats 2000000 in
theorem toEvS_c {l : List S74} (h : Kd.C k74 w A l.length l) (hl : l.length ≤ 1048576) (hf : ∀ x ∈ l, x.f4.f2.length ≤ 1048576) : Calls Try.prog 54 #[.slice A l.length c] w fun e w' => ∃ B d, e = .returned (.slice B l.length d) ∧ Kd.S k40 40 w' w.heap.size (fun _ => True) (.slice B l.length d) (l.map cE) ∧ Below w.heap.size w w' := by
  have HH := AK (And.intro h (And.intro hl hf))
  have bl : 0 ≤ (l.length : Int) := by omega
  clear h hl hf
  go_enter Try.func54, Try.ntmps54
  go_wp2_with ((with_reducible refine gate_dst (N := 7) rfl ?_); refine Kd.S_make k40 (w0 := w) w.heap.size 40 rfl (N := 7) rfl 29 _ _ rfl (l.length : Int) rfl rfl Try.underlying29 (.agg #[(.int .i64 0), (.int .i64 0), (.int .i64 0), (.int .i64 0), (.int .i64 0), (.string ⟨#[]⟩), (.slice none 0 0)]) 80 info40 rfl (by decide) (by omega) z40 (ok := fun _ => True) (okp := fun _ => True) (k40_mkM _ _ _ z40 (Kd.R_nil _ _ _ _ _)) (fun _ hk => hk) trivial (by omega) (by have := HH.out.2.1; omega) (Below.refl _ _) (Nat.le_refl _) ?_; intro v7 w4 hr hb _ _; have HR := AK hr; have HB := AK hb; clear hr hb)
  have hr := HR.out
  rw [Int.toNat_natCast] at hr
  obtain ⟨B, d, ee⟩ := Kd.S_slice hr
  subst ee
  rw [List.length_replicate] at hr ⊢
  replace HR := AK hr
  clear hr
  go_loopg [4] l.length (fun kq v4 w' => ∃ i : Int, v4 = .int .i64 i ∧ Aside0 (0 ≤ i ∧ i + kq = l.length) ∧ Aside0 (Kd.S k40 40 w' w.heap.size (fun _ => True) (.slice B l.length d) ((l.take i.toNat).map cE ++ List.replicate ((l.length : Int) - i).toNat z40)) ∧ Aside0 (Below w.heap.size w w'))
  case atStart => exact ⟨0, rfl, ⟨by omega, by omega⟩, ⟨by simpa using HR.out⟩, HB⟩
  case round =>
    clear HR HB
    obtain ⟨i, rfl, HI, HR, HB⟩ := hrel
    cases gk with
    | zero =>
      have c9 : decide (i < (l.length : Int)) = false := deF (by have := HI.out; omega)
      have hr := HR.out
      rw [take_all _ _ (by have := HI.out; omega), show ((l.length : Int) - i).toNat = 0 by have := HI.out; omega, List.replicate_zero, List.append_nil] at hr
      have HZ := AK hr
      clear hr
      go_wp2
      go_ret
      exact ⟨B, d, rfl, HZ.out, HB.out⟩
    | succ k1 =>
      have c9 : decide (i < (l.length : Int)) = true := deT (by have := HI.out; omega)
      have hi0 := eq_true (show 0 ≤ i by have := HI.out; omega)
      have hi1 := eq_true (show i < (l.length : Int) by have := HI.out; omega)
      have HM := AK (HH.out.2.2 _ (getD_mem l z74 i (by have := HI.out; omega) (by have := HI.out; omega)))
      have HTK := AK (take_one l z74 i (by have := HI.out; omega) (by have := HI.out; omega))
      obtain ⟨ad, F, f, e1, x0, x1, x2, x3, x4, x5, x6, _, hx⟩ := at_T74 (Kd.C_below HH.out.1 HB.out) i (by have := HI.out; omega) (by have := HI.out; omega)
      subst e1
      obtain ⟨z, ez⟩ : ∃ z, z = rd_T74 l i := ⟨_, rfl⟩
      rw [← ez] at x0 x1 x2 x3 x4 x5 x6 hx
      rw [show l.getD i.toNat z74 = z from ez.symm] at HM HTK
      have HC := AK hx
      clear ez hx
      go_wp2_with fail
      clear x0 x1 x2 x3 x4 x5 x6
      refine (toEv_c (e := z) rfl HC.out HM.out).mono ?_
      rintro e w2 ⟨V, v, rfl, hr, hb⟩
      replace hr : Kd.R (Kd.int .i64) 3 w2 wr.heap.size (fun _ => True) (.slice V z.f4.f2.length v) z.f4.f2 := hr
      have hs := Kd.S_elder' HR.out (Kd.R_base hr) hb
      have hv := Kd.R_lower hr HB.out.size
      replace HB := AK (bst HB.out hb)
      have hml : ((l.take i.toNat).map cE ++ List.replicate ((l.length : Int) - i).toNat z40).length = l.length := by rw [List.length_append, List.length_map, List.length_take, List.length_replicate]; have := HI.out; omega
      obtain ⟨g, cap, ee, hgb, _⟩ := Kd.S_form hs (by rw [hml]; have := HI.out; omega)
      injection ee with e1 e2 e3
      subst e1 e3
      clear e2 hml
      obtain ⟨oki, ce, hcl, hM, hcc, hfr, hoki, hH⟩ := Kd.S_elem (Kd.S_mono (ok' := fun k => (fun _ => True) k ∧ ¬ (fun k => some k = (Value.slice V z.f4.f2.length v).ownBlock) k) hs (fun k hk => ⟨trivial, fun e => hk.2 e⟩)) z40 i (by have := HI.out; omega) (by have := HI.out; omega)
      obtain ⟨u, rfl, _⟩ := k40_openM hM
      have hN := (Kd.S_seg hH (by have := HI.out; omega) (by have := HI.out; omega) (seg := [.int .i64 z.f0, .int .i64 z.f1, .int .i64 z.f2, .int .i64 z.f3, .int .i64 z.f4.f0, .string z.f4.f1, .slice V z.f4.f2.length v]) (j := 0) (show 7 ≤ 7 from by decide) (x' := cE z) (okp := fun k => some k = (Value.slice V z.f4.f2.length v).ownBlock) (k40_mkM _ _ _ (cE z) (Kd.R_tight rfl hv)) (fun k hk => .inr hk) (fun k hk => ⟨trivial, fun e => by
        have h1 := (Kd.S_R hs).1 g rfl
        exact h1.2 (e ▸ hk)⟩)).1
      rw [mix_set _ _ _ _ _ (by rw [List.length_map, List.length_take]; have := HI.out; omega) (by have := HI.out; omega), show [cE z] = [z].map cE from rfl, ← List.map_append, ← HTK.out] at hN
      have N0 := AK hN
      have x0 : w2.cell? ⟨g, i.toNat * 7, none⟩ = some _ := hcc 0 _ rfl
      have f0 : w2.frozen? ⟨g, i.toNat * 7, none⟩ = false := hfr 0
      have x1 : w2.cell? ⟨g, i.toNat * 7 + 1, none⟩ = some _ := hcc 1 _ rfl
      have f1 : w2.frozen? ⟨g, i.toNat * 7 + 1, none⟩ = false := hfr 1
      have x2 : w2.cell? ⟨g, i.toNat * 7 + 2, none⟩ = some _ := hcc 2 _ rfl
      have f2 : w2.frozen? ⟨g, i.toNat * 7 + 2, none⟩ = false := hfr 2
      have x3 : w2.cell? ⟨g, i.toNat * 7 + 3, none⟩ = some _ := hcc 3 _ rfl
      have f3 : w2.frozen? ⟨g, i.toNat * 7 + 3, none⟩ = false := hfr 3
      have x4 : w2.cell? ⟨g, i.toNat * 7 + 4, none⟩ = some _ := hcc 4 _ rfl
      have f4 : w2.frozen? ⟨g, i.toNat * 7 + 4, none⟩ = false := hfr 4
      have x5 : w2.cell? ⟨g, i.toNat * 7 + 5, none⟩ = some _ := hcc 5 _ rfl
      have f5 : w2.frozen? ⟨g, i.toNat * 7 + 5, none⟩ = false := hfr 5
      have x6 : w2.cell? ⟨g, i.toNat * 7 + 6, none⟩ = some _ := hcc 6 _ rfl
      have f6 : w2.frozen? ⟨g, i.toNat * 7 + 6, none⟩ = false := hfr 6
      have N1 := AK (below_set (j := i.toNat * 7 + 6) (v := .slice V z.f4.f2.length v) (below_set (j := i.toNat * 7 + 5) (v := .string z.f4.f1) (below_set (j := i.toNat * 7 + 4) (v := .int .i64 z.f4.f0) (below_set (j := i.toNat * 7 + 3) (v := .int .i64 z.f3) (below_set (j := i.toNat * 7 + 2) (v := .int .i64 z.f2) (below_set (j := i.toNat * 7 + 1) (v := .int .i64 z.f1) (below_set (j := i.toNat * 7) (v := .int .i64 z.f0) HB.out hgb) hgb) hgb) hgb) hgb) hgb) hgb)
      clear hcl hM hcc hfr hoki hH hN hs hv hr hb hgb HR HB
      go_wp2
      go_roundg k1
      case measure => omega
      case rel =>
        rw [wrap_succ i (by have := HI.out; omega) (by have := HI.out; have := HH.out; omega)]
        exact ⟨i + 1, rfl, ⟨by have := HI.out; omega, by have := HI.out; omega⟩, N0, N1⟩
theorem eqEvS_q {l : List S40} (h : Kd.C k40 w A l.length l) (h' : Kd.C k40 w B l.length l) : Calls Try.prog 56 #[.slice A l.length c, .slice B l.length d] w fun e w' => e = .returned (.bool true) ∧ Below w.heap.size w w' := by
  have HH := AK (And.intro h (And.intro h' h.2.1))
  have hn : ((l.length : Int) != (l.length : Int)) = false := by simp
  clear h h'
  go_enter Try.func56, Try.ntmps56
  go_wp2
  go_loopg [5] l.length (fun kq v5 w' => ∃ i : Int, v5 = .int .i64 i ∧ Aside0 (0 ≤ i ∧ i + kq = l.length) ∧ Aside0 (Below w.heap.size w w'))
  case atStart => exact ⟨0, rfl, ⟨by omega, by omega⟩, ⟨Below.refl _ _⟩⟩
  case round =>
    obtain ⟨i, rfl, HI, HB⟩ := hrel
    cases gk with
    | zero =>
      have c9 : decide (i < (l.length : Int)) = false := deF (by have := HI.out; omega)
      go_wp2
      go_ret
      exact ⟨rfl, HB.out⟩
    | succ k1 =>
      have c9 : decide (i < (l.length : Int)) = true := deT (by have := HI.out; omega)
      have hi0 := eq_true (show 0 ≤ i by have := HI.out; omega)
      have hi1 := eq_true (show i < (l.length : Int) by have := HI.out; omega)
      obtain ⟨ad, F, f, e1, x0, x1, x2, x3, x4, x5, x6, _, hx⟩ := at_T40 (Kd.C_below HH.out.1 HB.out) i (by have := HI.out; omega) (by have := HI.out; omega)
      obtain ⟨be, G, g, e2, y0, y1, y2, y3, y4, y5, y6, _, hy⟩ := at_T40 (Kd.C_below HH.out.2.1 HB.out) i (by have := HI.out; omega) (by have := HI.out; omega)
      subst e1 e2
      obtain ⟨z, ez⟩ : ∃ z, z = rd_T40 l i := ⟨_, rfl⟩
      rw [← ez] at x0 x1 x2 x3 x4 x5 x6 y0 y1 y2 y3 y4 y5 y6 hx hy
      have HX := AK (show (_ ∧ _ ∧ _ ∧ _ ∧ _ ∧ _ ∧ _) ∧ _ ∧ _ ∧ _ ∧ _ ∧ _ ∧ _ ∧ _ from ⟨⟨x0, x1, x2, x3, x4, x5, x6⟩, y0, y1, y2, y3, y4, y5, y6⟩)
      have HC := AK (And.intro hx hy)
      clear ez hx hy
      go_wp2_with fail
      go_region_held3 (fun w' => (w'.cell? (ad.add (i.toNat * 7)) = some (.int .i64 z.f0) ∧ w'.cell? ⟨(ad.add (i.toNat * 7)).block, (ad.add (i.toNat * 7)).off + 1, none⟩ = some (.int .i64 z.f1) ∧ w'.cell? ⟨(ad.add (i.toNat * 7)).block, (ad.add (i.toNat * 7)).off + 2, none⟩ = some (.int .i64 z.f2) ∧ w'.cell? ⟨(ad.add (i.toNat * 7)).block, (ad.add (i.toNat * 7)).off + 3, none⟩ = some (.int .i64 z.f3) ∧ w'.cell? ⟨(ad.add (i.toNat * 7)).block, (ad.add (i.toNat * 7)).off + 4, none⟩ = some (.int .i64 z.f4.f0) ∧ w'.cell? ⟨(ad.add (i.toNat * 7)).block, (ad.add (i.toNat * 7)).off + 5, none⟩ = some (.string z.f4.f1) ∧ w'.cell? ⟨(ad.add (i.toNat * 7)).block, (ad.add (i.toNat * 7)).off + 6, none⟩ = some (.slice F z.f4.f2.length f)) ∧ w'.cell? (be.add (i.toNat * 7)) = some (.int .i64 z.f0) ∧ w'.cell? ⟨(be.add (i.toNat * 7)).block, (be.add (i.toNat * 7)).off + 1, none⟩ = some (.int .i64 z.f1) ∧ w'.cell? ⟨(be.add (i.toNat * 7)).block, (be.add (i.toNat * 7)).off + 2, none⟩ = some (.int .i64 z.f2) ∧ w'.cell? ⟨(be.add (i.toNat * 7)).block, (be.add (i.toNat * 7)).off + 3, none⟩ = some (.int .i64 z.f3) ∧ w'.cell? ⟨(be.add (i.toNat * 7)).block, (be.add (i.toNat * 7)).off + 4, none⟩ = some (.int .i64 z.f4.f0) ∧ w'.cell? ⟨(be.add (i.toNat * 7)).block, (be.add (i.toNat * 7)).off + 5, none⟩ = some (.string z.f4.f1) ∧ w'.cell? ⟨(be.add (i.toNat * 7)).block, (be.add (i.toNat * 7)).off + 6, none⟩ = some (.slice G z.f4.f2.length g))
        (first | exact HX.out | exact HY.out)
        (first | (go_at_call 51; refine (eqEv_q (Kd.C_below HC.out.1 (below_drew1 (Below.refl _ _))) (Kd.C_below HC.out.2 (below_drew1 (Below.refl _ _)))).mono ?_; rintro e w5 ⟨rfl, hb⟩; have HY := AK (show (_ ∧ _ ∧ _ ∧ _ ∧ _ ∧ _ ∧ _) ∧ _ ∧ _ ∧ _ ∧ _ ∧ _ ∧ _ ∧ _ from ⟨⟨pcb hb HX.out.1.1, pcb hb HX.out.1.2.1, pcb hb HX.out.1.2.2.1, pcb hb HX.out.1.2.2.2.1, pcb hb HX.out.1.2.2.2.2.1, pcb hb HX.out.1.2.2.2.2.2.1, pcb hb HX.out.1.2.2.2.2.2.2⟩, pcb hb HX.out.2.1, pcb hb HX.out.2.2.1, pcb hb HX.out.2.2.2.1, pcb hb HX.out.2.2.2.2.1, pcb hb HX.out.2.2.2.2.2.1, pcb hb HX.out.2.2.2.2.2.2.1, pcb hb HX.out.2.2.2.2.2.2.2⟩); replace HB := AK (bst (below_drew1 HB.out) hb); clear hb))
      go_wp2
      go_roundg k1
      case measure => omega
      case rel =>
        rw [wrap_succ i (by have := HI.out; omega) (by have := HI.out; have := HH.out.2.2; omega)]
        exact ⟨i + 1, rfl, ⟨by have := HI.out; omega, by have := HI.out; omega⟩, HB⟩
end
end Go.Proofs.Ytigjhfijkdlldaa.H
end
section
/- laws.markMemEventS: each event of a row of the law's own is marked; nothing else is written. What the marks are is not told. -/
namespace Go.Proofs.Ytigjhfijkdlldaa.H
open Go.RowKit Go.Proofs.YtigjhfijkdlldaaW.PrintWords Go.Proofs.YtigjhfijkdlldaaW.PrintLast Go.Proofs.YtigjhfijkdlldaaW.PrintMore Go.Proofs.Ytigjhfijkdlldaa.Q
set_option linter.unusedVariables false
def lenV (x : S40) : Nat := x.f4.f2.length
def cntV : List S40 → Int
  | [] => 0
  | x :: l => 6 + lenV x + cntV l
theorem cntV_append (l l' : List S40) : cntV (l ++ l') = cntV l + cntV l' := by
  induction l with
  | nil => simp [cntV]
  | cons x l ih => simp only [List.cons_append, cntV, ih]; omega
theorem cntV_nonneg (l : List S40) : 0 ≤ cntV l := by
  induction l with
  | nil => exact Int.le_refl _
  | cons x l ih => simp only [cntV]; omega
theorem cntV_step (l : List S40) (i : Int) (h0 : 0 ≤ i) (h1 : i < l.length) : cntV (l.take (i + 1).toNat) = cntV (l.take i.toNat) + 6 + lenV (rd_T40 l i) := by
  rw [take_one l z40 i h0 h1, cntV_append]
  show _ = cntV (l.take i.toNat) + 6 + lenV (l.getD i.toNat z40)
  simp only [cntV]; omega
theorem cntV_le (l : List S40) (i : Nat) : cntV (l.take i) ≤ cntV l := by
  have h := cntV_append (l.take i) (l.drop i)
  rw [List.take_append_drop] at h
  have := cntV_nonneg (l.drop i)
  omega
theorem lens_at {l l' : List S40} (h : l'.map lenV = l.map lenV) (i : Int) (h0 : 0 ≤ i) (h1 : i < l.length) : lenV (rd_T40 l' i) = lenV (rd_T40 l i) := by
  have hl : l'.length = l.length := by have := congrArg List.length h; simpa using this
  have h2 := congrArg (fun (m : List Nat) => m[i.toNat]?) h
  simp only [List.getElem?_map] at h2
  rw [List.getElem?_eq_getElem (show i.toNat < l'.length by omega), List.getElem?_eq_getElem (show i.toNat < l.length by omega)] at h2
  unfold rd_T40
  rw [List.getD_eq_getElem?_getD, List.getD_eq_getElem?_getD, List.getElem?_eq_getElem (show i.toNat < l'.length by omega), List.getElem?_eq_getElem (show i.toNat < l.length by omega)]
  simpa using h2
theorem lens_set {l' : List S40} (i : Int) (h0 : 0 ≤ i) (h1 : i < l'.length) (y : S40) (h : lenV y = lenV (rd_T40 l' i)) : (l'.set i.toNat y).map lenV = l'.map lenV := by
  have h2 : i.toNat < l'.length := by omega
  rw [List.map_set, h]
  unfold rd_T40
  rw [List.getD_eq_getElem?_getD, List.getElem?_eq_getElem h2]
  show (l'.map lenV).set i.toNat (lenV l'[i.toNat]) = _
  refine List.ext_getElem (by simp) (fun j a b => ?_)
  rw [List.getElem_set]
  split
  · rename_i e; subst e; simp
  · rfl
set_option maxHeartbeats 4000000 in
set_option maxRecDepth 100000 in
theorem markEvS_q (a : Int) (w0 w : World) (P : Nat → Prop) (v : Value) (l : List S40) (hB : Below w0.heap.size w0 w) (hS : Kd.S k40 40 w w0.heap.size P v l) (ha : 0 ≤ a) (hc : a + cntV l ≤ 1152921504606846976) (hl : l.length ≤ 1048576) :
    Calls Try.prog 57 #[v, .int .i64 a] w fun e w' => e = .returned (.int .i64 (a + cntV l)) ∧ Below w0.heap.size w0 w' ∧ Kept w w' P := by
  have HS := AK hS
  have HB := AK hB
  have HC := AK hc
  have HA := AK ha
  have HL := AK hl
  obtain ⟨A, c, rfl⟩ := Kd.S_slice hS
  clear hS hB hc ha hl
  go_enter Try.func57, Try.ntmps57
  go_wp2
  go_loopg [1, 5] l.length (fun kq v1 v5 w' => ∃ (x i : Int) (l' : List S40), v1 = .int .i64 x ∧ v5 = .int .i64 i ∧ Aside0 (0 ≤ i ∧ i + kq = l.length) ∧ Aside0 (x = a + cntV (l.take i.toNat)) ∧ Aside0 (l'.map lenV = l.map lenV) ∧
    Aside0 (Kd.S k40 40 w' w0.heap.size P (.slice A l.length c) l') ∧ Aside0 (Below w0.heap.size w0 w') ∧ Aside0 (Kept w w' P))
  case atStart => exact ⟨a, 0, l, rfl, rfl, ⟨by omega, by omega⟩, ⟨by simp [cntV]⟩, ⟨rfl⟩, HS, HB, ⟨Kept.refl _ _⟩⟩
  case round =>
    clear HS HB
    obtain ⟨x, i, l', rfl, rfl, HI, HX, HM, HS, HB, HK⟩ := hrel
    cases gk with
    | succ k1 =>
      have c4b : decide (i < (l.length : Int)) = true := deT (by have := HI.out; omega)
      have e4a := eq_true (show 0 ≤ i by have := HI.out; omega)
      have e4b := eq_true (show i < (l.length : Int) by have := HI.out; omega)
      have hlen : l'.length = l.length := by have := congrArg List.length HM.out; simpa using this
      obtain ⟨g, cap, hv, gb, gl, cl, hg⟩ := Kd.S_form HS.out (by rw [hlen]; have := HI.out; omega)
      injection hv with hv1 hv2 hv3
      subst hv1 hv3
      obtain ⟨oki, ce, hcl, hM, hcc, hfr, hoki, hH⟩ := Kd.S_elem HS.out z40 i (by have := HI.out; omega) (by have := HI.out; omega)
      obtain ⟨o, eo⟩ : ∃ o, o = rd_T40 l' i := ⟨_, rfl⟩
      rw [show l'.getD i.toNat z40 = o from eo.symm] at hM
      obtain ⟨sv, rfl, hR⟩ := k40_openM hM
      obtain ⟨As, cs, rfl⟩ := Kd.R_slice hR
      have q0 : wr.cell? ⟨g, i.toNat * 7, none⟩ = some (.int .i64 o.f0) := hcc 0 _ rfl
      have f0 : wr.frozen? ⟨g, i.toNat * 7, none⟩ = false := hfr 0
      have hln : o.f4.f2.length = lenV (rd_T40 l i) := by rw [← lens_at HM.out i (by have := HI.out; omega) (by have := HI.out; omega), ← eo]; rfl
      have hcn := cntV_step l i (by have := HI.out; omega) (by have := HI.out; omega)
      have hcl2 := cntV_le l (i + 1).toNat
      have hnn := cntV_nonneg (l.take i.toNat)
      have bx0 : 0 ≤ x := by have := HX.out; have := HA.out; omega
      have bx1 : x + 6 + o.f4.f2.length ≤ 1152921504606846976 := by have := HX.out; have := HC.out; omega
      have bx2 : x ≤ 1152921504606846976 := by omega
      have HCN := AK hcn
      have HLN := AK hln
      have EO := AK eo
      have HLEN := AK hlen
      have HB1_ := AK bx1
      have HR := AK hR
      have HH := AK hH
      have HO := AK hoki
      have HGB := AK gb
      have HPG := AK (show P g from (Kd.S_R HS.out).1 g rfl)
      have HI2 := AK (show 0 ≤ i ∧ i < (l.length : Int) by have := HI.out; omega)
      clear hlen gb gl hg hcl hM hcc hfr hoki hH hR hv2 hcn hcl2 hnn bx1 HS hln eo
      go_wp2_with (first | ((with_reducible refine gate_store (t := 3) (p := 16) rfl ?_); refine store_event (t := 3) (p := 16) (v := ?vo0) (w1 := wr.setCell ⟨g, i.toNat * 7, none⟩ (.int .i64 x)) ?hg ?ho ?hn ?hr ?_; (case ho => rfl); (case hg => rfl); (case hn => rfl); (case hr => first | (go_simp; done) | (go_simp; rfl)); intro w2 hw; obtain ⟨h2, g2⟩ := H_seg1 HH.out HI2.out.1 HI2.out.2 0 (.int .i64 x) (show 0 + 1 ≤ 7 by omega) rfl; have hg2 : wr.grownBy w2 (some g) := (by rw [hw]; exact g2); have HH1 := AK (show Kd.H k40 40 w2 w0.heap.size P (.slice (some ⟨g, 0, none⟩) l.length c) l' i oki [.int .i64 x, .int .i64 o.f1, .int .i64 o.f2, .int .i64 o.f3, .int .i64 o.f4.f0, .string o.f4.f1, .slice As o.f4.f2.length cs] by rw [hw]; exact h2); have HR1 := AK (Kd.R_grown HR.out hg2 (fun k hk he => (HO.out k hk).2 (Option.some.inj he))); have HB1 := AK (below_grown2 HB.out hg2 HGB.out); have HK1 := AK (Kept.of_grown hg2 HK.out (fun k hk => by cases hk; exact .inl HPG.out)); clear hw h2 g2 hg2 HH HR HB HK q0 f0; have q1 : w2.cell? ⟨g, i.toNat * 7 + 1, none⟩ = some (.int .i64 o.f1) := (H_at HH1.out HI2.out.1 HI2.out.2).1 1 _ rfl; have f1 : w2.frozen? ⟨g, i.toNat * 7 + 1, none⟩ = false := (H_at HH1.out HI2.out.1 HI2.out.2).2 _) | ((with_reducible refine gate_store (t := 3) (p := 23) rfl ?_); refine store_event (t := 3) (p := 23) (v := ?vo1) (w1 := w2.setCell ⟨g, i.toNat * 7 + 1, none⟩ (.int .i64 (x + 1))) ?hg ?ho ?hn ?hr ?_; (case ho => rfl); (case hg => rfl); (case hn => rfl); (case hr => first | (go_simp; done) | (go_simp; rfl)); intro w3 hw; obtain ⟨h2, g2⟩ := H_seg1 HH1.out HI2.out.1 HI2.out.2 1 (.int .i64 (x + 1)) (show 1 + 1 ≤ 7 by omega) rfl; have hg2 : w2.grownBy w3 (some g) := (by rw [hw]; exact g2); have HH2 := AK (show Kd.H k40 40 w3 w0.heap.size P (.slice (some ⟨g, 0, none⟩) l.length c) l' i oki [.int .i64 x, .int .i64 (x + 1), .int .i64 o.f2, .int .i64 o.f3, .int .i64 o.f4.f0, .string o.f4.f1, .slice As o.f4.f2.length cs] by rw [hw]; exact h2); have HR2 := AK (Kd.R_grown HR1.out hg2 (fun k hk he => (HO.out k hk).2 (Option.some.inj he))); have HB2 := AK (below_grown2 HB1.out hg2 HGB.out); have HK2 := AK (Kept.of_grown hg2 HK1.out (fun k hk => by cases hk; exact .inl HPG.out)); clear hw h2 g2 hg2 HH1 HR1 HB1 HK1 q1 f1; have q2 : w3.cell? ⟨g, i.toNat * 7 + 2, none⟩ = some (.int .i64 o.f2) := (H_at HH2.out HI2.out.1 HI2.out.2).1 2 _ rfl; have f2 : w3.frozen? ⟨g, i.toNat * 7 + 2, none⟩ = false := (H_at HH2.out HI2.out.1 HI2.out.2).2 _) | ((with_reducible refine gate_store (t := 3) (p := 30) rfl ?_); refine store_event (t := 3) (p := 30) (v := ?vo2) (w1 := w3.setCell ⟨g, i.toNat * 7 + 2, none⟩ (.int .i64 (x + 1 + 1))) ?hg ?ho ?hn ?hr ?_; (case ho => rfl); (case hg => rfl); (case hn => rfl); (case hr => first | (go_simp; done) | (go_simp; rfl)); intro w4 hw; obtain ⟨h2, g2⟩ := H_seg1 HH2.out HI2.out.1 HI2.out.2 2 (.int .i64 (x + 1 + 1)) (show 2 + 1 ≤ 7 by omega) rfl; have hg2 : w3.grownBy w4 (some g) := (by rw [hw]; exact g2); have HH3 := AK (show Kd.H k40 40 w4 w0.heap.size P (.slice (some ⟨g, 0, none⟩) l.length c) l' i oki [.int .i64 x, .int .i64 (x + 1), .int .i64 (x + 1 + 1), .int .i64 o.f3, .int .i64 o.f4.f0, .string o.f4.f1, .slice As o.f4.f2.length cs] by rw [hw]; exact h2); have HR3 := AK (Kd.R_grown HR2.out hg2 (fun k hk he => (HO.out k hk).2 (Option.some.inj he))); have HB3 := AK (below_grown2 HB2.out hg2 HGB.out); have HK3 := AK (Kept.of_grown hg2 HK2.out (fun k hk => by cases hk; exact .inl HPG.out)); clear hw h2 g2 hg2 HH2 HR2 HB2 HK2 q2 f2; have q3 : w4.cell? ⟨g, i.toNat * 7 + 3, none⟩ = some (.int .i64 o.f3) := (H_at HH3.out HI2.out.1 HI2.out.2).1 3 _ rfl; have f3 : w4.frozen? ⟨g, i.toNat * 7 + 3, none⟩ = false := (H_at HH3.out HI2.out.1 HI2.out.2).2 _) | ((with_reducible refine gate_store (t := 3) (p := 37) rfl ?_); refine store_event (t := 3) (p := 37) (v := ?vo3) (w1 := w4.setCell ⟨g, i.toNat * 7 + 3, none⟩ (.int .i64 (x + 1 + 1 + 1))) ?hg ?ho ?hn ?hr ?_; (case ho => rfl); (case hg => rfl); (case hn => rfl); (case hr => first | (go_simp; done) | (go_simp; rfl)); intro w5 hw; obtain ⟨h2, g2⟩ := H_seg1 HH3.out HI2.out.1 HI2.out.2 3 (.int .i64 (x + 1 + 1 + 1)) (show 3 + 1 ≤ 7 by omega) rfl; have hg2 : w4.grownBy w5 (some g) := (by rw [hw]; exact g2); have HH4 := AK (show Kd.H k40 40 w5 w0.heap.size P (.slice (some ⟨g, 0, none⟩) l.length c) l' i oki [.int .i64 x, .int .i64 (x + 1), .int .i64 (x + 1 + 1), .int .i64 (x + 1 + 1 + 1), .int .i64 o.f4.f0, .string o.f4.f1, .slice As o.f4.f2.length cs] by rw [hw]; exact h2); have HR4 := AK (Kd.R_grown HR3.out hg2 (fun k hk he => (HO.out k hk).2 (Option.some.inj he))); have HB4 := AK (below_grown2 HB3.out hg2 HGB.out); have HK4 := AK (Kept.of_grown hg2 HK3.out (fun k hk => by cases hk; exact .inl HPG.out)); clear hw h2 g2 hg2 HH3 HR3 HB3 HK3 q3 f3; have q4 : w5.cell? ⟨g, i.toNat * 7 + 4, none⟩ = some (.int .i64 o.f4.f0) := (H_at HH4.out HI2.out.1 HI2.out.2).1 4 _ rfl; have f4 : w5.frozen? ⟨g, i.toNat * 7 + 4, none⟩ = false := (H_at HH4.out HI2.out.1 HI2.out.2).2 _) | ((with_reducible refine gate_store (t := 3) (p := 45) rfl ?_); refine store_event (t := 3) (p := 45) (v := ?vo4) (w1 := w5.setCell ⟨g, i.toNat * 7 + 4, none⟩ (.int .i64 (x + 1 + 1 + 1 + 1))) ?hg ?ho ?hn ?hr ?_; (case ho => rfl); (case hg => rfl); (case hn => rfl); (case hr => first | (go_simp; done) | (go_simp; rfl)); intro w6 hw; obtain ⟨h2, g2⟩ := H_seg1 HH4.out HI2.out.1 HI2.out.2 4 (.int .i64 (x + 1 + 1 + 1 + 1)) (show 4 + 1 ≤ 7 by omega) rfl; have hg2 : w5.grownBy w6 (some g) := (by rw [hw]; exact g2); have HH5 := AK (show Kd.H k40 40 w6 w0.heap.size P (.slice (some ⟨g, 0, none⟩) l.length c) l' i oki [.int .i64 x, .int .i64 (x + 1), .int .i64 (x + 1 + 1), .int .i64 (x + 1 + 1 + 1), .int .i64 (x + 1 + 1 + 1 + 1), .string o.f4.f1, .slice As o.f4.f2.length cs] by rw [hw]; exact h2); have HR5 := AK (Kd.R_grown HR4.out hg2 (fun k hk he => (HO.out k hk).2 (Option.some.inj he))); have HB5 := AK (below_grown2 HB4.out hg2 HGB.out); have HK5 := AK (Kept.of_grown hg2 HK4.out (fun k hk => by cases hk; exact .inl HPG.out)); clear hw h2 g2 hg2 HH4 HR4 HB4 HK4 q4 f4; have q5 : w6.cell? ⟨g, i.toNat * 7 + 5, none⟩ = some (.string o.f4.f1) := (H_at HH5.out HI2.out.1 HI2.out.2).1 5 _ rfl; have f5 : w6.frozen? ⟨g, i.toNat * 7 + 5, none⟩ = false := (H_at HH5.out HI2.out.1 HI2.out.2).2 _) | (go_at_call 112; refine (mtxt_c (x + 1 + 1 + 1 + 1 + 1) (by omega)).mono ?_; rintro e w7 ⟨rfl, hb⟩; have HH6 := AK (Kd.H_below HH5.out hb); have HR6 := AK (Kd.R_below HR5.out hb); have HB6 := AK (bst HB5.out hb); have HK6 := AK (Kept.below HK5.out hb); clear hb HH5 HR5 HB5 HK5 q5 f5; have q5 : w7.cell? ⟨g, i.toNat * 7 + 5, none⟩ = some (.string o.f4.f1) := (H_at HH6.out HI2.out.1 HI2.out.2).1 5 _ rfl; have f5 : w7.frozen? ⟨g, i.toNat * 7 + 5, none⟩ = false := (H_at HH6.out HI2.out.1 HI2.out.2).2 _) | ((with_reducible refine gate_store (t := 9) (p := 54) rfl ?_); refine store_event (t := 9) (p := 54) (v := ?vo5) (w1 := w7.setCell ⟨g, i.toNat * 7 + 5, none⟩ (.string (mtxt (x + 1 + 1 + 1 + 1 + 1)))) ?hg ?ho ?hn ?hr ?_; (case ho => rfl); (case hg => rfl); (case hn => rfl); (case hr => first | (go_simp; done) | (go_simp; rfl)); intro w8 hw; obtain ⟨h2, g2⟩ := H_seg1 HH6.out HI2.out.1 HI2.out.2 5 (.string (mtxt (x + 1 + 1 + 1 + 1 + 1))) (show 5 + 1 ≤ 7 by omega) rfl; have hg2 : w7.grownBy w8 (some g) := (by rw [hw]; exact g2); have HH7 := AK (show Kd.H k40 40 w8 w0.heap.size P (.slice (some ⟨g, 0, none⟩) l.length c) l' i oki [.int .i64 x, .int .i64 (x + 1), .int .i64 (x + 1 + 1), .int .i64 (x + 1 + 1 + 1), .int .i64 (x + 1 + 1 + 1 + 1), .string (mtxt (x + 1 + 1 + 1 + 1 + 1)), .slice As o.f4.f2.length cs] by rw [hw]; exact h2); have HR7 := AK (Kd.R_grown HR6.out hg2 (fun k hk he => (HO.out k hk).2 (Option.some.inj he))); have HB7 := AK (below_grown2 HB6.out hg2 HGB.out); have HK7 := AK (Kept.of_grown hg2 HK6.out (fun k hk => by cases hk; exact .inl HPG.out)); clear hw h2 g2 hg2 HH6 HR6 HB6 HK6 q5 f5; have q6 : w8.cell? ⟨g, i.toNat * 7 + 6, none⟩ = some (.slice As o.f4.f2.length cs) := (H_at HH7.out HI2.out.1 HI2.out.2).1 6 _ rfl; have f6 : w8.frozen? ⟨g, i.toNat * 7 + 6, none⟩ = false := (H_at HH7.out HI2.out.1 HI2.out.2).2 _) | (go_at_call 31; rw [show x + 1 + 1 + 1 + 1 + 1 + 1 = x + 6 by omega]; refine (markInt_c (x + 6) (by omega) HB7.out HR7.out (by have := HB1_.out; omega)).mono ?_; rintro e wz ⟨rfl, hr, hb, hk⟩; have HRZ := AK hr; have HBZ := AK hb; have HKZ := AK (Kept.then_ HK7.out hk (fun k hk => .inl (HO.out k (HR7.out.1 k hk.symm)).1)); have HHZ := AK (Kd.H_step HH7.out (fun k _ hn hlt => hk.2 k hlt (fun e => hn (HR7.out.1 k e.symm)))); have HOW := AK HR7.out.1; clear hr hb hk HH7 HR7 HB7 HK7 q6 f6))
      go_roundg k1
      case measure => omega
      case rel =>
        have h1 := HI.out
        have h2 := HX.out
        have h3 := HCN.out
        have h4 := HL.out
        have h5 := HB1_.out
        have h6 := HLN.out
        rw [wrap_succ i (by omega) (by omega)]
        have hM : k40.M wz w0.heap.size oki (⟨x, x + 1, x + 1 + 1, x + 1 + 1 + 1, ⟨x + 1 + 1 + 1 + 1, mtxt (x + 1 + 1 + 1 + 1 + 1), marksI (x + 6) o.f4.f2.length⟩⟩ : S40) [.int .i64 x, .int .i64 (x + 1), .int .i64 (x + 1 + 1), .int .i64 (x + 1 + 1 + 1), .int .i64 (x + 1 + 1 + 1 + 1), .string (mtxt (x + 1 + 1 + 1 + 1 + 1)), .slice As o.f4.f2.length cs] := by
          have hr := Kd.R_mono (Kd.R_tight rfl HRZ.out) (fun k hk => HOW.out k hk.symm)
          exact k40_mkM _ _ _ (⟨x, x + 1, x + 1 + 1, x + 1 + 1 + 1, ⟨x + 1 + 1 + 1 + 1, mtxt (x + 1 + 1 + 1 + 1 + 1), marksI (x + 6) o.f4.f2.length⟩⟩ : S40) hr
        have hb := Kd.H_back HHZ.out hM (fun _ hk => hk)
        refine ⟨_, i + 1, _, rfl, rfl, ⟨by omega, by omega⟩, ⟨by rw [h3, h2, ← h6]; omega⟩, ⟨?_⟩, ⟨hb⟩, HBZ, HKZ⟩
        rw [lens_set i (by omega) (by rw [HLEN.out]; omega) _ (by rw [← EO.out]; show (marksI (x + 6) o.f4.f2.length).length = _; rw [marksI_length]; rfl)]
        exact HM.out
    | zero =>
      have c4b : decide (i < (l.length : Int)) = false := deF (by have := HI.out; omega)
      go_wp2
      go_ret
      have h1 := HI.out
      have h2 := HX.out
      rw [take_all _ _ (by omega)] at h2
      exact ⟨by rw [h2]; rfl, HB.out, HK.out⟩
end Go.Proofs.Ytigjhfijkdlldaa.H
end
section
/- The laws' comparison, marks and held marks of texts, walked. -/
namespace Go.Proofs.Ytigjhfijkdlldaa.H
open Go.RowKit Go.Proofs.YtigjhfijkdlldaaW.PrintWords Go.Proofs.YtigjhfijkdlldaaW.PrintLast Go.Proofs.YtigjhfijkdlldaaW.PrintMore Go.Proofs.Ytigjhfijkdlldaa.Q
set_option linter.unusedVariables false
set_option linter.unusedSimpArgs false
def marksT (a : Int) (n : Nat) : List ByteArray := (List.range n).map fun (j : Nat) => mtxt (a + (j : Int))
theorem marksT_length (a : Int) (n : Nat) : (marksT a n).length = n := by simp [marksT]
theorem marksT_succ (a : Int) (n : Nat) : marksT a (n + 1) = marksT a n ++ [mtxt (a + n)] := by simp [marksT, List.range_succ]
theorem marksT_rd (a : Int) (n : Nat) (i : Int) (h0 : 0 ≤ i) (h1 : i < n) : rdOf ByteArray.empty (marksT a n) i = mtxt (a + i) := by
  unfold rdOf marksT
  rw [List.getD_eq_getElem?_getD, List.getElem?_map, List.getElem?_range (by omega)]
  simp only [Option.map_some, Option.getD_some, Int.toNat_of_nonneg h0]
theorem mixT_set (a : Int) (i : Int) (l : List ByteArray) (h0 : 0 ≤ i) (h1 : i < l.length) : (marksT a i.toNat ++ l.drop i.toNat).set i.toNat (mtxt (a + i)) = marksT a (i + 1).toNat ++ l.drop (i + 1).toNat := by
  rw [drop_cons l ByteArray.empty i h0 h1, set_at _ _ _ _ _ (marksT_length _ _), show (i + 1).toNat = i.toNat + 1 by omega, marksT_succ, List.append_assoc, Int.toNat_of_nonneg h0]
  rfl
theorem RS_set {W : World} {base g n cap : Nat} {ok : Nat → Prop} {xs : List ByteArray} (h : Kd.string.R 9 W base ok (.slice (some ⟨g, 0, none⟩) n cap) xs) (i : Int) (h0 : 0 ≤ i) (h1 : i < n) (v : ByteArray) :
    Kd.string.R 9 (W.setCell ⟨g, i.toNat, none⟩ (.string v)) base ok (.slice (some ⟨g, 0, none⟩) n cap) (xs.set i.toNat v) := by
  obtain ⟨c, hcl, hM, hcc, _⟩ := Kd.R_elem h ByteArray.empty i h0 h1
  obtain ⟨u, rfl⟩ := List.length_eq_one_iff.1 (show c.length = 1 from hcl)
  have h2 := (Kd.R_seg h i h0 h1 hcl hcc (seg := [.string v]) (j := 0) (x' := v) (okp := fun _ => False) (Nat.le_refl 1) (show [Value.string v] = [Value.string v] from rfl) (fun _ hk => hk.elim)).1
  have e : i.toNat * Kd.string.sz + 0 = i.toNat := by show i.toNat * 1 + 0 = _; omega
  rw [e] at h2
  exact h2
theorem RS_at {W : World} {base g n cap : Nat} {ok : Nat → Prop} {xs : List ByteArray} (h : Kd.string.R 9 W base ok (.slice (some ⟨g, 0, none⟩) n cap) xs) (i : Int) (h0 : 0 ≤ i) (h1 : i < n) : W.cell? ⟨g, i.toNat, none⟩ = some (.string (rdOf ByteArray.empty xs i)) ∧ W.frozen? ⟨g, i.toNat, none⟩ = false := by
  obtain ⟨c, hcl, hM, hcc, hfr⟩ := Kd.R_elem h ByteArray.empty i h0 h1
  have e : ∀ j, i.toNat * Kd.string.sz + j = i.toNat + j := fun j => by show i.toNat * 1 + j = _; omega
  have h2 : c = [.string (rdOf ByteArray.empty xs i)] := hM
  have h3 := hcc 0 (.string (rdOf ByteArray.empty xs i)) (by rw [h2]; rfl)
  have h4 := hfr 0
  rw [e] at h3 h4
  exact ⟨h3, h4⟩
section
variable {w0 w : World} {A B : Option Addr} {c d : Nat}
theorem eqStr_q {l : List ByteArray} (h : Kd.C Kd.string w A l.length l) (h' : Kd.C Kd.string w B l.length l) : Calls Try.prog 55 #[.slice A l.length c, .slice B l.length d] w fun e w' => e = .returned (.bool true) ∧ Drawn0 w w' := by
  have HH := AK (And.intro h (And.intro h' h.2.1))
  have hn : ((l.length : Int) != (l.length : Int)) = false := by simp
  clear h h'
  go_enter Try.func55, Try.ntmps55
  go_wp2
  go_loopg [5] l.length (fun kq v5 w' => ∃ i : Int, v5 = .int .i64 i ∧ Aside0 (0 ≤ i ∧ i + kq = l.length) ∧ Drawn0 w w')
  case atStart => exact ⟨0, rfl, ⟨by omega, by omega⟩, Drawn0.refl _⟩
  case round =>
    obtain ⟨i, rfl, HI, ⟨m, rfl⟩⟩ := hrel
    cases gk with
    | zero =>
      have c9 : decide (i < (l.length : Int)) = false := deF (by have := HI.out; omega)
      go_wp2
      go_ret
      exact ⟨rfl, ⟨_, rfl⟩⟩
    | succ k1 =>
      have c9 : decide (i < (l.length : Int)) = true := deT (by have := HI.out; omega)
      have hi0 := eq_true (show 0 ≤ i by have := HI.out; omega)
      have hi1 := eq_true (show i < (l.length : Int) by have := HI.out; omega)
      obtain ⟨ad, e1, hx⟩ := Kd.at_string HH.out.1 i (by have := HI.out; omega) (by have := HI.out; omega)
      obtain ⟨be, e2, hy⟩ := Kd.at_string HH.out.2.1 i (by have := HI.out; omega) (by have := HI.out; omega)
      subst e1 e2
      have hne : ((rdOf ByteArray.empty l i).toList != (rdOf ByteArray.empty l i).toList) = false := by simp
      go_wp2_with fail
      go_quiet (fail)
      go_wp2
      go_roundg k1
      case measure => omega
      case rel =>
        rw [wrap_succ i (by have := HI.out; omega) (by have := HI.out; have := HH.out.2.2; omega)]
        exact ⟨i + 1, rfl, ⟨by have := HI.out; omega, by have := HI.out; omega⟩, by repeat (first | exact Drawn0.refl _ | apply Drawn0.step)⟩
set_option maxHeartbeats 1000000 in
theorem markStr_c (a : Int) (ha : 0 ≤ a) {P : Nat → Prop} {l : List ByteArray} (hB : Below w0.heap.size w0 w) (hO : Kd.R Kd.string 9 w w0.heap.size P (.slice A l.length c) l) (hl : a + l.length ≤ 1152921504606846976) :
    Calls Try.prog 58 #[.slice A l.length c, .int .i64 a] w fun e w' => e = .returned (.int .i64 (a + l.length)) ∧ Kd.R Kd.string 9 w' w0.heap.size P (.slice A l.length c) (marksT a l.length) ∧ Below w0.heap.size w0 w' ∧ Kept w w' (fun k => some k = (Value.slice A l.length c).ownBlock) := by
  have HB := AK hB
  have HO := AK hO
  have HL := AK (And.intro ha hl)
  clear hB hO ha hl
  go_enter Try.func58, Try.ntmps58
  go_wp2
  go_loopg [1, 5] l.length (fun kq v1 v5 w' => ∃ i : Int, v1 = .int .i64 (a + i) ∧ v5 = .int .i64 i ∧ Aside0 (0 ≤ i ∧ i + kq = l.length) ∧ Aside0 (Kd.R Kd.string 9 w' w0.heap.size P (.slice A l.length c) (marksT a i.toNat ++ l.drop i.toNat)) ∧ Aside0 (Below w0.heap.size w0 w') ∧ Aside0 (Kept w w' (fun k => some k = (Value.slice A l.length c).ownBlock)))
  case atStart => exact ⟨0, by rw [Int.add_zero], rfl, ⟨by omega, by omega⟩, ⟨HO.out⟩, HB, ⟨Kept.refl _ _⟩⟩
  case round =>
    clear HO HB
    obtain ⟨i, rfl, rfl, HI, HO, HB, HK⟩ := hrel
    cases gk with
    | zero =>
      obtain rfl : i = (l.length : Int) := by have := HI.out; omega
      have c9 : decide ((l.length : Int) < (l.length : Int)) = false := deF (by omega)
      have h1 := HO.out
      rw [Int.toNat_natCast, List.drop_length, List.append_nil] at h1
      have H1 := AK h1
      clear h1
      go_wp2
      go_ret
      exact ⟨rfl, H1.out, HB.out, HK.out⟩
    | succ k1 =>
      have c9 : decide (i < (l.length : Int)) = true := deT (by have := HI.out; omega)
      have hi0 := eq_true (show 0 ≤ i by have := HI.out; omega)
      have hi1 := eq_true (show i < (l.length : Int) by have := HI.out; omega)
      go_wp2_with fail
      refine (mtxt_c (a + i) (by have := HI.out; have := HL.out; omega)).mono ?_
      rintro e w2 ⟨rfl, hb⟩
      replace HO := AK (Kd.R_below HO.out hb)
      replace HB := AK (bst HB.out hb)
      replace HK := AK (Kept.below HK.out hb)
      clear hb
      have hml : (marksT a i.toNat ++ l.drop i.toNat).length = l.length := by rw [List.length_append, marksT_length, List.length_drop]; have := HI.out; omega
      obtain ⟨g, cap, ee, hgb, hgl, _⟩ := Kd.R_form HO.out (by rw [hml]; have := HI.out; omega)
      injection ee with e1 e2 e3
      subst e1 e3
      clear e2
      obtain ⟨hy, hf⟩ := RS_at HO.out i (by have := HI.out; omega) (by have := HI.out; omega)
      have N0 := AK (RS_set HO.out i (by have := HI.out; omega) (by have := HI.out; omega) (mtxt (a + i)))
      rw [mixT_set a i l (by have := HI.out; omega) (by have := HI.out; omega)] at N0
      have hw1 : wrap64 (a + i + 1) = a + (i + 1) := by have := HI.out; have := HL.out; unfold wrap64; omega
      have hw3 : wrap64 (i + 1) = i + 1 := by have := HI.out; have := HL.out; unfold wrap64; omega
      have N1 := AK (below_set (j := i.toNat) (v := .string (mtxt (a + i))) HB.out hgb)
      have N2 := AK (Kept.setCell HK.out (p := ⟨g, i.toNat, none⟩) (.inl rfl) (.string (mtxt (a + i))))
      clear hml hgb hgl HO HB HK
      go_wp2
      go_roundg k1
      case measure => omega
      case rel =>
        try rw [hw1]
        try rw [hw3]
        exact ⟨i + 1, rfl, rfl, ⟨by have := HI.out; omega, by have := HI.out; omega⟩, N0, N1, N2⟩
theorem heldStr_c {a : Int} {n : Nat} (ha : 0 ≤ a) (hl : a + n ≤ 1152921504606846976) (h : Kd.C Kd.string w A n (marksT a n)) : Calls Try.prog 59 #[.slice A n c, .int .i64 a] w fun e w' => e = .returned (.int .i64 (a + n)) ∧ Below w.heap.size w w' := by
  have HL := AK (And.intro ha (And.intro hl h))
  clear ha hl h
  go_enter Try.func59, Try.ntmps59
  go_wp2
  go_loopg [1, 5] n (fun kq v1 v5 w' => ∃ i : Int, v1 = .int .i64 (a + i) ∧ v5 = .int .i64 i ∧ Aside0 (0 ≤ i ∧ i + kq = n) ∧ Aside0 (Below w.heap.size w w'))
  case atStart => exact ⟨0, by rw [Int.add_zero], rfl, ⟨by omega, by omega⟩, ⟨Below.refl _ _⟩⟩
  case round =>
    obtain ⟨i, rfl, rfl, HI, HB⟩ := hrel
    cases gk with
    | zero =>
      obtain rfl : i = (n : Int) := by have := HI.out; omega
      have c9 : decide ((n : Int) < (n : Int)) = false := deF (by omega)
      go_wp2
      go_ret
      exact ⟨rfl, HB.out⟩
    | succ k1 =>
      have c9 : decide (i < (n : Int)) = true := deT (by have := HI.out; omega)
      have hi0 := eq_true (show 0 ≤ i by have := HI.out; omega)
      have hi1 := eq_true (show i < (n : Int) by have := HI.out; omega)
      obtain ⟨ad, e1, hx⟩ := Kd.at_string (Kd.C_below HL.out.2.2 HB.out) i (by have := HI.out; omega) (by have := HI.out; omega)
      subst e1
      rw [marksT_rd a n i (by have := HI.out; omega) (by have := HI.out; omega)] at hx
      have hn : ((mtxt (a + i)).toList != (mtxt (a + i)).toList) = false := by simp
      have hw1 : wrap64 (a + i + 1) = a + (i + 1) := by have := HI.out; have := HL.out; unfold wrap64; omega
      have hw3 : wrap64 (i + 1) = i + 1 := by have := HI.out; have := HL.out; unfold wrap64; omega
      have HX := AK hx
      go_wp2_with fail
      go_region_held3 (fun w' => w'.cell? (ad.add i.toNat) = some (.string (mtxt (a + i))))
        (first | exact HX.out | exact HY.out)
        (first | (go_at_call 112; refine (mtxt_c (a + i) (by have := HI.out; have := HL.out; omega)).mono ?_; rintro e w2 ⟨rfl, hb⟩; have HY := AK (pcb hb HX.out); replace HB := AK (bst (below_drew1 HB.out) hb); clear hb))
      go_wp2
      go_roundg k1
      case measure => omega
      case rel =>
        try rw [hw1]
        try rw [hw3]
        exact ⟨i + 1, rfl, rfl, ⟨by have := HI.out; omega, by have := HI.out; omega⟩, HB⟩
end
end Go.Proofs.Ytigjhfijkdlldaa.H
end
