/- impl.MemOk says of every heap what okB says (the spec's MemOk comes to the same: Pa). Its closure by a contract of its own. -/
import Derived.Test.YtigjhfijkdlldaaScoPb
namespace Go.Proofs.Ytigjhfijkdlldaa.H
open Go.RowKit Go.Proofs.YtigjhfijkdlldaaW.PrintWords Go.Proofs.YtigjhfijkdlldaaW.PrintLast Go.Proofs.YtigjhfijkdlldaaW.PrintMore Go.Proofs.Ytigjhfijkdlldaa.Q
set_option linter.unusedVariables false
set_option linter.unusedSimpArgs false
set_option maxHeartbeats 400000 in
theorem MemOk1_calls (bn : Nat) (n p : Int) (w : World) (hn : w.cell? ⟨bn, 0, none⟩ = some (.int .i64 n)) :
    Calls Try.prog 82 #[.int .i64 p, .pointer (some ⟨bn, 0, none⟩)] w fun e w' => e = .returned (.bool (inB p n)) ∧ w = w' := by
  by_cases h1 : -1 ≤ p
  · have h1b : decide (-1 ≤ p) = true := deT h1
    go_enter Try.func82, Try.ntmps82
    go_wp2
    go_ret
    exact ⟨by simp [inB, h1b], rfl⟩
  · have h1b : decide (-1 ≤ p) = false := deF h1
    go_enter Try.func82, Try.ntmps82
    go_wp2
    go_ret
    exact ⟨by simp [inB, h1b], rfl⟩
theorem wt_cases (l0 : List S38) (x : S60) : (x.f0 < 0 ∧ wtB l0 x = false) ∨ (0 ≤ x.f0 ∧ ((l0.length : Int) ≤ x.f0) ∧ wtB l0 x = false) ∨
    (0 ≤ x.f0 ∧ x.f0 < l0.length ∧ ((rd_T38 l0 x.f0).f0 != 4) = true ∧ wtB l0 x = false) ∨ (0 ≤ x.f0 ∧ x.f0 < l0.length ∧ ((rd_T38 l0 x.f0).f0 != 4) = false ∧ x.f1 < 0 ∧ wtB l0 x = false) ∨
    (0 ≤ x.f0 ∧ x.f0 < l0.length ∧ ((rd_T38 l0 x.f0).f0 != 4) = false ∧ 0 ≤ x.f1 ∧ ((l0.length : Int) ≤ x.f1) ∧ wtB l0 x = false) ∨
    (0 ≤ x.f0 ∧ x.f0 < l0.length ∧ ((rd_T38 l0 x.f0).f0 != 4) = false ∧ 0 ≤ x.f1 ∧ x.f1 < l0.length ∧ wtB l0 x = true) := by
  unfold wtB
  by_cases a : x.f0 < 0
  · exact .inl ⟨a, by rw [deF (by omega)]; rfl⟩
  by_cases b : (l0.length : Int) ≤ x.f0
  · exact .inr (.inl ⟨by omega, b, by rw [deT (show 0 ≤ x.f0 by omega), deF (show ¬ x.f0 < l0.length by omega)]; rfl⟩)
  rw [deT (show 0 ≤ x.f0 by omega), deT (show x.f0 < l0.length by omega)]
  by_cases c : (rd_T38 l0 x.f0).f0 = 4
  · have c' : ((rd_T38 l0 x.f0).f0 != 4) = false := by rw [c]; rfl
    by_cases d : x.f1 < 0
    · exact .inr (.inr (.inr (.inl ⟨by omega, by omega, c', d, by rw [deT c, deF (show ¬ 0 ≤ x.f1 by omega)]; rfl⟩)))
    by_cases e : (l0.length : Int) ≤ x.f1
    · exact .inr (.inr (.inr (.inr (.inl ⟨by omega, by omega, c', by omega, e, by rw [deT c, deT (show 0 ≤ x.f1 by omega), deF (show ¬ x.f1 < l0.length by omega)]; rfl⟩))))
    · exact .inr (.inr (.inr (.inr (.inr ⟨by omega, by omega, c', by omega, by omega, by rw [deT c, deT (show 0 ≤ x.f1 by omega), deT (show x.f1 < l0.length by omega)]; rfl⟩))))
  · exact .inr (.inr (.inl ⟨by omega, by omega, by rw [bne_iff_ne]; exact c, by rw [deF c]; rfl⟩))
set_option maxHeartbeats 2000000 in
set_option maxRecDepth 100000 in
theorem MemOk_calls (A0 A1 A2 A3 : Option Addr) (c0 c1 c2 c3 : Nat) (l0 : List S38) (l1 : List Int) (l2 l3 : List S60) (w : World)
   (hr0 : Kd.C k38 w A0 l0.length l0) (hr1 : Kd.C (Kd.int .i64) w A1 l1.length l1) (hr2 : Kd.C k60 w A2 l2.length l2) (hr3 : Kd.C k60 w A3 l3.length l3)
   (hb : (l2.length : Int) + l3.length ≤ 4611686018427387903) (hfit : ∀ x ∈ l0, Fit x) :
   Calls Try.prog 25 #[.agg #[.slice A0 l0.length c0, .slice A1 l1.length c1, .slice A2 l2.length c2, .slice A3 l3.length c3]] w fun e w' => e = .returned (.bool (okB l0 l1 l2 l3)) ∧ Below w.heap.size w w' := by
  have HR0 := AK hr0
  have HR1 := AK hr1
  have HR2 := AK hr2
  have HR3 := AK hr3
  have HFIT := AK hfit
  clear hr0 hr1 hr2 hr3 hfit
  have HB := AK (Below.refl w.heap.size w)
  by_cases c1 : (60 : Int) < l0.length
  · have c1b : decide ((60 : Int) < l0.length) = true := deT c1
    have C1 := AK c1
    clear c1
    go_enter Try.func25, Try.ntmps25
    go_wp2
    go_ret
    refine ⟨?_, ?_⟩
    · have := C1.out; simp [okB]; intro h; omega
    · exact below_alloc HB.out _
  have C1 := AK c1
  have c1b : decide ((60 : Int) < l0.length) = false := deF c1
  clear c1
  by_cases c2 : (8 : Int) < l1.length
  · have c2b : decide ((8 : Int) < l1.length) = true := deT c2
    have C2 := AK c2
    clear c2
    go_enter Try.func25, Try.ntmps25
    go_wp2
    go_ret
    refine ⟨?_, ?_⟩
    · have := C2.out; simp [okB]; intro h; omega
    · exact below_alloc HB.out _
  have C2 := AK c2
  have c2b : decide ((8 : Int) < l1.length) = false := deF c2
  clear c2
  by_cases c3 : (20 : Int) < l2.length + l3.length
  · have c3b : decide ((20 : Int) < l2.length + l3.length) = true := deT c3
    have C3 := AK c3
    clear c3
    go_enter Try.func25, Try.ntmps25
    go_wp2
    go_ret
    refine ⟨?_, ?_⟩
    · have := C3.out; simp [okB]; intro h; omega
    · exact below_alloc HB.out _
  have C3 := AK c3
  have c3b : decide ((20 : Int) < l2.length + l3.length) = false := deF c3
  clear c3
  go_enter Try.func25, Try.ntmps25
  go_wp2
  go_loopg [42] l0.length (fun kq v42 w' => ∃ x : Int, v42 = .int .i64 x ∧ Aside0 (0 ≤ x ∧ x + kq = l0.length) ∧ Aside0 ((l0.take x.toNat).all (obB l0.length) = true) ∧ Aside0 (w'.heap[w.heap.size]? = some (.cells #[.slice A0 l0.length c0, .slice A1 l1.length c1, .slice A2 l2.length c2, .slice A3 l3.length c3] 28 (0, 0))) ∧ Aside0 (w'.heap[w.heap.size + 1]? = some (.cells #[.int .i64 l0.length] 3 (0, 0))) ∧ Aside0 (Below w.heap.size w w'))
  case atStart => exact ⟨0, rfl, ⟨by omega, by omega⟩, ⟨rfl⟩, ⟨blk_alloc (blk_new w _) _⟩, ⟨blk_new1 w _ _⟩, ⟨below_alloc (below_alloc HB.out _) _⟩⟩
  case round =>
    clear HB
    obtain ⟨x, rfl, HX, HA, BK, BN, HB⟩ := hrel
    cases gk with
    | succ k1 =>
      have c4b : decide (x < (l0.length : Int)) = true := deT (by have := HX.out; omega)
      have e4a := eq_true (show 0 ≤ x by have := HX.out; omega)
      have e4b := eq_true (show x < (l0.length : Int) by have := HX.out; omega)
      obtain ⟨ad, Ao, co, e, hx0, hx1, hx2, hl, hg⟩ := at_T38 HR0.out x (by have := HX.out; omega) (by have := HX.out; omega)
      subst e
      replace hx0 := pcb HB.out hx0
      replace hx1 := pcb HB.out hx1
      replace hx2 := pcb HB.out hx2
      have HG := AK (Kd.C_below hg HB.out)
      have HG0 := AK hg
      clear hg
      cases hsb : shB (rd_T38 l0 x) with
      | false =>
        have HS := AK hsb
        clear hsb
        go_wp2_with (go_at_call 83; refine (memObjOk_calls (rd_T38 l0 x) _ _ _ (HFIT.out _ (getD_mem l0 z38 x (by have := HX.out; omega) (by have := HX.out; omega))) (Kd.C_alloc HG.out _) hl).mono ?_; rintro e w5 ⟨rfl, hb5⟩; rw [HS.out]; have HB5 := AK hb5; clear hb5)
        go_ret
        refine ⟨?_, bst (below_alloc HB.out _) HB5.out⟩
        have h1 : l0.all (obB l0.length) = false := all_fails l0 _ z38 x (by have := HX.out; omega) (by have := HX.out; omega) (by show (shB (rd_T38 l0 x) && _) = false; rw [HS.out]; rfl)
        simp [okB, h1]
      | true =>
        have HS := AK hsb
        clear hsb
        go_wp2_with (go_at_call 83; refine (memObjOk_calls (rd_T38 l0 x) _ _ _ (HFIT.out _ (getD_mem l0 z38 x (by have := HX.out; omega) (by have := HX.out; omega))) (Kd.C_alloc HG.out _) hl).mono ?_; rintro e w5 ⟨rfl, hb5⟩; rw [HS.out]; have HB5 := AK (bst (below_alloc HB.out _) hb5); have HC5 := AK hb5; have q2 := ((box3 (bbl (blk_new wr _) hb5)).2.2); clear hb5)
        have BK5 := AK (bbl (blk_alloc BK.out _) HC5.out)
        have BN5 := AK (bbl (blk_alloc BN.out _) HC5.out)
        clear BK BN
        go_loopg [52] (rd_T38 l0 x).f2.length (fun kq v52 w' => ∃ y : Int, v52 = .int .i64 y ∧ Aside0 (0 ≤ y ∧ y + kq = (rd_T38 l0 x).f2.length) ∧ Aside0 (((rd_T38 l0 x).f2.take y.toNat).all (inB · l0.length) = true) ∧ Aside0 (w'.heap[w.heap.size]? = some (.cells #[.slice (some ad) l0.length c0, .slice A1 l1.length c1, .slice A2 l2.length c2, .slice A3 l3.length c3] 28 (0, 0))) ∧ Aside0 (w'.heap[w.heap.size + 1]? = some (.cells #[.int .i64 l0.length] 3 (0, 0))) ∧ Aside0 (Below w.heap.size w w'))
        case atStart => exact ⟨0, rfl, ⟨by omega, by omega⟩, ⟨rfl⟩, BK5, BN5, HB5⟩
        case round =>
          clear BK5 BN5 HB5 HC5
          obtain ⟨y, rfl, HY, HA2, BK, BN, HB2⟩ := hrel
          cases gk with
          | succ k2 =>
            have c5b : decide (y < ((rd_T38 l0 x).f2.length : Int)) = true := deT (by have := HY.out; omega)
            have e5a := eq_true (show 0 ≤ y by have := HY.out; omega)
            have e5b := eq_true (show y < ((rd_T38 l0 x).f2.length : Int) by have := HY.out; omega)
            obtain ⟨ad2, e, hy0⟩ := Kd.at_int HG0.out y (by have := HY.out; omega) (by have := HY.out; omega)
            subst e
            replace hy0 := pcb HB2.out hy0
            have hn := (box1 BN.out).1
            cases hin : inB (rd (rd_T38 l0 x).f2 y) l0.length with
            | false =>
              have HI := AK hin
              clear hin
              go_wp2_with (go_at_call 82; refine (MemOk1_calls _ _ _ _ hn).mono ?_; rintro e w5 ⟨rfl, rfl⟩; rw [HI.out])
              go_ret
              refine ⟨?_, HB2.out⟩
              have h1 : (rd_T38 l0 x).f2.all (inB · l0.length) = false := all_fails _ _ 0 y (by have := HY.out; omega) (by have := HY.out; omega) HI.out
              have h2 : l0.all (obB l0.length) = false := all_fails l0 _ z38 x (by have := HX.out; omega) (by have := HX.out; omega) (by show (shB (rd_T38 l0 x) && (rd_T38 l0 x).f2.all (inB · l0.length)) = false; rw [h1, Bool.and_false])
              simp [okB, h2]
            | true =>
              have HI := AK hin
              clear hin
              go_wp2_with (go_at_call 82; refine (MemOk1_calls _ _ _ _ hn).mono ?_; rintro e w5 ⟨rfl, rfl⟩; rw [HI.out])
              go_roundg k2
              case measure => omega
              case rel =>
                have h1 := HY.out
                have h2 := HG0.out.2.1
                rw [wrap_succ y (by omega) (by omega)]
                exact ⟨y + 1, rfl, ⟨by omega, by omega⟩, ⟨by rw [all_take_succ _ _ 0 _ (by omega) (by omega), HA2.out]; exact HI.out⟩, BK, BN, HB2⟩
          | zero =>
            have c5b : decide (y < ((rd_T38 l0 x).f2.length : Int)) = false := deF (by have := HY.out; omega)
            go_wp2
            go_roundg k1
            case measure => omega
            case rel =>
              have h1 := HX.out
              have h2 := HR0.out.2.1
              have h3 := HA2.out
              rw [take_all _ _ (by have := HY.out; omega)] at h3
              rw [wrap_succ x (by omega) (by omega)]
              exact ⟨x + 1, rfl, ⟨by omega, by omega⟩, ⟨by rw [all_take_succ _ _ z38 _ (by omega) (by omega), HA.out]; show (shB (rd_T38 l0 x) && (rd_T38 l0 x).f2.all (inB · l0.length)) = true; rw [h3, HS.out]; rfl⟩, BK, BN, HB2⟩
    | zero =>
      have c4b : decide (x < (l0.length : Int)) = false := deF (by have := HX.out; omega)
      obtain ⟨-, q1, -, -⟩ := box4 BK.out
      have HA0 := AK (show l0.all (obB l0.length) = true by have h1 := HA.out; have h2 := HX.out; rwa [take_all _ _ (by omega)] at h1)
      clear HA HX
      go_wp2
      go_loopg [65] l1.length (fun kq v42 w' => ∃ x : Int, v42 = .int .i64 x ∧ Aside0 (0 ≤ x ∧ x + kq = l1.length) ∧ Aside0 ((l1.take x.toNat).all (inB · l0.length) = true) ∧ Aside0 (w'.heap[w.heap.size]? = some (.cells #[.slice A0 l0.length c0, .slice A1 l1.length c1, .slice A2 l2.length c2, .slice A3 l3.length c3] 28 (0, 0))) ∧ Aside0 (w'.heap[w.heap.size + 1]? = some (.cells #[.int .i64 l0.length] 3 (0, 0))) ∧ Aside0 (Below w.heap.size w w'))
      case atStart => exact ⟨0, rfl, ⟨by omega, by omega⟩, ⟨rfl⟩, BK, BN, HB⟩
      case round =>
        clear HB BK BN
        obtain ⟨x, rfl, HX, HA, BK, BN, HB⟩ := hrel
        cases gk with
        | succ k1 =>
          have c5b : decide (x < (l1.length : Int)) = true := deT (by have := HX.out; omega)
          have e5a := eq_true (show 0 ≤ x by have := HX.out; omega)
          have e5b := eq_true (show x < (l1.length : Int) by have := HX.out; omega)
          obtain ⟨ad2, e, hy0⟩ := Kd.at_int HR1.out x (by have := HX.out; omega) (by have := HX.out; omega)
          subst e
          replace hy0 := pcb HB.out hy0
          have hn := (box1 BN.out).1
          cases hin : inB (rd l1 x) l0.length with
          | false =>
            have HI := AK hin
            clear hin
            go_wp2_with (go_at_call 82; refine (MemOk1_calls _ _ _ _ hn).mono ?_; rintro e w5 ⟨rfl, rfl⟩; rw [HI.out])
            go_ret
            refine ⟨?_, HB.out⟩
            have h1 : l1.all (inB · l0.length) = false := all_fails _ _ 0 x (by have := HX.out; omega) (by have := HX.out; omega) HI.out
            simp [okB, h1]
          | true =>
            have HI := AK hin
            clear hin
            go_wp2_with (go_at_call 82; refine (MemOk1_calls _ _ _ _ hn).mono ?_; rintro e w5 ⟨rfl, rfl⟩; rw [HI.out])
            go_roundg k1
            case measure => omega
            case rel =>
              have h1 := HX.out
              have h2 := HR1.out.2.1
              rw [wrap_succ x (by omega) (by omega)]
              exact ⟨x + 1, rfl, ⟨by omega, by omega⟩, ⟨by rw [all_take_succ _ _ 0 _ (by omega) (by omega), HA.out]; exact HI.out⟩, BK, BN, HB⟩
        | zero =>
          have c5b : decide (x < (l1.length : Int)) = false := deF (by have := HX.out; omega)
          have HA1 := AK (show l1.all (inB · l0.length) = true by have h1 := HA.out; have h2 := HX.out; rwa [take_all _ _ (by omega)] at h1)
          clear HA HX
          obtain ⟨q0, q1, q2, q3⟩ := box4 BK.out
          go_wp2
          obtain ⟨wr1, hwr1⟩ : ∃ wr1, wr1 = wr := ⟨_, rfl⟩
          subst hwr1
          have BL0 := AK (blk_new wr1 (.cells #[.slice A2 l2.length c2, .slice A3 l3.length c3] 26 (0, 0)))
          go_loopg [80] 2 (fun kq v80 w' => ∃ x : Int, v80 = .int .i64 x ∧ Aside0 (0 ≤ x ∧ x + kq = 2) ∧ Aside0 ((1 ≤ x → l2.all (wtB l0) = true) ∧ (2 ≤ x → l3.all (wtB l0) = true)) ∧ Aside0 (w'.heap[w.heap.size]? = some (.cells #[.slice A0 l0.length c0, .slice A1 l1.length c1, .slice A2 l2.length c2, .slice A3 l3.length c3] 28 (0, 0))) ∧ Aside0 (w'.heap[w.heap.size + 1]? = some (.cells #[.int .i64 l0.length] 3 (0, 0)))
            ∧ Aside0 (w'.heap[wr1.heap.size]? = some (.cells #[.slice A2 l2.length c2, .slice A3 l3.length c3] 26 (0, 0))) ∧ Aside0 (Below w.heap.size w w'))
          case atStart => exact ⟨0, rfl, ⟨by omega, by omega⟩, ⟨by intro h; omega, by intro h; omega⟩, ⟨blk_alloc BK.out _⟩, ⟨blk_alloc BN.out _⟩, BL0, ⟨below_alloc HB.out _⟩⟩
          case round =>
            clear HB BK BN BL0 q2 q3
            obtain ⟨x, rfl, HX, HA, BK, BN, BL, HB⟩ := hrel
            cases gk with
            | succ k1 =>
              have c6b : decide (x < 2) = true := deT (by have := HX.out; omega)
              have e6a := eq_true (show 0 ≤ x by have := HX.out; omega)
              have e6b := eq_true (show x < 2 by have := HX.out; omega)
              obtain ⟨L, AL, cL, HRL, hbx, hno, hyes⟩ : ∃ (L : List S60) (AL : Option Addr) (cL : Nat), Aside0 (Kd.C k60 w AL L.length L) ∧ wr.cell? ⟨wr1.heap.size, x.toNat, none⟩ = some (.slice AL L.length cL) ∧
                  Aside0 (L.all (wtB l0) = false → okB l0 l1 l2 l3 = false) ∧ Aside0 (L.all (wtB l0) = true → (1 ≤ x + 1 → l2.all (wtB l0) = true) ∧ (2 ≤ x + 1 → l3.all (wtB l0) = true)) := by
                have h1 := HX.out
                have h2 := HA.out
                by_cases hx : x = 0
                · subst hx
                  exact ⟨l2, A2, c2, HR2, (box2 BL.out).1, ⟨fun h => by simp [okB, h]⟩, ⟨fun h => ⟨fun _ => h, fun h' => by omega⟩⟩⟩
                · obtain rfl : x = 1 := by omega
                  exact ⟨l3, A3, c3, HR3, (box2 BL.out).2, ⟨fun h => by simp [okB, h]⟩, ⟨fun h => ⟨fun _ => h2.1 (by omega), fun h' => h⟩⟩⟩
              go_wp2
              go_loopg [86] L.length (fun kq v86 w' => ∃ y : Int, v86 = .int .i64 y ∧ Aside0 (0 ≤ y ∧ y + kq = L.length) ∧ Aside0 ((L.take y.toNat).all (wtB l0) = true) ∧ Aside0 (w'.heap[w.heap.size]? = some (.cells #[.slice A0 l0.length c0, .slice A1 l1.length c1, .slice A2 l2.length c2, .slice A3 l3.length c3] 28 (0, 0))) ∧ Aside0 (w'.heap[w.heap.size + 1]? = some (.cells #[.int .i64 l0.length] 3 (0, 0)))
                ∧ Aside0 (w'.heap[wr1.heap.size]? = some (.cells #[.slice A2 l2.length c2, .slice A3 l3.length c3] 26 (0, 0))) ∧ Aside0 (Below w.heap.size w w'))
              case atStart => exact ⟨0, rfl, ⟨by omega, by omega⟩, ⟨rfl⟩, BK, BN, BL, HB⟩
              case round =>
                clear HB BK BN BL hbx
                obtain ⟨y, rfl, HY, HA2, BK, BN, BL, HB⟩ := hrel
                cases gk with
                | succ k2 =>
                  have c7b : decide (y < (L.length : Int)) = true := deT (by have := HY.out; omega)
                  have e7a := eq_true (show 0 ≤ y by have := HY.out; omega)
                  have e7b := eq_true (show y < (L.length : Int) by have := HY.out; omega)
                  obtain ⟨ad, e, hy0, hy1⟩ := at_T60 HRL.out y (by have := HY.out; omega) (by have := HY.out; omega)
                  subst e
                  replace hy0 := pcb HB.out hy0
                  replace hy1 := pcb HB.out hy1
                  have hn := (box1 BN.out).1
                  have q0 := (box4 BK.out).1
                  have z0 : w.heap.size + 1 < wr.heap.size := blk_lt BN.out
                  have z1 : w.heap.size < wr.heap.size := blk_lt BK.out
                  have hbad : wtB l0 (rd_T60 L y) = false → okB l0 l1 l2 l3 = false := fun h => hno.out (all_fails L _ z60 y (by have := HY.out; omega) (by have := HY.out; omega) h)
                  have HBAD := AK hbad
                  clear hbad
                  rcases wt_cases l0 (rd_T60 L y) with ⟨d1, hw⟩ | ⟨d1, d2, hw⟩ | ⟨d1, d2, d3, hw⟩ | ⟨d1, d2, d3, d4, hw⟩ | ⟨d1, d2, d3, d4, d5, hw⟩ | ⟨d1, d2, d3, d4, d5, hw⟩
                  · have HW := AK hw
                    clear hw
                    go_wp2
                    go_ret
                    exact ⟨by rw [HBAD.out HW.out]; rfl, below_alloc HB.out _⟩
                  · have HW := AK hw
                    clear hw
                    go_wp2
                    go_ret
                    exact ⟨by rw [HBAD.out HW.out]; rfl, below_alloc HB.out _⟩
                  all_goals
                    have HW := AK hw
                    clear hw
                    obtain ⟨ad4, Ao, co, e, hz0, -, -, -, -⟩ := at_T38 HR0.out (rd_T60 L y).f0 d1 d2
                    subst e
                    replace hz0 := fun (o : Obj) => pcb (below_alloc HB.out o) hz0
                  · go_wp2
                    go_ret
                    exact ⟨by rw [HBAD.out HW.out]; rfl, below_alloc HB.out _⟩
                  · go_wp2
                    go_ret
                    exact ⟨by rw [HBAD.out HW.out]; rfl, below_alloc HB.out _⟩
                  · go_wp2
                    go_ret
                    exact ⟨by rw [HBAD.out HW.out]; rfl, below_alloc HB.out _⟩
                  · go_wp2
                    go_roundg k2
                    case measure => omega
                    case rel =>
                      have h1 := HY.out
                      have h2 := HRL.out.2.1
                      rw [wrap_succ y (by omega) (by omega)]
                      exact ⟨y + 1, rfl, ⟨by omega, by omega⟩, ⟨by rw [all_take_succ _ _ z60 _ (by omega) (by omega), HA2.out]; exact HW.out⟩, ⟨blk_alloc BK.out _⟩, ⟨blk_alloc BN.out _⟩, ⟨blk_alloc BL.out _⟩, ⟨below_alloc HB.out _⟩⟩
                | zero =>
                  have c7b : decide (y < (L.length : Int)) = false := deF (by have := HY.out; omega)
                  go_wp2
                  go_roundg k1
                  case measure => omega
                  case rel =>
                    have h1 := HX.out
                    have h3 := HA2.out
                    rw [take_all _ _ (by have := HY.out; omega)] at h3
                    rw [wrap_succ x (by omega) (by omega)]
                    exact ⟨x + 1, rfl, ⟨by omega, by omega⟩, ⟨hyes.out h3⟩, BK, BN, BL, HB⟩
            | zero =>
              have c6b : decide (x < 2) = false := deF (by have := HX.out; omega)
              go_wp2
              go_ret
              refine ⟨?_, HB.out⟩
              have h1 := HA.out
              have h2 := HX.out
              have h3 := C1.out
              have h4 := C2.out
              have h5 := C3.out
              simp only [okB, HA0.out, HA1.out, h1.1 (by omega), h1.2 (by omega), deT (show l0.length ≤ 60 by omega), deT (show l1.length ≤ 8 by omega), deT (show l2.length + l3.length ≤ 20 by omega)]
              rfl
end Go.Proofs.Ytigjhfijkdlldaa.H
