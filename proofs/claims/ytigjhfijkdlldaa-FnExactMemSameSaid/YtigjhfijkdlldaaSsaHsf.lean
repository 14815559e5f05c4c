/- impl.MemSame's first and third closures, walked. -/
import Derived.Test.YtigjhfijkdlldaaSsaHse
import Derived.Test.YtigjhfijkdlldaaSsaIm
namespace Go.Proofs.Ytigjhfijkdlldaa.H
open Go.RowKit Go.Proofs.YtigjhfijkdlldaaW.PrintWords Go.Proofs.YtigjhfijkdlldaaW.PrintLast Go.Proofs.YtigjhfijkdlldaaW.PrintMore Go.Proofs.Ytigjhfijkdlldaa.Q
set_option linter.unusedVariables false
theorem memAt_c {w : World} {P : Option Addr} {d : Nat} {pl x : List Int} (hp : Kd.C (Kd.int .i64) w P pl.length pl) (hd : pl.length ≤ d) (hx : ∀ p : Int, 0 ≤ p → p < pl.length → rd pl p = idxL x p) (p : Int) (h1 : p < pl.length) :
    Calls Try.prog 70 #[.slice P pl.length d, .int .i64 p] w fun e w' => e = .returned (.int .i64 (wh x p)) ∧ Drawn0 w w' := by
  refine impl_memAt.calls P d pl p (wh x p) w hp hd ?_
  unfold impl_memAt.f wh
  by_cases c : p < 0
  · rw [if_pos c, if_pos c]
  · rw [if_neg c, if_neg c, if_pos (by omega), if_pos h1, hx p (by omega) h1]
set_option maxHeartbeats 4000000 in
set_option maxRecDepth 100000 in
theorem sameRows_calls (A B P Q : Option Addr) (c d e f bp bq : Nat) (l m pl ql x y : List Int) (w : World) (hl : Kd.C (Kd.int .i64) w A l.length l) (hm : Kd.C (Kd.int .i64) w B m.length m)
    (hp : Kd.C (Kd.int .i64) w P pl.length pl) (he : pl.length ≤ e) (hq : Kd.C (Kd.int .i64) w Q ql.length ql) (hf : ql.length ≤ f) (hbp : w.heap[bp]? = some (.cells #[.slice P pl.length e] 25 (0, 0))) (hbq : w.heap[bq]? = some (.cells #[.slice Q ql.length f] 25 (0, 0)))
    (hx : ∀ p : Int, 0 ≤ p → p < pl.length → rd pl p = idxL x p) (hy : ∀ p : Int, 0 ≤ p → p < ql.length → rd ql p = idxL y p) (hlp : ∀ p ∈ l, p < pl.length) (hmq : ∀ p ∈ m, p < ql.length) (hll : (l.length : Int) ≤ 4611686018427387903) :
    Calls Try.prog 69 #[.slice A l.length c, .slice B m.length d, .pointer (some ⟨bp, 0, none⟩), .pointer (some ⟨bq, 0, none⟩)] w fun e w' => e = .returned (.bool (rowsB x y l m)) ∧ Below w.heap.size w w' := by
  have HL := Aside0.mk hl
  have HM := Aside0.mk hm
  have HP := Aside0.mk (And.intro hp he)
  have HQ := Aside0.mk (And.intro hq hf)
  have HBP := Aside0.mk hbp
  have HBQ := Aside0.mk hbq
  have HX := Aside0.mk hx
  have HY := Aside0.mk hy
  have HLP := Aside0.mk hlp
  have HMQ := Aside0.mk hmq
  have HLL := Aside0.mk hll
  clear hl hm hp he hq hf hbp hbq hx hy hlp hmq hll
  by_cases hlen : l.length = m.length
  · have c1 : ((l.length : Int) != m.length) = false := by simp [hlen]
    have HN := Aside0.mk hlen
    have e0 : rowsB x y l m = cmp2 (whB x y) (l.drop (0 : Int).toNat) (m.drop (0 : Int).toNat) := by unfold rowsB; rw [decide_eq_true hlen]; rfl
    obtain ⟨r, er⟩ : ∃ r, r = rowsB x y l m := ⟨_, rfl⟩
    rw [← er] at e0 ⊢
    have E0 := Aside0.mk e0
    clear hlen e0 er
    go_enter Try.func69, Try.ntmps69
    go_wp2
    go_loopg [15] l.length (fun kq v15 w' => ∃ i : Int, v15 = .int .i64 i ∧ Aside0 (0 ≤ i ∧ i + kq = l.length) ∧ Aside0 (r = cmp2 (whB x y) (l.drop i.toNat) (m.drop i.toNat)) ∧ Aside0 (Below w.heap.size w w'))
    case atStart => exact ⟨0, rfl, ⟨by omega, by omega⟩, E0, ⟨Below.refl _ _⟩⟩
    case round =>
      clear E0
      obtain ⟨i, rfl, HI, HE, HB⟩ := hrel
      cases gk with
      | zero =>
        have c4b : decide (i < (l.length : Int)) = false := decide_eq_false (by have := HI.out; omega)
        have e : r = true := by rw [HE.out]; exact cmp2_end _ _ _ _ (by have := HI.out; omega)
        subst e
        go_wp2
        go_ret
        exact ⟨rfl, HB.out⟩
      | succ k1 =>
        have hi := HI.out
        have hn := HN.out
        have c4b : decide (i < (l.length : Int)) = true := decide_eq_true (by omega)
        have e4a := eq_true (show 0 ≤ i by omega)
        have e4b := eq_true (show i < (l.length : Int) by omega)
        have e4c := eq_true (show i < (m.length : Int) by omega)
        have hlq := HLP.out _ (getD_mem l 0 i (by omega) (by omega))
        have hmq := HMQ.out _ (getD_mem m 0 i (by omega) (by omega))
        have he := HE.out
        rw [cmp2_at _ l m 0 0 i (by omega) (by omega) (by omega)] at he
        obtain ⟨ad2, e2, hz0⟩ := Kd.at_int HL.out i (by omega) (by omega)
        subst e2
        obtain ⟨ad3, e3, hz1⟩ := Kd.at_int HM.out i (by omega) (by omega)
        subst e3
        obtain ⟨p, ep⟩ : ∃ p, p = rd l i := ⟨_, rfl⟩
        obtain ⟨q, eq⟩ : ∃ q, q = rd m i := ⟨_, rfl⟩
        rw [← ep] at hz0
        rw [← eq] at hz1
        have HPL := Aside0.mk (show p < pl.length by rw [ep]; exact hlq)
        have HQL := Aside0.mk (show q < ql.length by rw [eq]; exact hmq)
        have HE1 := Aside0.mk (show r = (whB x y p q && cmp2 (whB x y) (l.drop (i + 1).toNat) (m.drop (i + 1).toNat)) by rw [ep, eq]; exact he)
        have HZ := Aside0.mk (And.intro hz0 hz1)
        replace hz0 := pw_cell_below HB.out hz0
        replace hz1 := pw_cell_below HB.out hz1
        have q0 := pw_cell_below HB.out (blk_cell HBP.out 0)
        have q1 := pw_cell_below HB.out (blk_cell HBQ.out 0)
        clear ep eq he hi hn hlq hmq HE
        by_cases cc : wh x p = wh y q
        · have c6 : (wh x p != wh y q) = false := by simp [cc]
          have HE2 := Aside0.mk (show r = cmp2 (whB x y) (l.drop (i + 1).toNat) (m.drop (i + 1).toNat) by rw [HE1.out]; unfold whB; rw [beq_iff_eq.2 cc]; rfl)
          clear cc HE1
          go_wp2_with fail
          go_region_held3 (fun w' => (w'.cell? ⟨bp, 0, none⟩ = some (.slice P pl.length e) ∧ w'.cell? ⟨bq, 0, none⟩ = some (.slice Q ql.length f)) ∧ w'.cell? (ad2.add i.toNat) = some (.int .i64 p) ∧ w'.cell? (ad3.add i.toNat) = some (.int .i64 q))
            (first | exact ⟨⟨pw_cell_below HB.out (blk_cell HBP.out 0), pw_cell_below HB.out (blk_cell HBQ.out 0)⟩, pw_cell_below HB.out HZ.out.1, pw_cell_below HB.out HZ.out.2⟩ | exact ⟨⟨pw_cell_below HB5.out (blk_cell HBP.out 0), pw_cell_below HB5.out (blk_cell HBQ.out 0)⟩, pw_cell_below HB5.out HZ.out.1, pw_cell_below HB5.out HZ.out.2⟩ | exact ⟨⟨pw_cell_below HB6.out (blk_cell HBP.out 0), pw_cell_below HB6.out (blk_cell HBQ.out 0)⟩, pw_cell_below HB6.out HZ.out.1, pw_cell_below HB6.out HZ.out.2⟩)
            (first | (go_at_call_of 70 p; refine (memAt_c (Kd.C_below HP.out.1 (below_drew1 HB.out)) HP.out.2 HX.out p HPL.out).mono ?_; rintro e w5 ⟨rfl, hd⟩; have HB5 := Aside0.mk (below_step (below_drew1 HB.out) hd.below); clear hd) | (go_at_call_of 70 q; refine (memAt_c (Kd.C_below HQ.out.1 HB5.out) HQ.out.2 HY.out q HQL.out).mono ?_; rintro e w6 ⟨rfl, hd⟩; have HB6 := Aside0.mk (below_step HB5.out hd.below); clear hd))
          go_wp2
          go_roundg k1
          case measure => omega
          case rel =>
            have h1 := HI.out
            have h2 := HLL.out
            rw [wrap_succ i (by omega) (by omega)]
            exact ⟨i + 1, rfl, ⟨by omega, by omega⟩, HE2, HB6⟩
        · have c6 : (wh x p != wh y q) = true := by simp [cc]
          have e : r = false := by rw [HE1.out]; unfold whB; rw [beq_eq_false_iff_ne.2 cc]; rfl
          subst e
          clear cc HE1
          go_wp2_with fail
          go_region_held3 (fun w' => (w'.cell? ⟨bp, 0, none⟩ = some (.slice P pl.length e) ∧ w'.cell? ⟨bq, 0, none⟩ = some (.slice Q ql.length f)) ∧ w'.cell? (ad2.add i.toNat) = some (.int .i64 p) ∧ w'.cell? (ad3.add i.toNat) = some (.int .i64 q))
            (first | exact ⟨⟨pw_cell_below HB.out (blk_cell HBP.out 0), pw_cell_below HB.out (blk_cell HBQ.out 0)⟩, pw_cell_below HB.out HZ.out.1, pw_cell_below HB.out HZ.out.2⟩ | exact ⟨⟨pw_cell_below HB5.out (blk_cell HBP.out 0), pw_cell_below HB5.out (blk_cell HBQ.out 0)⟩, pw_cell_below HB5.out HZ.out.1, pw_cell_below HB5.out HZ.out.2⟩ | exact ⟨⟨pw_cell_below HB6.out (blk_cell HBP.out 0), pw_cell_below HB6.out (blk_cell HBQ.out 0)⟩, pw_cell_below HB6.out HZ.out.1, pw_cell_below HB6.out HZ.out.2⟩)
            (first | (go_at_call_of 70 p; refine (memAt_c (Kd.C_below HP.out.1 (below_drew1 HB.out)) HP.out.2 HX.out p HPL.out).mono ?_; rintro e w5 ⟨rfl, hd⟩; have HB5 := Aside0.mk (below_step (below_drew1 HB.out) hd.below); clear hd) | (go_at_call_of 70 q; refine (memAt_c (Kd.C_below HQ.out.1 HB5.out) HQ.out.2 HY.out q HQL.out).mono ?_; rintro e w6 ⟨rfl, hd⟩; have HB6 := Aside0.mk (below_step HB5.out hd.below); clear hd))
          go_wp2
          go_ret
          exact ⟨rfl, HB6.out⟩
  · have c1 : ((l.length : Int) != m.length) = true := by simp; omega
    have e0 : rowsB x y l m = false := by unfold rowsB; rw [decide_eq_false hlen]; rfl
    rw [e0]
    clear hlen e0
    go_enter Try.func69, Try.ntmps69
    go_wp2
    go_ret
    exact ⟨rfl, Below.refl _ _⟩
end Go.Proofs.Ytigjhfijkdlldaa.H
