/- impl.MemSame's third closure, walked. -/
import Derived.Test.YtigjhfijkdlldaaSsaHsf
namespace Go.Proofs.Ytigjhfijkdlldaa.H
open Go.RowKit Go.Proofs.YtigjhfijkdlldaaW.PrintWords Go.Proofs.YtigjhfijkdlldaaW.PrintLast Go.Proofs.YtigjhfijkdlldaaW.PrintMore Go.Proofs.Ytigjhfijkdlldaa.Q
set_option linter.unusedVariables false
attribute [local go_sem high] eqA60
set_option maxHeartbeats 4000000 in
set_option maxRecDepth 100000 in
theorem sameWs_calls (A B : Option Addr) (c d : Nat) (l m : List S60) (w : World) (hl : Kd.C k60 w A l.length l) (hm : Kd.C k60 w B m.length m) (hll : (l.length : Int) ≤ 4611686018427387903) :
    Calls Try.prog 72 #[.slice A l.length c, .slice B m.length d] w fun e w' => e = .returned (.bool (sameW l m)) ∧ Below w.heap.size w w' := by
  have hu60 := Try.underlying60
  have HL := Aside0.mk hl
  have HM := Aside0.mk hm
  have HLL := Aside0.mk hll
  clear hl hm hll
  by_cases hlen : l.length = m.length
  · have c1 : ((l.length : Int) != m.length) = false := by simp [hlen]
    have HN := Aside0.mk hlen
    have e0 : sameW l m = cmp2 weB (l.drop (0 : Int).toNat) (m.drop (0 : Int).toNat) := by unfold sameW; rw [decide_eq_true hlen]; rfl
    obtain ⟨r, er⟩ : ∃ r, r = sameW l m := ⟨_, rfl⟩
    rw [← er] at e0 ⊢
    have E0 := Aside0.mk e0
    clear hlen e0 er
    go_enter Try.func72, Try.ntmps72
    go_wp2
    go_loopg [13] l.length (fun kq v13 w' => ∃ i : Int, v13 = .int .i64 i ∧ Aside0 (0 ≤ i ∧ i + kq = l.length) ∧ Aside0 (r = cmp2 weB (l.drop i.toNat) (m.drop i.toNat)) ∧ Aside0 (Below w.heap.size w w'))
    case atStart => exact ⟨0, rfl, ⟨by omega, by omega⟩, E0, ⟨Below.refl _ _⟩⟩
    case round =>
      clear E0
      obtain ⟨i, rfl, HI, HE, HB⟩ := hrel
      cases gk with
      | zero =>
        have c4b : decide (i < (l.length : Int)) = false := decide_eq_false (by have := HI.out; omega)
        have e : r = true := by rw [HE.out]; exact cmp2_end _ _ _ _ (by have := HI.out; omega)
        subst e
        go_wp2
        go_ret
        exact ⟨rfl, HB.out⟩
      | succ k1 =>
        have hi := HI.out
        have hn := HN.out
        have c4b : decide (i < (l.length : Int)) = true := decide_eq_true (by omega)
        have e4a := eq_true (show 0 ≤ i by omega)
        have e4b := eq_true (show i < (l.length : Int) by omega)
        have e4c := eq_true (show i < (m.length : Int) by omega)
        have he := HE.out
        rw [cmp2_at _ l m z60 z60 i (by omega) (by omega) (by omega)] at he
        obtain ⟨ad2, e2, hz0, hz1⟩ := at_T60 HL.out i (by omega) (by omega)
        subst e2
        obtain ⟨ad3, e3, hy0, hy1⟩ := at_T60 HM.out i (by omega) (by omega)
        subst e3
        obtain ⟨p, ep⟩ : ∃ p, p = rd_T60 l i := ⟨_, rfl⟩
        obtain ⟨q, eq⟩ : ∃ q, q = rd_T60 m i := ⟨_, rfl⟩
        rw [← ep] at hz0 hz1
        rw [← eq] at hy0 hy1
        have HE1 := Aside0.mk (show r = (weB p q && cmp2 weB (l.drop (i + 1).toNat) (m.drop (i + 1).toNat)) by rw [ep, eq]; exact he)
        replace hz0 := pw_cell_below HB.out hz0
        replace hz1 := pw_cell_below HB.out hz1
        replace hy0 := pw_cell_below HB.out hy0
        replace hy1 := pw_cell_below HB.out hy1
        clear ep eq he hi hn HE
        have HZ := Aside0.mk (And.intro (And.intro hz0 hz1) (And.intro hy0 hy1))
        by_cases cc : weB p q = true
        · have c6 : (!(p.f0 == q.f0) || !(p.f1 == q.f1)) = false := by revert cc; unfold weB; cases (p.f0 == q.f0) <;> cases (p.f1 == q.f1) <;> simp
          have HE2 := Aside0.mk (show r = cmp2 weB (l.drop (i + 1).toNat) (m.drop (i + 1).toNat) by rw [HE1.out, cc]; rfl)
          clear cc HE1
          go_wp2_with fail
          go_region_held3 (fun w' => (w'.cell? (ad2.add (i.toNat * 2)) = some (.int .i64 p.f0) ∧ w'.cell? ⟨(ad2.add (i.toNat * 2)).block, (ad2.add (i.toNat * 2)).off + 1, none⟩ = some (.int .i64 p.f1)) ∧ w'.cell? (ad3.add (i.toNat * 2)) = some (.int .i64 q.f0) ∧ w'.cell? ⟨(ad3.add (i.toNat * 2)).block, (ad3.add (i.toNat * 2)).off + 1, none⟩ = some (.int .i64 q.f1))
            (first | exact HZ.out)
            (first | fail)
          go_wp2
          go_roundg k1
          case measure => omega
          case rel =>
            have h1 := HI.out
            have h2 := HLL.out
            rw [wrap_succ i (by omega) (by omega)]
            exact ⟨i + 1, rfl, ⟨by omega, by omega⟩, HE2, ⟨below_drew1 HB.out⟩⟩
        · have c6 : (!(p.f0 == q.f0) || !(p.f1 == q.f1)) = true := by revert cc; unfold weB; cases (p.f0 == q.f0) <;> cases (p.f1 == q.f1) <;> simp
          have e : r = false := by rw [HE1.out, Bool.eq_false_iff.2 cc]; rfl
          subst e
          clear cc HE1
          go_wp2_with fail
          go_region_held3 (fun w' => (w'.cell? (ad2.add (i.toNat * 2)) = some (.int .i64 p.f0) ∧ w'.cell? ⟨(ad2.add (i.toNat * 2)).block, (ad2.add (i.toNat * 2)).off + 1, none⟩ = some (.int .i64 p.f1)) ∧ w'.cell? (ad3.add (i.toNat * 2)) = some (.int .i64 q.f0) ∧ w'.cell? ⟨(ad3.add (i.toNat * 2)).block, (ad3.add (i.toNat * 2)).off + 1, none⟩ = some (.int .i64 q.f1))
            (first | exact HZ.out)
            (first | fail)
          go_wp2
          go_ret
          exact ⟨rfl, below_drew1 HB.out⟩
  · have c1 : ((l.length : Int) != m.length) = true := by simp; omega
    have e0 : sameW l m = false := by unfold sameW; rw [decide_eq_false hlen]; rfl
    rw [e0]
    clear hlen e0
    go_enter Try.func72, Try.ntmps72
    go_wp2
    go_ret
    exact ⟨rfl, Below.refl _ _⟩
end Go.Proofs.Ytigjhfijkdlldaa.H
