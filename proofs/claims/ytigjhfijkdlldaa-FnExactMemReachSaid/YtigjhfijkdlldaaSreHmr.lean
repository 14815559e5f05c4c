/- impl.MemReach and spec.MemReach, in short form. -/
import Derived.Test.YtigjhfijkdlldaaSreHre
import Derived.Test.YtigjhfijkdlldaaSreHok
import Derived.Test.YtigjhfijkdlldaaSrePd
namespace Go.Proofs.Ytigjhfijkdlldaa.H
open Go.RowKit Go.Proofs.YtigjhfijkdlldaaW.PrintWords Go.Proofs.YtigjhfijkdlldaaW.PrintLast Go.Proofs.YtigjhfijkdlldaaW.PrintMore Go.Proofs.Ytigjhfijkdlldaa.Q
set_option linter.unusedVariables false
/-- What MemReach answers. -/
def reachA (l0 : List S38) (l1 : List Int) (l2 l3 : List S60) : List Int := if okB l0 l1 l2 l3 = true then reachL l0 l1 l3 else []
theorem trace_good {l0 : List S38} {l1 : List Int} {l2 l3 : List S60} (h : OkH l0 l1 l2 l3) : ∀ (m : Nat) (i : Int) (l : List Int), GoodL l0.length l → 0 ≤ i → GoodL l0.length (traceL l0 l3 m i l) := by
  intro m
  induction m with
  | zero => intro i l hg _; exact hg
  | succ m ih =>
    intro i l hg h0
    simp only [traceL]
    split
    · rename_i c
      have hp := hg.2 (rd l i) (getD_mem l 0 i h0 c)
      exact ih _ _ (good_putAll _ hg (next_lt h hp.1 hp.2)) (by omega)
    · exact hg
theorem reach_good {l0 : List S38} {l1 : List Int} {l2 l3 : List S60} (h : OkH l0 l1 l2 l3) : GoodL l0.length (reachL l0 l1 l3) :=
  trace_good h _ _ _ (good_putAll _ (good_nil _) (fun p hp => (h.rs p hp).2)) (by omega)
theorem reachA_len (l0 : List S38) (l1 : List Int) (l2 l3 : List S60) : (reachA l0 l1 l2 l3).length ≤ 60 := by
  unfold reachA
  split
  · rename_i c
    have h := ok_parts c
    have := nodup_len _ _ (reach_good h)
    have := h.n
    omega
  · simp
set_option maxHeartbeats 1000000 in
theorem MemReach_calls (A0 A1 A2 A3 : Option Addr) (c0 c1 c2 c3 : Nat) (l0 : List S38) (l1 : List Int) (l2 l3 : List S60) (w : World) (h : InH w A0 c0 A1 c1 A2 c2 A3 c3 l0 l1 l2 l3)
    (hb : (l2.length : Int) + l3.length ≤ 4611686018427387903) (hf : ∀ x ∈ l0, Fit x) :
    Calls Try.prog 28 #[.agg #[.slice A0 l0.length c0, .slice A1 l1.length c1, .slice A2 l2.length c2, .slice A3 l3.length c3]] w fun e w' =>
      ∃ v : Value, e = .returned v ∧ Kd.R (Kd.int .i64) 3 w' w.heap.size (fun _ => True) v (reachA l0 l1 l2 l3) ∧ Below w.heap.size w w' := by
  have HI := Aside0.mk (h.below (below_alloc (Below.refl _ _) (.cells #[.slice A0 l0.length c0, .slice A1 l1.length c1, .slice A2 l2.length c2, .slice A3 l3.length c3] 28 (0, 0))))
  have HF := Aside0.mk hf
  have HB := Aside0.mk (below_alloc (Below.refl w.heap.size w) (.cells #[.slice A0 l0.length c0, .slice A1 l1.length c1, .slice A2 l2.length c2, .slice A3 l3.length c3] 28 (0, 0)))
  have HW := Aside0.mk hb
  have HX := Aside0.mk (blk_new w (.cells #[.slice A0 l0.length c0, .slice A1 l1.length c1, .slice A2 l2.length c2, .slice A3 l3.length c3] 28 (0, 0)))
  clear h hf hb
  cases hok : okB l0 l1 l2 l3 with
  | false =>
    have HO := Aside0.mk hok
    clear hok
    go_enter Try.func28, Try.ntmps28
    go_wp2_with (go_at_call 25; refine (MemOk_calls _ _ _ _ _ _ _ _ _ _ _ _ _ HI.out.r0 HI.out.r1 HI.out.r2 HI.out.r3 HW.out HF.out).mono ?_; rintro e w2 ⟨rfl, hb⟩; rw [HO.out]; have HB2 := Aside0.mk (below_step HB.out hb); clear hb)
    go_ret
    exact ⟨_, rfl, by unfold reachA; rw [HO.out, if_neg (by decide)]; exact Kd.R_nil _ _ _ _ _, HB2.out⟩
  | true =>
    have HO := Aside0.mk hok
    clear hok
    go_enter Try.func28, Try.ntmps28
    go_wp2_with (go_at_call 25; refine (MemOk_calls _ _ _ _ _ _ _ _ _ _ _ _ _ HI.out.r0 HI.out.r1 HI.out.r2 HI.out.r3 HW.out HF.out).mono ?_; rintro e w2 ⟨rfl, hb⟩; rw [HO.out]; have HB2 := Aside0.mk (below_step HB.out hb); have HI2 := Aside0.mk (HI.out.below hb); obtain ⟨q0, q1, q2, q3⟩ := box4 (blk_below HX.out hb); clear hb)
    refine (memReach_calls _ _ _ _ _ _ _ _ _ _ _ _ _ HI2.out (ok_parts HO.out)).mono ?_
    rintro e w3 ⟨v, rfl, hr, hb⟩
    have HB3 := Aside0.mk (below_step HB2.out hb)
    have HR3 := Aside0.mk (Kd.R_lower hr HB2.out.size)
    clear hr hb
    go_wp2
    go_ret
    exact ⟨_, rfl, by unfold reachA; rw [if_pos HO.out]; exact HR3.out, HB3.out⟩
theorem specReach_f (l0 : List S38) (l1 : List Int) (l2 l3 : List S60) (h0 : (l0.length : Int) ≤ 4611686018427387903) (hf : ∀ x ∈ l0, Fit x) (h1 : (l1.length : Int) ≤ 4611686018427387903) (h2 : (l2.length : Int) + l3.length ≤ 4611686018427387903) :
    Ev (fun k => spec_MemReach.f k l0 l1 l2 l3) (reachA l0 l1 l2 l3) := by
  unfold spec_MemReach.f
  refine Ev.bind (MemOk_f l0 l1 l2 l3 h0 hf h1 h2) ?_
  unfold reachA
  by_cases c : okB l0 l1 l2 l3 = true
  · simp only [c, if_true]
    exact Ev.bind (l2Reach_f (ok_parts c)) (Ev.now _)
  · simp only [c]
    exact Ev.now _
theorem specReach_c {w : World} {A0 A1 A2 A3 : Option Addr} {c0 c1 c2 c3 : Nat} {l0 : List S38} {l1 : List Int} {l2 l3 : List S60} (h : InH w A0 c0 A1 c1 A2 c2 A3 c3 l0 l1 l2 l3) (h0 : (l0.length : Int) ≤ 4611686018427387903) (hf : ∀ x ∈ l0, Fit x) (h1 : (l1.length : Int) ≤ 4611686018427387903) (h2 : (l2.length : Int) + l3.length ≤ 4611686018427387903) :
    Calls Try.prog 27 #[.agg #[.slice A0 l0.length c0, .slice A1 l1.length c1, .slice A2 l2.length c2, .slice A3 l3.length c3]] w fun e w' =>
      ∃ v : Value, e = .returned v ∧ Kd.R (Kd.int .i64) 3 w' w.heap.size (fun _ => True) v (reachA l0 l1 l2 l3) ∧ Below w.heap.size w w' := by
  obtain ⟨k, hk⟩ := (specReach_f l0 l1 l2 l3 h0 hf h1 h2).rounds
  exact spec_MemReach.calls k A0 c0 l0 A1 c1 l1 A2 c2 l2 A3 c3 l3 _ w h.r0 h.k0 h.r1 h.k1 h.r2 h.k2 h.r3 h.k3 hk
end Go.Proofs.Ytigjhfijkdlldaa.H
