/- The sizes of a collected heap, and rows of the law's own that a marking leaves. -/
import Derived.Test.YtigjhfijkdlldaaScoHsc
import Derived.Test.YtigjhfijkdlldaaScoHdl
namespace Go.Proofs.Ytigjhfijkdlldaa.H
open Go.RowKit Go.Proofs.YtigjhfijkdlldaaW.PrintWords Go.Proofs.YtigjhfijkdlldaaW.PrintLast Go.Proofs.YtigjhfijkdlldaaW.PrintMore Go.Proofs.Ytigjhfijkdlldaa.Q
set_option linter.unusedVariables false
theorem cntO_leP (l : List S38) (B : Nat) (h : ∀ x ∈ l, x.f2.length ≤ B) : cntO l ≤ l.length * (2 + B) := by
  induction l with
  | nil => simp [cntO]
  | cons x l ih =>
    have h1 := h x (List.mem_cons_self ..)
    have h2 := ih (fun y hy => h y (List.mem_cons_of_mem _ hy))
    simp only [cntO, List.length_cons]
    have : ((l.length + 1 : Nat) : Int) * (2 + B) = l.length * (2 + B) + (2 + B) := by rw [Int.natCast_add, Int.add_mul]; simp
    rw [this]; omega
theorem cntHP_fine {l0 : List S72} {l1 : List Int} {l2 l3 : List S126} (h : Small l0 l1 l2 l3) : cntHP (l0.map cO) l1 (l2.map cW) (l3.map cW) ≤ 1099517927424 := by
  have h1 := cntO_leP (l0.map cO) 1048576 (fun x hx => by obtain ⟨y, hy, rfl⟩ := List.mem_map.1 hx; exact (h.t y hy).2)
  have h2 := h.o; have h3 := h.r; have h4 := h.w
  unfold cntHP
  simp only [List.length_map] at *
  have : (l0.length : Int) * (2 + (1048576 : Nat)) ≤ 1048576 * (2 + (1048576 : Nat)) := Int.mul_le_mul_of_nonneg_right (by omega) (by omega)
  omega
/-- A heap within the bounds of the form. -/
structure SmallG (G : Hp) : Prop where
  n : G.o.length ≤ 60
  f : ∀ x ∈ G.o, x.f2.length ≤ 6
  r : G.r.length ≤ 8
  w : G.w.length + G.d.length ≤ 20
theorem SmallG.cnt {G : Hp} (h : SmallG G) : 0 ≤ cntHP G.o G.r G.w G.d ∧ cntHP G.o G.r G.w G.d ≤ 528 := by
  have h1 := cntO_leP G.o 6 h.f
  have h2 := cntO_nonneg G.o
  have h3 := h.n; have h4 := h.r; have h5 := h.w
  unfold cntHP
  have h6 : (G.o.length : Int) * (2 + (6 : Nat)) ≤ 60 * (2 + (6 : Nat)) := Int.mul_le_mul_of_nonneg_right (by omega) (by omega)
  omega
theorem collect_small {l0 : List S38} {l1 : List Int} {l2 l3 : List S60} {G : Hp} {mv : List Int} (h : (G, mv) = collectB ⟨l0, l1, l2, l3⟩) : SmallG G ∧ mv.length ≤ 60 := by
  unfold collectB at h
  by_cases c : Hp.ok ⟨l0, l1, l2, l3⟩ = true
  · rw [if_pos c] at h
    have hk : OkH l0 l1 l2 l3 := ok_parts c
    obtain ⟨t2, t3, ht⟩ : ∃ t2 t3, (t2, t3) = tellL l0 l1 (l2.length + 1) l2 l3 := ⟨_, _, rfl⟩
    have hk2 := tell_ok (l2.length + 1) hk
    have he : (G, mv) = (moveL l0 l1 t2 t3 (reachL l0 l1 t3), (List.range l0.length).map fun (j : Nat) => idxL (reachL l0 l1 t3) (j : Int)) := by
      rw [h]; show collectK l0 l1 l2 l3 = _; unfold collectK; rw [← ht]
    rw [← ht] at hk2
    replace hk2 : OkH l0 l1 t2 t3 := hk2
    injection he with e1 e2
    have hg := reach_good hk2
    have hl := nodup_len _ _ hg
    subst e1 e2
    refine ⟨⟨?_, fun x hx => ?_, ?_, ?_⟩, ?_⟩
    · show (List.map _ _).length ≤ 60
      rw [List.length_map]; have := hk.n; omega
    · obtain ⟨p, hp, rfl⟩ := List.mem_map.1 hx
      show (List.map _ _).length ≤ 6
      rw [List.length_map]
      have := hg.2 p hp
      exact (ob_small2 (ob_at hk this.1 this.2)).2
    · show (List.map _ _).length ≤ 8
      rw [List.length_map]; exact hk.r
    · show (movedW _ t2).length + (movedW _ t3).length ≤ 20
      have h1 := movedW_len (reachL l0 l1 t3) t2
      have h2 := movedW_len (reachL l0 l1 t3) t3
      have := hk2.w
      omega
    · rw [List.length_map, List.length_range]; exact hk.n
  · rw [if_neg c] at h
    injection h with e1 e2
    subst e1 e2
    exact ⟨⟨Nat.zero_le _, fun x hx => by simp [hp0] at hx, Nat.zero_le _, Nat.zero_le _⟩, Nat.zero_le _⟩
/-- A row of ints of the law's own whose blocks have P. -/
theorem RI_keptP {w w1 : World} {lo : Nat} {P S : Nat → Prop} {v : Value} {xs : List Int} (h : Kd.R (Kd.int .i64) 3 w lo P v xs) (hk : Kept w w1 S) (hS : ∀ k, P k → ¬ S k) : Kd.R (Kd.int .i64) 3 w1 lo P v xs := Kd.R_kept h hk hS
theorem eqInt_cP {w : World} {u v : Value} {xs : List Int} {lo lo' : Nat} {ok ok' : Nat → Prop} (h : Kd.R (Kd.int .i64) 3 w lo ok u xs) (h' : Kd.R (Kd.int .i64) 3 w lo' ok' v xs) :
    Calls Try.prog 29 #[u, v] w fun e w' => e = .returned (.bool true) ∧ Drawn0 w w' := by
  obtain ⟨A, c, rfl⟩ := Kd.R_slice h
  obtain ⟨A', c', rfl⟩ := Kd.R_slice h'
  have r := Kd.R_reads' h
  have r' := Kd.R_reads' h'
  exact laws_eqIntS.calls (xs.length + 1) A c xs A' c' xs true w r.2.2 r.2.1 r'.2.2 r'.2.1 (eqIntS_f xs (C_max r.2.2) _ (by omega))
theorem heldInt_cP {w : World} {u : Value} {a : Int} {n : Nat} {lo : Nat} {ok : Nat → Prop} (h : Kd.R (Kd.int .i64) 3 w lo ok u (marksI a n)) (ha : 0 ≤ a) (hn : a + n ≤ 1152921504606846976) :
    Calls Try.prog 32 #[u, .int .i64 a] w fun e w' => e = .returned (.int .i64 (a + n)) ∧ Drawn0 w w' := by
  obtain ⟨A, c, rfl⟩ := Kd.R_slice h
  have r := Kd.R_reads' h
  exact laws_heldIntS.calls (n + 1) A c (marksI a n) a _ w r.2.2 r.2.1 (heldIntS_f a ha n hn _ (by omega))
section
variable {w : World} {base lo : Nat} {P : Nat → Prop} {A0 A1 A2 A3 E : Option Addr} {c0 c1 c2 c3 e : Nat} {h : Hp} {m : List Int}
/-- What a collect made, by a property of its blocks: the heap's blocks are not the moves'. -/
theorem OwnM.toP (ho : OwnM w base A0 c0 A1 c1 A2 c2 A3 c3 E e h m) (hb : lo ≤ base) (hP : ∀ k, base ≤ k → k < w.heap.size → some k ≠ (Value.slice E m.length e).ownBlock → P k) : OwnP w lo P A0 c0 A1 c1 A2 c2 A3 c3 h.o h.r h.w h.d :=
  ⟨S_lower (Kd.S_mono (Kd.S_bound ho.s0) (fun k hk => ⟨hP k hk.2.1 hk.2.2.1 hk.1.2, hk.1.1⟩)) hb, Kd.R_lower (Kd.R_mono (Kd.R_bound ho.s1) (fun k hk => hP k hk.2.1 hk.2.2.1 hk.1)) hb,
   Kd.R_lower (Kd.R_mono (Kd.R_bound (Kd.R_apart' ho.s2 (Kd.R_typed ho.m) (by decide))) (fun k hk => ⟨hP k hk.2.1 hk.2.2.1 hk.1.2, hk.1.1⟩)) hb,
   Kd.R_lower (Kd.R_mono (Kd.R_bound (Kd.R_apart' ho.s3 (Kd.R_typed ho.m) (by decide))) (fun k hk => ⟨hP k hk.2.1 hk.2.2.1 hk.1.2, hk.1.1⟩)) hb⟩
theorem OwnM.mv (ho : OwnM w base A0 c0 A1 c1 A2 c2 A3 c3 E e h m) (hb : lo ≤ base) (hP : ∀ k, base ≤ k → k < w.heap.size → some k = (Value.slice E m.length e).ownBlock → P k) : Kd.R (Kd.int .i64) 3 w lo P (.slice E m.length e) m :=
  Kd.R_lower (Kd.R_mono (Kd.R_bound (Kd.R_tight rfl ho.m)) (fun k hk => hP k hk.2.1 hk.2.2.1 hk.1)) hb
end
end Go.Proofs.Ytigjhfijkdlldaa.H
