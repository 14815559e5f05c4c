/- laws.markMemHeap: a heap of the law's own is marked; only its own blocks, which have P, are written. -/
import Derived.Test.YtigjhfijkdlldaaScoHmk
namespace Go.Proofs.Ytigjhfijkdlldaa.H
open Go.RowKit Go.Proofs.YtigjhfijkdlldaaW.PrintWords Go.Proofs.YtigjhfijkdlldaaW.PrintLast Go.Proofs.YtigjhfijkdlldaaW.PrintMore Go.Proofs.Ytigjhfijkdlldaa.Q
set_option linter.unusedVariables false
/-- A heap of the call's own, its blocks from lo on and of P. -/
structure OwnP (w : World) (lo : Nat) (P : Nat → Prop) (A0 : Option Addr) (c0 : Nat) (A1 : Option Addr) (c1 : Nat) (A2 : Option Addr) (c2 : Nat) (A3 : Option Addr) (c3 : Nat) (l0 : List S38) (l1 : List Int) (l2 l3 : List S60) : Prop where
  s0 : Kd.S k38 38 w lo (fun k => P k ∧ some k ≠ (Value.slice A1 l1.length c1).ownBlock) (.slice A0 l0.length c0) l0
  s1 : Kd.R (Kd.int .i64) 3 w lo (fun k => P k) (.slice A1 l1.length c1) l1
  s2 : Kd.R k60 60 w lo (fun k => P k ∧ some k ≠ (Value.slice A3 l3.length c3).ownBlock) (.slice A2 l2.length c2) l2
  s3 : Kd.R k60 60 w lo (fun k => P k ∧ some k ≠ (Value.slice A2 l2.length c2).ownBlock) (.slice A3 l3.length c3) l3
section
variable {w w1 : World} {lo : Nat} {P : Nat → Prop} {A0 A1 A2 A3 : Option Addr} {c0 c1 c2 c3 : Nat} {l0 : List S38} {l1 : List Int} {l2 l3 : List S60}
theorem OwnP.kept {S : Nat → Prop} (h : OwnP w lo P A0 c0 A1 c1 A2 c2 A3 c3 l0 l1 l2 l3) (hk : Kept w w1 S) (hS : ∀ k, P k → ¬ S k) : OwnP w1 lo P A0 c0 A1 c1 A2 c2 A3 c3 l0 l1 l2 l3 :=
  ⟨Kd.S_kept h.s0 hk (fun k h1 => hS k h1.1), Kd.R_kept h.s1 hk hS, Kd.R_kept h.s2 hk (fun k h1 => hS k h1.1), Kd.R_kept h.s3 hk (fun k h1 => hS k h1.1)⟩
theorem OwnH.toP {w : World} {lo : Nat} {P : Nat → Prop} {A0 A1 A2 A3 : Option Addr} {c0 c1 c2 c3 : Nat} {l0 : List S38} {l1 : List Int} {l2 l3 : List S60} (h : OwnH w lo A0 c0 A1 c1 A2 c2 A3 c3 l0 l1 l2 l3) (hP : ∀ k, lo ≤ k → k < w.heap.size → P k) : OwnP w lo P A0 c0 A1 c1 A2 c2 A3 c3 l0 l1 l2 l3 :=
  ⟨Kd.S_mono (Kd.S_bound h.s0) (fun k hk => ⟨hP k hk.2.1 hk.2.2.1, hk.1⟩), Kd.R_mono (Kd.R_bound h.s1) (fun k hk => hP k hk.2.1 hk.2.2.1), Kd.R_mono (Kd.R_bound h.s2) (fun k hk => ⟨hP k hk.2.1 hk.2.2.1, hk.1⟩), Kd.R_mono (Kd.R_bound h.s3) (fun k hk => ⟨hP k hk.2.1 hk.2.2.1, hk.1⟩)⟩
theorem OwnP.below (h : OwnP w lo P A0 c0 A1 c1 A2 c2 A3 c3 l0 l1 l2 l3) (hb : Below w.heap.size w w1) : OwnP w1 lo P A0 c0 A1 c1 A2 c2 A3 c3 l0 l1 l2 l3 :=
  ⟨Kd.S_below h.s0 hb, Kd.R_below h.s1 hb, Kd.R_below h.s2 hb, Kd.R_below h.s3 hb⟩
theorem OwnP.reads (h : OwnP w lo P A0 c0 A1 c1 A2 c2 A3 c3 l0 l1 l2 l3) : InH w A0 c0 A1 c1 A2 c2 A3 c3 l0 l1 l2 l3 :=
  ⟨(Kd.R_reads' (Kd.S_R h.s0)).2.2, (Kd.R_reads' h.s1).2.2, (Kd.R_reads' h.s2).2.2, (Kd.R_reads' h.s3).2.2, (Kd.R_reads' (Kd.S_R h.s0)).2.1, (Kd.R_reads' h.s1).2.1, (Kd.R_reads' h.s2).2.1, (Kd.R_reads' h.s3).2.1⟩
end
def cntHP (l0 : List S38) (l1 : List Int) (l2 l3 : List S60) : Int := cntO l0 + l1.length + 2 * l2.length + 2 * l3.length
/-- Kept, where one row alone was written. -/
theorem R_apart_keptP {α β : Type} {d : Kd α} {d' : Kd β} {e e' base b : Nat} {ok ok' : Nat → Prop} {W W1 : World} {u v : Value} {xs : List α} {ys : List β} (h : d.R e W base ok u xs) (hv : d'.R e' W b ok' v ys)
    (ht : ∀ q, q ∈ e :: d.E → q ≠ e') (hk : Kept W W1 (fun k => some k = v.ownBlock)) : d.R e W1 base ok u xs :=
  Kd.R_mono (Kd.R_kept (Kd.R_apart' h (Kd.R_typed hv) ht) hk (fun k h1 h2 => h1.2 h2)) (fun _ h1 => h1.1)
theorem S_apart_keptP {α β : Type} {d : Kd α} {d' : Kd β} {e e' base b : Nat} {ok ok' : Nat → Prop} {W W1 : World} {u v : Value} {xs : List α} {ys : List β} (h : Kd.S d e W base ok u xs) (hv : d'.R e' W b ok' v ys)
    (ht : ∀ q, q ∈ e :: d.E → q ≠ e') (hk : Kept W W1 (fun k => some k = v.ownBlock)) : Kd.S d e W1 base ok u xs :=
  Kd.S_mono (Kd.S_kept (Kd.S_apart' h (Kd.R_typed hv) ht) hk (fun k h1 h2 => h1.2 h2)) (fun _ h1 => h1.1)
/-- Kept, where blocks of types other than the row's alone were written. -/
theorem R_types_keptP {α : Type} {d : Kd α} {e base : Nat} {ok : Nat → Prop} {E : List Nat} {S : Nat → Prop} {W W1 : World} {u : Value} {xs : List α} (hE : d.E = []) (h : d.R e W base ok u xs) (ht : e ∉ E)
    (hS : ∀ k, S k → ∃ q, q ∈ E ∧ ∃ cells, W.heap[k]? = some (.cells cells q (0, 0))) (hk : Kept W W1 S) : d.R e W1 base ok u xs :=
  Kd.R_mono (Kd.R_kept (Kd.R_tight hE h) hk (fun k h1 h2 => by
    obtain ⟨q, hq, cells, hc⟩ := hS k h2
    obtain ⟨cells', hc'⟩ := Kd.R_typed h k h1.symm
    rw [hc] at hc'
    injection hc' with hc'
    injection hc' with _ hc'
    subst hc'
    exact ht hq)) (fun k h1 => h.1 k h1.symm)
/-- A marked heap of the law's own. -/
structure Mkd (w : World) (lo : Nat) (P : Nat → Prop) (a : Int) (A0 : Option Addr) (c0 : Nat) (A1 : Option Addr) (c1 : Nat) (A2 : Option Addr) (c2 : Nat) (A3 : Option Addr) (c3 : Nat) (l0 : List S38) (n1 n2 n3 : Nat) : Prop where
  s0 : Kd.S k38 38 w lo P (.slice A0 l0.length c0) (markO a l0)
  s1 : Kd.R (Kd.int .i64) 3 w lo P (.slice A1 n1 c1) (marksI (a + cntO l0) n1)
  s2 : Kd.R k60 60 w lo P (.slice A2 n2 c2) (marksW (a + cntO l0 + n1) n2)
  s3 : Kd.R k60 60 w lo P (.slice A3 n3 c3) (marksW (a + cntO l0 + n1 + 2 * n2) n3)
theorem Mkd.below {w w1 : World} {lo : Nat} {P : Nat → Prop} {a : Int} {A0 A1 A2 A3 : Option Addr} {c0 c1 c2 c3 n1 n2 n3 : Nat} {l0 : List S38} (h : Mkd w lo P a A0 c0 A1 c1 A2 c2 A3 c3 l0 n1 n2 n3) (hb : Below w.heap.size w w1) : Mkd w1 lo P a A0 c0 A1 c1 A2 c2 A3 c3 l0 n1 n2 n3 :=
  ⟨Kd.S_below h.s0 hb, Kd.R_below h.s1 hb, Kd.R_below h.s2 hb, Kd.R_below h.s3 hb⟩
theorem Mkd.kept {w w1 : World} {lo : Nat} {P S : Nat → Prop} {a : Int} {A0 A1 A2 A3 : Option Addr} {c0 c1 c2 c3 n1 n2 n3 : Nat} {l0 : List S38} (h : Mkd w lo P a A0 c0 A1 c1 A2 c2 A3 c3 l0 n1 n2 n3) (hk : Kept w w1 S) (hS : ∀ k, P k → ¬ S k) : Mkd w1 lo P a A0 c0 A1 c1 A2 c2 A3 c3 l0 n1 n2 n3 :=
  ⟨Kd.S_kept h.s0 hk hS, Kd.R_kept h.s1 hk hS, Kd.R_kept h.s2 hk hS, Kd.R_kept h.s3 hk hS⟩
set_option maxHeartbeats 4000000 in
set_option maxRecDepth 100000 in
theorem markHeapP_calls (a : Int) (P : Nat → Prop) (w0 w : World) (A0 A1 A2 A3 : Option Addr) (c0 c1 c2 c3 : Nat) (l0 : List S38) (l1 : List Int) (l2 l3 : List S60) (hB : Below w0.heap.size w0 w) (hO : OwnP w w0.heap.size P A0 c0 A1 c1 A2 c2 A3 c3 l0 l1 l2 l3)
    (hhi : ∀ k, P k → k < w.heap.size) (ha : 0 ≤ a) (hc : a + cntHP l0 l1 l2 l3 ≤ 1152921504606846976) (hl : l0.length ≤ 1048576) :
    Calls Try.prog 30 #[.agg #[.slice A0 l0.length c0, .slice A1 l1.length c1, .slice A2 l2.length c2, .slice A3 l3.length c3], .int .i64 a] w fun e w' => e = .returned (.int .i64 (a + cntHP l0 l1 l2 l3)) ∧
      Mkd w' w0.heap.size P a A0 c0 A1 c1 A2 c2 A3 c3 l0 l1.length l2.length l3.length ∧
      Below w0.heap.size w0 w' ∧ Kept w w' (fun k => w0.heap.size ≤ k ∧ P k) := by
  have hn0 := cntO_nonneg l0
  have e1 : cntHP l0 l1 l2 l3 = cntO l0 + l1.length + 2 * l2.length + 2 * l3.length := rfl
  have bx0 : 0 ≤ a := ha
  have bx1 : a + cntO l0 + l1.length + 2 * l2.length + 2 * l3.length ≤ 1152921504606846976 := by omega
  have HE := AK e1
  have HN := AK hn0
  have HX := AK bx1
  have HHI := AK hhi
  have HLL := AK hl
  have HB1 := AK (below_alloc hB (.cells #[.slice A0 l0.length c0, .slice A1 l1.length c1, .slice A2 l2.length c2, .slice A3 l3.length c3] 28 (0, 0)))
  have HO1 := AK (hO.below (below_alloc (Below.refl _ _) (.cells #[.slice A0 l0.length c0, .slice A1 l1.length c1, .slice A2 l2.length c2, .slice A3 l3.length c3] 28 (0, 0))))
  have HBX1 := AK (blk_new w (.cells #[.slice A0 l0.length c0, .slice A1 l1.length c1, .slice A2 l2.length c2, .slice A3 l3.length c3] 28 (0, 0)))
  clear hc hO hB e1 hn0 hhi bx1 ha hl
  go_enter Try.func30, Try.ntmps30
  go_wp2_with fail
  refine (markMemObjS_calls a w0 _ _ _ l0 HB1.out (Kd.S_bound HO1.out.s0) bx0 (by have := HX.out; omega) HLL.out).mono ?_
  rintro e w2 ⟨rfl, hs, hb, hk⟩
  have HB2 := AK hb
  have HS0 := AK (Kd.S_mono hs (fun _ h1 => h1.1))
  have HS1 := AK (Kd.R_mono (Kd.R_kept (Kd.R_tight rfl HO1.out.s1) hk (fun k h1 h2 => h2.1.2 h1)) (fun k h1 => HO1.out.s1.1 k h1.symm))
  have HS2 := AK (R_types_keptP rfl HO1.out.s2 (by decide) (fun k h1 => h1.2.2.2) hk)
  have HS3 := AK (R_types_keptP rfl HO1.out.s3 (by decide) (fun k h1 => h1.2.2.2) hk)
  have HK2 := AK (Kept.then_ (Kept.alloc (Kept.refl w (fun k => w0.heap.size ≤ k ∧ P k)) (.cells #[.slice A0 l0.length c0, .slice A1 l1.length c1, .slice A2 l2.length c2, .slice A3 l3.length c3] 28 (0, 0))) hk (fun k h1 => .inl ⟨h1.2.1, h1.1.1⟩))
  have HBX2 := AK (blk_kept HBX1.out hk (fun h1 => by have h2 := HHI.out _ h1.1.1; omega))
  clear hs hb hk HO1 HB1 HBX1
  obtain ⟨q0, q1, q2, q3⟩ := box4 HBX2.out
  go_wp2_with fail
  have hxx := HX.out
  have hnn := HN.out
  refine (laws_markIntS.calls (l1.length + 1) (fun k => some k = (Value.slice A1 l1.length c1).ownBlock) _ l1 (a + cntO l0) _ _ w0 _ HB2.out (Kd.R_tight rfl HS1.out) (markIntS_f (a + cntO l0) (by omega) l1 (by omega) _ (by omega))).mono ?_
  rintro e w3 ⟨rfl, hr, hb, hk⟩
  have HB3 := AK hb
  have HT1 := AK (Kd.R_mono (Kd.R_tight rfl hr) (fun k h1 => HS1.out.1 k h1.symm))
  have HT0 := AK (Kd.S_kept HS0.out hk (fun k h1 h2 => h1.2 h2))
  have HT2 := AK (R_apart_keptP HS2.out HS1.out (by decide) hk)
  have HT3 := AK (R_apart_keptP HS3.out HS1.out (by decide) hk)
  have HK3 := AK (Kept.then_ HK2.out hk (fun k h1 => .inl ⟨Kd.R_base HS1.out k h1.symm, HS1.out.1 k h1.symm⟩))
  have HBX3 := AK (blk_kept HBX2.out hk (fun h1 => by have h2 := HHI.out _ (HS1.out.1 _ h1.symm); omega))
  clear hr hb hk HB2 HS0 HS1 HS2 HS3 HK2 HBX2 q0 q1 q2 q3
  obtain ⟨q0, q1, q2, q3⟩ := box4 HBX3.out
  go_wp2_with fail
  refine (laws_markMemWatchS.calls (l2.length + 1) (fun k => some k = (Value.slice A2 l2.length c2).ownBlock) _ l2 (a + cntO l0 + l1.length) _ _ w0 _ HB3.out (Kd.R_tight rfl HT2.out) (markMemWatchS_f (a + cntO l0 + l1.length) (by omega) l2 (by omega) _ (by omega))).mono ?_
  rintro e w4 ⟨rfl, hr, hb, hk⟩
  have HB4 := AK hb
  have HU2 := AK (Kd.R_mono (Kd.R_tight rfl hr) (fun k h1 => HT2.out.1 k h1.symm))
  have HU0 := AK (S_apart_keptP HT0.out HT2.out (by decide) hk)
  have HU1 := AK (R_apart_keptP HT1.out HT2.out (by decide) hk)
  have HU3 := AK (Kd.R_kept HT3.out hk (fun k h1 h2 => h1.2 h2))
  have HK4 := AK (Kept.then_ HK3.out hk (fun k h1 => .inl ⟨Kd.R_base HT2.out k h1.symm, (HT2.out.1 k h1.symm).1⟩))
  have HBX4 := AK (blk_kept HBX3.out hk (fun h1 => by have h2 := HHI.out _ (HT2.out.1 _ h1.symm).1; omega))
  clear hr hb hk HB3 HT0 HT1 HT2 HT3 HK3 HBX3 q0 q1 q2 q3
  obtain ⟨q0, q1, q2, q3⟩ := box4 HBX4.out
  go_wp2_with fail
  refine (laws_markMemWatchS.calls (l3.length + 1) (fun k => some k = (Value.slice A3 l3.length c3).ownBlock) _ l3 (a + cntO l0 + l1.length + 2 * l2.length) _ _ w0 _ HB4.out (Kd.R_tight rfl HU3.out) (markMemWatchS_f (a + cntO l0 + l1.length + 2 * l2.length) (by omega) l3 (by omega) _ (by omega))).mono ?_
  rintro e w5 ⟨rfl, hr, hb, hk⟩
  have HB5 := AK hb
  have HV3 := AK (Kd.R_mono (Kd.R_tight rfl hr) (fun k h1 => HU3.out.1 k h1.symm))
  have HV0 := AK (S_apart_keptP HU0.out HU3.out (by decide) hk)
  have HV1 := AK (R_apart_keptP HU1.out HU3.out (by decide) hk)
  have HV2 := AK (Kd.R_kept HU2.out hk (fun k h1 h2 => h1.2 h2))
  have HK5 := AK (Kept.then_ HK4.out hk (fun k h1 => .inl ⟨Kd.R_base HU3.out k h1.symm, (HU3.out.1 k h1.symm).1⟩))
  clear hr hb hk HB4 HU0 HU1 HU2 HU3 HK4 HBX4 q0 q1 q2 q3
  go_wp2
  go_ret
  exact ⟨by rw [HE.out]; simp only [show a + cntO l0 + (l1.length : Int) + 2 * (l2.length : Int) + 2 * (l3.length : Int) = a + (cntO l0 + (l1.length : Int) + 2 * (l2.length : Int) + 2 * (l3.length : Int)) by omega]; rfl, ⟨Kd.S_mono HV0.out (fun _ h1 => h1.1), HV1.out, Kd.R_mono HV2.out (fun _ h1 => h1.1), Kd.R_mono HV3.out (fun _ h1 => h1.1)⟩, HB5.out, HK5.out⟩
end Go.Proofs.Ytigjhfijkdlldaa.H
