/- Contracts in short form: a heap's value that is read (InH), one of the call's own (OwnH), a law's argument (InL); the laws' small functions with these. -/
import Derived.Test.YtigjhfijkdlldaaScoPb
namespace Go.Proofs.Ytigjhfijkdlldaa.H
open Go.RowKit Go.Proofs.YtigjhfijkdlldaaW.PrintWords Go.Proofs.YtigjhfijkdlldaaW.PrintLast Go.Proofs.YtigjhfijkdlldaaW.PrintMore Go.Proofs.Ytigjhfijkdlldaa.Q
set_option linter.unusedVariables false
structure InH (w : World) (A0 : Option Addr) (c0 : Nat) (A1 : Option Addr) (c1 : Nat) (A2 : Option Addr) (c2 : Nat) (A3 : Option Addr) (c3 : Nat) (l0 : List S38) (l1 : List Int) (l2 l3 : List S60) : Prop where
  r0 : Kd.C k38 w A0 l0.length l0
  r1 : Kd.C (Kd.int .i64) w A1 l1.length l1
  r2 : Kd.C k60 w A2 l2.length l2
  r3 : Kd.C k60 w A3 l3.length l3
  k0 : l0.length ≤ c0
  k1 : l1.length ≤ c1
  k2 : l2.length ≤ c2
  k3 : l3.length ≤ c3
structure InL (w : World) (A0 : Option Addr) (c0 : Nat) (A1 : Option Addr) (c1 : Nat) (A2 : Option Addr) (c2 : Nat) (A3 : Option Addr) (c3 : Nat) (l0 : List S72) (l1 : List Int) (l2 l3 : List S126) : Prop where
  r0 : Kd.C k72 w A0 l0.length l0
  r1 : Kd.C (Kd.int .i64) w A1 l1.length l1
  r2 : Kd.C k126 w A2 l2.length l2
  r3 : Kd.C k126 w A3 l3.length l3
  k0 : l0.length ≤ c0
  k1 : l1.length ≤ c1
  k2 : l2.length ≤ c2
  k3 : l3.length ≤ c3
structure OwnH (w : World) (base : Nat) (A0 : Option Addr) (c0 : Nat) (A1 : Option Addr) (c1 : Nat) (A2 : Option Addr) (c2 : Nat) (A3 : Option Addr) (c3 : Nat) (l0 : List S38) (l1 : List Int) (l2 l3 : List S60) : Prop where
  s0 : Kd.S k38 38 w base (fun k => some k ≠ (Value.slice A1 l1.length c1).ownBlock) (.slice A0 l0.length c0) l0
  s1 : Kd.R (Kd.int .i64) 3 w base (fun _ => True) (.slice A1 l1.length c1) l1
  s2 : Kd.R k60 60 w base (fun k => some k ≠ (Value.slice A3 l3.length c3).ownBlock) (.slice A2 l2.length c2) l2
  s3 : Kd.R k60 60 w base (fun k => some k ≠ (Value.slice A2 l2.length c2).ownBlock) (.slice A3 l3.length c3) l3
section
variable {w w1 : World} {base : Nat} {A0 A1 A2 A3 : Option Addr} {c0 c1 c2 c3 : Nat} {l0 : List S38} {l1 : List Int} {l2 l3 : List S60}
theorem InH.below (h : InH w A0 c0 A1 c1 A2 c2 A3 c3 l0 l1 l2 l3) (hb : Below w.heap.size w w1) : InH w1 A0 c0 A1 c1 A2 c2 A3 c3 l0 l1 l2 l3 :=
  ⟨Kd.C_below h.r0 hb, Kd.C_below h.r1 hb, Kd.C_below h.r2 hb, Kd.C_below h.r3 hb, h.k0, h.k1, h.k2, h.k3⟩
theorem InL.below {l0 : List S72} {l2 l3 : List S126} (h : InL w A0 c0 A1 c1 A2 c2 A3 c3 l0 l1 l2 l3) (hb : Below w.heap.size w w1) : InL w1 A0 c0 A1 c1 A2 c2 A3 c3 l0 l1 l2 l3 :=
  ⟨Kd.C_below h.r0 hb, Kd.C_below h.r1 hb, Kd.C_below h.r2 hb, Kd.C_below h.r3 hb, h.k0, h.k1, h.k2, h.k3⟩
theorem OwnH.below (h : OwnH w base A0 c0 A1 c1 A2 c2 A3 c3 l0 l1 l2 l3) (hb : Below w.heap.size w w1) : OwnH w1 base A0 c0 A1 c1 A2 c2 A3 c3 l0 l1 l2 l3 :=
  ⟨Kd.S_below h.s0 hb, Kd.R_below h.s1 hb, Kd.R_below h.s2 hb, Kd.R_below h.s3 hb⟩
theorem OwnH.reads (h : OwnH w base A0 c0 A1 c1 A2 c2 A3 c3 l0 l1 l2 l3) : InH w A0 c0 A1 c1 A2 c2 A3 c3 l0 l1 l2 l3 :=
  ⟨(Kd.R_reads' (Kd.S_R h.s0)).2.2, (Kd.R_reads' h.s1).2.2, (Kd.R_reads' h.s2).2.2, (Kd.R_reads' h.s3).2.2, (Kd.R_reads' (Kd.S_R h.s0)).2.1, (Kd.R_reads' h.s1).2.1, (Kd.R_reads' h.s2).2.1, (Kd.R_reads' h.s3).2.1⟩
theorem own_of (v0 v1 v2 v3 : Value) (s0 : Kd.S k38 38 w base (fun k => some k ≠ v1.ownBlock) v0 l0) (s1 : Kd.R (Kd.int .i64) 3 w base (fun _ => True) v1 l1) (s2 : Kd.R k60 60 w base (fun k => some k ≠ v3.ownBlock) v2 l2)
    (s3 : Kd.R k60 60 w base (fun k => some k ≠ v2.ownBlock) v3 l3) : ∃ A0 c0 A1 c1 A2 c2 A3 c3, v0 = .slice A0 l0.length c0 ∧ v1 = .slice A1 l1.length c1 ∧ v2 = .slice A2 l2.length c2 ∧ v3 = .slice A3 l3.length c3 ∧
      OwnH w base A0 c0 A1 c1 A2 c2 A3 c3 l0 l1 l2 l3 := by
  obtain ⟨A0, c0, rfl⟩ := Kd.R_slice (Kd.S_R s0)
  obtain ⟨A1, c1, rfl⟩ := Kd.R_slice s1
  obtain ⟨A2, c2, rfl⟩ := Kd.R_slice s2
  obtain ⟨A3, c3, rfl⟩ := Kd.R_slice s3
  exact ⟨A0, c0, A1, c1, A2, c2, A3, c3, rfl, rfl, rfl, rfl, s0, s1, s2, s3⟩
end
section
variable {w : World} {A0 A1 A2 A3 : Option Addr} {c0 c1 c2 c3 : Nat} {l0 : List S72} {l1 : List Int} {l2 l3 : List S126}
theorem toHeap_c {m0 : List S38} {m2 m3 : List S60} (e0 : m0 = l0.map cO) (e2 : m2 = l2.map cW) (e3 : m3 = l3.map cW) (hs : Small l0 l1 l2 l3) (h : InL w A0 c0 A1 c1 A2 c2 A3 c3 l0 l1 l2 l3) :
    Calls Try.prog 24 #[.agg #[.slice A0 l0.length c0, .slice A1 l1.length c1, .slice A2 l2.length c2, .slice A3 l3.length c3]] w fun e w' =>
      ∃ B0 d0 B1 d1 B2 d2 B3 d3, e = .returned (.agg #[.slice B0 m0.length d0, .slice B1 l1.length d1, .slice B2 m2.length d2, .slice B3 m3.length d3]) ∧
        OwnH w' w.heap.size B0 d0 B1 d1 B2 d2 B3 d3 m0 l1 m2 m3 ∧ Below w.heap.size w w' := by
  subst e0 e2 e3
  obtain ⟨k, hk⟩ := (toMemHeap_f hs).rounds
  refine (laws_toMemHeap.calls k A0 c0 l0 A1 c1 l1 A2 c2 l2 A3 c3 l3 _ _ _ _ w h.r0 h.k0 h.r1 h.k1 h.r2 h.k2 h.r3 h.k3 hk).mono ?_
  rintro e w' ⟨v0, v1, v2, v3, rfl, s0, s1, s2, s3, hb⟩
  obtain ⟨B0, d0, B1, d1, B2, d2, B3, d3, rfl, rfl, rfl, rfl, ho⟩ := own_of v0 v1 v2 v3 s0 s1 s2 s3
  exact ⟨B0, d0, B1, d1, B2, d2, B3, d3, rfl, ho, hb⟩
end
section
variable {w : World} {A0 A1 A2 A3 B0 B1 B2 B3 : Option Addr} {c0 c1 c2 c3 d0 d1 d2 d3 : Nat} {l0 : List S38} {l1 : List Int} {l2 l3 : List S60}
theorem C_max {α : Type} {d : Kd α} {A : Option Addr} {xs : List α} (h : Kd.C d w A xs.length xs) : (xs.length : Int) ≤ 9223372036854775807 := by have := h.2.1; omega
theorem eqHeap_c (h : InH w A0 c0 A1 c1 A2 c2 A3 c3 l0 l1 l2 l3) (h' : InH w B0 d0 B1 d1 B2 d2 B3 d3 l0 l1 l2 l3) (hf : ∀ x ∈ l0, (x.f2.length : Int) ≤ 9223372036854775807) :
    Calls Try.prog 26 #[.agg #[.slice A0 l0.length c0, .slice A1 l1.length c1, .slice A2 l2.length c2, .slice A3 l3.length c3], .agg #[.slice B0 l0.length d0, .slice B1 l1.length d1, .slice B2 l2.length d2, .slice B3 l3.length d3]] w
      fun e w' => e = .returned (.bool true) ∧ Below w.heap.size w w' := by
  obtain ⟨k, hk⟩ := (eqMemHeap_f l0 l1 l2 l3 (C_max h.r0) hf (C_max h.r1) (C_max h.r2) (C_max h.r3)).rounds
  exact laws_eqMemHeap.calls k A0 c0 l0 A1 c1 l1 A2 c2 l2 A3 c3 l3 B0 d0 l0 B1 d1 l1 B2 d2 l2 B3 d3 l3 true w h.r0 h.k0 h.r1 h.k1 h.r2 h.k2 h.r3 h.k3 h'.r0 h'.k0 h'.r1 h'.k1 h'.r2 h'.k2 h'.r3 h'.k3 hk
theorem specOk_c (h : InH w A0 c0 A1 c1 A2 c2 A3 c3 l0 l1 l2 l3) (h0 : (l0.length : Int) ≤ 4611686018427387903) (hf : ∀ x ∈ l0, Fit x) (h1 : (l1.length : Int) ≤ 4611686018427387903) (h2 : (l2.length : Int) + l3.length ≤ 4611686018427387903) :
    Calls Try.prog 23 #[.agg #[.slice A0 l0.length c0, .slice A1 l1.length c1, .slice A2 l2.length c2, .slice A3 l3.length c3]] w fun e w' => e = .returned (.bool (okB l0 l1 l2 l3)) ∧ Below w.heap.size w w' := by
  obtain ⟨k, hk⟩ := (MemOk_f l0 l1 l2 l3 h0 hf h1 h2).rounds
  exact spec_MemOk.calls k A0 c0 l0 A1 c1 l1 A2 c2 l2 A3 c3 l3 _ w h.r0 h.k0 h.r1 h.k1 h.r2 h.k2 h.r3 h.k3 hk
end
/-- A heap that a law has made of its argument, behind its guard. -/
structure Fine (l0 : List S38) (l1 : List Int) (l2 l3 : List S60) : Prop where
  o : (l0.length : Int) ≤ 1048576
  f : ∀ x ∈ l0, Fit x
  r : (l1.length : Int) ≤ 1048576
  w : (l2.length : Int) + l3.length ≤ 1048576
theorem small_fine {l0 : List S72} {l1 : List Int} {l2 l3 : List S126} {m0 : List S38} {m2 m3 : List S60} (e0 : m0 = l0.map cO) (e2 : m2 = l2.map cW) (e3 : m3 = l3.map cW) (h : Small l0 l1 l2 l3) : Fine m0 l1 m2 m3 := by
  subst e0 e2 e3
  refine ⟨by have := h.o; rw [List.length_map]; omega, fun x hx => ?_, by have := h.r; omega, by have := h.w; rw [List.length_map, List.length_map]; omega⟩
  obtain ⟨y, hy, rfl⟩ := List.mem_map.1 hx
  have := h.t y hy
  exact ⟨by simp only [cO]; omega, by simp only [cO]; omega⟩
end Go.Proofs.Ytigjhfijkdlldaa.H
