/- How the laws' arguments read: from the row's reading to the walk's words. -/
import Derived.Test.YtigjhfijkdlldaaScoC
import Derived.Test.YtigjhfijkdlldaaRows
import Derived.ProofKit
import Derived.OpenShut
import Derived.ShutString
import Derived.ChangeOld
import Derived.SizedLaws
import Derived.Lib.SmallJoins
namespace Go.Proofs.Ytigjhfijkdlldaa.H
open Go.RowKit Go.WideShapes Go.ChangeShapes Go.ChangeAt Go.Joins Go.Deep Go.Proofs.YtigjhfijkdlldaaW.PrintWords Go.Proofs.YtigjhfijkdlldaaW.PrintLast Go.Proofs.YtigjhfijkdlldaaW.PrintMore Go.Proofs.Ytigjhfijkdlldaa.Q
set_option linter.unusedVariables false
section
variable {H : Type} {enc : TypeId × Value → H} {w : World} {base : Nat} {spare : Nat → Bool} {held : Bool}
/-- What reads at type t reads as the kind d says, and Q holds of it. -/
def Rd (enc : TypeId × Value → H) (w : World) (base : Nat) (spare : Nat → Bool) (held : Bool) {α : Type} (t : TypeId) (d : Kd α) (Q : α → Prop) : Prop :=
  ∀ fuel cs x, DataW.trod enc Try.prog w base spare held fuel t cs = some x → ∃ a, d.K w a cs ∧ Q a
theorem rd_int {t : TypeId} {k : IntKind} (ht : Try.prog.underlying t = some (.int k)) : Rd enc w base spare held t (Kd.int k) (fun _ => True) := by
  intro fuel cs x h
  obtain ⟨n, rfl, _, _⟩ := DataW.trod_int ht h
  exact ⟨n, rfl, trivial⟩
theorem rd_string {t : TypeId} (ht : Try.prog.underlying t = some .string) : Rd enc w base spare held t Kd.string (fun s => (s.size : Int) ≤ 9223372036854775807) := by
  intro fuel cs x h
  obtain ⟨s, rfl, _, hs⟩ := DataW.trod_string ht h
  exact ⟨s, rfl, by unfold maxLen at hs; omega⟩
theorem list_of {α : Type} (n : Nat) (P : Nat → α → Prop) (h : ∀ i, i < n → ∃ a, P i a) : ∃ xs : List α, xs.length = n ∧ ∀ i x, xs[i]? = some x → P i x := by
  induction n with
  | zero => exact ⟨[], rfl, fun i x hx => by simp at hx⟩
  | succ n ih =>
    obtain ⟨xs, hl, hx⟩ := ih (fun i hi => h i (by omega))
    obtain ⟨a, ha⟩ := h n (by omega)
    refine ⟨xs ++ [a], by simp [hl], fun i x hi => ?_⟩
    by_cases c : i < n
    · rw [List.getElem?_append_left (by omega)] at hi; exact hx i x hi
    · by_cases c2 : i = n
      · subst c2
        rw [List.getElem?_append_right (by omega), hl] at hi
        simp at hi; subst hi; exact ha
      · rw [List.getElem?_eq_none (by simp [hl]; omega)] at hi; cases hi
theorem rd_slice {α : Type} {t e : TypeId} {d : Kd α} {Q : α → Prop} (ht : Try.prog.underlying t = some (.slice e)) (hc : Try.prog.cellsOf e = d.sz) (h : Rd enc w base spare held e d Q) :
    Rd enc w base spare held t (Kd.slice e d) (fun xs => ∀ x ∈ xs, Q x) := by
  intro fuel cs x hx
  rcases DataW.trod_slice ht hx with ⟨rfl, _⟩ | ⟨a, len, cap, elems, rest, n, _, rfl, _, _, hlc, hm, hel, hr, _, _⟩
  · exact ⟨[], ⟨none, 0, rfl, Nat.le_refl _, by simp, by simp, fun h => absurd h (Nat.lt_irrefl 0)⟩, fun x hx => by cases hx⟩
  · have hex : ∀ i, i < len → ∃ y, ∃ c : List Value, c.length = d.sz ∧ d.K w y c ∧ Q y ∧ ∀ j u, c[j]? = some u → w.cell? (a.add (i * d.sz + j)) = some u := by
      intro i hi
      have h1 := hr i hi
      rw [List.getElem?_eq_getElem (by omega)] at h1
      obtain ⟨c, hcs, htr⟩ := Option.bind_eq_some_iff.1 h1
      obtain ⟨_, hl, hcell⟩ := World.cells?_some hcs
      obtain ⟨y, hy, hq⟩ := h _ _ _ htr
      rw [hc] at hl hcell
      refine ⟨y, c, hl, hy, hq, fun j u hu => ?_⟩
      have hj : j < d.sz := by
        have := (List.getElem?_eq_some_iff.1 hu).1
        omega
      have := (hcell j hj).trans hu
      rw [Addr.add_add] at this
      exact this
    obtain ⟨xs, hxl, hxs⟩ := list_of len _ hex
    refine ⟨xs, ⟨some a, cap, by rw [hxl], by omega, rfl, ?_, fun h0 => ⟨a, rfl, fun j p hj => ?_⟩⟩, fun x hx => ?_⟩
    · rw [hxl]; unfold maxLen at hm; omega
    · obtain ⟨c, h1, h2, _, h3⟩ := hxs j p hj
      exact ⟨c, h1, h2, h3⟩
    · obtain ⟨i, hi⟩ := List.getElem?_of_mem hx
      obtain ⟨c, _, _, h3, _⟩ := hxs i x hi
      exact h3
theorem rd_72 : Rd enc w base spare held 72 k72 (fun x => Fits x.f1 x.f2) := by
  intro fuel cs x h
  obtain ⟨y0, y1, y2, n, _, hl, h0, h1, h2⟩ := trod_struct3 Try.underlying72 h
  rw [show Try.prog.cellsOf 72 = 3 by kernel_rfl] at hl
  rw [show Try.prog.cellsOf 3 = 1 by kernel_rfl] at h0
  rw [show Try.prog.cellsOf 9 = 1 by kernel_rfl] at h1
  rw [show Try.prog.cellsOf 25 = 1 by kernel_rfl] at h2
  match cs, hl with
  | [a, b, c], _ =>
    obtain ⟨n0, k0, _⟩ := rd_int (enc := enc) (w := w) (base := base) (spare := spare) (held := held) Try.underlying3 _ _ _ h0
    obtain ⟨n1, k1, q1⟩ := rd_string (enc := enc) (w := w) (base := base) (spare := spare) (held := held) Try.underlying9 _ _ _ h1
    obtain ⟨n2, k2, _⟩ := rd_slice (enc := enc) (w := w) (base := base) (spare := spare) (held := held) Try.underlying25 (show Try.prog.cellsOf 3 = 1 by kernel_rfl) (rd_int Try.underlying3) _ _ _ h2
    refine ⟨⟨n0, n1, n2⟩, ⟨[a], [b, c], rfl, k0, ⟨[b], [c], rfl, k1, k2⟩⟩, q1, ?_⟩
    obtain ⟨A, c', _, _, hC⟩ := k2
    have := hC.2.1
    show ((n2.length : Nat) : Int) ≤ _
    omega
theorem rd_126 : Rd enc w base spare held 126 k126 (fun _ => True) := by
  intro fuel cs x h
  obtain ⟨y0, y1, n, _, hl, h0, h1⟩ := trod_struct2 Try.underlying126 h
  rw [show Try.prog.cellsOf 126 = 2 by kernel_rfl] at hl
  rw [show Try.prog.cellsOf 3 = 1 by kernel_rfl] at h0 h1
  match cs, hl with
  | [a, b], _ =>
    obtain ⟨n0, k0, _⟩ := rd_int (enc := enc) (w := w) (base := base) (spare := spare) (held := held) Try.underlying3 _ _ _ h0
    obtain ⟨n1, k1, _⟩ := rd_int (enc := enc) (w := w) (base := base) (spare := spare) (held := held) Try.underlying3 _ _ _ h1
    exact ⟨⟨n0, n1⟩, ⟨[a], [b], rfl, k0, k1⟩, trivial⟩
set_option maxRecDepth 100000 in
/-- A law's heap among its arguments. -/
theorem open_heap {r : Reach} {b0 : Nat} {v : Value} {d : DataW H} {p : List MemPlace} (hv : Value.okWide Try.prog w r b0 45 v) (h : DataW.Trod enc Try.prog w base spare held 45 v d p) :
    ∃ A0 c0 A1 c1 A2 c2 A3 c3 l0 l1 l2 l3, v = .agg #[.slice A0 (l0 : List S72).length c0, .slice A1 (l1 : List Int).length c1, .slice A2 (l2 : List S126).length c2, .slice A3 (l3 : List S126).length c3] ∧
      InL w A0 c0 A1 c1 A2 c2 A3 c3 l0 l1 l2 l3 ∧ ∀ x ∈ l0, Fits x.f1 x.f2 := by
  obtain ⟨v0, v1, v2, v3, y0, y1, y2, y3, n, rfl, _, _, h0, h1, h2, h3⟩ := open_agg4 Try.underlying45 (by kernel_rfl) (by kernel_rfl) hv h
  obtain ⟨l0, ⟨A0, c0, e0, g0, r0⟩, hf⟩ := rd_slice Try.underlying42 (show Try.prog.cellsOf 72 = 3 by kernel_rfl) rd_72 _ _ _ h0
  obtain ⟨l1, ⟨A1, c1, e1, g1, r1⟩, _⟩ := rd_slice Try.underlying25 (show Try.prog.cellsOf 3 = 1 by kernel_rfl) (rd_int Try.underlying3) _ _ _ h1
  obtain ⟨l2, ⟨A2, c2, e2, g2, r2⟩, _⟩ := rd_slice Try.underlying43 (show Try.prog.cellsOf 126 = 2 by kernel_rfl) rd_126 _ _ _ h2
  obtain ⟨l3, ⟨A3, c3, e3, g3, r3⟩, _⟩ := rd_slice Try.underlying43 (show Try.prog.cellsOf 126 = 2 by kernel_rfl) rd_126 _ _ _ h3
  injection e0 with e0
  injection e1 with e1
  injection e2 with e2
  injection e3 with e3
  subst e0 e1 e2 e3
  exact ⟨A0, c0, A1, c1, A2, c2, A3, c3, l0, l1, l2, l3, rfl, ⟨r0, r1, r2, r3, g0, g1, g2, g3⟩, hf⟩
end
end Go.Proofs.Ytigjhfijkdlldaa.H
