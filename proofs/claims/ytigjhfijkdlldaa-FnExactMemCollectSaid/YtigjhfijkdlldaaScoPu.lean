/- An own row of objects laid open: each object's cells and its parts' row, told apart by an owner function. -/
import Derived.Test.YtigjhfijkdlldaaScoV
import Derived.Test.YtigjhfijkdlldaaScoPt
namespace Go.Proofs.Ytigjhfijkdlldaa.H
open Go.RowKit Go.Proofs.YtigjhfijkdlldaaW.PrintWords Go.Proofs.YtigjhfijkdlldaaW.PrintLast Go.Proofs.YtigjhfijkdlldaaW.PrintMore Go.Proofs.Ytigjhfijkdlldaa.Q
set_option linter.unusedVariables false
theorem cell_of_heap {w w1 : World} {g o : Nat} (h : w1.heap[g]? = w.heap[g]?) : w1.cell? ⟨g, o, none⟩ = w.cell? ⟨g, o, none⟩ := by
  simp only [World.cell?, h]
/-- Object p of a row at block g: its cells; its parts are a row of their own, whose blocks are those that f gives to p. -/
def U (w : World) (base g : Nat) (okM : Nat → Prop) (f : Nat → Nat) (p : Int) (o : S38) : Prop :=
  ∃ A2 c2, w.cell? ⟨g, p.toNat * 3, none⟩ = some (.int .i64 o.f0) ∧ w.cell? ⟨g, p.toNat * 3 + 1, none⟩ = some (.string o.f1) ∧ w.cell? ⟨g, p.toNat * 3 + 2, none⟩ = some (.slice A2 o.f2.length c2) ∧
    Kd.R (Kd.int .i64) 3 w base (fun k => okM k ∧ f k = p.toNat) (.slice A2 o.f2.length c2) o.f2
theorem U.keep {w w1 : World} {base g : Nat} {okM : Nat → Prop} {f : Nat → Nat} {p : Int} {o : S38} (h : U w base g okM f p o) (hg : w1.heap[g]? = w.heap[g]?) (hm : ∀ k, okM k ∧ f k = p.toNat → k < w.heap.size → w1.heap[k]? = w.heap[k]?) :
    U w1 base g okM f p o := by
  obtain ⟨A2, c2, h0, h1, h2, h3⟩ := h
  exact ⟨A2, c2, by rw [cell_of_heap hg]; exact h0, by rw [cell_of_heap hg]; exact h1, by rw [cell_of_heap hg]; exact h2, Kd.R_step h3 hm⟩
theorem lt_of_cell {w : World} {g o : Nat} {v : Value} (h : w.cell? ⟨g, o, none⟩ = some v) : g < w.heap.size := World.block_lt_of_cell? w ⟨g, o, none⟩ h
theorem U.lt {w : World} {base g : Nat} {okM : Nat → Prop} {f : Nat → Nat} {p : Int} {o : S38} (h : U w base g okM f p o) : g < w.heap.size := by
  obtain ⟨A2, c2, h0, _⟩ := h; exact lt_of_cell h0
theorem U.below {w w1 : World} {base g : Nat} {okM : Nat → Prop} {f : Nat → Nat} {p : Int} {o : S38} (h : U w base g okM f p o) (hb : Below w.heap.size w w1) : U w1 base g okM f p o :=
  h.keep (hb.block g h.lt) (fun k _ hk => hb.block k hk)
theorem U.set {w : World} {base g : Nat} {okM : Nat → Prop} {f : Nat → Nat} {p : Int} {o : S38} (h : U w base g okM f p o) {b : Nat} (h1 : g ≠ b) (h2 : ∀ k, okM k → f k = p.toNat → k ≠ b) (j : Nat) (u : Value) : U (w.setCell ⟨b, j, none⟩ u) base g okM f p o :=
  h.keep (Below.heap_setCell w ⟨b, j, none⟩ u g h1) (fun k hk _ => Below.heap_setCell w ⟨b, j, none⟩ u k (h2 k hk.1 hk.2))
theorem U.grown {w w1 : World} {base g : Nat} {okM : Nat → Prop} {f : Nat → Nat} {p : Int} {o : S38} (h : U w base g okM f p o) {row : Option Nat} (hg : w.grownBy w1 row) (h1 : some g ≠ row) (h2 : ∀ k, okM k → some k ≠ row) : U w1 base g okM f p o :=
  h.keep (hg.block g h.lt h1) (fun k hk hl => hg.block k hl (h2 k hk.1))
/-- An own row of objects, laid open. -/
theorem S_open {w : World} {base g c n : Nat} {ok : Nat → Prop} {l : List S38} (h : Kd.S k38 38 w base ok (.slice (some ⟨g, 0, none⟩) n c) l) :
    ∃ f : Nat → Nat, ∀ p : Int, 0 ≤ p → p < l.length → U w base g (fun k => ok k ∧ k ≠ g) f p (rd_T38 l p) := by
  obtain ⟨f, hR⟩ := h
  refine ⟨f, fun p h0 h1 => ?_⟩
  have hn := (Kd.R_reads' hR).1
  rw [List.length_zipIdx] at hn
  obtain ⟨ce, hcl, hM, hcc, _⟩ := Kd.R_elem hR (z38, p.toNat) p h0 (by omega)
  have e : l.zipIdx.getD p.toNat (z38, p.toNat) = (rd_T38 l p, p.toNat) := by
    have h2 : p.toNat < l.length := by omega
    rw [List.getD_eq_getElem?_getD, List.getElem?_zipIdx, Nat.zero_add, List.getElem?_eq_getElem h2]
    simp [rd_T38, List.getD_eq_getElem?_getD, List.getElem?_eq_getElem h2]
  rw [e] at hM
  obtain ⟨v2, rfl, hv⟩ := k38_openM (show k38.M w base (fun k => (ok k ∧ k ≠ g) ∧ f k = p.toNat) (rd_T38 l p) ce from hM)
  obtain ⟨A2, c2, rfl⟩ := Kd.R_slice hv
  exact ⟨A2, c2, hcc 0 _ rfl, hcc 1 _ rfl, hcc 2 _ rfl, hv⟩
/-- The answer of collecting: a heap of its own and a list of its own, apart from each other. -/
structure OwnM (w : World) (base : Nat) (A0 : Option Addr) (c0 : Nat) (A1 : Option Addr) (c1 : Nat) (A2 : Option Addr) (c2 : Nat) (A3 : Option Addr) (c3 : Nat) (E : Option Addr) (e : Nat) (h : Hp) (m : List Int) : Prop where
  s0 : Kd.S k38 38 w base (fun k => some k ≠ (Value.slice A1 h.r.length c1).ownBlock ∧ some k ≠ (Value.slice E m.length e).ownBlock) (.slice A0 h.o.length c0) h.o
  s1 : Kd.R (Kd.int .i64) 3 w base (fun k => some k ≠ (Value.slice E m.length e).ownBlock) (.slice A1 h.r.length c1) h.r
  s2 : Kd.R k60 60 w base (fun k => some k ≠ (Value.slice A3 h.d.length c3).ownBlock) (.slice A2 h.w.length c2) h.w
  s3 : Kd.R k60 60 w base (fun k => some k ≠ (Value.slice A2 h.w.length c2).ownBlock) (.slice A3 h.d.length c3) h.d
  m : Kd.R (Kd.int .i64) 3 w base (fun _ => True) (.slice E m.length e) m
theorem OwnM.below {w w1 : World} {base : Nat} {A0 A1 A2 A3 E : Option Addr} {c0 c1 c2 c3 e : Nat} {h : Hp} {m : List Int} (ho : OwnM w base A0 c0 A1 c1 A2 c2 A3 c3 E e h m) (hb : Below w.heap.size w w1) : OwnM w1 base A0 c0 A1 c1 A2 c2 A3 c3 E e h m :=
  ⟨Kd.S_below ho.s0 hb, Kd.R_below ho.s1 hb, Kd.R_below ho.s2 hb, Kd.R_below ho.s3 hb, Kd.R_below ho.m hb⟩
theorem OwnM.own {w : World} {base : Nat} {A0 A1 A2 A3 E : Option Addr} {c0 c1 c2 c3 e : Nat} {h : Hp} {m : List Int} (ho : OwnM w base A0 c0 A1 c1 A2 c2 A3 c3 E e h m) : OwnH w base A0 c0 A1 c1 A2 c2 A3 c3 h.o h.r h.w h.d :=
  ⟨Kd.S_mono ho.s0 (fun _ hk => hk.1), Kd.R_mono ho.s1 (fun _ _ => trivial), ho.s2, ho.s3⟩
end Go.Proofs.Ytigjhfijkdlldaa.H
