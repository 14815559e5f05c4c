/- Small words for walks by hand: boxes, indexes, lists. -/
import Derived.Test.YtigjhfijkdlldaaScoT
namespace Go.Proofs.Ytigjhfijkdlldaa.H
open Go.RowKit Go.Proofs.YtigjhfijkdlldaaW.PrintWords Go.Proofs.YtigjhfijkdlldaaW.PrintLast Go.Proofs.YtigjhfijkdlldaaW.PrintMore Go.Proofs.Ytigjhfijkdlldaa.Q
theorem box1 {w : World} {g t : Nat} {a : Value} (h : w.heap[g]? = some (.cells #[a] t (0, 0))) : w.cell? ⟨g, 0, none⟩ = some a ∧ w.frozen? ⟨g, 0, none⟩ = false := ⟨(bcl h 0).trans rfl, bfz h 0⟩
theorem box2 {w : World} {g t : Nat} {a b : Value} (h : w.heap[g]? = some (.cells #[a, b] t (0, 0))) :
    w.cell? ⟨g, 0, none⟩ = some a ∧ w.cell? ⟨g, 1, none⟩ = some b := ⟨(bcl h 0).trans rfl, (bcl h 1).trans rfl⟩
theorem box3 {w : World} {g t : Nat} {a b c : Value} (h : w.heap[g]? = some (.cells #[a, b, c] t (0, 0))) :
    w.cell? ⟨g, 0, none⟩ = some a ∧ w.cell? ⟨g, 1, none⟩ = some b ∧ w.cell? ⟨g, 2, none⟩ = some c :=
  ⟨(bcl h 0).trans rfl, (bcl h 1).trans rfl, (bcl h 2).trans rfl⟩
theorem box4 {w : World} {g t : Nat} {a b c d : Value} (h : w.heap[g]? = some (.cells #[a, b, c, d] t (0, 0))) :
    w.cell? ⟨g, 0, none⟩ = some a ∧ w.cell? ⟨g, 1, none⟩ = some b ∧ w.cell? ⟨g, 2, none⟩ = some c ∧ w.cell? ⟨g, 3, none⟩ = some d :=
  ⟨(bcl h 0).trans rfl, (bcl h 1).trans rfl, (bcl h 2).trans rfl, (bcl h 3).trans rfl⟩
theorem blk_new1 (w : World) (o o' : Obj) : ((w.alloc o).alloc o').heap[w.heap.size + 1]? = some o' := by have := blk_new (w.alloc o) o'; simpa using this
/-- x: a counter of so many. -/
theorem all_take_succ {α : Type} (l : List α) (p : α → Bool) (d : α) (x : Int) (h0 : 0 ≤ x) (h1 : x < l.length) : (l.take (x + 1).toNat).all p = ((l.take x.toNat).all p && p (l.getD x.toNat d)) := by
  have e : (x + 1).toNat = x.toNat + 1 := by omega
  have h2 : x.toNat < l.length := by omega
  rw [e, List.take_succ_eq_append_getElem h2, List.all_append]
  simp [List.getD_eq_getElem?_getD, List.getElem?_eq_getElem h2]
theorem all_fails {α : Type} (l : List α) (p : α → Bool) (d : α) (x : Int) (h0 : 0 ≤ x) (h1 : x < l.length) (h : p (l.getD x.toNat d) = false) : l.all p = false := by
  have h2 : x.toNat < l.length := by omega
  rw [List.all_eq_false]
  refine ⟨l[x.toNat], List.getElem_mem h2, ?_⟩
  rw [List.getD_eq_getElem?_getD, List.getElem?_eq_getElem h2] at h
  simpa using h
theorem take_all {α : Type} (l : List α) (x : Int) (h : x = l.length) : l.take x.toNat = l := List.take_of_length_le (by omega)
theorem wrap_succ (x : Int) (h0 : 0 ≤ x) (h1 : x < 9223372036854775807) : wrap64 (x + 1) = x + 1 := by unfold wrap64; omega
end Go.Proofs.Ytigjhfijkdlldaa.H
