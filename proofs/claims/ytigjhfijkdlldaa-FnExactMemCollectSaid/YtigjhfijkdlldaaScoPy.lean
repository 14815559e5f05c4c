/- The spec's moving, in memory: what holds while a new heap is laid list by list. -/
import Derived.Test.YtigjhfijkdlldaaScoVd
import Derived.Test.YtigjhfijkdlldaaScoPu
namespace Go.Proofs.Ytigjhfijkdlldaa.H
open Go.RowKit Go.Proofs.YtigjhfijkdlldaaW.PrintWords Go.Proofs.YtigjhfijkdlldaaW.PrintLast Go.Proofs.YtigjhfijkdlldaaW.PrintMore Go.Proofs.Ytigjhfijkdlldaa.Q
set_option linter.unusedVariables false
/-- v: the world from which on all is new; bg, bo: the boxes of the heap that is moved and of the new one; n1, n2: the heap's size when objects, and roots, are begun. -/
structure NS (v : World) (bg bo : Nat) (GX cs : Array Value) (n1 n2 : Nat) (M : Option Addr) (em : Nat) (mv : List Int) (V : Value) (objs : List S38) (w' : World) : Prop where
  b : Below v.heap.size v w'
  g : w'.heap[bg]? = some (.cells GX 28 (0, 0))
  o : w'.heap[bo]? = some (.cells cs 28 (0, 0))
  m : Kd.R (Kd.int .i64) 3 w' v.heap.size (fun k => k < n1) (.slice M mv.length em) mv
  s : Kd.S k38 38 w' v.heap.size (fun k => n1 ≤ k ∧ k < n2) V objs
section
variable {v w1 w2 : World} {bg bo : Nat} {GX cs : Array Value} {n1 n2 n3 : Nat} {M : Option Addr} {em : Nat} {mv : List Int} {V : Value} {objs : List S38}
theorem NS.below (h : NS v bg bo GX cs n1 n2 M em mv V objs w1) (hb : Below w1.heap.size w1 w2) : NS v bg bo GX cs n1 n2 M em mv V objs w2 :=
  ⟨bst h.b hb, bbl h.g hb, bbl h.o hb, Kd.R_below h.m hb, Kd.S_below h.s hb⟩
theorem NS.set (h : NS v bg bo GX cs n1 n2 M em mv V objs w1) (hbo : v.heap.size ≤ bo) (hne : bg ≠ bo) (j : Nat) (u : Value) (cs' : Array Value) (e : cs.setIfInBounds j u = cs') : NS v bg bo GX cs' n1 n2 M em mv V objs (w1.setCell ⟨bo, j, none⟩ u) :=
  ⟨below_set h.b hbo, blk_far h.g (p := ⟨bo, j, none⟩) hne u, blk_put h.o j u e, Kd.R_set h.m h.o (int_ap 28 (by decide)) j u, Kd.S_set h.s h.o (k38_ap 28 (by decide) (by decide)) j u⟩
/-- A row of numbers that is none of these has grown. -/
theorem NS.grown (h : NS v bg bo GX cs n1 n2 M em mv V objs w1) {u : Value} (hg : w1.grownBy w2 u.ownBlock) (hb : Below v.heap.size v w2) (hu : ∀ k, u.ownBlock = some k → n2 ≤ k ∧ n1 ≤ k ∧ ∃ cells, w1.heap[k]? = some (.cells cells 3 (0, 0))) : NS v bg bo GX cs n1 n2 M em mv V objs w2 := by
  have hno : ∀ {k : Nat} {cs : Array Value} {t : TypeId}, w1.heap[k]? = some (.cells cs t (0, 0)) → t ≠ 3 → some k ≠ u.ownBlock := fun hk h3 e => by
    obtain ⟨_, _, cells, hc⟩ := hu _ e.symm
    exact blk_ne hk hc h3 rfl
  exact ⟨hb, blk_grown h.g hg (hno h.g (by decide)), blk_grown h.o hg (hno h.o (by decide)), Kd.R_step h.m (fun k hk hl => hg.block k hl (fun e => by have := (hu k e.symm).2.1; omega)), Kd.S_step h.s (fun k hk hl => hg.block k hl (fun e => by have := (hu k e.symm).1; omega))⟩
/-- An object is laid behind the others; the box is stored into. -/
theorem NS.push (h : NS v bg bo GX cs n1 n2 M em mv V objs w1) (hbo : v.heap.size ≤ bo) (hne : bg ≠ bo) {V2 : Value} {objs2 : List S38} (hs : Kd.S k38 38 w2 v.heap.size (fun k => n1 ≤ k ∧ k < n3) V2 objs2) (hb : Below v.heap.size v w2) (hg : w1.grownBy w2 V.ownBlock) (cs' : Array Value) (e : cs.setIfInBounds 0 V2 = cs') :
    NS v bg bo GX cs' n1 n3 M em mv V2 objs2 (w2.setCell ⟨bo, 0, none⟩ V2) := by
  have hno : ∀ {k : Nat} {cs : Array Value} {t : TypeId}, w1.heap[k]? = some (.cells cs t (0, 0)) → (38 : Nat) ≠ t → some k ≠ V.ownBlock := fun hk h3 => Kd.S_ne h.s hk h3
  have ho2 := blk_grown h.o hg (hno h.o (by decide))
  have ty := Kd.S_typed h.s
  exact ⟨below_set hb hbo, blk_far (blk_grown h.g hg (hno h.g (by decide))) (p := ⟨bo, 0, none⟩) hne _, blk_put ho2 0 _ e, Kd.R_set (Kd.R_over' h.m ty (int_ap 38 (by decide)) hg) ho2 (int_ap 28 (by decide)) 0 _, Kd.S_set hs ho2 (k38_ap 28 (by decide) (by decide)) 0 _⟩
/-- A store into a row of numbers that is none of these. -/
theorem NS.far (h : NS v bg bo GX cs n1 n2 M em mv V objs w1) {b : Nat} {cells : Array Value} (hv : v.heap.size ≤ b) (ht : w1.heap[b]? = some (.cells cells 3 (0, 0))) (h1 : n1 ≤ b) (h2 : n2 ≤ b) (j : Nat) (u : Value) : NS v bg bo GX cs n1 n2 M em mv V objs (w1.setCell ⟨b, j, none⟩ u) :=
  ⟨below_set h.b hv, blk_far h.g (p := ⟨b, j, none⟩) (blk_ne h.g ht (by decide)) u, blk_far h.o (p := ⟨b, j, none⟩) (blk_ne h.o ht (by decide)) u, Kd.R_far (p := ⟨b, j, none⟩) h.m (fun k hk e => by have e2 : k = b := e; omega) u, Kd.S_far (p := ⟨b, j, none⟩) h.s (fun k hk e => by have e2 : k = b := e; omega) u⟩
end
theorem S_upto {w : World} {base n : Nat} {V : Value} {objs : List S38} {ok : Nat → Prop} (h : Kd.S k38 38 w base (fun k => n ≤ k ∧ ok k) V objs) : Kd.S k38 38 w base (fun k => n ≤ k ∧ k < w.heap.size) V objs :=
  Kd.S_mono (Kd.S_bound h) (fun k hk => ⟨hk.1.1, hk.2.2.1⟩)
end Go.Proofs.Ytigjhfijkdlldaa.H
