/- Words for walks by hand: stores, rows laid anew, boxes of four cells. -/
import Derived.Test.YtigjhfijkdlldaaScoC
import Derived.Test.YtigjhfijkdlldaaScoPc
namespace Go.Proofs.Ytigjhfijkdlldaa.H
open Go.RowKit Go.Proofs.YtigjhfijkdlldaaW.PrintWords Go.Proofs.YtigjhfijkdlldaaW.PrintLast Go.Proofs.YtigjhfijkdlldaaW.PrintMore Go.Proofs.Ytigjhfijkdlldaa.Q
set_option linter.unusedVariables false
set_option linter.unusedSimpArgs false
/-- Sizes that memory bears with ease. -/
structure Lim (l0 : List S38) (l1 : List Int) (l2 l3 : List S60) : Prop where
  o : l0.length ≤ 1048576
  f : ∀ x ∈ l0, x.f2.length ≤ 1048576
  r : l1.length ≤ 1048576
  w : l2.length ≤ 1048576
  d : l3.length ≤ 1048576
theorem size_set (w : World) (p : Addr) (u : Value) : (w.setCell p u).heap.size = w.heap.size := by simp [World.setCell]
theorem blk_new3 (w : World) (o o' o2 : Obj) : (((w.alloc o).alloc o').alloc o2).heap[w.heap.size + 1 + 1]? = some o2 := by
  have h1 := blk_new ((w.alloc o).alloc o') o2
  rwa [show ((w.alloc o).alloc o').heap.size = w.heap.size + 1 + 1 from (Array.size_push ..).trans (congrArg (· + 1) (Array.size_push ..))] at h1
section
variable {P : Program} {ops : Array Oper} {rest : List Oper} {o : Oper} {a : Act} {Q : Exit → Act → World → Prop} {α : Type}
/-- A store: the world behind it is a letter. -/
theorem skip_event {W W1 : World} (hgd : o.guard = none) (hd : o.dst = none) (hrun : (execOp a.eval o).run P W = .ok .skip W1) (h : wpList P ops Q rest a W1) : wpList P ops Q (o :: rest) a W := by
  refine wpList_plain hgd fun K hK => ?_
  unfold Oper.wp
  rw [hrun]
  have h2 := hK a W1 h
  show K (a.put o.dst undef) W1
  rw [hd]
  exact h2
/-- append(nil, ys...): a new row. -/
theorem copy_rows (d : Kd α) {W : World} (hgd : o.guard = none) (s x : Operand) (t e : TypeId) (z : Value) (bytes : Nat)
    (ho : o.op = .call { callee := .builtin .append, args := #[s, x], argTypes := #[t, t] })
    (ht : P.underlying t = some (.slice e)) (hinfo : (P.info? e).map (fun i => (i.zero, i.size, i.bytes)) = some (some z, d.sz, bytes)) (hz : z.cells.size = d.sz) (hs0 : 0 < d.sz) (hb0 : 0 < bytes)
    (ys : List α) (A : Option Addr) (c : Nat) (hs : a.eval s = .slice none 0 0) (hx : a.eval x = .slice A ys.length c)
    (HR : d.C W A ys.length ys) (hKM : ∀ x cs, d.K W x cs → d.M W W.heap.size (fun _ => False) x cs) (hl : ys.length * bytes ≤ 140737488355328)
    (h : ∀ v1 w1, d.R e w1 W.heap.size (fun _ => True) v1 ys → Below W.heap.size W w1 → wpList P ops Q rest (a.put o.dst v1) w1) : wpList P ops Q (o :: rest) a W := by
  refine Kd.R_append_rows d (w0 := W) W.heap.size hgd s x t e z bytes ho ht hinfo hz hs0 hb0 (.slice none 0 0) [] ys A ys.length c (fun _ => True) (fun _ => False) hs hx (Kd.R_nil _ _ _ _ _) HR hKM (fun _ hk => hk.elim) (fun _ _ => trivial) (Below.refl _ _) (Nat.le_refl _) (by simpa using hl) ?_
  intro v1 w1 hr hb _ _
  exact h v1 w1 hr hb
end
theorem k38_ap (t : Nat) (h : (38 : Nat) ≠ t) (h3 : (3 : Nat) ≠ t) : ∀ q, q ∈ 38 :: k38.E → q ≠ t := fun q hq => by
  rcases List.mem_cons.1 hq with rfl | h1
  · exact h
  · rcases List.mem_cons.1 (show q ∈ [3] from h1) with rfl | h2
    · exact h3
    · cases h2
theorem int_ap (t : Nat) (h : (3 : Nat) ≠ t) : ∀ q, q ∈ 3 :: (Kd.int .i64).E → q ≠ t := fun q hq => by
  rcases List.mem_cons.1 hq with rfl | h1
  · exact h
  · cases h1
theorem k60_ap (t : Nat) (h : (60 : Nat) ≠ t) : ∀ q, q ∈ 60 :: k60.E → q ≠ t := fun q hq => by
  rcases List.mem_cons.1 hq with rfl | h1
  · exact h
  · cases (show q ∈ [] from h1)
/-- A row laid in a world of so many blocks. -/
theorem R_fresh {α : Type} {d : Kd α} {e : Nat} {W w1 : World} {base : Nat} {v : Value} {xs : List α} (h : d.R e w1 W.heap.size (fun _ => True) v xs) (hb : base ≤ W.heap.size) : d.R e w1 base (fun k => W.heap.size ≤ k ∧ k < w1.heap.size) v xs :=
  Kd.R_lower (Kd.R_mono (Kd.R_bound h) (fun k hk => ⟨hk.2.1, hk.2.2.1⟩)) hb
/-- The four cells of a box set. -/
def set4 (w : World) (g : Nat) (a b c d : Value) : World := (((w.setCell ⟨g, 0, none⟩ a).setCell ⟨g, 1, none⟩ b).setCell ⟨g, 2, none⟩ c).setCell ⟨g, 3, none⟩ d
theorem set4_blk {w : World} {g : Nat} {a b c d p q r s : Value} (h : w.heap[g]? = some (.cells #[p, q, r, s] 28 (0, 0))) : (set4 w g a b c d).heap[g]? = some (.cells #[a, b, c, d] 28 (0, 0)) :=
  blk_put (blk_put (blk_put (blk_put h 0 _ rfl) 1 _ rfl) 2 _ rfl) 3 _ rfl
theorem set4_far {w : World} {g k : Nat} {a b c d : Value} {o : Obj} (h : w.heap[k]? = some o) (hne : k ≠ g) : (set4 w g a b c d).heap[k]? = some o := by
  have h1 : ∀ (w : World) (i : Nat) (u : Value), (w.setCell ⟨g, i, none⟩ u).heap[k]? = w.heap[k]? := fun w i u => Below.heap_setCell w ⟨g, i, none⟩ u k hne
  unfold set4
  rw [h1, h1, h1, h1]; exact h
theorem set4_R {α : Type} {dk : Kd α} {e base : Nat} {ok : Nat → Prop} {w : World} {v : Value} {xs : List α} {g : Nat} {cs : Array Value} {a b c d : Value} (h : dk.R e w base ok v xs) (hb : w.heap[g]? = some (.cells cs 28 (0, 0))) (ht : ∀ q, q ∈ e :: dk.E → q ≠ 28) : dk.R e (set4 w g a b c d) base ok v xs :=
  Kd.R_set (Kd.R_set (Kd.R_set (Kd.R_set h hb ht 0 a) (blk_set hb 0 a) ht 1 b) (blk_set (blk_set hb 0 a) 1 b) ht 2 c) (blk_set (blk_set (blk_set hb 0 a) 1 b) 2 c) ht 3 d
theorem set4_S {w : World} {base : Nat} {ok : Nat → Prop} {v : Value} {xs : List S38} {g : Nat} {cs : Array Value} {a b c d : Value} (h : Kd.S k38 38 w base ok v xs) (hb : w.heap[g]? = some (.cells cs 28 (0, 0))) : Kd.S k38 38 (set4 w g a b c d) base ok v xs :=
  have ht := k38_ap 28 (by decide) (by decide)
  Kd.S_set (Kd.S_set (Kd.S_set (Kd.S_set h hb ht 0 a) (blk_set hb 0 a) ht 1 b) (blk_set (blk_set hb 0 a) 1 b) ht 2 c) (blk_set (blk_set (blk_set hb 0 a) 1 b) 2 c) ht 3 d
theorem set4_below {w w1 : World} {g : Nat} {a b c d : Value} (h : Below w.heap.size w w1) (hg : w.heap.size ≤ g) : Below w.heap.size w (set4 w1 g a b c d) := below_set (below_set (below_set (below_set h hg) hg) hg) hg
/-- The four lists of a copy, laid one behind the other. -/
theorem own_laid {w : World} {base : Nat} {A0 A1 A2 A3 : Option Addr} {c0 c1 c2 c3 : Nat} {l0 : List S38} {l1 : List Int} {l2 l3 : List S60} {n0 n2 : Nat} {ok1 ok2 ok3 : Nat → Prop} (h0 : Kd.S k38 38 w base (fun k => k < n0) (.slice A0 l0.length c0) l0)
    (h1 : Kd.R (Kd.int .i64) 3 w base ok1 (.slice A1 l1.length c1) l1) (h2 : Kd.R k60 60 w base ok2 (.slice A2 l2.length c2) l2) (h3 : Kd.R k60 60 w base ok3 (.slice A3 l3.length c3) l3)
    (k1 : ∀ k, ok1 k → n0 ≤ k) (k2 : ∀ k, ok2 k → k < n2) (k3 : ∀ k, ok3 k → n2 ≤ k) : OwnH w base A0 c0 A1 c1 A2 c2 A3 c3 l0 l1 l2 l3 :=
  ⟨Kd.S_mono h0 (fun k hk e => by have := k1 k (h1.1 k e.symm); omega), Kd.R_mono h1 (fun _ _ => trivial), Kd.R_mono h2 (fun k hk e => by have := k3 k (h3.1 k e.symm); have := k2 k hk; omega), Kd.R_mono h3 (fun k hk e => by have := k2 k (h2.1 k e.symm); have := k3 k hk; omega)⟩
end Go.Proofs.Ytigjhfijkdlldaa.H
