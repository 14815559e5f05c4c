/- Words for regions in which rows are made beside each other. -/
import Derived.Test.YtigjhfijkdlldaaScoV
namespace Go.Proofs.Ytigjhfijkdlldaa.H
open Go.RowKit Go.Proofs.YtigjhfijkdlldaaW.PrintWords Go.Proofs.YtigjhfijkdlldaaW.PrintLast Go.Proofs.YtigjhfijkdlldaaW.PrintMore Go.Proofs.Ytigjhfijkdlldaa.Q
set_option linter.unusedVariables false
/-- A row whose elements lead to nothing, beside one that has grown. -/
theorem R_beside {α : Type} {d : Kd α} {e base : Nat} {W w1 : World} {u v : Value} {xs : List α} (hE : d.E = []) (h : d.R e W base (fun _ => True) v xs) (hg : W.grownBy w1 u.ownBlock) (hne : NeRow v u) : d.R e w1 base (fun _ => True) v xs :=
  Kd.R_mono (Kd.R_step (Kd.R_tight hE h) (fun k hk hl => hg.block k hl (fun e => hne k hk.symm e.symm))) (fun _ _ => trivial)
theorem NeRow_new {v u : Value} {n : Nat} (hv : ∀ k, v.ownBlock = some k → k < n) (hu : ∃ b, u.ownBlock = some b ∧ n ≤ b) : NeRow v u := fun k hk hk' => by
  obtain ⟨b, hb, hn⟩ := hu
  rw [hb] at hk'
  injection hk' with e
  have := hv k hk
  omega
theorem NeRow_after {v u u' : Value} {n : Nat} (h : NeRow v u) (hv : ∀ k, v.ownBlock = some k → k < n) (hat : u'.ownBlock = u.ownBlock ∨ ∃ b, u'.ownBlock = some b ∧ n ≤ b) : NeRow v u' := by
  rcases hat with e | hu
  · intro k hk hk'; rw [e] at hk'; exact h k hk hk'
  · exact NeRow_new hv hu
section
variable {P : Program} {ops : Array Oper} {o : Oper} {a : Act} {Q : Exit → Act → World → Prop} {Kc : Act → World → Prop} {α : Type}
/-- []T{} -/
theorem lit0_step (d : Kd α) {W : World} (base e : Nat) (hw : Region.wanted o (yielded ops a.tmps) = true) {N : Tmp} (hd : o.dst = some N)
    (hrun : (execOp a.eval o).run P W = .ok (.value (.slice (some ⟨W.heap.size, 0, none⟩) 0 0)) (W.alloc (.cells #[] e (0, 0)))) (hb : base ≤ W.heap.size)
    (h : ∀ u w1, d.R e w1 base (fun _ => True) u [] → Below W.heap.size W w1 → (∃ b, u.ownBlock = some b ∧ W.heap.size ≤ b) → Kc (a.put o.dst u) w1) : if Region.wanted o (yielded ops a.tmps) = true then Oper.wp P o a W Kc Q else Kc (a.put o.dst undef) W := by
  refine Kd.R_lit_step d (w0 := W) W.heap.size e hw hd (xs := []) (inner := []) (ok := fun _ => True) (okp := fun _ => True) hrun (Reps.none _ _) (fun _ hk => hk) trivial (Below.refl _ _) (Nat.le_refl _) (by simp) ?_
  intro v1 w1 hr hb1 _ hnew
  exact h v1 w1 (Kd.R_lower hr hb) hb1 hnew
/-- append(u, ys...), u empty and one's own. -/
theorem app0_step (d : Kd α) {w0 W : World} (base : Nat) (hw : Region.wanted o (yielded ops a.tmps) = true) (s x : Operand) (t e : TypeId) (z : Value) (bytes : Nat)
    (ho : o.op = .call { callee := .builtin .append, args := #[s, x], argTypes := #[t, t] })
    (ht : P.underlying t = some (.slice e)) (hinfo : (P.info? e).map (fun i => (i.zero, i.size, i.bytes)) = some (some z, d.sz, bytes)) (hz : z.cells.size = d.sz) (hs0 : 0 < d.sz) (hb0 : 0 < bytes)
    (v : Value) (ys : List α) (A : Option Addr) (c : Nat) (hs : a.eval s = v) (hx : a.eval x = .slice A ys.length c)
    (HO : d.R e W base (fun _ => True) v []) (HR : d.C W A ys.length ys) (hKM : ∀ x cs, d.K W x cs → d.M W base (fun _ => False) x cs)
    (HB : Below base w0 W) (hbase : base ≤ W.heap.size) (hl : ys.length * bytes ≤ 140737488355328)
    (h : ∀ v1 w1, d.R e w1 base (fun _ => True) v1 ys → Below base w0 w1 → W.grownBy w1 v.ownBlock → (v1.ownBlock = v.ownBlock ∨ ∃ b, v1.ownBlock = some b ∧ W.heap.size ≤ b) → Kc (a.put o.dst v1) w1) :
    if Region.wanted o (yielded ops a.tmps) = true then Oper.wp P o a W Kc Q else Kc (a.put o.dst undef) W := by
  refine Kd.R_append_rows_step d base hw s x t e z bytes ho ht hinfo hz hs0 hb0 v [] ys A ys.length c (fun _ => True) (fun _ => False) hs hx HO HR hKM (fun _ hk => hk.elim) (fun _ _ => trivial) HB hbase (by simpa using hl) ?_
  intro v1 w1 hr
  exact h v1 w1 hr
end
end Go.Proofs.Ytigjhfijkdlldaa.H
