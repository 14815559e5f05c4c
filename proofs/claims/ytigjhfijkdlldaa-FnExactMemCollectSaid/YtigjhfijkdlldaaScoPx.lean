/- Lists of watches that came in or are one's own; a telling of the spec's under way. -/
import Derived.Test.YtigjhfijkdlldaaScoVd
import Derived.Test.YtigjhfijkdlldaaScoPw
namespace Go.Proofs.Ytigjhfijkdlldaa.H
open Go.RowKit Go.Proofs.YtigjhfijkdlldaaW.PrintWords Go.Proofs.YtigjhfijkdlldaaW.PrintLast Go.Proofs.YtigjhfijkdlldaaW.PrintMore Go.Proofs.Ytigjhfijkdlldaa.Q
set_option linter.unusedVariables false
/-- A list of watches that came in with w, or was made since. -/
structure RD (w w' : World) (A : Option Addr) (m : List S60) (c : Nat) : Prop where
  le : m.length ≤ c
  r : Kd.C k60 w A m.length m ∨ Kd.R k60 60 w' w.heap.size (fun _ => True) (.slice A m.length c) m
section
variable {w w1 w2 : World} {A : Option Addr} {m : List S60} {c : Nat}
theorem RD.now (h : RD w w1 A m c) (hb : Below w.heap.size w w1) : Kd.C k60 w1 A m.length m := h.r.elim (fun h => Kd.C_below h hb) (fun h => (Kd.R_reads' h).2.2)
theorem RD.below (h : RD w w1 A m c) (hb : Below w1.heap.size w1 w2) : RD w w2 A m c := ⟨h.le, h.r.elim .inl (fun h => .inr (Kd.R_below h hb))⟩
theorem RD.set (h : RD w w1 A m c) {g : Nat} {cells : Array Value} (hb : w1.heap[g]? = some (.cells cells 28 (0, 0))) (j : Nat) (u : Value) : RD w (w1.setCell ⟨g, j, none⟩ u) A m c := ⟨h.le, h.r.elim .inl (fun h => .inr (Kd.R_set h hb (k60_ap 28 (by decide)) j u))⟩
theorem RD.kept (h : RD w w1 A m c) {v : Value} {x : List Int} {base : Nat} {ok : Nat → Prop} (hv : (Kd.int .i64).R 3 w1 base ok v x) (hk : Kept w1 w2 (fun k => some k = v.ownBlock)) : RD w w2 A m c :=
  ⟨h.le, h.r.elim .inl (fun h => .inr (Kd.R_mono (Kd.R_step (Kd.R_bound h) (fun k hk2 hl => hk.2 k hl (fun e => by
    obtain ⟨_, _, _, q, hq, cells, hc⟩ := hk2
    obtain ⟨cs, hcs⟩ := Kd.R_typed hv k e.symm
    rw [hc] at hcs
    injection hcs with hcs
    injection hcs with _ h3 _
    rw [h3] at hq
    exact k60_ap 3 (by decide) 3 hq rfl))) (fun _ _ => trivial)))⟩
theorem RD.after (h : RD w w1 A m c) (hb : Below w.heap.size w w1) {v : Value} {x : List Int} {ok : Nat → Prop} (hv : (Kd.int .i64).R 3 w1 w.heap.size ok v x) : ∀ W, Kept w1 W (fun k => some k = v.ownBlock) → Kd.C k60 W A m.length m := fun W hk => by
  rcases h.r with h1 | h1
  · exact Kd.C_kept_came k60_heap h1 hb (fun k hs => Kd.R_base hv k hs.symm) W hk
  · rcases (h.kept hv hk).r with h2 | h2
    · exact Kd.C_kept_came k60_heap h2 hb (fun k hs => Kd.R_base hv k hs.symm) W hk
    · exact (Kd.R_reads' h2).2.2
theorem RD.own (h : Kd.R k60 60 w1 w.heap.size (fun _ => True) (.slice A m.length c) m) : RD w w1 A m c := ⟨(Kd.R_reads' h).2.1, .inr h⟩
end
structure TK (w : World) (X : Array Value) (W D : Option Addr) (cw cd : Nat) (m2 m3 : List S60) (K : Option Addr) (ck : Nat) (x : List Int) (w' : World) : Prop where
  b : Below w.heap.size w w'
  yh : w'.heap[w.heap.size]? = some (.cells X 28 (0, 0))
  yz : w'.heap[w.heap.size + 1]? = some (.cells #[.slice none 0 0, .slice none 0 0, .slice none 0 0, .slice none 0 0] 28 (0, 0))
  rw : RD w w' W m2 cw
  rd : RD w w' D m3 cd
  kn : Kd.R (Kd.int .i64) 3 w' w.heap.size (fun _ => True) (.slice K x.length ck) x
section
variable {w w1 w2 : World} {X : Array Value} {W D K K2 : Option Addr} {cw cd ck ck2 : Nat} {m2 m3 : List S60} {x x2 : List Int}
theorem TK.below (h : TK w X W D cw cd m2 m3 K ck x w1) (hb : Below w1.heap.size w1 w2) : TK w X W D cw cd m2 m3 K ck x w2 :=
  ⟨bst h.b hb, bbl h.yh hb, bbl h.yz hb, h.rw.below hb, h.rd.below hb, Kd.R_below h.kn hb⟩
theorem TK.set (h : TK w X W D cw cd m2 m3 K ck x w1) (j : Nat) (u : Value) (X' : Array Value) (e : X.setIfInBounds j u = X') : TK w X' W D cw cd m2 m3 K ck x (w1.setCell ⟨w.heap.size, j, none⟩ u) :=
  ⟨below_set h.b (Nat.le_refl _), blk_put h.yh j u e, blk_far h.yz (p := ⟨w.heap.size, j, none⟩) (show w.heap.size + 1 ≠ w.heap.size by omega) u, h.rw.set h.yh j u, h.rd.set h.yh j u, Kd.R_set h.kn h.yh (int_ap 28 (by decide)) j u⟩
theorem kept_blk {t : Nat} {g : Nat} {cells : Array Value} {v : Value} {base : Nat} {ok : Nat → Prop} (hb : w1.heap[g]? = some (.cells cells t (0, 0))) (hv : (Kd.int .i64).R 3 w1 base ok v x) (ht : t ≠ 3) (hk : Kept w1 w2 (fun k => some k = v.ownBlock)) : w2.heap[g]? = some (.cells cells t (0, 0)) :=
  (hk.2 g (blk_lt hb) (fun e => by obtain ⟨cs, hcs⟩ := Kd.R_typed hv g e.symm; exact blk_ne hb hcs ht rfl)).trans hb
theorem TK.known (h : TK w X W D cw cd m2 m3 K ck x w1) (hb : Below w.heap.size w w2) (hk : Kept w1 w2 (fun k => some k = (Value.slice K x.length ck).ownBlock)) (hn : Kd.R (Kd.int .i64) 3 w2 w.heap.size (fun _ => True) (.slice K2 x2.length ck2) x2) : TK w X W D cw cd m2 m3 K2 ck2 x2 w2 :=
  ⟨hb, kept_blk h.yh h.kn (by decide) hk, kept_blk h.yz h.kn (by decide) hk, h.rw.kept h.kn hk, h.rd.kept h.kn hk, hn⟩
end
end Go.Proofs.Ytigjhfijkdlldaa.H
