import Derived.Test.YtigjhfijkdlldaaProg
import Derived.Below
import Derived.Deep.Draws
import Derived.Deep.AppendLies
import Derived.Maps.AppendAt
import Derived.OwnWalk
import Derived.Laws.BytesArg
import Derived.Laws.MakeOwn
import Derived.Laws.OwnMore
import Derived.Deep.OwnRows
import Derived.Tactics
import Derived.Lib.ConvBytes
import Derived.Laws.Slices
import Derived.WalkKit
import Derived.KernelRfl
import Derived.RowKit3
import Derived.Deep.LoopGhost
import Derived.Deep.QuietTactic
import Derived.BigQuiet
import Derived.WideLaws
import Derived.Deep.DeepCutAuto
import Derived.Deep.CutBlock
import Derived.Deep.RegionHeld3
import Derived.Laws.Rows
import Derived.Lib.AppendStr
import Derived.ArgAppend
import Derived.Laws.IdiomCopy
import Derived.OrdersHeld
import Derived.Laws.BitsLemmas
import Derived.RowKit
import Derived.Test.YtigjhfijkdlldaaSplWWords
import Derived.Test.YtigjhfijkdlldaaSplWLast
import Derived.Test.YtigjhfijkdlldaaSplWMore
section
-- Made by a program of this session (wip/prt.sh, wip/fakes.py, wip/post.py) that calls the kit's print.py and packs what it wrote.
namespace Go.Proofs.Ytigjhfijkdlldaa.Q
open Go.RowKit Go.Proofs.YtigjhfijkdlldaaW.PrintWords Go.Proofs.YtigjhfijkdlldaaW.PrintLast Go.Proofs.YtigjhfijkdlldaaW.PrintMore
attribute [local go_sem] max2_int min2_int max_two min_two max_three min_three max_four min_four
set_option linter.unusedVariables false
set_option linter.unusedSimpArgs false




theorem info3 : (Try.prog.info? 3).map (fun i => (i.zero, i.size, i.bytes)) = some (some (.int .i64 0), 1, 8) := by kernel_rfl
theorem info9 : (Try.prog.info? 9).map (fun i => (i.zero, i.size, i.bytes)) = some (some (.string ⟨#[]⟩), 1, 16) := by kernel_rfl
theorem info38 : (Try.prog.info? 38).map (fun i => (i.zero, i.size, i.bytes)) = some (some (.agg #[(.int .i64 0), (.string ⟨#[]⟩), (.slice none 0 0)]), 3, 48) := by kernel_rfl
theorem info40 : (Try.prog.info? 40).map (fun i => (i.zero, i.size, i.bytes)) = some (some (.agg #[(.int .i64 0), (.int .i64 0), (.int .i64 0), (.int .i64 0), (.int .i64 0), (.string ⟨#[]⟩), (.slice none 0 0)]), 7, 80) := by kernel_rfl
theorem info60 : (Try.prog.info? 60).map (fun i => (i.zero, i.size, i.bytes)) = some (some (.agg #[(.int .i64 0), (.int .i64 0)]), 2, 16) := by kernel_rfl
-- the values' own types
/-! #### struct type 38 -/
structure S38 where
  f0 : Int
  f1 : ByteArray
  f2 : (List Int)
def z38 : S38 := ⟨(0 : Int), (⟨#[]⟩ : ByteArray), ([] : List Int)⟩
def k38 : Kd S38 := Kd.iso (Kd.pair (Kd.int .i64) (Kd.pair Kd.string (Kd.slice 3 (Kd.int .i64)))) (fun x : S38 => (x.f0, x.f1, x.f2))
theorem k38_open {w : World} {x : S38} {cs : List Value} (h : k38.K w x cs) : ∃ A2 c2, cs = [.int .i64 x.f0, .string x.f1, .slice A2 x.f2.length c2] ∧ x.f2.length ≤ c2 ∧ (Kd.int .i64).C w A2 x.f2.length x.f2 := by
  obtain ⟨_, _, rfl, rfl, ⟨_, _, rfl, rfl, ⟨A2, c2, rfl, l2, g2⟩⟩⟩ := h
  exact ⟨A2, c2, rfl, l2, g2⟩
theorem k38_openM {w : World} {base : Nat} {ok : Nat → Prop} {x : S38} {cs : List Value} (h : k38.M w base ok x cs) : ∃ v2, cs = [.int .i64 x.f0, .string x.f1, v2] ∧ (Kd.int .i64).R 3 w base ok v2 x.f2 := by
  obtain ⟨_, _, rfl, rfl, ⟨_, _, rfl, rfl, ⟨v2, rfl, g2⟩⟩⟩ := h
  exact ⟨v2, rfl, g2⟩
theorem k38_mkM (w : World) (base : Nat) (ok : Nat → Prop) (x : S38) {v2 : Value} (g2 : (Kd.int .i64).R 3 w base ok v2 x.f2) : k38.M w base ok x [.int .i64 x.f0, .string x.f1, v2] := ⟨[.int .i64 x.f0], [.string x.f1, v2], rfl, rfl, ⟨[.string x.f1], [v2], rfl, rfl, ⟨v2, rfl, g2⟩⟩⟩
def rd_T38 (xs : List S38) (i : Int) : S38 := xs.getD i.toNat z38
theorem at_T38 {w : World} {A : Option Addr} {n : Nat} {xs : List S38} (h : Kd.C k38 w A n xs) (i : Int) (h0 : 0 ≤ i) (h1 : i < n) : ∃ ad A2 c2, A = some ad ∧ w.cell? (ad.add (i.toNat * 3)) = some (.int .i64 (rd_T38 xs i).f0) ∧ w.cell? ⟨(ad.add (i.toNat * 3)).block, (ad.add (i.toNat * 3)).off + 1, none⟩ = some (.string (rd_T38 xs i).f1) ∧ w.cell? ⟨(ad.add (i.toNat * 3)).block, (ad.add (i.toNat * 3)).off + 2, none⟩ = some (.slice A2 (rd_T38 xs i).f2.length c2) ∧ (rd_T38 xs i).f2.length ≤ c2 ∧ (Kd.int .i64).C w A2 (rd_T38 xs i).f2.length (rd_T38 xs i).f2 := by
  obtain ⟨ad, c, e, _, hK, hc0⟩ := Kd.C_get h z38 i h0 h1
  have hc : ∀ j u, c[j]? = some u → w.cell? (ad.add (i.toNat * 3 + j)) = some u := hc0
  obtain ⟨A2, c2, rfl, l2, g2⟩ := k38_open hK
  exact ⟨ad, A2, c2, e, hc 0 _ rfl, by rw [← add_field _ _ 1 (by omega)]; exact hc 1 _ rfl, by rw [← add_field _ _ 2 (by omega)]; exact hc 2 _ rfl, l2, g2⟩

/-! #### struct type 60 -/
structure S60 where
  f0 : Int
  f1 : Int
def z60 : S60 := ⟨(0 : Int), (0 : Int)⟩
def k60 : Kd S60 := Kd.iso (Kd.pair (Kd.int .i64) (Kd.int .i64)) (fun x : S60 => (x.f0, x.f1))
theorem k60_heap : Kd.Heap k60 := Kd.heap_iso _ (Kd.heap_pair (Kd.heap_int .i64) (Kd.heap_int .i64))
theorem k60_open {w : World} {x : S60} {cs : List Value} (h : k60.K w x cs) : cs = [.int .i64 x.f0, .int .i64 x.f1] := by
  obtain ⟨_, _, rfl, rfl, rfl⟩ := h
  exact rfl
theorem k60_openM {w : World} {base : Nat} {ok : Nat → Prop} {x : S60} {cs : List Value} (h : k60.M w base ok x cs) : cs = [.int .i64 x.f0, .int .i64 x.f1] := by
  obtain ⟨_, _, rfl, rfl, rfl⟩ := h
  exact rfl
theorem k60_mkM (w : World) (base : Nat) (ok : Nat → Prop) (x : S60)  : k60.M w base ok x [.int .i64 x.f0, .int .i64 x.f1] := ⟨[.int .i64 x.f0], [.int .i64 x.f1], rfl, rfl, rfl⟩
def rd_T60 (xs : List S60) (i : Int) : S60 := xs.getD i.toNat z60
theorem at_T60 {w : World} {A : Option Addr} {n : Nat} {xs : List S60} (h : Kd.C k60 w A n xs) (i : Int) (h0 : 0 ≤ i) (h1 : i < n) : ∃ ad , A = some ad ∧ w.cell? (ad.add (i.toNat * 2)) = some (.int .i64 (rd_T60 xs i).f0) ∧ w.cell? ⟨(ad.add (i.toNat * 2)).block, (ad.add (i.toNat * 2)).off + 1, none⟩ = some (.int .i64 (rd_T60 xs i).f1) := by
  obtain ⟨ad, c, e, _, hK, hc0⟩ := Kd.C_get h z60 i h0 h1
  have hc : ∀ j u, c[j]? = some u → w.cell? (ad.add (i.toNat * 2 + j)) = some u := hc0
  obtain rfl := k60_open hK
  exact ⟨ad, e, hc 0 _ rfl, by rw [← add_field _ _ 1 (by omega)]; exact hc 1 _ rfl⟩

/-! #### struct type 40 -/
structure S40 where
  f0 : Int
  f1 : Int
  f2 : Int
  f3 : Int
  f4 : S38
def z40 : S40 := ⟨(0 : Int), (0 : Int), (0 : Int), (0 : Int), z38⟩
def k40 : Kd S40 := Kd.iso (Kd.pair (Kd.int .i64) (Kd.pair (Kd.int .i64) (Kd.pair (Kd.int .i64) (Kd.pair (Kd.int .i64) k38)))) (fun x : S40 => (x.f0, x.f1, x.f2, x.f3, x.f4))
theorem k40_open {w : World} {x : S40} {cs : List Value} (h : k40.K w x cs) : ∃ A6 c6, cs = [.int .i64 x.f0, .int .i64 x.f1, .int .i64 x.f2, .int .i64 x.f3, .int .i64 x.f4.f0, .string x.f4.f1, .slice A6 x.f4.f2.length c6] ∧ x.f4.f2.length ≤ c6 ∧ (Kd.int .i64).C w A6 x.f4.f2.length x.f4.f2 := by
  obtain ⟨_, _, rfl, rfl, ⟨_, _, rfl, rfl, ⟨_, _, rfl, rfl, ⟨_, _, rfl, rfl, s4⟩⟩⟩⟩ := h
  obtain ⟨A6, c6, rfl, l6, g6⟩ := k38_open s4
  exact ⟨A6, c6, rfl, l6, g6⟩
theorem k40_openM {w : World} {base : Nat} {ok : Nat → Prop} {x : S40} {cs : List Value} (h : k40.M w base ok x cs) : ∃ v6, cs = [.int .i64 x.f0, .int .i64 x.f1, .int .i64 x.f2, .int .i64 x.f3, .int .i64 x.f4.f0, .string x.f4.f1, v6] ∧ (Kd.int .i64).R 3 w base ok v6 x.f4.f2 := by
  obtain ⟨_, _, rfl, rfl, ⟨_, _, rfl, rfl, ⟨_, _, rfl, rfl, ⟨_, _, rfl, rfl, s4⟩⟩⟩⟩ := h
  obtain ⟨v6, rfl, g6⟩ := k38_openM s4
  exact ⟨v6, rfl, g6⟩
theorem k40_mkM (w : World) (base : Nat) (ok : Nat → Prop) (x : S40) {v6 : Value} (g6 : (Kd.int .i64).R 3 w base ok v6 x.f4.f2) : k40.M w base ok x [.int .i64 x.f0, .int .i64 x.f1, .int .i64 x.f2, .int .i64 x.f3, .int .i64 x.f4.f0, .string x.f4.f1, v6] := ⟨[.int .i64 x.f0], [.int .i64 x.f1, .int .i64 x.f2, .int .i64 x.f3, .int .i64 x.f4.f0, .string x.f4.f1, v6], rfl, rfl, ⟨[.int .i64 x.f1], [.int .i64 x.f2, .int .i64 x.f3, .int .i64 x.f4.f0, .string x.f4.f1, v6], rfl, rfl, ⟨[.int .i64 x.f2], [.int .i64 x.f3, .int .i64 x.f4.f0, .string x.f4.f1, v6], rfl, rfl, ⟨[.int .i64 x.f3], [.int .i64 x.f4.f0, .string x.f4.f1, v6], rfl, rfl, (k38_mkM w base ok x.f4 g6)⟩⟩⟩⟩
def rd_T40 (xs : List S40) (i : Int) : S40 := xs.getD i.toNat z40
theorem at_T40 {w : World} {A : Option Addr} {n : Nat} {xs : List S40} (h : Kd.C k40 w A n xs) (i : Int) (h0 : 0 ≤ i) (h1 : i < n) : ∃ ad A6 c6, A = some ad ∧ w.cell? (ad.add (i.toNat * 7)) = some (.int .i64 (rd_T40 xs i).f0) ∧ w.cell? ⟨(ad.add (i.toNat * 7)).block, (ad.add (i.toNat * 7)).off + 1, none⟩ = some (.int .i64 (rd_T40 xs i).f1) ∧ w.cell? ⟨(ad.add (i.toNat * 7)).block, (ad.add (i.toNat * 7)).off + 2, none⟩ = some (.int .i64 (rd_T40 xs i).f2) ∧ w.cell? ⟨(ad.add (i.toNat * 7)).block, (ad.add (i.toNat * 7)).off + 3, none⟩ = some (.int .i64 (rd_T40 xs i).f3) ∧ w.cell? ⟨(ad.add (i.toNat * 7)).block, (ad.add (i.toNat * 7)).off + 4, none⟩ = some (.int .i64 (rd_T40 xs i).f4.f0) ∧ w.cell? ⟨(ad.add (i.toNat * 7)).block, (ad.add (i.toNat * 7)).off + 5, none⟩ = some (.string (rd_T40 xs i).f4.f1) ∧ w.cell? ⟨(ad.add (i.toNat * 7)).block, (ad.add (i.toNat * 7)).off + 6, none⟩ = some (.slice A6 (rd_T40 xs i).f4.f2.length c6) ∧ (rd_T40 xs i).f4.f2.length ≤ c6 ∧ (Kd.int .i64).C w A6 (rd_T40 xs i).f4.f2.length (rd_T40 xs i).f4.f2 := by
  obtain ⟨ad, c, e, _, hK, hc0⟩ := Kd.C_get h z40 i h0 h1
  have hc : ∀ j u, c[j]? = some u → w.cell? (ad.add (i.toNat * 7 + j)) = some u := hc0
  obtain ⟨A6, c6, rfl, l6, g6⟩ := k40_open hK
  exact ⟨ad, A6, c6, e, hc 0 _ rfl, by rw [← add_field _ _ 1 (by omega)]; exact hc 1 _ rfl, by rw [← add_field _ _ 2 (by omega)]; exact hc 2 _ rfl, by rw [← add_field _ _ 3 (by omega)]; exact hc 3 _ rfl, by rw [← add_field _ _ 4 (by omega)]; exact hc 4 _ rfl, by rw [← add_field _ _ 5 (by omega)]; exact hc 5 _ rfl, by rw [← add_field _ _ 6 (by omega)]; exact hc 6 _ rfl, l6, g6⟩

/-! #### struct type 72 -/
structure S72 where
  f0 : Int
  f1 : ByteArray
  f2 : (List Int)
def z72 : S72 := ⟨(0 : Int), (⟨#[]⟩ : ByteArray), ([] : List Int)⟩
def k72 : Kd S72 := Kd.iso (Kd.pair (Kd.int .i64) (Kd.pair Kd.string (Kd.slice 3 (Kd.int .i64)))) (fun x : S72 => (x.f0, x.f1, x.f2))
theorem k72_open {w : World} {x : S72} {cs : List Value} (h : k72.K w x cs) : ∃ A2 c2, cs = [.int .i64 x.f0, .string x.f1, .slice A2 x.f2.length c2] ∧ x.f2.length ≤ c2 ∧ (Kd.int .i64).C w A2 x.f2.length x.f2 := by
  obtain ⟨_, _, rfl, rfl, ⟨_, _, rfl, rfl, ⟨A2, c2, rfl, l2, g2⟩⟩⟩ := h
  exact ⟨A2, c2, rfl, l2, g2⟩
def rd_T72 (xs : List S72) (i : Int) : S72 := xs.getD i.toNat z72
theorem at_T72 {w : World} {A : Option Addr} {n : Nat} {xs : List S72} (h : Kd.C k72 w A n xs) (i : Int) (h0 : 0 ≤ i) (h1 : i < n) : ∃ ad A2 c2, A = some ad ∧ w.cell? (ad.add (i.toNat * 3)) = some (.int .i64 (rd_T72 xs i).f0) ∧ w.cell? ⟨(ad.add (i.toNat * 3)).block, (ad.add (i.toNat * 3)).off + 1, none⟩ = some (.string (rd_T72 xs i).f1) ∧ w.cell? ⟨(ad.add (i.toNat * 3)).block, (ad.add (i.toNat * 3)).off + 2, none⟩ = some (.slice A2 (rd_T72 xs i).f2.length c2) ∧ (rd_T72 xs i).f2.length ≤ c2 ∧ (Kd.int .i64).C w A2 (rd_T72 xs i).f2.length (rd_T72 xs i).f2 := by
  obtain ⟨ad, c, e, _, hK, hc0⟩ := Kd.C_get h z72 i h0 h1
  have hc : ∀ j u, c[j]? = some u → w.cell? (ad.add (i.toNat * 3 + j)) = some u := hc0
  obtain ⟨A2, c2, rfl, l2, g2⟩ := k72_open hK
  exact ⟨ad, A2, c2, e, hc 0 _ rfl, by rw [← add_field _ _ 1 (by omega)]; exact hc 1 _ rfl, by rw [← add_field _ _ 2 (by omega)]; exact hc 2 _ rfl, l2, g2⟩

/-! #### struct type 126 -/
structure S126 where
  f0 : Int
  f1 : Int
def z126 : S126 := ⟨(0 : Int), (0 : Int)⟩
def k126 : Kd S126 := Kd.iso (Kd.pair (Kd.int .i64) (Kd.int .i64)) (fun x : S126 => (x.f0, x.f1))
theorem k126_open {w : World} {x : S126} {cs : List Value} (h : k126.K w x cs) : cs = [.int .i64 x.f0, .int .i64 x.f1] := by
  obtain ⟨_, _, rfl, rfl, rfl⟩ := h
  exact rfl
def rd_T126 (xs : List S126) (i : Int) : S126 := xs.getD i.toNat z126
theorem at_T126 {w : World} {A : Option Addr} {n : Nat} {xs : List S126} (h : Kd.C k126 w A n xs) (i : Int) (h0 : 0 ≤ i) (h1 : i < n) : ∃ ad , A = some ad ∧ w.cell? (ad.add (i.toNat * 2)) = some (.int .i64 (rd_T126 xs i).f0) ∧ w.cell? ⟨(ad.add (i.toNat * 2)).block, (ad.add (i.toNat * 2)).off + 1, none⟩ = some (.int .i64 (rd_T126 xs i).f1) := by
  obtain ⟨ad, c, e, _, hK, hc0⟩ := Kd.C_get h z126 i h0 h1
  have hc : ∀ j u, c[j]? = some u → w.cell? (ad.add (i.toNat * 2 + j)) = some u := hc0
  obtain rfl := k126_open hK
  exact ⟨ad, e, hc 0 _ rfl, by rw [← add_field _ _ 1 (by omega)]; exact hc 1 _ rfl⟩

/-! #### struct type 74 -/
structure S74 where
  f0 : Int
  f1 : Int
  f2 : Int
  f3 : Int
  f4 : S72
def z74 : S74 := ⟨(0 : Int), (0 : Int), (0 : Int), (0 : Int), z72⟩
def k74 : Kd S74 := Kd.iso (Kd.pair (Kd.int .i64) (Kd.pair (Kd.int .i64) (Kd.pair (Kd.int .i64) (Kd.pair (Kd.int .i64) k72)))) (fun x : S74 => (x.f0, x.f1, x.f2, x.f3, x.f4))
theorem k74_open {w : World} {x : S74} {cs : List Value} (h : k74.K w x cs) : ∃ A6 c6, cs = [.int .i64 x.f0, .int .i64 x.f1, .int .i64 x.f2, .int .i64 x.f3, .int .i64 x.f4.f0, .string x.f4.f1, .slice A6 x.f4.f2.length c6] ∧ x.f4.f2.length ≤ c6 ∧ (Kd.int .i64).C w A6 x.f4.f2.length x.f4.f2 := by
  obtain ⟨_, _, rfl, rfl, ⟨_, _, rfl, rfl, ⟨_, _, rfl, rfl, ⟨_, _, rfl, rfl, s4⟩⟩⟩⟩ := h
  obtain ⟨A6, c6, rfl, l6, g6⟩ := k72_open s4
  exact ⟨A6, c6, rfl, l6, g6⟩
def rd_T74 (xs : List S74) (i : Int) : S74 := xs.getD i.toNat z74
theorem at_T74 {w : World} {A : Option Addr} {n : Nat} {xs : List S74} (h : Kd.C k74 w A n xs) (i : Int) (h0 : 0 ≤ i) (h1 : i < n) : ∃ ad A6 c6, A = some ad ∧ w.cell? (ad.add (i.toNat * 7)) = some (.int .i64 (rd_T74 xs i).f0) ∧ w.cell? ⟨(ad.add (i.toNat * 7)).block, (ad.add (i.toNat * 7)).off + 1, none⟩ = some (.int .i64 (rd_T74 xs i).f1) ∧ w.cell? ⟨(ad.add (i.toNat * 7)).block, (ad.add (i.toNat * 7)).off + 2, none⟩ = some (.int .i64 (rd_T74 xs i).f2) ∧ w.cell? ⟨(ad.add (i.toNat * 7)).block, (ad.add (i.toNat * 7)).off + 3, none⟩ = some (.int .i64 (rd_T74 xs i).f3) ∧ w.cell? ⟨(ad.add (i.toNat * 7)).block, (ad.add (i.toNat * 7)).off + 4, none⟩ = some (.int .i64 (rd_T74 xs i).f4.f0) ∧ w.cell? ⟨(ad.add (i.toNat * 7)).block, (ad.add (i.toNat * 7)).off + 5, none⟩ = some (.string (rd_T74 xs i).f4.f1) ∧ w.cell? ⟨(ad.add (i.toNat * 7)).block, (ad.add (i.toNat * 7)).off + 6, none⟩ = some (.slice A6 (rd_T74 xs i).f4.f2.length c6) ∧ (rd_T74 xs i).f4.f2.length ≤ c6 ∧ (Kd.int .i64).C w A6 (rd_T74 xs i).f4.f2.length (rd_T74 xs i).f4.f2 := by
  obtain ⟨ad, c, e, _, hK, hc0⟩ := Kd.C_get h z74 i h0 h1
  have hc : ∀ j u, c[j]? = some u → w.cell? (ad.add (i.toNat * 7 + j)) = some u := hc0
  obtain ⟨A6, c6, rfl, l6, g6⟩ := k74_open hK
  exact ⟨ad, A6, c6, e, hc 0 _ rfl, by rw [← add_field _ _ 1 (by omega)]; exact hc 1 _ rfl, by rw [← add_field _ _ 2 (by omega)]; exact hc 2 _ rfl, by rw [← add_field _ _ 3 (by omega)]; exact hc 3 _ rfl, by rw [← add_field _ _ 4 (by omega)]; exact hc 4 _ rfl, by rw [← add_field _ _ 5 (by omega)]; exact hc 5 _ rfl, by rw [← add_field _ _ 6 (by omega)]; exact hc 6 _ rfl, l6, g6⟩



/-- A state of type 121 at block g of W; what its slices lead to came in by w0. -/
def IsS121 (w0 W : World) (g : Nat) (f0 : List Int) (f1 : Int) : Prop := ∃ A0 c0, W.heap[g]? = some (.cells #[.slice A0 f0.length c0, .int .i64 f1] 121 (0, 0)) ∧ w0.heap.size ≤ g ∧ Kd.C (Kd.int .u8) w0 A0 f0.length f0
theorem IsS121.grown {w0 W : World} {g : Nat} {f0 : List Int} {f1 : Int} {W1 : World} {row : Option Nat} (h : IsS121 w0 W g f0 f1) (hw : W.grownBy W1 row) (hne : some g ≠ row) : IsS121 w0 W1 g f0 f1 := by
  obtain ⟨A0, c0, hb, hg, hr0⟩ := h
  exact ⟨A0, c0, blk_grown hb hw hne, hg, hr0⟩
theorem IsS121.kept {w0 W : World} {g : Nat} {f0 : List Int} {f1 : Int} {W1 : World} {S : Nat → Prop} (h : IsS121 w0 W g f0 f1) (hk : Kept W W1 S) (hne : ¬ S g) : IsS121 w0 W1 g f0 f1 := by
  obtain ⟨A0, c0, hb, hg, hr0⟩ := h
  exact ⟨A0, c0, blk_kept hb hk hne, hg, hr0⟩
theorem IsS121.below {w0 W : World} {g : Nat} {f0 : List Int} {f1 : Int} {W1 : World} (h : IsS121 w0 W g f0 f1) (hw : Below W.heap.size W W1) : IsS121 w0 W1 g f0 f1 := h.grown (grown_of_below hw none) (by simp)
theorem IsS121.alloc {w0 W : World} {g : Nat} {f0 : List Int} {f1 : Int} (h : IsS121 w0 W g f0 f1) (o : Obj) : IsS121 w0 (W.alloc o) g f0 f1 := h.below (below_alloc (Below.refl _ _) o)
theorem IsS121.drewN {w0 W : World} {g : Nat} {f0 : List Int} {f1 : Int} (h : IsS121 w0 W g f0 f1) (m : Nat) : IsS121 w0 (W.drewN m) g f0 f1 := h
theorem IsS121.drew {w0 W : World} {g : Nat} {f0 : List Int} {f1 : Int} (h : IsS121 w0 W g f0 f1) : IsS121 w0 W.drew g f0 f1 := h
theorem IsS121.at_ {w0 W : World} {g : Nat} {f0 : List Int} {f1 : Int} {w' : World} {m : Nat} (hq : W.drewN m = w') (h : IsS121 w0 W g f0 f1) : IsS121 w0 w' g f0 f1 := by subst hq; exact IsS121.drewN h m
theorem IsS121.apart {w0 W : World} {g : Nat} {f0 : List Int} {f1 : Int} {α : Type} {d : Kd α} {e : Nat} {base : Nat} {ok : Nat → Prop} {v : Value} {xs : List α} (h : IsS121 w0 W g f0 f1) (ho : d.R e W base ok v xs) (ht : ∀ q, q ∈ e :: d.E → q ≠ 121) : d.R e W base (fun k => ok k ∧ k ≠ g) v xs := by
  obtain ⟨A0, c0, hb, hg, hr0⟩ := h
  exact Kd.R_types ho hb ht
theorem IsS121.own_ne {w0 W : World} {g : Nat} {f0 : List Int} {f1 : Int} {α : Type} {d : Kd α} {e : Nat} {base : Nat} {ok : Nat → Prop} {v : Value} {xs : List α} (h : IsS121 w0 W g f0 f1) (ho : d.R e W base ok v xs) (ht : e ≠ 121) : some g ≠ v.ownBlock := by
  obtain ⟨A0, c0, hb, hg, hr0⟩ := h
  exact Kd.R_ne ho hb ht
theorem IsS121.lt {w0 W : World} {g : Nat} {f0 : List Int} {f1 : Int} (h : IsS121 w0 W g f0 f1) : g < W.heap.size := by
  obtain ⟨A0, c0, hb, hg, hr0⟩ := h
  exact blk_lt hb
theorem IsS121.far {w0 W : World} {g : Nat} {f0 : List Int} {f1 : Int} {p : Addr} (h : IsS121 w0 W g f0 f1) (hne : g ≠ p.block) (u : Value) : IsS121 w0 (W.setCell p u) g f0 f1 := by
  obtain ⟨A0, c0, hb, hg, hr0⟩ := h
  exact ⟨A0, c0, blk_far hb hne u, hg, hr0⟩
theorem IsS121.new (w0 W : World) (A0 : Option Addr) (c0 : Nat) (f0 : List Int) (f1 : Int) (hB : Below w0.heap.size w0 W) (hr0 : Kd.C (Kd.int .u8) w0 A0 f0.length f0) : IsS121 w0 (W.alloc (.cells #[.slice A0 f0.length c0, .int .i64 f1] 121)) W.heap.size f0 f1 := ⟨A0, c0, by simpa using heap_alloc_new W _, hB.size, hr0⟩



-- NOT PRINTED: function 62 (spec_l5Events)

-- NOT PRINTED: function 16 (spec_DrawMemMoments)



-- NOT PRINTED: function 4 (laws_FnTop)



-- NOT PRINTED: function 103 (spec_l5Heap)



-- NOT PRINTED: function 93 (spec_l5Any)

-- NOT PRINTED: function 34 (spec_DrawMemReach)

end Go.Proofs.Ytigjhfijkdlldaa.Q
end
section
/- Small words for walks by hand: boxes, indexes, lists. -/
namespace Go.Proofs.Ytigjhfijkdlldaa.H
open Go.RowKit Go.Proofs.YtigjhfijkdlldaaW.PrintWords Go.Proofs.YtigjhfijkdlldaaW.PrintLast Go.Proofs.YtigjhfijkdlldaaW.PrintMore Go.Proofs.Ytigjhfijkdlldaa.Q
theorem box1 {w : World} {g t : Nat} {a : Value} (h : w.heap[g]? = some (.cells #[a] t (0, 0))) : w.cell? ⟨g, 0, none⟩ = some a ∧ w.frozen? ⟨g, 0, none⟩ = false := ⟨(bcl h 0).trans rfl, bfz h 0⟩
theorem box2 {w : World} {g t : Nat} {a b : Value} (h : w.heap[g]? = some (.cells #[a, b] t (0, 0))) :
    w.cell? ⟨g, 0, none⟩ = some a ∧ w.cell? ⟨g, 1, none⟩ = some b := ⟨(bcl h 0).trans rfl, (bcl h 1).trans rfl⟩
theorem box3 {w : World} {g t : Nat} {a b c : Value} (h : w.heap[g]? = some (.cells #[a, b, c] t (0, 0))) :
    w.cell? ⟨g, 0, none⟩ = some a ∧ w.cell? ⟨g, 1, none⟩ = some b ∧ w.cell? ⟨g, 2, none⟩ = some c :=
  ⟨(bcl h 0).trans rfl, (bcl h 1).trans rfl, (bcl h 2).trans rfl⟩
theorem box4 {w : World} {g t : Nat} {a b c d : Value} (h : w.heap[g]? = some (.cells #[a, b, c, d] t (0, 0))) :
    w.cell? ⟨g, 0, none⟩ = some a ∧ w.cell? ⟨g, 1, none⟩ = some b ∧ w.cell? ⟨g, 2, none⟩ = some c ∧ w.cell? ⟨g, 3, none⟩ = some d :=
  ⟨(bcl h 0).trans rfl, (bcl h 1).trans rfl, (bcl h 2).trans rfl, (bcl h 3).trans rfl⟩
theorem blk_new1 (w : World) (o o' : Obj) : ((w.alloc o).alloc o').heap[w.heap.size + 1]? = some o' := by have := blk_new (w.alloc o) o'; simpa using this
/-- x: a counter of so many. -/
theorem all_take_succ {α : Type} (l : List α) (p : α → Bool) (d : α) (x : Int) (h0 : 0 ≤ x) (h1 : x < l.length) : (l.take (x + 1).toNat).all p = ((l.take x.toNat).all p && p (l.getD x.toNat d)) := by
  have e : (x + 1).toNat = x.toNat + 1 := by omega
  have h2 : x.toNat < l.length := by omega
  rw [e, List.take_succ_eq_append_getElem h2, List.all_append]
  simp [List.getD_eq_getElem?_getD, List.getElem?_eq_getElem h2]
theorem all_fails {α : Type} (l : List α) (p : α → Bool) (d : α) (x : Int) (h0 : 0 ≤ x) (h1 : x < l.length) (h : p (l.getD x.toNat d) = false) : l.all p = false := by
  have h2 : x.toNat < l.length := by omega
  rw [List.all_eq_false]
  refine ⟨l[x.toNat], List.getElem_mem h2, ?_⟩
  rw [List.getD_eq_getElem?_getD, List.getElem?_eq_getElem h2] at h
  simpa using h
theorem take_all {α : Type} (l : List α) (x : Int) (h : x = l.length) : l.take x.toNat = l := List.take_of_length_le (by omega)
theorem wrap_succ (x : Int) (h0 : 0 ≤ x) (h1 : x < 9223372036854775807) : wrap64 (x + 1) = x + 1 := by unfold wrap64; omega
theorem k38_ap (t : Nat) (h : (38 : Nat) ≠ t) (h3 : (3 : Nat) ≠ t) : ∀ q, q ∈ 38 :: k38.E → q ≠ t := fun q hq => by
  rcases List.mem_cons.1 hq with rfl | h1
  · exact h
  · rcases List.mem_cons.1 (show q ∈ [3] from h1) with rfl | h2
    · exact h3
    · cases h2
theorem int_ap (t : Nat) (h : (3 : Nat) ≠ t) : ∀ q, q ∈ 3 :: (Kd.int .i64).E → q ≠ t := fun q hq => by
  rcases List.mem_cons.1 hq with rfl | h1
  · exact h
  · cases h1
theorem k60_ap (t : Nat) (h : (60 : Nat) ≠ t) : ∀ q, q ∈ 60 :: k60.E → q ≠ t := fun q hq => by
  rcases List.mem_cons.1 hq with rfl | h1
  · exact h
  · cases (show q ∈ [] from h1)
theorem blk_new3 (w : World) (o o' o2 : Obj) : (((w.alloc o).alloc o').alloc o2).heap[w.heap.size + 1 + 1]? = some o2 := by
  have h1 := blk_new ((w.alloc o).alloc o') o2
  rwa [show ((w.alloc o).alloc o').heap.size = w.heap.size + 1 + 1 from (Array.size_push ..).trans (congrArg (· + 1) (Array.size_push ..))] at h1
theorem blk_newC (w : World) (o o' o2 : Obj) : (((w.alloc o).alloc o').alloc o2).heap[w.heap.size + 1 + 1]? = some o2 := blk_new3 w o o' o2
theorem take_one {α : Type} (l : List α) (d : α) (i : Int) (h0 : 0 ≤ i) (h1 : i < l.length) : l.take (i + 1).toNat = l.take i.toNat ++ [l.getD i.toNat d] := by
  have h2 : i.toNat < l.length := by omega
  rw [show (i + 1).toNat = i.toNat + 1 by omega, List.take_succ_eq_append_getElem h2, List.getD_eq_getElem?_getD, List.getElem?_eq_getElem h2]; rfl
end Go.Proofs.Ytigjhfijkdlldaa.H
end
section
/- The heap in plain words: what is ok.  -/
namespace Go.Proofs.Ytigjhfijkdlldaa.H
open Go.RowKit Go.Proofs.YtigjhfijkdlldaaW.PrintWords Go.Proofs.YtigjhfijkdlldaaW.PrintLast Go.Proofs.YtigjhfijkdlldaaW.PrintMore Go.Proofs.Ytigjhfijkdlldaa.Q
set_option linter.unusedVariables false
set_option linter.unusedSectionVars false
/-! ### lists from an index on -/
theorem drop_cons {α : Type} (xs : List α) (d : α) (i : Int) (h0 : 0 ≤ i) (h1 : i < xs.length) : xs.drop i.toNat = xs.getD i.toNat d :: xs.drop (i + 1).toNat := by
  have h2 : i.toNat < xs.length := by omega
  rw [show (i + 1).toNat = i.toNat + 1 by omega, List.drop_eq_getElem_cons h2, List.getD_eq_getElem?_getD, List.getElem?_eq_getElem h2]; rfl
theorem drop_end {α : Type} (xs : List α) (i : Int) (h : (xs.length : Int) ≤ i) : xs.drop i.toNat = [] := List.drop_eq_nil_of_le (by omega)
theorem getD_mem {α : Type} (xs : List α) (d : α) (i : Int) (h0 : 0 ≤ i) (h1 : i < xs.length) : xs.getD i.toNat d ∈ xs := by
  have h2 : i.toNat < xs.length := by omega
  rw [List.getD_eq_getElem?_getD, List.getElem?_eq_getElem h2]; exact List.getElem_mem h2
/-! ### what is ok -/
def inB (p n : Int) : Bool := decide (-1 ≤ p) && decide (p < n)
def chOk (c : Int) : Bool := (decide (97 ≤ c) && decide (c ≤ 122)) || (decide (48 ≤ c) && decide (c ≤ 57))
def txOk (s : ByteArray) : Bool := decide (1 ≤ (s.size : Int)) && decide ((s.size : Int) ≤ 12) && (bytesOf s).all chOk
def shB (x : S38) : Bool :=
  if x.f0 = 1 then txOk x.f1 && ((x.f2.length : Int) == 0)
  else if x.f0 = 2 then decide (x.f1.toList = []) && decide ((x.f2.length : Int) ≤ 6)
  else if x.f0 = 3 then decide (x.f1.toList = []) && ((x.f2.length : Int) == 2)
  else if x.f0 = 4 then decide (x.f1.toList = []) && ((x.f2.length : Int) == 0)
  else false
def obB (n : Int) (x : S38) : Bool := shB x && x.f2.all (inB · n)
def wtB (l0 : List S38) (x : S60) : Bool := decide (0 ≤ x.f0) && decide (x.f0 < l0.length) && decide ((rd_T38 l0 x.f0).f0 = 4) && decide (0 ≤ x.f1) && decide (x.f1 < l0.length)
def okB (l0 : List S38) (l1 : List Int) (l2 l3 : List S60) : Bool :=
  decide (l0.length ≤ 60) && decide (l1.length ≤ 8) && decide (l2.length + l3.length ≤ 20) && l0.all (obB l0.length) && l1.all (inB · l0.length) && l2.all (wtB l0) && l3.all (wtB l0)
/-- What a heap's object fits: its text and parts are of a size that a machine has. -/
def Fit (x : S38) : Prop := (x.f1.size : Int) ≤ 4611686018427387903 ∧ (x.f2.length : Int) ≤ 4611686018427387903
end Go.Proofs.Ytigjhfijkdlldaa.H
end
section
/- Marks: what mark.. writes and what held.. reads again, in plain words. -/
namespace Go.Proofs.Ytigjhfijkdlldaa.H
open Go.RowKit Go.Proofs.YtigjhfijkdlldaaW.PrintWords Go.Proofs.YtigjhfijkdlldaaW.PrintLast Go.Proofs.YtigjhfijkdlldaaW.PrintMore Go.Proofs.Ytigjhfijkdlldaa.Q
set_option linter.unusedVariables false
theorem strOfNums_size (l : List Int) : (strOfNums l).size = l.length := by
  unfold strOfNums; simp [ByteArray.size]
/-- The text of a number, as the laws lay it. -/
def txL : Nat → Int → ByteArray → ByteArray
  | 0, _, s => s
  | k + 1, x, s => if x ≤ 0 then s else txL k (x / 10) (strOfNums [48 + x % 10] ++ s)
def mtxt (a : Int) : ByteArray := if a ≤ 0 then ⟨#[109, 48]⟩ else ⟨#[109]⟩ ++ txL 20 a ⟨#[]⟩
/-! ### numbers -/
def marksI (a : Int) (n : Nat) : List Int := (List.range n).map fun (j : Nat) => a + j
def marksW (a : Int) (n : Nat) : List S60 := (List.range n).map fun (j : Nat) => ⟨a + 2 * j, a + 2 * j + 1⟩
theorem marksI_length (a : Int) (n : Nat) : (marksI a n).length = n := by simp [marksI]
theorem marksW_length (a : Int) (n : Nat) : (marksW a n).length = n := by simp [marksW]
theorem marksI_succ (a : Int) (n : Nat) : marksI a (n + 1) = marksI a n ++ [a + n] := by simp [marksI, List.range_succ]
theorem marksW_succ (a : Int) (n : Nat) : marksW a (n + 1) = marksW a n ++ [⟨a + 2 * n, a + 2 * n + 1⟩] := by simp [marksW, List.range_succ]
theorem set_at {α : Type} (p : List α) (b v : α) (r : List α) (n : Nat) (h : p.length = n) : (p ++ b :: r).set n v = p ++ v :: r := by
  subst h; rw [List.set_append_right _ _ (Nat.le_refl _)]; simp
theorem getD_at {α : Type} (p : List α) (b d : α) (r : List α) (n : Nat) (h : p.length = n) : (p ++ b :: r).getD n d = b := by
  subst h; simp [List.getD_eq_getElem?_getD]
/-! ### objects -/
def markO : Int → List S38 → List S38
  | _, [] => []
  | a, x :: l => ⟨a, mtxt (a + 1), marksI (a + 2) x.f2.length⟩ :: markO (a + 2 + x.f2.length) l
def cntO : List S38 → Int
  | [] => 0
  | x :: l => 2 + x.f2.length + cntO l
theorem cntO_nonneg (l : List S38) : 0 ≤ cntO l := by
  induction l with
  | nil => exact Int.le_refl 0
  | cons x l ih => unfold cntO; omega
end Go.Proofs.Ytigjhfijkdlldaa.H
end
section
/- laws.markMemWatchS, walked; the row may be cut (its room told apart from the slice's). -/
namespace Go.Proofs.Ytigjhfijkdlldaa.H
open Go.RowKit Go.Proofs.YtigjhfijkdlldaaW.PrintWords Go.Proofs.YtigjhfijkdlldaaW.PrintLast Go.Proofs.YtigjhfijkdlldaaW.PrintMore Go.Proofs.Ytigjhfijkdlldaa.Q
set_option linter.unusedVariables false
set_option linter.unusedSimpArgs false
theorem RI_set {W : World} {base g n cap : Nat} {ok : Nat → Prop} {xs : List Int} (h : (Kd.int .i64).R 3 W base ok (.slice (some ⟨g, 0, none⟩) n cap) xs) (i : Int) (h0 : 0 ≤ i) (h1 : i < n) (v : Int) :
    (Kd.int .i64).R 3 (W.setCell ⟨g, i.toNat, none⟩ (.int .i64 v)) base ok (.slice (some ⟨g, 0, none⟩) n cap) (xs.set i.toNat v) := by
  obtain ⟨c, hcl, hM, hcc, _⟩ := Kd.R_elem h 0 i h0 h1
  obtain ⟨u, rfl⟩ := List.length_eq_one_iff.1 (show c.length = 1 from hcl)
  have h2 := (Kd.R_seg h i h0 h1 hcl hcc (seg := [.int .i64 v]) (j := 0) (x' := v) (okp := fun _ => False) (Nat.le_refl 1) (show [Value.int .i64 v] = [Value.int .i64 v] from rfl) (fun _ hk => hk.elim)).1
  have e : i.toNat * (Kd.int .i64).sz + 0 = i.toNat := by show i.toNat * 1 + 0 = _; omega
  rw [e] at h2
  exact h2
theorem RI_at {W : World} {base g n cap : Nat} {ok : Nat → Prop} {xs : List Int} (h : (Kd.int .i64).R 3 W base ok (.slice (some ⟨g, 0, none⟩) n cap) xs) (i : Int) (h0 : 0 ≤ i) (h1 : i < n) : W.cell? ⟨g, i.toNat, none⟩ = some (.int .i64 (rd xs i)) ∧ W.frozen? ⟨g, i.toNat, none⟩ = false := by
  obtain ⟨c, hcl, hM, hcc, hfr⟩ := Kd.R_elem h 0 i h0 h1
  have e : ∀ j, i.toNat * (Kd.int .i64).sz + j = i.toNat + j := fun j => by show i.toNat * 1 + j = _; omega
  have h2 : c = [.int .i64 (rd xs i)] := hM
  have h3 := hcc 0 (.int .i64 (rd xs i)) (by rw [h2]; rfl)
  have h4 := hfr 0
  rw [e] at h3 h4
  exact ⟨h3, h4⟩
/-- An element of a row of watches is set. -/
theorem RW_set {w : World} {base : Nat} {ok : Nat → Prop} {g n c : Nat} {xs : List S60} (h : Kd.R k60 60 w base ok (.slice (some ⟨g, 0, none⟩) n c) xs) (i : Int) (h0 : 0 ≤ i) (h1 : i < n) (x : S60) :
    Kd.R k60 60 ((w.setCell ⟨g, i.toNat * 2, none⟩ (.int .i64 x.f0)).setCell ⟨g, i.toNat * 2 + 1, none⟩ (.int .i64 x.f1)) base ok (.slice (some ⟨g, 0, none⟩) n c) (xs.set i.toNat x) := by
  obtain ⟨ce, hcl, hM, hcc, hfr⟩ := Kd.R_elem h z60 i h0 h1
  obtain rfl := k60_openM hM
  exact (Kd.R_seg h i h0 h1 (seg := [.int .i64 x.f0, .int .i64 x.f1]) (j := 0) hcl hcc (show 2 ≤ 2 from by decide) (x' := x) (okp := fun _ => False) (k60_mkM _ _ _ x) (fun _ hk => hk.elim)).1
theorem mixW_set (a : Int) (i : Int) (l : List S60) (h0 : 0 ≤ i) (h1 : i < l.length) (x : S60) (hx : x = ⟨a + 2 * i, a + 2 * i + 1⟩) : (marksW a i.toNat ++ l.drop i.toNat).set i.toNat x = marksW a (i + 1).toNat ++ l.drop (i + 1).toNat := by
  rw [drop_cons l z60 i h0 h1, set_at _ _ _ _ _ (marksW_length _ _), show (i + 1).toNat = i.toNat + 1 by omega, marksW_succ, List.append_assoc, hx, Int.toNat_of_nonneg h0]
  rfl
set_option maxHeartbeats 4000000 in
theorem markW_calls (a : Int) (ha : 0 ≤ a) (w0 w : World) (P : Nat → Prop) (A : Option Addr) (x d : Nat) (l : List S60) (hB : Below w0.heap.size w0 w) (hO : Kd.R k60 60 w w0.heap.size P (.slice A l.length x) l) (hl : a + 2 * l.length ≤ 1152921504606846976) :
    Calls Try.prog 88 #[.slice A l.length d, .int .i64 a] w fun e w' => e = .returned (.int .i64 (a + 2 * l.length)) ∧ Kd.R k60 60 w' w0.heap.size P (.slice A l.length x) (marksW a l.length) ∧ Below w0.heap.size w0 w' ∧ Kept w w' (fun k => some k = (Value.slice A l.length x).ownBlock) := by
  have HB := AK hB
  have HO := AK hO
  have HL := AK (And.intro ha hl)
  clear hB hO ha hl
  go_enter Try.func88, Try.ntmps88
  go_wp2
  go_loopg [1, 5] l.length (fun kq v1 v5 w' => ∃ i : Int, v1 = .int .i64 (a + 2 * i) ∧ v5 = .int .i64 i ∧ Aside0 (0 ≤ i ∧ i + kq = l.length) ∧ Aside0 (Kd.R k60 60 w' w0.heap.size P (.slice A l.length x) (marksW a i.toNat ++ l.drop i.toNat)) ∧ Aside0 (Below w0.heap.size w0 w') ∧ Aside0 (Kept w w' (fun k => some k = (Value.slice A l.length x).ownBlock)))
  case atStart => exact ⟨0, by rw [show a + 2 * (0 : Int) = a by omega], rfl, ⟨by omega, by omega⟩, ⟨HO.out⟩, HB, ⟨Kept.refl _ _⟩⟩
  case round =>
    clear HO HB
    obtain ⟨i, rfl, rfl, HI, HO, HB, HK⟩ := hrel
    cases gk with
    | zero =>
      obtain rfl : i = (l.length : Int) := by have := HI.out; omega
      have c9 : decide ((l.length : Int) < (l.length : Int)) = false := deF (by omega)
      have h1 := HO.out
      rw [Int.toNat_natCast, List.drop_length, List.append_nil] at h1
      have H1 := AK h1
      clear h1
      go_wp2
      go_ret
      exact ⟨rfl, H1.out, HB.out, HK.out⟩
    | succ k1 =>
      have c9 : decide (i < (l.length : Int)) = true := deT (by have := HI.out; omega)
      have hi0 := eq_true (show 0 ≤ i by have := HI.out; omega)
      have hi1 := eq_true (show i < (l.length : Int) by have := HI.out; omega)
      have hml : (marksW a i.toNat ++ l.drop i.toNat).length = l.length := by rw [List.length_append, marksW_length, List.length_drop]; have := HI.out; omega
      obtain ⟨g, cap, ee, hgb, hgl, _⟩ := Kd.R_form HO.out (by rw [hml]; have := HI.out; omega)
      injection ee with e1 e2 e3
      subst e1 e3
      clear e2 hml
      obtain ⟨ce, hcl, hM, hcc, hfr⟩ := Kd.R_elem HO.out z60 i (by have := HI.out; omega) (by have := HI.out; omega)
      obtain rfl := k60_openM hM
      obtain ⟨y0, y1⟩ : ∃ y0 y1, wr.cell? ⟨g, i.toNat * 2, none⟩ = some y0 ∧ wr.cell? ⟨g, i.toNat * 2 + 1, none⟩ = some y1 := ⟨_, _, hcc 0 _ rfl, hcc 1 _ rfl⟩
      obtain ⟨y1, hy0, hy1⟩ := y1
      have hf0 : wr.frozen? ⟨g, i.toNat * 2, none⟩ = false := hfr 0
      have hf1 : wr.frozen? ⟨g, i.toNat * 2 + 1, none⟩ = false := hfr 1
      have hw1 : wrap64 (a + 2 * i + 1) = a + 2 * i + 1 := by have := HI.out; have := HL.out; unfold wrap64; omega
      have hw2 : wrap64 (a + 2 * i + 1 + 1) = a + 2 * (i + 1) := by have := HI.out; have := HL.out; unfold wrap64; omega
      have hw3 : wrap64 (i + 1) = i + 1 := by have := HI.out; have := HL.out; unfold wrap64; omega
      have N0 := AK (RW_set HO.out i (by have := HI.out; omega) (by have := HI.out; omega) ⟨a + 2 * i, a + 2 * i + 1⟩)
      rw [mixW_set a i l (by have := HI.out; omega) (by have := HI.out; omega) _ rfl] at N0
      have N1 := AK (below_set (j := i.toNat * 2 + 1) (v := .int .i64 (a + 2 * i + 1)) (below_set (j := i.toNat * 2) (v := .int .i64 (a + 2 * i)) HB.out hgb) hgb)
      have N2 := AK (Kept.setCell (Kept.setCell HK.out (p := ⟨g, i.toNat * 2, none⟩) (.inl rfl) (.int .i64 (a + 2 * i))) (p := ⟨g, i.toNat * 2 + 1, none⟩) (.inl rfl) (.int .i64 (a + 2 * i + 1)))
      clear hcl hM hcc hfr hgb hgl HO HB HK
      go_wp2
      go_roundg k1
      case measure => omega
      case rel => exact ⟨i + 1, rfl, rfl, ⟨by have := HI.out; omega, by have := HI.out; omega⟩, N0, N1, N2⟩
end Go.Proofs.Ytigjhfijkdlldaa.H
end
section
/- What the laws' arguments are made into; their sizes. -/
namespace Go.Proofs.Ytigjhfijkdlldaa.H
open Go.RowKit Go.Proofs.YtigjhfijkdlldaaW.PrintWords Go.Proofs.YtigjhfijkdlldaaW.PrintLast Go.Proofs.YtigjhfijkdlldaaW.PrintMore Go.Proofs.Ytigjhfijkdlldaa.Q
set_option linter.unusedVariables false
def cO (x : S72) : S38 := ⟨x.f0, x.f1, x.f2⟩
def cW (x : S126) : S60 := ⟨x.f0, x.f1⟩
structure Small (l0 : List S72) (l1 : List Int) (l2 l3 : List S126) : Prop where
  o : l0.length ≤ 1048576
  t : ∀ x ∈ l0, x.f1.size ≤ 1048576 ∧ x.f2.length ≤ 1048576
  r : l1.length ≤ 1048576
  w : l2.length + l3.length ≤ 1048576
def Fits (s : ByteArray) (l : List Int) : Prop := (s.size : Int) ≤ 9223372036854775807 ∧ (l.length : Int) ≤ 9223372036854775807
end Go.Proofs.Ytigjhfijkdlldaa.H
end
section
/- The laws' copies of their arguments, walked. -/
namespace Go.Proofs.Ytigjhfijkdlldaa.H
open Go.RowKit Go.Proofs.YtigjhfijkdlldaaW.PrintWords Go.Proofs.YtigjhfijkdlldaaW.PrintLast Go.Proofs.YtigjhfijkdlldaaW.PrintMore Go.Proofs.Ytigjhfijkdlldaa.Q
set_option linter.unusedVariables false
set_option linter.unusedSimpArgs false
theorem mix_set {α : Type} (p : List α) (z v : α) (n i : Int) (h : (p.length : Int) = i) (hi : i < n) : (p ++ List.replicate (n - i).toNat z).set i.toNat v = (p ++ [v]) ++ List.replicate (n - (i + 1)).toNat z := by
  rw [show (n - i).toNat = (n - (i + 1)).toNat + 1 by omega, List.replicate_succ, set_at _ _ _ _ _ (by omega), List.append_assoc]
  rfl
section
variable {w : World} {A : Option Addr} {c : Nat}
set_option maxHeartbeats 1000000 in
theorem toInt_c {l : List Int} (h : Kd.C (Kd.int .i64) w A l.length l) (hl : l.length ≤ 1048576) : Calls Try.prog 80 #[.slice A l.length c] w fun e w' => ∃ B d, e = .returned (.slice B l.length d) ∧ Kd.R (Kd.int .i64) 3 w' w.heap.size (fun _ => True) (.slice B l.length d) l ∧ Below w.heap.size w w' := by
  have HH := AK (And.intro h hl)
  have bl : 0 ≤ (l.length : Int) := by omega
  clear h hl
  go_enter Try.func80, Try.ntmps80
  go_wp2_with ((with_reducible refine gate_dst (N := 7) rfl ?_); refine Kd.R_make (Kd.int .i64) (w0 := w) w.heap.size 3 rfl (N := 7) rfl 25 _ _ rfl (l.length : Int) rfl rfl Try.underlying25 (.int .i64 0) 8 info3 rfl (by decide) (by omega) 0 (ok := fun _ => True) (okp := fun _ => True) rfl (fun _ hk => hk) trivial (by omega) (by have := HH.out.2; omega) (Below.refl _ _) (Nat.le_refl _) ?_; intro v7 w4 hr hb _ _; have HR := AK hr; have HB := AK hb; clear hr hb)
  have hr := HR.out
  rw [Int.toNat_natCast] at hr
  obtain ⟨B, d, ee⟩ := Kd.R_slice hr
  subst ee
  rw [List.length_replicate] at hr ⊢
  replace HR := AK hr
  clear hr
  go_loopg [4] l.length (fun kq v4 w' => ∃ i : Int, v4 = .int .i64 i ∧ Aside0 (0 ≤ i ∧ i + kq = l.length) ∧ Aside0 (Kd.R (Kd.int .i64) 3 w' w.heap.size (fun _ => True) (.slice B l.length d) (l.take i.toNat ++ List.replicate ((l.length : Int) - i).toNat 0)) ∧ Aside0 (Below w.heap.size w w'))
  case atStart => exact ⟨0, rfl, ⟨by omega, by omega⟩, ⟨by simpa using HR.out⟩, HB⟩
  case round =>
    clear HR HB
    obtain ⟨i, rfl, HI, HR, HB⟩ := hrel
    cases gk with
    | zero =>
      have c9 : decide (i < (l.length : Int)) = false := deF (by have := HI.out; omega)
      have hr := HR.out
      rw [take_all _ _ (by have := HI.out; omega), show ((l.length : Int) - i).toNat = 0 by have := HI.out; omega, List.replicate_zero, List.append_nil] at hr
      have HZ := AK hr
      clear hr
      go_wp2
      go_ret
      exact ⟨B, d, rfl, HZ.out, HB.out⟩
    | succ k1 =>
      have c9 : decide (i < (l.length : Int)) = true := deT (by have := HI.out; omega)
      have hi0 := eq_true (show 0 ≤ i by have := HI.out; omega)
      have hi1 := eq_true (show i < (l.length : Int) by have := HI.out; omega)
      obtain ⟨ad, e1, hx⟩ := Kd.at_int (Kd.C_below HH.out.1 HB.out) i (by have := HI.out; omega) (by have := HI.out; omega)
      subst e1
      have hml : (l.take i.toNat ++ List.replicate ((l.length : Int) - i).toNat 0).length = l.length := by rw [List.length_append, List.length_take, List.length_replicate]; have := HI.out; omega
      obtain ⟨g, cap, ee, hgb, _⟩ := Kd.R_form HR.out (by rw [hml]; have := HI.out; omega)
      injection ee with e1 e2 e3
      subst e1 e3
      clear e2
      obtain ⟨hy, hf⟩ := RI_at HR.out i (by have := HI.out; omega) (by have := HI.out; omega)
      have N0 := AK (RI_set HR.out i (by have := HI.out; omega) (by have := HI.out; omega) (rd l i))
      rw [mix_set _ _ _ _ _ (by rw [List.length_take]; have := HI.out; omega) (by have := HI.out; omega), show rd l i = l.getD i.toNat 0 from rfl, ← take_one l 0 i (by have := HI.out; omega) (by have := HI.out; omega)] at N0
      have N1 := AK (below_set (j := i.toNat) (v := .int .i64 (rd l i)) HB.out hgb)
      clear hml hgb HR HB
      go_wp2
      go_roundg k1
      case measure => omega
      case rel =>
        rw [wrap_succ i (by have := HI.out; omega) (by have := HI.out; have := HH.out; omega)]
        exact ⟨i + 1, rfl, ⟨by have := HI.out; omega, by have := HI.out; omega⟩, N0, N1⟩
theorem toObj_c {x : S72} (h : Kd.C (Kd.int .i64) w A x.f2.length x.f2) (hl : x.f2.length ≤ 1048576) : Calls Try.prog 109 #[.agg #[.int .i64 x.f0, .string x.f1, .slice A x.f2.length c]] w fun e w' => ∃ B d, e = .returned (.agg #[.int .i64 x.f0, .string x.f1, .slice B x.f2.length d]) ∧ Kd.R (Kd.int .i64) 3 w' w.heap.size (fun _ => True) (.slice B x.f2.length d) x.f2 ∧ Below w.heap.size w w' := by
  have HB := AK (below_alloc (below_alloc (below_alloc (Below.refl w.heap.size w) (.cells #[.int .i64 x.f0, .string x.f1, .slice A x.f2.length c] 72 (0, 0))) (.cells #[.int .i64 0, .string ⟨#[]⟩, .slice none 0 0] 38 (0, 0))) (.cells #[.int .i64 x.f0, .string x.f1, .slice none 0 0] 38 (0, 0)))
  have HZ := AK (blk_alloc (blk_new1 w (.cells #[.int .i64 x.f0, .string x.f1, .slice A x.f2.length c] 72 (0, 0)) (.cells #[.int .i64 0, .string ⟨#[]⟩, .slice none 0 0] 38 (0, 0))) (.cells #[.int .i64 x.f0, .string x.f1, .slice none 0 0] 38 (0, 0)))
  have HT := AK (blk_newC w (.cells #[.int .i64 x.f0, .string x.f1, .slice A x.f2.length c] 72 (0, 0)) (.cells #[.int .i64 0, .string ⟨#[]⟩, .slice none 0 0] 38 (0, 0)) (.cells #[.int .i64 x.f0, .string x.f1, .slice none 0 0] 38 (0, 0)))
  have HH := AK (And.intro h hl)
  clear h hl
  go_enter Try.func109, Try.ntmps109
  go_wp2_with fail
  generalize (((w.alloc (.cells #[.int .i64 x.f0, .string x.f1, .slice A x.f2.length c] 72 (0, 0))).alloc (.cells #[.int .i64 0, .string ⟨#[]⟩, .slice none 0 0] 38 (0, 0))).alloc (.cells #[.int .i64 x.f0, .string x.f1, .slice none 0 0] 38 (0, 0))) = w1 at HB HZ HT ⊢
  refine (toInt_c (Kd.C_below HH.out.1 HB.out) HH.out.2).mono ?_
  rintro e w2 ⟨B, d, rfl, hr, hb⟩
  have HR := AK (Kd.R_lower hr HB.out.size)
  replace HB := AK (bst HB.out hb)
  replace HZ := AK (bbl HZ.out hb)
  replace HT := AK (bbl HT.out hb)
  clear hr hb
  obtain ⟨p0, p1, p2⟩ := box3 HT.out
  have pf := bfz HT.out 2
  have HT2 := AK (blk_put HT.out 2 (.slice B x.f2.length d) rfl)
  have HZ2 := AK (blk_far HZ.out (p := ⟨w.heap.size + 1 + 1, 2, none⟩) (show w.heap.size + 1 ≠ w.heap.size + 1 + 1 by omega) (.slice B x.f2.length d))
  have HR2 := AK (Kd.R_set HR.out HT.out (int_ap 38 (by decide)) 2 (.slice B x.f2.length d))
  have HB2 := AK (below_set (j := 2) (v := .slice B x.f2.length d) HB.out (show w.heap.size ≤ w.heap.size + 1 + 1 by omega))
  clear HR HB
  go_upto_region 5 with fail
  clear p0 p1 p2 pf HT HZ
  generalize w2.setCell ⟨w.heap.size + 1 + 1, 2, none⟩ (.slice B x.f2.length d) = w3 at HT2 HZ2 HR2 HB2 ⊢
  obtain ⟨p0, p1, p2⟩ := box3 HT2.out
  obtain ⟨q0, q1, q2⟩ := box3 HZ2.out
  have f0 := bfz HZ2.out 0
  have f1 := bfz HZ2.out 1
  have f2 := bfz HZ2.out 2
  go_wp2
  refine bodyPost_ret (results_cell_row rfl _ _ (w.heap.size + 1) 38 #[.int .i64 x.f0, .string x.f1, .slice B x.f2.length d] (0, 0) _ rfl (blk_put (blk_put (blk_put HZ2.out 0 (.int .i64 x.f0) rfl) 1 (.string x.f1) rfl) 2 (.slice B x.f2.length d) rfl) Try.underlying38 rfl (by kernel_rfl)) rfl ?_
  exact ⟨B, d, rfl, Kd.R_set (Kd.R_set (Kd.R_set HR2.out HZ2.out (int_ap 38 (by decide)) 0 _) (blk_put HZ2.out 0 (.int .i64 x.f0) rfl) (int_ap 38 (by decide)) 1 _) (blk_put (blk_put HZ2.out 0 (.int .i64 x.f0) rfl) 1 (.string x.f1) rfl) (int_ap 38 (by decide)) 2 _, below_set (below_set (below_set HB2.out (by omega)) (by omega)) (by omega)⟩
set_option maxHeartbeats 2000000 in
theorem toObjS_c {l : List S72} (h : Kd.C k72 w A l.length l) (hl : l.length ≤ 1048576) (hf : ∀ x ∈ l, x.f2.length ≤ 1048576) : Calls Try.prog 79 #[.slice A l.length c] w fun e w' => ∃ B d, e = .returned (.slice B l.length d) ∧ Kd.S k38 38 w' w.heap.size (fun _ => True) (.slice B l.length d) (l.map cO) ∧ Below w.heap.size w w' := by
  have HH := AK (And.intro h (And.intro hl hf))
  have bl : 0 ≤ (l.length : Int) := by omega
  clear h hl hf
  go_enter Try.func79, Try.ntmps79
  go_wp2_with ((with_reducible refine gate_dst (N := 7) rfl ?_); refine Kd.S_make k38 (w0 := w) w.heap.size 38 rfl (N := 7) rfl 24 _ _ rfl (l.length : Int) rfl rfl Try.underlying24 (.agg #[(.int .i64 0), (.string ⟨#[]⟩), (.slice none 0 0)]) 48 info38 rfl (by decide) (by omega) z38 (ok := fun _ => True) (okp := fun _ => True) (k38_mkM _ _ _ z38 (Kd.R_nil _ _ _ _ _)) (fun _ hk => hk) trivial (by omega) (by have := HH.out.2.1; omega) (Below.refl _ _) (Nat.le_refl _) ?_; intro v7 w4 hr hb _ _; have HR := AK hr; have HB := AK hb; clear hr hb)
  have hr := HR.out
  rw [Int.toNat_natCast] at hr
  obtain ⟨B, d, ee⟩ := Kd.S_slice hr
  subst ee
  rw [List.length_replicate] at hr ⊢
  replace HR := AK hr
  clear hr
  go_loopg [4] l.length (fun kq v4 w' => ∃ i : Int, v4 = .int .i64 i ∧ Aside0 (0 ≤ i ∧ i + kq = l.length) ∧ Aside0 (Kd.S k38 38 w' w.heap.size (fun _ => True) (.slice B l.length d) ((l.take i.toNat).map cO ++ List.replicate ((l.length : Int) - i).toNat z38)) ∧ Aside0 (Below w.heap.size w w'))
  case atStart => exact ⟨0, rfl, ⟨by omega, by omega⟩, ⟨by simpa using HR.out⟩, HB⟩
  case round =>
    clear HR HB
    obtain ⟨i, rfl, HI, HR, HB⟩ := hrel
    cases gk with
    | zero =>
      have c9 : decide (i < (l.length : Int)) = false := deF (by have := HI.out; omega)
      have hr := HR.out
      rw [take_all _ _ (by have := HI.out; omega), show ((l.length : Int) - i).toNat = 0 by have := HI.out; omega, List.replicate_zero, List.append_nil] at hr
      have HZ := AK hr
      clear hr
      go_wp2
      go_ret
      exact ⟨B, d, rfl, HZ.out, HB.out⟩
    | succ k1 =>
      have c9 : decide (i < (l.length : Int)) = true := deT (by have := HI.out; omega)
      have hi0 := eq_true (show 0 ≤ i by have := HI.out; omega)
      have hi1 := eq_true (show i < (l.length : Int) by have := HI.out; omega)
      have HM := AK (HH.out.2.2 _ (getD_mem l z72 i (by have := HI.out; omega) (by have := HI.out; omega)))
      have HTK := AK (take_one l z72 i (by have := HI.out; omega) (by have := HI.out; omega))
      obtain ⟨ad, F, f, e1, x0, x1, x2, _, hx⟩ := at_T72 (Kd.C_below HH.out.1 HB.out) i (by have := HI.out; omega) (by have := HI.out; omega)
      subst e1
      obtain ⟨z, ez⟩ : ∃ z, z = rd_T72 l i := ⟨_, rfl⟩
      rw [← ez] at x0 x1 x2 hx
      rw [show l.getD i.toNat z72 = z from ez.symm] at HM HTK
      have HC := AK hx
      clear ez hx
      go_wp2_with fail
      clear x0 x1 x2
      refine (toObj_c (x := z) HC.out HM.out).mono ?_
      rintro e w2 ⟨V, v, rfl, hr, hb⟩
      have hs := Kd.S_elder' HR.out (Kd.R_base hr) hb
      have hv := Kd.R_lower hr HB.out.size
      replace HB := AK (bst HB.out hb)
      have hml : ((l.take i.toNat).map cO ++ List.replicate ((l.length : Int) - i).toNat z38).length = l.length := by rw [List.length_append, List.length_map, List.length_take, List.length_replicate]; have := HI.out; omega
      obtain ⟨g, cap, ee, hgb, _⟩ := Kd.S_form hs (by rw [hml]; have := HI.out; omega)
      injection ee with e1 e2 e3
      subst e1 e3
      clear e2 hml
      obtain ⟨oki, ce, hcl, hM, hcc, hfr, hoki, hH⟩ := Kd.S_elem (Kd.S_mono (ok' := fun k => (fun _ => True) k ∧ ¬ (fun k => some k = (Value.slice V z.f2.length v).ownBlock) k) hs (fun k hk => ⟨trivial, fun e => hk.2 e⟩)) z38 i (by have := HI.out; omega) (by have := HI.out; omega)
      obtain ⟨u, rfl, _⟩ := k38_openM hM
      have hN := (Kd.S_seg hH (by have := HI.out; omega) (by have := HI.out; omega) (seg := [.int .i64 z.f0, .string z.f1, .slice V z.f2.length v]) (j := 0) (show 3 ≤ 3 from by decide) (x' := cO z) (okp := fun k => some k = (Value.slice V z.f2.length v).ownBlock) (k38_mkM _ _ _ (cO z) (Kd.R_tight rfl hv)) (fun k hk => .inr hk) (fun k hk => ⟨trivial, fun e => by
        have h1 := (Kd.S_R hs).1 g rfl
        exact h1.2 (e ▸ hk)⟩)).1
      rw [mix_set _ _ _ _ _ (by rw [List.length_map, List.length_take]; have := HI.out; omega) (by have := HI.out; omega), show [cO z] = [z].map cO from rfl, ← List.map_append, ← HTK.out] at hN
      have N0 := AK hN
      have x0 : w2.cell? ⟨g, i.toNat * 3, none⟩ = some _ := hcc 0 _ rfl
      have x1 : w2.cell? ⟨g, i.toNat * 3 + 1, none⟩ = some _ := hcc 1 _ rfl
      have x2 : w2.cell? ⟨g, i.toNat * 3 + 2, none⟩ = some _ := hcc 2 _ rfl
      have f0 : w2.frozen? ⟨g, i.toNat * 3, none⟩ = false := hfr 0
      have f1 : w2.frozen? ⟨g, i.toNat * 3 + 1, none⟩ = false := hfr 1
      have f2 : w2.frozen? ⟨g, i.toNat * 3 + 2, none⟩ = false := hfr 2
      have N1 := AK (below_set (j := i.toNat * 3 + 2) (v := .slice V z.f2.length v) (below_set (j := i.toNat * 3 + 1) (v := .string z.f1) (below_set (j := i.toNat * 3) (v := .int .i64 z.f0) HB.out hgb) hgb) hgb)
      clear hcl hM hcc hfr hoki hH hN hs hv hr hb hgb HR HB
      go_wp2
      go_roundg k1
      case measure => omega
      case rel =>
        rw [wrap_succ i (by have := HI.out; omega) (by have := HI.out; have := HH.out; omega)]
        exact ⟨i + 1, rfl, ⟨by have := HI.out; omega, by have := HI.out; omega⟩, N0, N1⟩
theorem toWatch_c {x : S126} : Calls Try.prog 115 #[.agg #[.int .i64 x.f0, .int .i64 x.f1]] w fun e w' => e = .returned (.agg #[.int .i64 x.f0, .int .i64 x.f1]) ∧ Below w.heap.size w w' := by
  have HB := AK (below_alloc (below_alloc (below_alloc (Below.refl w.heap.size w) (.cells #[.int .i64 x.f0, .int .i64 x.f1] 126 (0, 0))) (.cells #[.int .i64 0, .int .i64 0] 60 (0, 0))) (.cells #[.int .i64 x.f0, .int .i64 x.f1] 60 (0, 0)))
  have HZ := AK (blk_alloc (blk_new1 w (.cells #[.int .i64 x.f0, .int .i64 x.f1] 126 (0, 0)) (.cells #[.int .i64 0, .int .i64 0] 60 (0, 0))) (.cells #[.int .i64 x.f0, .int .i64 x.f1] 60 (0, 0)))
  have HT := AK (blk_newC w (.cells #[.int .i64 x.f0, .int .i64 x.f1] 126 (0, 0)) (.cells #[.int .i64 0, .int .i64 0] 60 (0, 0)) (.cells #[.int .i64 x.f0, .int .i64 x.f1] 60 (0, 0)))
  go_enter Try.func115, Try.ntmps115
  go_upto_region 4 with fail
  generalize (((w.alloc (.cells #[.int .i64 x.f0, .int .i64 x.f1] 126 (0, 0))).alloc (.cells #[.int .i64 0, .int .i64 0] 60 (0, 0))).alloc (.cells #[.int .i64 x.f0, .int .i64 x.f1] 60 (0, 0))) = w1 at HB HZ HT ⊢
  obtain ⟨p0, p1⟩ := box2 HT.out
  obtain ⟨q0, q1⟩ := box2 HZ.out
  have f0 := bfz HZ.out 0
  have f1 := bfz HZ.out 1
  go_wp2
  refine bodyPost_ret (results_cell_row rfl _ _ (w.heap.size + 1) 60 #[.int .i64 x.f0, .int .i64 x.f1] (0, 0) _ rfl (blk_put (blk_put HZ.out 0 (.int .i64 x.f0) rfl) 1 (.int .i64 x.f1) rfl) Try.underlying60 rfl (by kernel_rfl)) rfl ?_
  exact ⟨rfl, below_set (below_set HB.out (by omega)) (by omega)⟩
set_option maxHeartbeats 2000000 in
theorem toWatchS_c {l : List S126} (h : Kd.C k126 w A l.length l) (hl : l.length ≤ 1048576) : Calls Try.prog 81 #[.slice A l.length c] w fun e w' => ∃ B d, e = .returned (.slice B l.length d) ∧ Kd.R k60 60 w' w.heap.size (fun _ => True) (.slice B l.length d) (l.map cW) ∧ Below w.heap.size w w' := by
  have HH := AK (And.intro h hl)
  have bl : 0 ≤ (l.length : Int) := by omega
  clear h hl
  go_enter Try.func81, Try.ntmps81
  go_wp2_with ((with_reducible refine gate_dst (N := 7) rfl ?_); refine Kd.R_make k60 (w0 := w) w.heap.size 60 rfl (N := 7) rfl 26 _ _ rfl (l.length : Int) rfl rfl Try.underlying26 (.agg #[(.int .i64 0), (.int .i64 0)]) 16 info60 rfl (by decide) (by omega) z60 (ok := fun _ => True) (okp := fun _ => True) (k60_mkM _ _ _ z60) (fun _ hk => hk) trivial (by omega) (by have := HH.out.2; omega) (Below.refl _ _) (Nat.le_refl _) ?_; intro v7 w4 hr hb _ _; have HR := AK hr; have HB := AK hb; clear hr hb)
  have hr := HR.out
  rw [Int.toNat_natCast] at hr
  obtain ⟨B, d, ee⟩ := Kd.R_slice hr
  subst ee
  rw [List.length_replicate] at hr ⊢
  replace HR := AK hr
  clear hr
  go_loopg [4] l.length (fun kq v4 w' => ∃ i : Int, v4 = .int .i64 i ∧ Aside0 (0 ≤ i ∧ i + kq = l.length) ∧ Aside0 (Kd.R k60 60 w' w.heap.size (fun _ => True) (.slice B l.length d) ((l.take i.toNat).map cW ++ List.replicate ((l.length : Int) - i).toNat z60)) ∧ Aside0 (Below w.heap.size w w'))
  case atStart => exact ⟨0, rfl, ⟨by omega, by omega⟩, ⟨by simpa using HR.out⟩, HB⟩
  case round =>
    clear HR HB
    obtain ⟨i, rfl, HI, HR, HB⟩ := hrel
    cases gk with
    | zero =>
      have c9 : decide (i < (l.length : Int)) = false := deF (by have := HI.out; omega)
      have hr := HR.out
      rw [take_all _ _ (by have := HI.out; omega), show ((l.length : Int) - i).toNat = 0 by have := HI.out; omega, List.replicate_zero, List.append_nil] at hr
      have HZ := AK hr
      clear hr
      go_wp2
      go_ret
      exact ⟨B, d, rfl, HZ.out, HB.out⟩
    | succ k1 =>
      have c9 : decide (i < (l.length : Int)) = true := deT (by have := HI.out; omega)
      have hi0 := eq_true (show 0 ≤ i by have := HI.out; omega)
      have hi1 := eq_true (show i < (l.length : Int) by have := HI.out; omega)
      have HTK := AK (take_one l z126 i (by have := HI.out; omega) (by have := HI.out; omega))
      obtain ⟨ad, e1, x0, x1⟩ := at_T126 (Kd.C_below HH.out.1 HB.out) i (by have := HI.out; omega) (by have := HI.out; omega)
      subst e1
      obtain ⟨z, ez⟩ : ∃ z, z = rd_T126 l i := ⟨_, rfl⟩
      rw [← ez] at x0 x1
      rw [show l.getD i.toNat z126 = z from ez.symm] at HTK
      clear ez
      go_wp2_with fail
      clear x0 x1
      refine (toWatch_c (x := z)).mono ?_
      rintro e w2 ⟨rfl, hb⟩
      have hs := Kd.R_below HR.out hb
      replace HB := AK (bst HB.out hb)
      have hml : ((l.take i.toNat).map cW ++ List.replicate ((l.length : Int) - i).toNat z60).length = l.length := by rw [List.length_append, List.length_map, List.length_take, List.length_replicate]; have := HI.out; omega
      obtain ⟨g, cap, ee, hgb, _⟩ := Kd.R_form hs (by rw [hml]; have := HI.out; omega)
      injection ee with e1 e2 e3
      subst e1 e3
      clear e2 hml
      obtain ⟨ce, hcl, hM, hcc, hfr⟩ := Kd.R_elem hs z60 i (by have := HI.out; omega) (by have := HI.out; omega)
      obtain rfl := k60_openM hM
      have hN := RW_set hs i (by have := HI.out; omega) (by have := HI.out; omega) (cW z)
      rw [mix_set _ _ _ _ _ (by rw [List.length_map, List.length_take]; have := HI.out; omega) (by have := HI.out; omega), show [cW z] = [z].map cW from rfl, ← List.map_append, ← HTK.out] at hN
      have N0 := AK hN
      have x0 : w2.cell? ⟨g, i.toNat * 2, none⟩ = some _ := hcc 0 _ rfl
      have x1 : w2.cell? ⟨g, i.toNat * 2 + 1, none⟩ = some _ := hcc 1 _ rfl
      have f0 : w2.frozen? ⟨g, i.toNat * 2, none⟩ = false := hfr 0
      have f1 : w2.frozen? ⟨g, i.toNat * 2 + 1, none⟩ = false := hfr 1
      have N1 := AK (below_set (j := i.toNat * 2 + 1) (v := .int .i64 z.f1) (below_set (j := i.toNat * 2) (v := .int .i64 z.f0) HB.out hgb) hgb)
      clear hcl hM hcc hfr hN hs hb hgb HR HB
      go_wp2
      go_roundg k1
      case measure => omega
      case rel =>
        rw [wrap_succ i (by have := HI.out; omega) (by have := HI.out; have := HH.out; omega)]
        exact ⟨i + 1, rfl, ⟨by have := HI.out; omega, by have := HI.out; omega⟩, N0, N1⟩
end
end Go.Proofs.Ytigjhfijkdlldaa.H
end
