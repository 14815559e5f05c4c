/- What MemSame answers, in plain words; the spec's parts come to it. -/
import Derived.Test.YtigjhfijkdlldaaSsaPd
import Derived.Test.YtigjhfijkdlldaaSsaL2s
namespace Go.Proofs.Ytigjhfijkdlldaa.H
open Go.RowKit Go.Proofs.YtigjhfijkdlldaaW.PrintWords Go.Proofs.YtigjhfijkdlldaaW.PrintLast Go.Proofs.YtigjhfijkdlldaaW.PrintMore Go.Proofs.Ytigjhfijkdlldaa.Q
set_option linter.unusedVariables false
/-- Two lists, place by place. -/
def cmp2 {α β : Type} (f : α → β → Bool) : List α → List β → Bool
  | x :: l, y :: m => f x y && cmp2 f l m
  | _, _ => true
theorem cmp2_at {α β : Type} (f : α → β → Bool) (l : List α) (m : List β) (da : α) (db : β) (i : Int) (h0 : 0 ≤ i) (h1 : i < l.length) (h2 : i < m.length) :
    cmp2 f (l.drop i.toNat) (m.drop i.toNat) = (f (l.getD i.toNat da) (m.getD i.toNat db) && cmp2 f (l.drop (i + 1).toNat) (m.drop (i + 1).toNat)) := by
  rw [drop_cons l da i h0 h1, drop_cons m db i h0 h2]; rfl
theorem cmp2_end {α β : Type} (f : α → β → Bool) (l : List α) (m : List β) (i : Int) (h : (l.length : Int) ≤ i) : cmp2 f (l.drop i.toNat) (m.drop i.toNat) = true := by
  rw [drop_end _ _ h]; rfl
def wh (l : List Int) (p : Int) : Int := if p < 0 then -1 else idxL l p
def whB (x y : List Int) (p q : Int) : Bool := wh x p == wh y q
def rowsB (x y l m : List Int) : Bool := decide (l.length = m.length) && cmp2 (whB x y) l m
def alikeB (x y : List Int) (a b : S38) : Bool := decide (a.f0 = b.f0) && decide (a.f1.toList = b.f1.toList) && rowsB x y a.f2 b.f2
def weB (a b : S60) : Bool := (a.f0 == b.f0) && (a.f1 == b.f1)
def sameW (l m : List S60) : Bool := decide (l.length = m.length) && cmp2 weB l m
def seenW (x : List Int) (l : List S60) : List S60 := (l.filter fun w => decide (0 ≤ idxL x w.f0)).map fun w => ⟨idxL x w.f0, idxL x w.f1⟩
def objsB (l0 m0 : List S38) (x y : List Int) : Bool := cmp2 (fun p q => alikeB x y (rd_T38 l0 p) (rd_T38 m0 q)) x y
/-- The part behind the guards. -/
def sameC (l0 : List S38) (l1 : List Int) (l2 l3 : List S60) (m0 : List S38) (m1 : List Int) (m2 m3 : List S60) (x y : List Int) : Bool :=
  decide (x.length = y.length) && (cmp2 (whB x y) l1 m1 && (objsB l0 m0 x y && (sameW (seenW x l2) (seenW y m2) && sameW (seenW x l3) (seenW y m3))))
def sameB (l0 : List S38) (l1 : List Int) (l2 l3 : List S60) (m0 : List S38) (m1 : List Int) (m2 m3 : List S60) : Bool :=
  okB l0 l1 l2 l3 && (okB m0 m1 m2 m3 && (decide (l1.length = m1.length) && sameC l0 l1 l2 l3 m0 m1 m2 m3 (reachL l0 l1 l3) (reachL m0 m1 m3)))
theorem l2At_k (l : List Int) (n : Int) (hl : (l.length : Int) ≤ 9223372036854775807) (k : Nat) (hk : l.length < k) : spec_l2At.f k l n = some (idxL l n) := by
  unfold spec_l2At.f
  rw [l2At_l0 l n hl l.length k 0 (by omega) (by omega) (by omega)]
  have := (idxL_range l n).1
  show some (if idxL l n < 0 then -1 else idxL l n + 0) = _
  split
  · congr 1; omega
  · congr 1; omega
theorem l2Where_k (l : List Int) (n : Int) (hl : (l.length : Int) ≤ 9223372036854775807) (k : Nat) (hk : l.length < k) : spec_l2Where.f k l n = some (wh l n) := by
  unfold spec_l2Where.f wh
  split
  · rfl
  · rw [l2At_k l n hl k hk]; rfl
theorem l2Alike_l0 (x y : List Int) (hx : (x.length : Int) ≤ 9223372036854775807) (hy : (y.length : Int) ≤ 9223372036854775807) (a0 b0 : Int) (a1 b1 : ByteArray) (l m : List Int) (hl : (l.length : Int) ≤ 9223372036854775807) (he : l.length = m.length) (d : Nat) :
    ∀ (k : Nat) (i : Int), 0 ≤ i → i + d = l.length → d + x.length + y.length + 1 < k → spec_l2Alike.l0 k x y i a0 a1 l b0 b1 m = some (cmp2 (whB x y) (l.drop i.toNat) (m.drop i.toNat)) := by
  induction d with
  | zero =>
    intro k i h0 h1 hk
    obtain ⟨k, rfl⟩ : ∃ m, k = m + 1 := ⟨k - 1, by omega⟩
    simp only [spec_l2Alike.l0]
    rw [if_neg (by omega), cmp2_end _ _ _ _ (by omega)]
  | succ d ih =>
    intro k i h0 h1 hk
    obtain ⟨k, rfl⟩ : ∃ m, k = m + 1 := ⟨k - 1, by omega⟩
    have hr := ih k (i + 1) (by omega) (by omega) (by omega)
    simp only [spec_l2Alike.l0]
    rw [if_pos (by omega), if_pos h0, l2Where_k x _ hx k (by omega)]
    simp only [Option.bind_some]
    rw [if_pos (by omega), l2Where_k y _ hy k (by omega), wrap_succ _ h0 (by omega), hr, cmp2_at _ l m 0 0 i h0 (by omega) (by omega)]
    simp only [Option.bind_some]
    unfold whB
    show (if wh x (rd l i) = wh y (rd m i) then _ else _) = some ((wh x (rd l i) == wh y (rd m i)) && _)
    by_cases c : wh x (rd l i) = wh y (rd m i)
    · rw [if_pos c, beq_iff_eq.2 c]; rfl
    · rw [if_neg c, beq_eq_false_iff_ne.2 c]; rfl
theorem l2Alike_f (x y : List Int) (hx : (x.length : Int) ≤ 9223372036854775807) (hy : (y.length : Int) ≤ 9223372036854775807) (a b : S38) (hl : (a.f2.length : Int) ≤ 9223372036854775807) :
    Ev (fun k => spec_l2Alike.f k a.f0 a.f1 a.f2 b.f0 b.f1 b.f2 x y) (alikeB x y a b) := by
  refine ⟨a.f2.length + x.length + y.length + 3, fun k hk => ?_⟩
  obtain ⟨k, rfl⟩ : ∃ m, k = m + 1 := ⟨k - 1, by omega⟩
  show spec_l2Alike.f (k + 1) _ _ _ _ _ _ _ _ = _
  unfold spec_l2Alike.f alikeB rowsB
  by_cases c1 : a.f0 = b.f0
  · by_cases c2 : a.f1.toList = b.f1.toList
    · rw [if_pos c1, if_pos c2, decide_eq_true c1, decide_eq_true c2]
      simp only [spec_l2Alike.j0]
      by_cases c3 : a.f2.length = b.f2.length
      · rw [if_neg (by simp [c3]), l2Alike_l0 x y hx hy _ _ _ _ _ _ hl c3 a.f2.length k 0 (by omega) (by omega) (by omega), decide_eq_true c3]; rfl
      · rw [if_pos (by simp; omega), decide_eq_false c3]; rfl
    · rw [if_pos c1, if_neg c2, decide_eq_false c2]; simp [spec_l2Alike.j0]
  · rw [if_neg c1, decide_eq_false c1]; simp [spec_l2Alike.j0]
theorem l2SameWatches_l0 (l m : List S60) (hl : (l.length : Int) ≤ 9223372036854775807) (he : l.length = m.length) (d : Nat) :
    ∀ (k : Nat) (i : Int), 0 ≤ i → i + d = l.length → d < k → spec_l2SameWatches.l0 k l m i = some (cmp2 weB (l.drop i.toNat) (m.drop i.toNat)) := by
  induction d with
  | zero =>
    intro k i h0 h1 hk
    obtain ⟨k, rfl⟩ : ∃ m, k = m + 1 := ⟨k - 1, by omega⟩
    simp only [spec_l2SameWatches.l0]
    rw [if_neg (by omega), cmp2_end _ _ _ _ (by omega)]
  | succ d ih =>
    intro k i h0 h1 hk
    obtain ⟨k, rfl⟩ : ∃ m, k = m + 1 := ⟨k - 1, by omega⟩
    have hr := ih k (i + 1) (by omega) (by omega) (by omega)
    simp only [spec_l2SameWatches.l0]
    rw [if_pos (by omega), if_pos h0, if_pos (by omega), wrap_succ _ h0 (by omega), hr, cmp2_at _ l m z60 z60 i h0 (by omega) (by omega)]
    unfold weB
    show (if (!((rd_T60 l i).f0 == (rd_T60 m i).f0) || !((rd_T60 l i).f1 == (rd_T60 m i).f1)) = true then _ else _) = some ((((rd_T60 l i).f0 == (rd_T60 m i).f0) && ((rd_T60 l i).f1 == (rd_T60 m i).f1)) && _)
    cases ((rd_T60 l i).f0 == (rd_T60 m i).f0) <;> cases ((rd_T60 l i).f1 == (rd_T60 m i).f1) <;> simp
theorem l2SameWatches_f (l m : List S60) (hl : (l.length : Int) ≤ 9223372036854775807) : Ev (fun k => spec_l2SameWatches.f k l m) (sameW l m) := by
  refine ⟨l.length + 1, fun k hk => ?_⟩
  show spec_l2SameWatches.f k l m = _
  unfold spec_l2SameWatches.f sameW
  by_cases c : l.length = m.length
  · rw [if_pos (by omega), l2SameWatches_l0 l m hl c l.length k 0 (by omega) (by omega) (by omega), decide_eq_true c]; rfl
  · rw [if_neg (by omega), decide_eq_false c]; rfl
theorem seenW_cons (x : List Int) (a : S60) (l : List S60) : seenW x (a :: l) = if 0 ≤ idxL x a.f0 then ⟨idxL x a.f0, idxL x a.f1⟩ :: seenW x l else seenW x l := by
  unfold seenW
  by_cases c : 0 ≤ idxL x a.f0
  · rw [if_pos c, List.filter_cons_of_pos (by simpa using c)]; rfl
  · rw [if_neg c, List.filter_cons_of_neg (by simpa using c)]
theorem l2Watches_l0 (x : List Int) (hx : (x.length : Int) ≤ 9223372036854775807) (l : List S60) (hl : (l.length : Int) ≤ 4611686018427) (d : Nat) :
    ∀ (k : Nat) (i : Int) (o : List S60), 0 ≤ i → i + d = l.length → (o.length : Int) ≤ i → d + x.length < k → spec_l2Watches.l0 k l x o i = some (o ++ seenW x (l.drop i.toNat)) := by
  induction d with
  | zero =>
    intro k i o h0 h1 ho hk
    obtain ⟨k, rfl⟩ : ∃ m, k = m + 1 := ⟨k - 1, by omega⟩
    simp only [spec_l2Watches.l0]
    rw [if_neg (by omega), drop_end _ _ (by omega)]; simp [seenW]
  | succ d ih =>
    intro k i o h0 h1 ho hk
    obtain ⟨k, rfl⟩ : ∃ m, k = m + 1 := ⟨k - 1, by omega⟩
    simp only [spec_l2Watches.l0]
    rw [if_pos (by omega), if_pos h0, l2At_k x _ hx k (by omega), l2At_k x _ hx k (by omega), drop_cons l z60 i h0 (by omega), seenW_cons, wrap_succ _ h0 (by omega)]
    simp only [Option.bind_some]
    show (if idxL x (rd_T60 l i).f0 ≥ 0 then _ else _) = some (o ++ if 0 ≤ idxL x (rd_T60 l i).f0 then _ else _)
    by_cases c : 0 ≤ idxL x (rd_T60 l i).f0
    · rw [if_pos c, if_pos c, if_pos (by omega), ih k (i + 1) _ (by omega) (by omega) (by simp; omega) (by omega)]
      rw [List.append_assoc]; rfl
    · rw [if_neg c, if_neg c, ih k (i + 1) o (by omega) (by omega) (by omega) (by omega)]
theorem l2Watches_f (x : List Int) (hx : (x.length : Int) ≤ 9223372036854775807) (l : List S60) (hl : (l.length : Int) ≤ 4611686018427) : Ev (fun k => spec_l2Watches.f k l x) (seenW x l) := by
  refine ⟨l.length + x.length + 1, fun k hk => ?_⟩
  show spec_l2Watches.f k l x = _
  unfold spec_l2Watches.f
  rw [l2Watches_l0 x hx l hl l.length k 0 [] (by omega) (by omega) (by simp) (by omega)]; rfl
end Go.Proofs.Ytigjhfijkdlldaa.H
