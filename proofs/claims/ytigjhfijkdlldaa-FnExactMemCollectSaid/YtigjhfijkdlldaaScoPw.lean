/- The spec's parts of collecting come to the plain words. -/
import Derived.Test.YtigjhfijkdlldaaScoPt
import Derived.Test.YtigjhfijkdlldaaScoL3
import Derived.Test.YtigjhfijkdlldaaScoL3m
namespace Go.Proofs.Ytigjhfijkdlldaa.H
open Go.RowKit Go.Proofs.YtigjhfijkdlldaaW.PrintWords Go.Proofs.YtigjhfijkdlldaaW.PrintLast Go.Proofs.YtigjhfijkdlldaaW.PrintMore Go.Proofs.Ytigjhfijkdlldaa.Q
set_option linter.unusedVariables false
theorem toldL_cons (x : List Int) (a : S60) (l : List S60) : toldL x (a :: l) = if toldB x a = true then a :: toldL x l else toldL x l := by
  unfold toldL
  by_cases c : toldB x a = true
  · rw [if_pos c, List.filter_cons_of_pos c]
  · rw [if_neg c, List.filter_cons_of_neg c]
theorem l3Told_l0 (x : List Int) (hx : (x.length : Int) ≤ 9223372036854775807) (l0 : List S38) (l1 : List Int) (l2 l3 : List S60) (hl : (l2.length : Int) ≤ 4611686018427) (d : Nat) :
    ∀ (k : Nat) (i : Int) (o : List S60), 0 ≤ i → i + d = l2.length → (o.length : Int) ≤ i → d + x.length < k → spec_l3Told.l0 k x o i l0 l1 l2 l3 = some (o ++ toldL x (l2.drop i.toNat)) := by
  induction d with
  | zero =>
    intro k i o h0 h1 ho hk
    obtain ⟨k, rfl⟩ : ∃ m, k = m + 1 := ⟨k - 1, by omega⟩
    simp only [spec_l3Told.l0]
    rw [if_neg (by omega), drop_end _ _ (by omega)]; simp [toldL]
  | succ d ih =>
    intro k i o h0 h1 ho hk
    obtain ⟨k, rfl⟩ : ∃ m, k = m + 1 := ⟨k - 1, by omega⟩
    simp only [spec_l3Told.l0]
    rw [if_pos (by omega), if_pos h0, l2At_k x _ hx k (by omega), l2At_k x _ hx k (by omega), drop_cons l2 z60 i h0 (by omega), toldL_cons, wrap_succ _ h0 (by omega)]
    simp only [Option.bind_some]
    show (if idxL x (rd_T60 l2 i).f0 ≥ 0 then _ else _) = some (o ++ if toldB x (rd_T60 l2 i) = true then rd_T60 l2 i :: _ else _)
    have hn := ih k (i + 1) o (by omega) (by omega) (by omega) (by omega)
    by_cases c : 0 ≤ idxL x (rd_T60 l2 i).f0
    · rw [if_pos c]
      by_cases c2 : idxL x (rd_T60 l2 i).f1 < 0
      · have ht : toldB x (rd_T60 l2 i) = true := by unfold toldB; rw [deT c, deT c2]; rfl
        rw [if_pos c2, if_pos (by omega), if_pos ht, ih k (i + 1) _ (by omega) (by omega) (by simp; omega) (by omega), List.append_assoc]; rfl
      · have ht : ¬ toldB x (rd_T60 l2 i) = true := by unfold toldB; rw [deF c2]; simp
        rw [if_neg c2, if_neg ht, hn]
    · have ht : ¬ toldB x (rd_T60 l2 i) = true := by unfold toldB; rw [deF c]; simp
      rw [if_neg c, if_neg ht, hn]
theorem l3Told_f (x : List Int) (hx : (x.length : Int) ≤ 9223372036854775807) (l0 : List S38) (l1 : List Int) (l2 l3 : List S60) (hl : (l2.length : Int) ≤ 4611686018427) : spec_l3Told.f (l2.length + x.length + 1) l0 l1 l2 l3 x = some (toldL x l2) := by
  unfold spec_l3Told.f
  rw [l3Told_l0 x hx l0 l1 l2 l3 hl l2.length _ 0 [] (by omega) (by omega) (by simp) (by omega)]; rfl
def withoutL (t l : List S60) : List S60 := l.filter fun w => !t.any fun u => weB u w
theorem l3Without_l1 (t l : List S60) (ht : (t.length : Int) ≤ 4611686018427) (i : Int) (h0 : 0 ≤ i) (h1 : i < l.length) (o : List S60) (r : List S60) (K : Nat) (ho : o.length < 8796093022208)
    (hr : ∀ k, K ≤ k → spec_l3Without.l0 k l t (o ++ if (t.any fun u => weB u (rd_T60 l i)) = true then [] else [rd_T60 l i]) (wrap64 (i + 1)) = some r) (d : Nat) :
    ∀ (k : Nat) (j : Int) (b : Bool), 0 ≤ j → j + d = t.length → d + K < k → (b || (t.drop j.toNat).any fun u => weB u (rd_T60 l i)) = (t.any fun u => weB u (rd_T60 l i)) → spec_l3Without.l1 k l t o i b j = some r := by
  induction d with
  | zero =>
    intro k j b hj0 hj1 hk hb
    obtain ⟨k, rfl⟩ : ∃ m, k = m + 1 := ⟨k - 1, by omega⟩
    have h2 := hr k (by omega)
    rw [drop_end _ _ (by omega)] at hb
    simp only [List.any_nil, Bool.or_false] at hb
    simp only [spec_l3Without.l1]
    rw [← hb] at h2
    rw [if_neg (by omega)]
    cases b
    · rw [if_neg (by simp), if_pos h0, if_pos (by omega), if_pos (by omega)]
      exact h2
    · rw [if_pos rfl]
      rw [if_pos rfl, List.append_nil] at h2
      exact h2
  | succ d ih =>
    intro k j b hj0 hj1 hk hb
    obtain ⟨k, rfl⟩ : ∃ m, k = m + 1 := ⟨k - 1, by omega⟩
    rw [drop_cons t z60 j hj0 (by omega), List.any_cons] at hb
    simp only [spec_l3Without.l1]
    rw [if_pos (by omega), wrap_succ _ hj0 (by omega)]
    cases b
    · rw [if_neg (by simp), if_pos hj0, if_pos h0, if_pos (by omega)]
      exact ih k (j + 1) _ (by omega) (by omega) (by omega) (by rw [Bool.false_or] at hb; exact hb)
    · rw [if_pos rfl]
      exact ih k (j + 1) true (by omega) (by omega) (by omega) (by rw [← hb]; rfl)
theorem withoutL_cons (t : List S60) (a : S60) (l : List S60) : withoutL t (a :: l) = (if (t.any fun u => weB u a) = true then [] else [a]) ++ withoutL t l := by
  unfold withoutL
  by_cases c : (t.any fun u => weB u a) = true
  · rw [if_pos c, List.filter_cons_of_neg (by rw [c]; simp)]; rfl
  · rw [if_neg c, List.filter_cons_of_pos (by simpa using c)]; rfl
theorem l3Without_l0 (t l : List S60) (ht : (t.length : Int) ≤ 4611686018427) (hl : (l.length : Int) ≤ 4611686018427) (d : Nat) :
    ∀ (i : Int) (o : List S60), 0 ≤ i → i + d = l.length → (o.length : Int) ≤ i → ∃ K, ∀ k, K ≤ k → spec_l3Without.l0 k l t o i = some (o ++ withoutL t (l.drop i.toNat)) := by
  induction d with
  | zero =>
    intro i o h0 h1 ho
    refine ⟨1, fun k hk => ?_⟩
    obtain ⟨k, rfl⟩ : ∃ m, k = m + 1 := ⟨k - 1, by omega⟩
    simp only [spec_l3Without.l0]
    rw [if_neg (by omega), drop_end _ _ (by omega)]; simp [withoutL]
  | succ d ih =>
    intro i o h0 h1 ho
    have ho2 : ((o ++ if (t.any fun u => weB u (rd_T60 l i)) = true then [] else [rd_T60 l i]).length : Int) ≤ i + 1 := by
      split <;> simp <;> omega
    obtain ⟨K, hK⟩ := ih (i + 1) _ (by omega) (by omega) ho2
    refine ⟨t.length + K + 3, fun k hk => ?_⟩
    obtain ⟨k, rfl⟩ : ∃ m, k = m + 1 := ⟨k - 1, by omega⟩
    simp only [spec_l3Without.l0]
    rw [if_pos (by omega)]
    refine l3Without_l1 t l ht i h0 (by omega) o _ K (by omega) (fun k hk => ?_) t.length k 0 false (by omega) (by omega) (by omega) (by simp)
    rw [wrap_succ _ h0 (by omega), hK k hk, drop_cons l z60 i h0 (by omega), withoutL_cons, ← List.append_assoc]; rfl
theorem l3Without_f (t l : List S60) (ht : (t.length : Int) ≤ 4611686018427) (hl : (l.length : Int) ≤ 4611686018427) : ∃ k, spec_l3Without.f k l t = some (withoutL t l) := by
  obtain ⟨K, hK⟩ := l3Without_l0 t l ht hl l.length 0 [] (by omega) (by omega) (by simp)
  exact ⟨K, hK K (Nat.le_refl _)⟩
theorem without_told (x : List Int) (l : List S60) : withoutL (toldL x l) l = stayL x l := by
  unfold withoutL stayL
  refine List.filter_congr (fun w hw => ?_)
  congr 1
  rw [Bool.eq_iff_iff, List.any_eq_true]
  constructor
  · rintro ⟨u, hu, h⟩
    have h1 := (List.mem_filter.1 hu).2
    unfold weB at h
    rw [Bool.and_eq_true, beq_iff_eq, beq_iff_eq] at h
    unfold toldB at h1 ⊢
    rw [h.1, h.2] at h1
    exact h1
  · intro h
    exact ⟨w, List.mem_filter.2 ⟨hw, h⟩, by unfold weB; simp⟩
theorem movedW_cons (x : List Int) (a : S60) (l : List S60) : movedW x (a :: l) = if (decide (0 ≤ idxL x a.f0) && decide (0 ≤ idxL x a.f1)) = true then ⟨idxL x a.f0, idxL x a.f1⟩ :: movedW x l else movedW x l := by
  unfold movedW
  by_cases c : (decide (0 ≤ idxL x a.f0) && decide (0 ≤ idxL x a.f1)) = true
  · rw [if_pos c, List.filter_cons_of_pos (by exact c)]; rfl
  · rw [if_neg c, List.filter_cons_of_neg (by exact c)]
theorem l3Moved_l0 (x : List Int) (hx : (x.length : Int) ≤ 9223372036854775807) (l : List S60) (hl : (l.length : Int) ≤ 4611686018427) (d : Nat) :
    ∀ (k : Nat) (i : Int) (o : List S60), 0 ≤ i → i + d = l.length → (o.length : Int) ≤ i → 2 * d + x.length + 1 < k → spec_l3Moved.l0 k l x o i = some (o ++ movedW x (l.drop i.toNat)) := by
  induction d with
  | zero =>
    intro k i o h0 h1 ho hk
    obtain ⟨k, rfl⟩ : ∃ m, k = m + 1 := ⟨k - 1, by omega⟩
    simp only [spec_l3Moved.l0]
    rw [if_neg (by omega), drop_end _ _ (by omega)]; simp [movedW]
  | succ d ih =>
    intro k i o h0 h1 ho hk
    obtain ⟨k, rfl⟩ : ∃ m, k = m + 2 := ⟨k - 2, by omega⟩
    simp only [spec_l3Moved.l0]
    rw [if_pos (by omega), if_pos h0, l2At_k x _ hx (k + 1) (by omega), l2At_k x _ hx (k + 1) (by omega), drop_cons l z60 i h0 (by omega), movedW_cons]
    simp only [Option.bind_some]
    show (if idxL x (rd_T60 l i).f0 ≥ 0 then _ else _) = some (o ++ if (decide (0 ≤ idxL x (rd_T60 l i).f0) && decide (0 ≤ idxL x (rd_T60 l i).f1)) = true then _ else _)
    have hn := ih k (i + 1) o (by omega) (by omega) (by omega) (by omega)
    have hj : ∀ b : Bool, spec_l3Moved.j1 (k + 1) l x o i b = some (o ++ if b = true then ⟨idxL x (rd_T60 l i).f0, idxL x (rd_T60 l i).f1⟩ :: movedW x (l.drop (i + 1).toNat) else movedW x (l.drop (i + 1).toNat)) := by
      intro b
      simp only [spec_l3Moved.j1]
      rw [wrap_succ _ h0 (by omega)]
      cases b
      · rw [if_neg (by simp), if_neg (by simp), hn]
      · rw [if_pos rfl, if_pos rfl, if_pos h0, if_pos (by omega), l2At_k x _ hx k (by omega), l2At_k x _ hx k (by omega)]
        simp only [Option.bind_some]
        rw [if_pos (by omega), ih k (i + 1) _ (by omega) (by omega) (by simp; omega) (by omega), List.append_assoc]; rfl
    by_cases c : 0 ≤ idxL x (rd_T60 l i).f0
    · rw [if_pos c, hj, deT c]; rfl
    · rw [if_neg c, hj, deF c]; rfl
theorem l3Moved_f (x : List Int) (hx : (x.length : Int) ≤ 9223372036854775807) (l : List S60) (hl : (l.length : Int) ≤ 4611686018427) : spec_l3Moved.f (2 * l.length + x.length + 2) l x = some (movedW x l) := by
  unfold spec_l3Moved.f
  rw [l3Moved_l0 x hx l hl l.length _ 0 [] (by omega) (by omega) (by simp) (by omega)]; rfl
end Go.Proofs.Ytigjhfijkdlldaa.H
