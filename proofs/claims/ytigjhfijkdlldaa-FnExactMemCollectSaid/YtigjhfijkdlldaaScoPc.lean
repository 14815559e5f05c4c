/- Coming to, in plain words: put, next, trace, reach; that a reach is finished and what it holds. -/
import Derived.Test.YtigjhfijkdlldaaScoHad
namespace Go.Proofs.Ytigjhfijkdlldaa.H
open Go.RowKit Go.Proofs.YtigjhfijkdlldaaW.PrintWords Go.Proofs.YtigjhfijkdlldaaW.PrintLast Go.Proofs.YtigjhfijkdlldaaW.PrintMore Go.Proofs.Ytigjhfijkdlldaa.Q
set_option linter.unusedVariables false
def putAll (l : List Int) (xs : List Int) : List Int := xs.foldl putL l
def nextL (l0 : List S38) (l3 : List S60) (p : Int) : List Int :=
  if (rd_T38 l0 p).f0 = 3 then (rd_T38 l0 p).f2.drop 1 else if (rd_T38 l0 p).f0 = 4 then (l3.filter (fun x => x.f0 == p)).map (·.f1) else (rd_T38 l0 p).f2
def traceL (l0 : List S38) (l3 : List S60) : Nat → Int → List Int → List Int
  | 0, _, l => l
  | n + 1, i, l => if i < l.length then traceL l0 l3 n (i + 1) (putAll l (nextL l0 l3 (rd l i))) else l
def reachL (l0 : List S38) (l1 : List Int) (l3 : List S60) : List Int := traceL l0 l3 (l0.length + 1) 0 (putAll [] l1)
def GoodL (n : Nat) (l : List Int) : Prop := l.Nodup ∧ ∀ p ∈ l, 0 ≤ p ∧ p < n
theorem mem_putL (l : List Int) (p x : Int) : x ∈ putL l p ↔ x ∈ l ∨ (x = p ∧ 0 ≤ p) := by
  unfold putL
  by_cases c : p < 0
  · rw [if_pos c]; constructor
    · exact .inl
    · rintro (h | ⟨_, h⟩)
      · exact h
      · omega
  rw [if_neg c]
  by_cases d : p ∈ l
  · rw [if_pos d]; constructor
    · exact .inl
    · rintro (h | ⟨rfl, _⟩)
      · exact h
      · exact d
  · rw [if_neg d, List.mem_append, List.mem_singleton]
    constructor
    · rintro (h | h)
      · exact .inl h
      · exact .inr ⟨h, by omega⟩
    · rintro (h | ⟨h, _⟩)
      · exact .inl h
      · exact .inr h
theorem mem_putAll (xs : List Int) : ∀ (l : List Int) (x : Int), x ∈ putAll l xs ↔ x ∈ l ∨ (x ∈ xs ∧ 0 ≤ x) := by
  induction xs with
  | nil => intro l x; simp [putAll]
  | cons a xs ih =>
    intro l x
    show x ∈ putAll (putL l a) xs ↔ _
    rw [ih, mem_putL, List.mem_cons]
    constructor
    · rintro ((h | ⟨rfl, h⟩) | ⟨h, h'⟩)
      · exact .inl h
      · exact .inr ⟨.inl rfl, h⟩
      · exact .inr ⟨.inr h, h'⟩
    · rintro (h | ⟨rfl | h, h'⟩)
      · exact .inl (.inl h)
      · exact .inl (.inr ⟨rfl, h'⟩)
      · exact .inr ⟨h, h'⟩
theorem good_nil (n : Nat) : GoodL n [] := ⟨List.nodup_nil, fun p hp => by cases hp⟩
theorem good_putL {n : Nat} {l : List Int} (h : GoodL n l) {p : Int} (hp : p < n) : GoodL n (putL l p) := by
  refine ⟨?_, fun x hx => ?_⟩
  · unfold putL
    by_cases c : p < 0
    · rw [if_pos c]; exact h.1
    rw [if_neg c]
    by_cases d : p ∈ l
    · rw [if_pos d]; exact h.1
    · rw [if_neg d, List.nodup_append]
      exact ⟨h.1, by simp, fun a ha b hb => by simp at hb; subst hb; intro e; subst e; exact d ha⟩
  · rcases (mem_putL l p x).1 hx with hx | ⟨rfl, h0⟩
    · exact h.2 x hx
    · exact ⟨h0, hp⟩
theorem good_putAll {n : Nat} (xs : List Int) : ∀ {l : List Int}, GoodL n l → (∀ p ∈ xs, p < n) → GoodL n (putAll l xs) := by
  induction xs with
  | nil => intro l h _; exact h
  | cons a xs ih => intro l h hx; exact ih (good_putL h (hx a (List.mem_cons_self ..))) (fun p hp => hx p (List.mem_cons_of_mem _ hp))
theorem nodup_len : ∀ (n : Nat) (l : List Int), GoodL n l → l.length ≤ n := by
  intro n
  induction n with
  | zero =>
    intro l h
    cases l with
    | nil => simp
    | cons a l => have := h.2 a (List.mem_cons_self ..); omega
  | succ n ih =>
    intro l h
    have h2 : GoodL n (l.filter (fun x => decide (x ≠ (n : Int)))) := by
      refine ⟨h.1.filter _, fun p hp => ?_⟩
      have h1 := List.mem_filter.1 hp
      have h3 := h.2 p h1.1
      have h4 : p ≠ n := by simpa using h1.2
      omega
    have h3 := ih _ h2
    have h4 : l.length ≤ (l.filter (fun x => decide (x ≠ (n : Int)))).length + 1 := by
      clear ih h2 h3
      have hn := h.1
      clear h
      induction l with
      | nil => simp
      | cons a l ih =>
        rw [List.nodup_cons] at hn
        by_cases c : a = n
        · subst c
          have : l.filter (fun x => decide (x ≠ (n : Int))) = l := List.filter_eq_self.2 (fun x hx => by
            have : x ≠ (n : Int) := fun e => hn.1 (e ▸ hx)
            simpa using this)
          rw [List.filter_cons, this, List.length_cons]; split <;> simp
        · have := ih hn.2
          rw [List.filter_cons, if_pos (by simpa using c), List.length_cons, List.length_cons]; omega
    omega
theorem putL_prefix (l : List Int) (p : Int) : l <+: putL l p := by
  unfold putL
  split
  · exact List.prefix_rfl
  · split
    · exact List.prefix_rfl
    · exact List.prefix_append _ _
theorem putAll_prefix (xs : List Int) : ∀ l : List Int, l <+: putAll l xs := by
  induction xs with
  | nil => intro l; exact List.prefix_rfl
  | cons a xs ih => intro l; exact (putL_prefix l a).trans (ih _)
theorem putAll_append (l xs ys : List Int) : putAll l (xs ++ ys) = putAll (putAll l xs) ys := List.foldl_append
structure OkH (l0 : List S38) (l1 : List Int) (l2 l3 : List S60) : Prop where
  n : l0.length ≤ 60
  r : l1.length ≤ 8
  w : l2.length + l3.length ≤ 20
  o : ∀ x ∈ l0, obB l0.length x = true
  rs : ∀ p ∈ l1, -1 ≤ p ∧ p < l0.length
  ws : ∀ x ∈ l2, wtB l0 x = true
  ds : ∀ x ∈ l3, wtB l0 x = true
theorem ok_parts {l0 : List S38} {l1 : List Int} {l2 l3 : List S60} (h : okB l0 l1 l2 l3 = true) : OkH l0 l1 l2 l3 := by
  unfold okB at h
  simp only [Bool.and_eq_true, decide_eq_true_eq, List.all_eq_true] at h
  obtain ⟨⟨⟨⟨⟨⟨a, b⟩, c⟩, d⟩, e⟩, f⟩, g⟩ := h
  exact ⟨a, b, c, d, fun p hp => by have := e p hp; unfold inB at this; simpa using this, f, g⟩
theorem wt_parts {l0 : List S38} {x : S60} (h : wtB l0 x = true) : 0 ≤ x.f0 ∧ x.f0 < l0.length ∧ (rd_T38 l0 x.f0).f0 = 4 ∧ 0 ≤ x.f1 ∧ x.f1 < l0.length := by
  unfold wtB at h
  simp only [Bool.and_eq_true, decide_eq_true_eq] at h
  obtain ⟨⟨⟨⟨a, b⟩, c⟩, d⟩, e⟩ := h
  exact ⟨a, b, c, d, e⟩
/-- What an ok object is: its parts, by kind. -/
theorem ob_parts {n : Int} {x : S38} (h : obB n x = true) : (∀ p ∈ x.f2, -1 ≤ p ∧ p < n) ∧ shB x = true ∧
    ((x.f0 = 1 ∧ x.f2 = []) ∨ (x.f0 = 2 ∧ x.f2.length ≤ 6) ∨ (x.f0 = 3 ∧ x.f2.length = 2) ∨ (x.f0 = 4 ∧ x.f2 = [])) := by
  unfold obB at h
  rw [Bool.and_eq_true] at h
  obtain ⟨h1, h2⟩ := h
  refine ⟨fun p hp => by have := List.all_eq_true.1 h2 p hp; unfold inB at this; simpa using this, h1, ?_⟩
  unfold shB at h1
  split at h1
  · rename_i c
    simp only [Bool.and_eq_true, beq_iff_eq] at h1
    exact .inl ⟨c, List.length_eq_zero_iff.1 (by omega)⟩
  split at h1
  · rename_i c
    simp only [Bool.and_eq_true, decide_eq_true_eq] at h1
    exact .inr (.inl ⟨c, by omega⟩)
  split at h1
  · rename_i c
    simp only [Bool.and_eq_true, beq_iff_eq] at h1
    exact .inr (.inr (.inl ⟨c, by omega⟩))
  split at h1
  · rename_i c
    simp only [Bool.and_eq_true, beq_iff_eq] at h1
    exact .inr (.inr (.inr ⟨c, List.length_eq_zero_iff.1 (by omega)⟩))
  · cases h1
theorem ob_at {l0 : List S38} {l1 : List Int} {l2 l3 : List S60} (h : OkH l0 l1 l2 l3) {p : Int} (h0 : 0 ≤ p) (h1 : p < l0.length) : obB l0.length (rd_T38 l0 p) = true := h.o _ (getD_mem l0 z38 p h0 h1)
theorem next_lt {l0 : List S38} {l1 : List Int} {l2 l3 : List S60} (h : OkH l0 l1 l2 l3) {p : Int} (h0 : 0 ≤ p) (h1 : p < l0.length) : ∀ q ∈ nextL l0 l3 p, q < l0.length := by
  intro q hq
  obtain ⟨hr, _, _⟩ := ob_parts (ob_at h h0 h1)
  unfold nextL at hq
  split at hq
  · exact (hr q (List.mem_of_mem_drop hq)).2
  split at hq
  · obtain ⟨x, hx, rfl⟩ := List.mem_map.1 hq
    exact (wt_parts (h.ds x (List.mem_filter.1 hx).1)).2.2.2.2
  · exact (hr q hq).2
end Go.Proofs.Ytigjhfijkdlldaa.H
