/- Collecting, in plain words: what a trace holds, telling, moving. -/
import Derived.Test.YtigjhfijkdlldaaScoPs
import Derived.Test.YtigjhfijkdlldaaScoHmr
namespace Go.Proofs.Ytigjhfijkdlldaa.H
open Go.RowKit Go.Proofs.YtigjhfijkdlldaaW.PrintWords Go.Proofs.YtigjhfijkdlldaaW.PrintLast Go.Proofs.YtigjhfijkdlldaaW.PrintMore Go.Proofs.Ytigjhfijkdlldaa.Q
set_option linter.unusedVariables false
/-- What a heap is. -/
structure Hp where
  o : List S38
  r : List Int
  w : List S60
  d : List S60
def Hp.ok (h : Hp) : Bool := okB h.o h.r h.w h.d
def hp0 : Hp := ⟨[], [], [], []⟩
/-! ### what a trace holds -/
def Closed (l0 : List S38) (l3 : List S60) (S : Int → Prop) : Prop := ∀ p, S p → ∀ q ∈ nextL l0 l3 p, 0 ≤ q → S q
theorem prefix_getElem {α : Type} {l m : List α} (h : l <+: m) {j : Nat} {x : α} (hj : l[j]? = some x) : m[j]? = some x := by
  obtain ⟨t, rfl⟩ := h
  have := (List.getElem?_eq_some_iff.1 hj).1
  rw [List.getElem?_append_left this]; exact hj
section
variable {l0 : List S38} {l1 : List Int} {l2 l3 : List S60}
theorem trace_prefix : ∀ (n : Nat) (i : Int) (l : List Int), l <+: traceL l0 l3 n i l := by
  intro n
  induction n with
  | zero => intro i l; exact List.prefix_rfl
  | succ n ih =>
    intro i l
    simp only [traceL]
    split
    · exact (putAll_prefix _ l).trans (ih _ _)
    · exact List.prefix_rfl
theorem trace_least {S : Int → Prop} (hS : Closed l0 l3 S) : ∀ (n : Nat) (i : Int) (l : List Int), 0 ≤ i → (∀ p ∈ l, S p) → ∀ p ∈ traceL l0 l3 n i l, S p := by
  intro n
  induction n with
  | zero => intro i l _ h; exact h
  | succ n ih =>
    intro i l h0 h
    simp only [traceL]
    split
    · rename_i c
      refine ih _ _ (by omega) (fun p hp => ?_)
      rcases (mem_putAll _ _ _).1 hp with h1 | ⟨h1, h2⟩
      · exact h p h1
      · exact hS _ (h _ (getD_mem l 0 i h0 c)) p h1 h2
    · exact h
theorem trace_closed (h : OkH l0 l1 l2 l3) : ∀ (n : Nat) (i : Int) (l : List Int), GoodL l0.length l → 0 ≤ i → i + n = l0.length + 1 →
    (∀ j : Nat, (j : Int) < i → ∀ p, l[j]? = some p → ∀ q ∈ nextL l0 l3 p, 0 ≤ q → q ∈ l) → Closed l0 l3 (· ∈ traceL l0 l3 n i l) := by
  intro n
  induction n with
  | zero =>
    intro i l hg h0 hn hi p hp q hq h2
    replace hp : p ∈ l := hp
    show q ∈ l
    obtain ⟨j, hj, e⟩ := List.mem_iff_getElem.1 hp
    have := nodup_len _ _ hg
    exact hi j (by omega) p (by rw [List.getElem?_eq_getElem hj, e]) q hq h2
  | succ n ih =>
    intro i l hg h0 hn hi
    simp only [traceL]
    split
    · rename_i c
      have hp := hg.2 (rd l i) (getD_mem l 0 i h0 c)
      have hg2 := good_putAll (nextL l0 l3 (rd l i)) hg (next_lt h hp.1 hp.2)
      refine ih _ _ hg2 (by omega) (by omega) (fun j hj p hp q hq h2 => ?_)
      by_cases d : (j : Int) < i
      · have hlj : j < l.length := by omega
        have e := prefix_getElem (putAll_prefix (nextL l0 l3 (rd l i)) l) (List.getElem?_eq_getElem hlj)
        rw [hp] at e
        injection e with e
        exact (mem_putAll _ _ _).2 (.inl (hi j d p (by rw [List.getElem?_eq_getElem hlj, e]) q hq h2))
      · have hji : j = i.toNat := by omega
        have hlj : j < l.length := by omega
        have e := prefix_getElem (putAll_prefix (nextL l0 l3 (rd l i)) l) (List.getElem?_eq_getElem hlj)
        rw [hp] at e
        injection e with e
        have e2 : rd l i = p := by unfold rd; rw [← hji, List.getD_eq_getElem?_getD, List.getElem?_eq_getElem hlj, e]; rfl
        rw [e2]
        exact (mem_putAll _ _ _).2 (.inr ⟨hq, h2⟩)
    · rename_i c
      intro p hp q hq h2
      obtain ⟨j, hj, e⟩ := List.mem_iff_getElem.1 hp
      exact hi j (by omega) p (by rw [List.getElem?_eq_getElem hj, e]) q hq h2
theorem reach_closed (h : OkH l0 l1 l2 l3) : Closed l0 l3 (· ∈ reachL l0 l1 l3) :=
  trace_closed h _ _ _ (good_putAll _ (good_nil _) (fun p hp => (h.rs p hp).2)) (by omega) (by omega) (fun j hj => by omega)
theorem reach_root {p : Int} (hp : p ∈ l1) (h0 : 0 ≤ p) : p ∈ reachL l0 l1 l3 := (trace_prefix _ _ _).subset ((mem_putAll _ _ _).2 (.inr ⟨hp, h0⟩))
theorem reach_least {S : Int → Prop} (hS : Closed l0 l3 S) (hr : ∀ p ∈ l1, 0 ≤ p → S p) : ∀ p ∈ reachL l0 l1 l3, S p :=
  trace_least hS _ _ _ (by omega) (fun p hp => ((mem_putAll _ _ _).1 hp).elim (fun h1 => by cases h1) (fun h1 => hr p h1.1 h1.2))
end
theorem idxL_nonneg (l : List Int) (n : Int) : 0 ≤ idxL l n ↔ n ∈ l := by
  have := idxL_neg l n
  constructor
  · intro h
    by_cases c : n ∈ l
    · exact c
    · have := this.2 c; omega
  · intro h
    by_cases c : idxL l n < 0
    · exact absurd h (this.1 c)
    · omega
/-! ### telling -/
def toldB (x : List Int) (w : S60) : Bool := decide (0 ≤ idxL x w.f0) && decide (idxL x w.f1 < 0)
def toldL (x : List Int) (l : List S60) : List S60 := l.filter (toldB x)
def stayL (x : List Int) (l : List S60) : List S60 := l.filter fun w => !toldB x w
theorem toldB_iff (x : List Int) (w : S60) : toldB x w = true ↔ w.f0 ∈ x ∧ w.f1 ∉ x := by
  unfold toldB
  rw [Bool.and_eq_true, decide_eq_true_eq, decide_eq_true_eq, idxL_nonneg, idxL_neg]
theorem toldB_congr {x y : List Int} (h : ∀ p, p ∈ x ↔ p ∈ y) (w : S60) : toldB x w = toldB y w := by
  rw [Bool.eq_iff_iff, toldB_iff, toldB_iff, h, h]
theorem toldL_congr {x y : List Int} (h : ∀ p, p ∈ x ↔ p ∈ y) (l : List S60) : toldL x l = toldL y l := by
  unfold toldL; congr 1; funext w; exact toldB_congr h w
theorem stayL_congr {x y : List Int} (h : ∀ p, p ∈ x ↔ p ∈ y) (l : List S60) : stayL x l = stayL y l := by
  unfold stayL; congr 1; funext w; rw [toldB_congr h w]
theorem told_stay_len (x : List Int) (l : List S60) : (toldL x l).length + (stayL x l).length = l.length := by
  unfold toldL stayL
  induction l with
  | nil => rfl
  | cons a l ih =>
    cases c : toldB x a
    · rw [List.filter_cons_of_neg (by simp [c]), List.filter_cons_of_pos (by simp [c]), List.length_cons, List.length_cons]; omega
    · rw [List.filter_cons_of_pos c, List.filter_cons_of_neg (by simp [c]), List.length_cons, List.length_cons]; omega
/-- Telling: so many rounds at most. -/
def tellL (l0 : List S38) (l1 : List Int) : Nat → List S60 → List S60 → List S60 × List S60
  | 0, l2, l3 => (l2, l3)
  | n + 1, l2, l3 => if (toldL (reachL l0 l1 l3) l2).length = 0 then (l2, l3) else tellL l0 l1 n (stayL (reachL l0 l1 l3) l2) (l3 ++ toldL (reachL l0 l1 l3) l2)
theorem tell_step_ok {l0 : List S38} {l1 : List Int} {l2 l3 : List S60} (h : OkH l0 l1 l2 l3) (x : List Int) : OkH l0 l1 (stayL x l2) (l3 ++ toldL x l2) := by
  have hl := told_stay_len x l2
  refine ⟨h.n, h.r, by have := h.w; rw [List.length_append]; omega, h.o, h.rs, fun w hw => h.ws w (List.mem_filter.1 hw).1, fun w hw => ?_⟩
  rcases List.mem_append.1 hw with h1 | h1
  · exact h.ds w h1
  · exact h.ws w (List.mem_filter.1 h1).1
theorem tell_ok {l0 : List S38} {l1 : List Int} : ∀ (n : Nat) {l2 l3 : List S60}, OkH l0 l1 l2 l3 → OkH l0 l1 (tellL l0 l1 n l2 l3).1 (tellL l0 l1 n l2 l3).2 := by
  intro n
  induction n with
  | zero => intro l2 l3 h; exact h
  | succ n ih =>
    intro l2 l3 h
    simp only [tellL]
    split
    · exact h
    · exact ih (tell_step_ok h _)
theorem next_sub {l0 : List S38} {l3 l3' : List S60} (h : ∀ w ∈ l3, w ∈ l3') (p q : Int) (hq : q ∈ nextL l0 l3 p) : q ∈ nextL l0 l3' p := by
  unfold nextL at hq ⊢
  split
  · rename_i c; rw [if_pos c] at hq; exact hq
  · rename_i c; rw [if_neg c] at hq
    split
    · rename_i d; rw [if_pos d] at hq
      obtain ⟨w, hw, e⟩ := List.mem_map.1 hq
      have h1 := List.mem_filter.1 hw
      exact List.mem_map.2 ⟨w, List.mem_filter.2 ⟨h w h1.1, h1.2⟩, e⟩
    · rename_i d; rw [if_neg d] at hq; exact hq
theorem next_told {l0 : List S38} {l3 : List S60} {w : S60} (hw : w ∈ l3) (hk : (rd_T38 l0 w.f0).f0 = 4) : w.f1 ∈ nextL l0 l3 w.f0 := by
  unfold nextL
  rw [if_neg (by omega), if_pos hk]
  exact List.mem_map.2 ⟨w, List.mem_filter.2 ⟨hw, beq_self_eq_true _⟩, rfl⟩
/-- What is known behind a telling, started from what was known. -/
theorem tell_known {l0 : List S38} {l1 : List Int} {l2 l3 : List S60} (h : OkH l0 l1 l2 l3) (x : List Int) (hg : GoodL l0.length x) (hx : ∀ p, p ∈ x ↔ p ∈ reachL l0 l1 l3) :
    let t := toldL x l2
    let y := traceL l0 (l3 ++ t) (l0.length + 1) 0 (putAll x (t.map (·.f1)))
    (∀ p, p ∈ y ↔ p ∈ reachL l0 l1 (l3 ++ t)) := by
  intro t y p
  have hok := tell_step_ok h x
  have hrc := reach_closed hok
  have hsub : ∀ p, p ∈ reachL l0 l1 l3 → p ∈ reachL l0 l1 (l3 ++ t) :=
    reach_least (S := (· ∈ reachL l0 l1 (l3 ++ t))) (fun p hp q hq h0 => hrc p hp q (next_sub (fun w hw => List.mem_append_left _ hw) p q hq) h0) (fun p hp h0 => reach_root hp h0)
  constructor
  · refine trace_least hrc _ _ _ (by omega) (fun q hq => ?_) p
    rcases (mem_putAll _ _ _).1 hq with h1 | ⟨h1, h2⟩
    · exact hsub q ((hx q).1 h1)
    · obtain ⟨w, hw, rfl⟩ := List.mem_map.1 h1
      have h3 := List.mem_filter.1 hw
      have h4 := (toldB_iff x w).1 h3.2
      exact hrc w.f0 (hsub _ ((hx _).1 h4.1)) w.f1 (next_told (List.mem_append_right _ hw) (wt_parts (h.ws w h3.1)).2.2.1) h2
  · refine reach_least (trace_closed hok _ _ _ (good_putAll _ hg (fun q hq => ?_)) (by omega) (by omega) (fun j hj => by omega)) (fun q hq h0 => ?_) p
    · obtain ⟨w, hw, rfl⟩ := List.mem_map.1 hq
      exact (wt_parts (h.ws w (List.mem_filter.1 hw).1)).2.2.2.2
    · exact (trace_prefix _ _ _).subset ((putAll_prefix _ _).subset ((hx q).2 (reach_root hq h0)))
/-! ### moving -/
def objOf (x : List Int) (o : S38) : S38 := ⟨o.f0, o.f1, o.f2.map (wh x)⟩
def movedW (x : List Int) (l : List S60) : List S60 := (l.filter fun w => decide (0 ≤ idxL x w.f0) && decide (0 ≤ idxL x w.f1)).map fun w => ⟨idxL x w.f0, idxL x w.f1⟩
def moveL (l0 : List S38) (l1 : List Int) (l2 l3 : List S60) (x : List Int) : Hp := ⟨x.map fun p => objOf x (rd_T38 l0 p), l1.map (wh x), movedW x l2, movedW x l3⟩
def collectK (l0 : List S38) (l1 : List Int) (l2 l3 : List S60) : Hp × List Int :=
  let t := tellL l0 l1 (l2.length + 1) l2 l3
  let x := reachL l0 l1 t.2
  (moveL l0 l1 t.1 t.2 x, (List.range l0.length).map fun (j : Nat) => idxL x (j : Int))
def collectB (h : Hp) : Hp × List Int := if h.ok then collectK h.o h.r h.w h.d else (hp0, [])
end Go.Proofs.Ytigjhfijkdlldaa.H
