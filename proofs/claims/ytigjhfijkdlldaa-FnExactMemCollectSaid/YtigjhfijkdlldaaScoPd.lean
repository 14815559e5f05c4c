/- The spec's MemReach comes to reachL. -/
import Derived.Test.YtigjhfijkdlldaaScoPc
import Derived.Test.YtigjhfijkdlldaaScoL2
namespace Go.Proofs.Ytigjhfijkdlldaa.H
open Go.RowKit Go.Proofs.YtigjhfijkdlldaaW.PrintWords Go.Proofs.YtigjhfijkdlldaaW.PrintLast Go.Proofs.YtigjhfijkdlldaaW.PrintMore Go.Proofs.Ytigjhfijkdlldaa.Q
set_option linter.unusedVariables false
/-- The place of a number in a list, -1 if it is not there. -/
def idxL : List Int → Int → Int
  | [], _ => -1
  | x :: l, n => if x = n then 0 else if idxL l n < 0 then -1 else idxL l n + 1
theorem idxL_range (l : List Int) (n : Int) : -1 ≤ idxL l n ∧ idxL l n < l.length := by
  induction l with
  | nil => simp [idxL]
  | cons x l ih =>
    unfold idxL
    rw [List.length_cons]
    split
    · omega
    split <;> omega
theorem idxL_neg (l : List Int) (n : Int) : idxL l n < 0 ↔ n ∉ l := by
  induction l with
  | nil => simp [idxL]
  | cons x l ih =>
    unfold idxL
    rw [List.mem_cons]
    by_cases c : x = n
    · rw [if_pos c]; simp [c]
    · rw [if_neg c]
      by_cases d : idxL l n < 0
      · rw [if_pos d]; have := ih.1 d; simp [Ne.symm c, this]
      · rw [if_neg d]
        have h1 : n ∈ l := by
          by_cases e : n ∈ l
          · exact e
          · exact absurd (ih.2 e) d
        have h2 := (idxL_range l n).1
        constructor
        · intro h; omega
        · intro h; exact absurd (.inr h1) h
theorem idxL_get {l : List Int} {n : Int} (h : n ∈ l) : 0 ≤ idxL l n ∧ idxL l n < l.length ∧ rd l (idxL l n) = n := by
  induction l with
  | nil => cases h
  | cons x l ih =>
    have hr := idxL_range (x :: l) n
    by_cases c : x = n
    · have e : idxL (x :: l) n = 0 := by unfold idxL; rw [if_pos c]
      rw [e, List.length_cons]; exact ⟨by omega, by omega, c⟩
    · have h1 : n ∈ l := by rcases List.mem_cons.1 h with h | h
                            · exact absurd h.symm c
                            · exact h
      obtain ⟨a, b, g⟩ := ih h1
      have e : idxL (x :: l) n = idxL l n + 1 := by
        conv => lhs; unfold idxL
        rw [if_neg c, if_neg (by omega)]
      rw [e, List.length_cons]
      refine ⟨by omega, by omega, ?_⟩
      unfold rd at g ⊢
      rw [show (idxL l n + 1).toNat = (idxL l n).toNat + 1 by omega]
      simpa using g
theorem l2At_l0 (l : List Int) (n : Int) (hl : (l.length : Int) ≤ 9223372036854775807) (d : Nat) : ∀ (k : Nat) (i : Int), 0 ≤ i → i + d = l.length → d < k →
    spec_l2At.l0 k l n i = some (if idxL (l.drop i.toNat) n < 0 then -1 else idxL (l.drop i.toNat) n + i) := by
  induction d with
  | zero =>
    intro k i h0 h1 hk
    obtain ⟨k, rfl⟩ : ∃ m, k = m + 1 := ⟨k - 1, by omega⟩
    simp only [spec_l2At.l0]
    rw [if_neg (by omega), drop_end _ _ (by omega)]; rfl
  | succ d ih =>
    intro k i h0 h1 hk
    obtain ⟨k, rfl⟩ : ∃ m, k = m + 1 := ⟨k - 1, by omega⟩
    have hr := ih k (i + 1) (by omega) (by omega) (by omega)
    simp only [spec_l2At.l0]
    rw [if_pos (by omega), if_pos h0, wrap_succ _ h0 (by omega), hr, drop_cons _ 0 i h0 (by omega)]
    show (if rd l i = n then _ else _) = _
    conv => rhs; unfold idxL
    by_cases c : rd l i = n
    · rw [if_pos c, if_pos (show l.getD i.toNat 0 = n from c)]; simp
    · rw [if_neg c, if_neg (show ¬ l.getD i.toNat 0 = n from c)]
      by_cases e : idxL (l.drop (i + 1).toNat) n < 0
      · rw [if_pos e, if_pos e]; rfl
      · rw [if_neg e, if_neg e, if_neg (by omega)]; congr 1; omega
theorem l2At_f (l : List Int) (n : Int) (hl : (l.length : Int) ≤ 9223372036854775807) : Ev (fun k => spec_l2At.f k l n) (idxL l n) := by
  refine ⟨l.length + 1, fun k hk => ?_⟩
  show spec_l2At.f k l n = _
  unfold spec_l2At.f
  rw [l2At_l0 l n hl l.length k 0 (by omega) (by omega) (by omega)]
  have := (idxL_range l n).1
  show some (if idxL l n < 0 then -1 else idxL l n + 0) = _
  split
  · congr 1; omega
  · congr 1; omega
theorem l2Put_f (l : List Int) (p : Int) (hl : l.length ≤ 1048576) : Ev (fun k => spec_l2Put.f k l p) (putL l p) := by
  obtain ⟨K, hK⟩ := l2At_f l p (by omega)
  refine ⟨K, fun k hk => ?_⟩
  have h := hK k hk
  simp only at h
  show spec_l2Put.f k l p = _
  unfold spec_l2Put.f putL
  by_cases c : p < 0
  · rw [if_pos c, if_pos c]
  rw [if_neg c, if_neg c, h]
  simp only [Option.bind_some]
  by_cases d : p ∈ l
  · have := (idxL_get d).1
    rw [if_pos d, if_pos (by omega)]
  · have := (idxL_neg l p).2 d
    rw [if_neg d, if_neg (by omega), if_pos (by omega)]
theorem filter_drop (l : List S60) (p y : Int) (h0 : 0 ≤ y) (h1 : y < l.length) : ((l.drop y.toNat).filter (fun x => x.f0 == p)).map (·.f1) =
    (if (rd_T60 l y).f0 = p then [(rd_T60 l y).f1] else []) ++ ((l.drop (y + 1).toNat).filter (fun x => x.f0 == p)).map (·.f1) := by
  rw [drop_cons l z60 y h0 h1, List.filter_cons]
  show List.map _ (if ((rd_T60 l y).f0 == p) = true then rd_T60 l y :: _ else _) = _
  by_cases c : (rd_T60 l y).f0 = p
  · rw [if_pos c, if_pos (by rw [c]; exact beq_self_eq_true p)]; rfl
  · rw [if_neg c, if_neg (by simpa using c)]; rfl
theorem l2Next_l0 (l0 : List S38) (l1 : List Int) (l2 l3 : List S60) (p : Int) (hl : l3.length ≤ 1048576) (d : Nat) : ∀ (k : Nat) (i : Int) (acc : List Int), 0 ≤ i → i + d = l3.length → d < k → acc.length + d ≤ 1048576 →
    spec_l2Next.l0 k p acc i l0 l1 l2 l3 = some (acc ++ ((l3.drop i.toNat).filter (fun x => x.f0 == p)).map (·.f1)) := by
  induction d with
  | zero =>
    intro k i acc h0 h1 hk _
    obtain ⟨k, rfl⟩ : ∃ m, k = m + 1 := ⟨k - 1, by omega⟩
    simp only [spec_l2Next.l0]
    rw [if_neg (by omega), drop_end _ _ (by omega)]; simp
  | succ d ih =>
    intro k i acc h0 h1 hk ha
    obtain ⟨k, rfl⟩ : ∃ m, k = m + 1 := ⟨k - 1, by omega⟩
    simp only [spec_l2Next.l0]
    rw [if_pos (by omega), if_pos h0, filter_drop l3 p i h0 (by omega), wrap_succ _ h0 (by omega)]
    by_cases c : (rd_T60 l3 i).f0 = p
    · rw [if_pos c, if_pos c, if_pos (by omega), ih k (i + 1) _ (by omega) (by omega) (by omega) (by rw [List.length_append]; simp; omega)]; simp
    · rw [if_neg c, if_neg c, ih k (i + 1) _ (by omega) (by omega) (by omega) (by omega)]; simp
section
variable {l0 : List S38} {l1 : List Int} {l2 l3 : List S60} (h : OkH l0 l1 l2 l3)
include h
theorem l2Next_f {p : Int} (h0 : 0 ≤ p) (h1 : p < l0.length) : Ev (fun k => spec_l2Next.f k l0 l1 l2 l3 p) (nextL l0 l3 p) := by
  refine ⟨l3.length + 1, fun k hk => ?_⟩
  show spec_l2Next.f k l0 l1 l2 l3 p = _
  unfold spec_l2Next.f nextL
  have hw := h.w
  rw [if_pos h0, if_pos h1]
  by_cases c : (rd_T38 l0 p).f0 = 3
  · have := (ob_parts (ob_at h h0 h1)).2.2
    rw [if_pos c, if_pos c, if_pos (by rcases this with ⟨a, _⟩ | ⟨a, _⟩ | ⟨_, b⟩ | ⟨a, _⟩ <;> omega)]
  rw [if_neg c, if_neg c]
  by_cases d : (rd_T38 l0 p).f0 = 4
  · rw [if_pos d, if_pos d, l2Next_l0 l0 l1 l2 l3 p (by omega) l3.length k 0 [] (by omega) (by omega) (by omega) (by simp; omega)]; rfl
  · rw [if_neg d, if_neg d]
/-- putting the rest of xs, then going on. -/
theorem l2Trace_l1 (i : Int) (xs : List Int) (hxs : (xs.length : Int) ≤ 1048576) (hx : ∀ q ∈ xs, q < l0.length) (r : List Int) (d : Nat) : ∀ (y : Int) (l : List Int), GoodL l0.length l → 0 ≤ y → y + d = xs.length →
    Ev (fun k => spec_l2Trace.l0 k (putAll l (xs.drop y.toNat)) (wrap64 (i + 1)) l0 l1 l2 l3) r → Ev (fun k => spec_l2Trace.l1 k l i xs y l0 l1 l2 l3) r := by
  induction d with
  | zero =>
    intro y l hg h0 h1 hr
    rw [drop_end _ _ (by omega)] at hr
    exact Ev.step (fun k => by simp only [spec_l2Trace.l1]; rw [if_neg (by omega)]; rfl) hr
  | succ d ih =>
    intro y l hg h0 h1 hr
    have hn := nodup_len _ _ hg
    have ho := h.n
    have hq : rd xs y < l0.length := hx _ (getD_mem xs 0 y h0 (by omega))
    refine Ev.step (f := fun k => (spec_l2Put.f k l (rd xs y)).bind fun t => spec_l2Trace.l1 k t i xs (y + 1) l0 l1 l2 l3) (fun k => by simp only [spec_l2Trace.l1]; rw [if_pos (by omega), if_pos h0, wrap_succ _ h0 (by omega)]) ?_
    refine Ev.bind (l2Put_f l (rd xs y) (by omega)) (ih (y + 1) (putL l (rd xs y)) (good_putL hg hq) (by omega) (by omega) ?_)
    rw [drop_cons xs 0 y h0 (by omega)] at hr
    exact hr
theorem l2Trace_l0 (m : Nat) : ∀ (i : Int) (l : List Int), GoodL l0.length l → 0 ≤ i → i ≤ l.length → i + m = l0.length + 1 → Ev (fun k => spec_l2Trace.l0 k l i l0 l1 l2 l3) (traceL l0 l3 m i l) := by
  induction m with
  | zero =>
    intro i l hg h0 h1 h2
    have := nodup_len _ _ hg
    omega
  | succ m ih =>
    intro i l hg h0 h1 h2
    have ho := h.n
    simp only [traceL]
    by_cases c : i < (l.length : Int)
    · rw [if_pos c]
      have hp := hg.2 (rd l i) (getD_mem l 0 i h0 c)
      have hnx := next_lt h hp.1 hp.2
      have hg2 := good_putAll (nextL l0 l3 (rd l i)) hg hnx
      have hlen : ((nextL l0 l3 (rd l i)).length : Int) ≤ 1048576 := by
        have hw := h.w
        have hob := (ob_parts (ob_at h hp.1 hp.2)).2.2
        unfold nextL
        split
        · rw [List.length_drop]; rcases hob with ⟨a, b⟩ | ⟨a, b⟩ | ⟨_, b⟩ | ⟨a, b⟩ <;> (try rw [b]) <;> simp <;> omega
        split
        · rw [List.length_map]
          have := List.length_filter_le (fun x : S60 => x.f0 == rd l i) l3
          omega
        · rcases hob with ⟨a, b⟩ | ⟨a, b⟩ | ⟨_, b⟩ | ⟨a, b⟩ <;> (try rw [b]) <;> simp <;> omega
      refine Ev.step (f := fun k => (spec_l2Next.f k l0 l1 l2 l3 (rd l i)).bind fun t => spec_l2Trace.l1 k l i t 0 l0 l1 l2 l3) (fun k => by simp only [spec_l2Trace.l0]; rw [if_pos c, if_pos h0]) ?_
      refine Ev.bind (l2Next_f h hp.1 hp.2) ?_
      refine l2Trace_l1 h i _ hlen hnx _ (nextL l0 l3 (rd l i)).length 0 l hg (by omega) (by omega) ?_
      rw [wrap_succ _ h0 (by have := nodup_len _ _ hg; omega)]
      have hpre := (putAll_prefix (nextL l0 l3 (rd l i)) l).length_le
      show Ev (fun k => spec_l2Trace.l0 k (putAll l (nextL l0 l3 (rd l i))) (i + 1) l0 l1 l2 l3) _
      exact ih (i + 1) _ hg2 (by omega) (by omega) (by omega)
    · rw [if_neg c]
      exact Ev.step (f := fun _ => some l) (fun k => by simp only [spec_l2Trace.l0]; rw [if_neg c]) (Ev.now l)
theorem l2Trace_f (l : List Int) (hg : GoodL l0.length l) : Ev (fun k => spec_l2Trace.f k l0 l1 l2 l3 l) (traceL l0 l3 (l0.length + 1) 0 l) := by
  unfold spec_l2Trace.f
  exact l2Trace_l0 h (l0.length + 1) 0 l hg (by omega) (by omega) (by omega)
theorem l2Reach_l0 (r : List Int) (d : Nat) : ∀ (y : Int) (l : List Int), GoodL l0.length l → 0 ≤ y → y + d = l1.length → Ev (fun k => spec_l2Trace.f k l0 l1 l2 l3 (putAll l (l1.drop y.toNat))) r →
    Ev (fun k => spec_l2Reach.l0 k l y l0 l1 l2 l3) r := by
  induction d with
  | zero =>
    intro y l hg h0 h1 hr
    rw [drop_end _ _ (by omega)] at hr
    exact Ev.step (f := fun k => (spec_l2Trace.f k l0 l1 l2 l3 l).bind fun t => some t) (fun k => by simp only [spec_l2Reach.l0]; rw [if_neg (by omega)]) (Ev.bind hr (Ev.now r))
  | succ d ih =>
    intro y l hg h0 h1 hr
    have hn := nodup_len _ _ hg
    have ho := h.n
    have hr1 := h.r
    have hq : rd l1 y < l0.length := (h.rs _ (getD_mem l1 0 y h0 (by omega))).2
    refine Ev.step (f := fun k => (spec_l2Put.f k l (rd l1 y)).bind fun t => spec_l2Reach.l0 k t (y + 1) l0 l1 l2 l3) (fun k => by simp only [spec_l2Reach.l0]; rw [if_pos (by omega), if_pos h0, wrap_succ _ h0 (by omega)]) ?_
    refine Ev.bind (l2Put_f l (rd l1 y) (by omega)) (ih (y + 1) (putL l (rd l1 y)) (good_putL hg hq) (by omega) (by omega) ?_)
    rw [drop_cons l1 0 y h0 (by omega)] at hr
    exact hr
theorem l2Reach_f : Ev (fun k => spec_l2Reach.f k l0 l1 l2 l3) (reachL l0 l1 l3) := by
  unfold spec_l2Reach.f
  exact l2Reach_l0 h _ l1.length 0 [] (good_nil _) (by omega) (by omega) (l2Trace_f h _ (good_putAll _ (good_nil _) (fun p hp => (h.rs p hp).2)))
end
end Go.Proofs.Ytigjhfijkdlldaa.H
