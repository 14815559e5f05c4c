/- The heap in plain words: what is ok. The spec's printed functions come to these words. -/
import Derived.Test.YtigjhfijkdlldaaScoU
import Derived.Test.YtigjhfijkdlldaaScoL1
namespace Go.Proofs.Ytigjhfijkdlldaa.H
open Go.RowKit Go.Proofs.YtigjhfijkdlldaaW.PrintWords Go.Proofs.YtigjhfijkdlldaaW.PrintLast Go.Proofs.YtigjhfijkdlldaaW.PrintMore Go.Proofs.Ytigjhfijkdlldaa.Q
set_option linter.unusedVariables false
set_option linter.unusedSectionVars false
/-! ### lists from an index on -/
theorem drop_cons {α : Type} (xs : List α) (d : α) (i : Int) (h0 : 0 ≤ i) (h1 : i < xs.length) : xs.drop i.toNat = xs.getD i.toNat d :: xs.drop (i + 1).toNat := by
  have h2 : i.toNat < xs.length := by omega
  rw [show (i + 1).toNat = i.toNat + 1 by omega, List.drop_eq_getElem_cons h2, List.getD_eq_getElem?_getD, List.getElem?_eq_getElem h2]; rfl
theorem drop_end {α : Type} (xs : List α) (i : Int) (h : (xs.length : Int) ≤ i) : xs.drop i.toNat = [] := List.drop_eq_nil_of_le (by omega)
theorem getD_mem {α : Type} (xs : List α) (d : α) (i : Int) (h0 : 0 ≤ i) (h1 : i < xs.length) : xs.getD i.toNat d ∈ xs := by
  have h2 : i.toNat < xs.length := by omega
  rw [List.getD_eq_getElem?_getD, List.getElem?_eq_getElem h2]; exact List.getElem_mem h2
/-! ### what is ok -/
def inB (p n : Int) : Bool := decide (-1 ≤ p) && decide (p < n)
def chOk (c : Int) : Bool := (decide (97 ≤ c) && decide (c ≤ 122)) || (decide (48 ≤ c) && decide (c ≤ 57))
def txOk (s : ByteArray) : Bool := decide (1 ≤ (s.size : Int)) && decide ((s.size : Int) ≤ 12) && (bytesOf s).all chOk
def shB (x : S38) : Bool :=
  if x.f0 = 1 then txOk x.f1 && ((x.f2.length : Int) == 0)
  else if x.f0 = 2 then decide (x.f1.toList = []) && decide ((x.f2.length : Int) ≤ 6)
  else if x.f0 = 3 then decide (x.f1.toList = []) && ((x.f2.length : Int) == 2)
  else if x.f0 = 4 then decide (x.f1.toList = []) && ((x.f2.length : Int) == 0)
  else false
def obB (n : Int) (x : S38) : Bool := shB x && x.f2.all (inB · n)
def wtB (l0 : List S38) (x : S60) : Bool := decide (0 ≤ x.f0) && decide (x.f0 < l0.length) && decide ((rd_T38 l0 x.f0).f0 = 4) && decide (0 ≤ x.f1) && decide (x.f1 < l0.length)
def okB (l0 : List S38) (l1 : List Int) (l2 l3 : List S60) : Bool :=
  decide (l0.length ≤ 60) && decide (l1.length ≤ 8) && decide (l2.length + l3.length ≤ 20) && l0.all (obB l0.length) && l1.all (inB · l0.length) && l2.all (wtB l0) && l3.all (wtB l0)
/-! ### the spec comes to these -/
theorem l1In_f (a b c : Int) : spec_l1In.f a b c = some (decide (b ≤ a) && decide (a ≤ c)) := by
  unfold spec_l1In.f
  by_cases h : a ≥ b
  · rw [if_pos h, deT (show b ≤ a from h)]; rfl
  · rw [if_neg h, deF (show ¬ b ≤ a from h)]; rfl
theorem l1TextOk_l0 (s : ByteArray) (hs : (s.size : Int) ≤ 9223372036854775807) (d : Nat) : ∀ (k : Nat) (i : Int), 0 ≤ i → i + d = s.size → d < k →
    spec_l1TextOk.l0 k s i = some (((bytesOf s).drop i.toNat).all chOk) := by
  induction d with
  | zero =>
    intro k i h0 h1 hk
    obtain ⟨k, rfl⟩ : ∃ m, k = m + 1 := ⟨k - 1, by omega⟩
    simp only [spec_l1TextOk.l0]
    rw [if_neg (by omega), drop_end _ _ (by rw [bytesOf_length]; omega)]; rfl
  | succ d ih =>
    intro k i h0 h1 hk
    obtain ⟨k, rfl⟩ : ∃ m, k = m + 1 := ⟨k - 1, by omega⟩
    have hr := ih k (i + 1) (by omega) (by omega) (by omega)
    have hb : (bytesOf s).getD i.toNat 0 = bt s i := by have := rd_bytesOf s i; unfold rd at this; exact this
    simp only [spec_l1TextOk.l0]
    rw [if_pos (by omega), if_pos h0, wrap_succ _ h0 (by omega), hr, drop_cons _ 0 i h0 (by rw [bytesOf_length]; omega), List.all_cons, hb]
    unfold chOk
    by_cases c1 : bt s i ≥ 97 <;> by_cases c2 : bt s i ≤ 122 <;> by_cases c3 : bt s i ≥ 48 <;> by_cases c4 : bt s i ≤ 57 <;> simp [c1, c2, c3, c4] <;> omega
theorem l1TextOk_f (s : ByteArray) (hs : (s.size : Int) ≤ 9223372036854775807) : Ev (fun k => spec_l1TextOk.f k s) (txOk s) := by
  refine ⟨s.size + 1, fun k hk => ?_⟩
  unfold spec_l1TextOk.f txOk
  rw [l1In_f]; simp only [Option.bind_some]
  cases h : decide (1 ≤ (s.size : Int)) && decide ((s.size : Int) ≤ 12)
  · rfl
  · rw [if_pos rfl, l1TextOk_l0 s hs s.size k 0 (by omega) (by omega) (by omega)]; rfl
theorem ev_all {α β : Type} (l : List α) (g : α → Nat → Option β) (r : α → β) (h : ∀ x ∈ l, Ev (g x) (r x)) : ∃ K, ∀ x ∈ l, ∀ k, K ≤ k → g x k = some (r x) := by
  induction l with
  | nil => exact ⟨0, fun x hx => by cases hx⟩
  | cons a l ih =>
    obtain ⟨K1, h1⟩ := h a (List.mem_cons_self ..)
    obtain ⟨K2, h2⟩ := ih (fun x hx => h x (List.mem_cons_of_mem _ hx))
    refine ⟨max K1 K2, fun x hx k hk => ?_⟩
    rcases List.mem_cons.1 hx with rfl | hx
    · exact h1 k (by omega)
    · exact h2 x hx k (by omega)
/-- What a heap's object fits: its text and parts are of a size that a machine has. -/
def Fit (x : S38) : Prop := (x.f1.size : Int) ≤ 4611686018427387903 ∧ (x.f2.length : Int) ≤ 4611686018427387903
theorem l1ObjOk_l0 (n : Int) (hn : 0 ≤ n ∧ n ≤ 4611686018427387903) (a0 : Int) (a1 : ByteArray) (l : List Int) (ha : Fit ⟨a0, a1, l⟩) (K : Nat) (hK : ∀ k, K ≤ k → spec_l1TextOk.f k a1 = some (txOk a1)) (d : Nat) :
    ∀ (k : Nat) (i : Int), 0 ≤ i → i + d = l.length → d + K < k → spec_l1ObjOk.l0 k n i a0 a1 l = some ((l.drop i.toNat).all (inB · n) && shB ⟨a0, a1, l⟩) := by
  induction d with
  | zero =>
    intro k i h0 h1 hk
    obtain ⟨k, rfl⟩ : ∃ m, k = m + 1 := ⟨k - 1, by omega⟩
    simp only [spec_l1ObjOk.l0]
    rw [if_neg (by omega), drop_end _ _ (by omega), List.all_nil, Bool.true_and]
    unfold shB
    by_cases c1 : a0 = 1
    · rw [if_pos c1, if_pos c1, hK k (by omega)]
      simp only [Option.bind_some]
      cases txOk a1 <;> rfl
    rw [if_neg c1, if_neg c1]
    by_cases c2 : a0 = 2
    · rw [if_pos c2, if_pos c2]
      by_cases c : a1.toList = [] <;> simp only [c, if_true, if_false, decide_true, decide_false, Bool.true_and, Bool.false_and]
    rw [if_neg c2, if_neg c2]
    by_cases c3 : a0 = 3
    · rw [if_pos c3, if_pos c3]
      by_cases c : a1.toList = [] <;> simp only [c, if_true, if_false, decide_true, decide_false, Bool.true_and, Bool.false_and]
    rw [if_neg c3, if_neg c3]
    by_cases c4 : a0 = 4
    · rw [if_pos c4, if_pos c4]
      by_cases c : a1.toList = [] <;> simp only [c, if_true, if_false, decide_true, decide_false, Bool.true_and, Bool.false_and]
    rw [if_neg c4, if_neg c4]
  | succ d ih =>
    intro k i h0 h1 hk
    obtain ⟨k, rfl⟩ : ∃ m, k = m + 1 := ⟨k - 1, by omega⟩
    have hr := ih k (i + 1) (by omega) (by omega) (by omega)
    have hf := ha.2
    simp only at hf
    simp only [spec_l1ObjOk.l0]
    rw [if_pos (by omega), if_pos h0, l1In_f]
    simp only [Option.bind_some]
    rw [wrap_succ _ h0 (by omega), hr, drop_cons _ 0 i h0 (by omega), List.all_cons, show wrap64 (n - 1) = n - 1 by unfold wrap64; omega]
    have e : (decide (-1 ≤ rd l i) && decide (rd l i ≤ n - 1)) = inB (l.getD i.toNat 0) n := by
      unfold inB rd; congr 1; exact decide_eq_decide.2 (by omega)
    rw [e]
    cases inB (l.getD i.toNat 0) n <;> simp
theorem l1ObjOk_f (n : Int) (hn : 0 ≤ n ∧ n ≤ 4611686018427387903) (x : S38) (ha : Fit x) : Ev (fun k => spec_l1ObjOk.f k x.f0 x.f1 x.f2 n) (obB n x) := by
  obtain ⟨K, hK⟩ := l1TextOk_f x.f1 (by have := ha.1; omega)
  refine ⟨x.f2.length + K + 1, fun k hk => ?_⟩
  show spec_l1ObjOk.f k x.f0 x.f1 x.f2 n = _
  unfold spec_l1ObjOk.f obB
  rw [l1ObjOk_l0 n hn x.f0 x.f1 x.f2 ha K hK x.f2.length k 0 (by omega) (by omega) (by omega), Bool.and_comm]; rfl
theorem l1WatchOk_l0 (l : List S60) (l0 : List S38) (l1 : List Int) (l2 l3 : List S60) (hl0 : (l0.length : Int) ≤ 4611686018427387903) (hl : (l.length : Int) ≤ 4611686018427387903) (d : Nat) :
    ∀ (k : Nat) (i : Int), 0 ≤ i → i + d = l.length → d < k → spec_l1WatchOk.l0 k l i l0 l1 l2 l3 = some ((l.drop i.toNat).all (wtB l0)) := by
  induction d with
  | zero =>
    intro k i h0 h1 hk
    obtain ⟨k, rfl⟩ : ∃ m, k = m + 1 := ⟨k - 1, by omega⟩
    simp only [spec_l1WatchOk.l0]
    rw [if_neg (by omega), drop_end _ _ (by omega)]; rfl
  | succ d ih =>
    intro k i h0 h1 hk
    obtain ⟨k, rfl⟩ : ∃ m, k = m + 1 := ⟨k - 1, by omega⟩
    have hr := ih k (i + 1) (by omega) (by omega) (by omega)
    simp only [spec_l1WatchOk.l0]
    rw [if_pos (by omega), if_pos h0, l1In_f]
    simp only [Option.bind_some]
    rw [wrap_succ _ h0 (by omega), hr, drop_cons _ z60 i h0 (by omega), List.all_cons, show wrap64 ((l0.length : Int) - 1) = (l0.length : Int) - 1 by unfold wrap64; omega]
    show _ = some (wtB l0 (rd_T60 l i) && _)
    unfold wtB
    by_cases a : 0 ≤ (rd_T60 l i).f0
    · by_cases b : (rd_T60 l i).f0 < l0.length
      · rw [deT a, deT b, deT (show (rd_T60 l i).f0 ≤ l0.length - 1 by omega)]
        simp only [Bool.and_self, if_true, Bool.true_and, l1In_f, Option.bind_some]
        by_cases a' : 0 ≤ (rd_T60 l i).f1
        · by_cases b' : (rd_T60 l i).f1 < l0.length
          · rw [deT a', deT b', deT (show (rd_T60 l i).f1 ≤ l0.length - 1 by omega)]
            simp only [Bool.and_self, if_true]
            rw [if_pos a, if_pos b]
            by_cases c : (rd_T38 l0 (rd_T60 l i).f0).f0 = 4
            · simp [c]
            · simp [c]
          · rw [deF b', deF (show ¬ (rd_T60 l i).f1 ≤ l0.length - 1 by omega)]
            simp
        · rw [deF a']
          simp
      · rw [deF b, deF (show ¬ (rd_T60 l i).f0 ≤ l0.length - 1 by omega)]
        simp
    · rw [deF a]
      simp
theorem l1WatchOk_f (l0 : List S38) (l1 : List Int) (l2 l3 l : List S60) (hl0 : (l0.length : Int) ≤ 4611686018427387903) (hl : (l.length : Int) ≤ 4611686018427387903) : Ev (fun k => spec_l1WatchOk.f k l0 l1 l2 l3 l) (l.all (wtB l0)) := by
  refine ⟨l.length + 1, fun k hk => ?_⟩
  show spec_l1WatchOk.f k l0 l1 l2 l3 l = _
  unfold spec_l1WatchOk.f
  exact l1WatchOk_l0 l l0 l1 l2 l3 hl0 hl l.length k 0 (by omega) (by omega) (by omega)
section
variable (l0 : List S38) (l1 : List Int) (l2 l3 : List S60) (h0 : (l0.length : Int) ≤ 4611686018427387903) (hf : ∀ x ∈ l0, Fit x) (h1 : (l1.length : Int) ≤ 4611686018427387903) (h2 : (l2.length : Int) + l3.length ≤ 4611686018427387903)
include h0 h1 h2
theorem MemOk_l1 (K : Nat) (hK : ∀ k, K ≤ k → spec_l1WatchOk.f k l0 l1 l2 l3 l2 = some (l2.all (wtB l0)) ∧ spec_l1WatchOk.f k l0 l1 l2 l3 l3 = some (l3.all (wtB l0))) (d : Nat) :
    ∀ (k : Nat) (i : Int), 0 ≤ i → i + d = l1.length → d + K < k → spec_MemOk.l1 k i l0 l1 l2 l3 = some ((l1.drop i.toNat).all (inB · l0.length) && l2.all (wtB l0) && l3.all (wtB l0)) := by
  induction d with
  | zero =>
    intro k i h0 h1 hk
    obtain ⟨k, rfl⟩ : ∃ m, k = m + 1 := ⟨k - 1, by omega⟩
    simp only [spec_MemOk.l1]
    rw [if_neg (by omega), drop_end _ _ (by omega), (hK k (by omega)).1, (hK k (by omega)).2]
    simp only [Option.bind_some, List.all_nil, Bool.true_and]
    cases l2.all (wtB l0) <;> simp
  | succ d ih =>
    intro k i h0' h1' hk
    obtain ⟨k, rfl⟩ : ∃ m, k = m + 1 := ⟨k - 1, by omega⟩
    have hr := ih k (i + 1) (by omega) (by omega) (by omega)
    simp only [spec_MemOk.l1]
    rw [if_pos (by omega), if_pos h0', l1In_f]
    simp only [Option.bind_some]
    rw [wrap_succ _ h0' (by omega), hr, drop_cons _ 0 i h0' (by omega), List.all_cons, show wrap64 ((l0.length : Int) - 1) = (l0.length : Int) - 1 by unfold wrap64; omega]
    have e : (decide (-1 ≤ rd l1 i) && decide (rd l1 i ≤ (l0.length : Int) - 1)) = inB (l1.getD i.toNat 0) l0.length := by
      unfold inB rd; congr 1; exact decide_eq_decide.2 (by omega)
    rw [e]
    cases inB (l1.getD i.toNat 0) l0.length <;> simp
include hf
theorem MemOk_l0 (K : Nat) (hK : ∀ k, K ≤ k → spec_l1WatchOk.f k l0 l1 l2 l3 l2 = some (l2.all (wtB l0)) ∧ spec_l1WatchOk.f k l0 l1 l2 l3 l3 = some (l3.all (wtB l0)))
    (hK2 : ∀ x ∈ l0, ∀ k, K ≤ k → spec_l1ObjOk.f k x.f0 x.f1 x.f2 l0.length = some (obB l0.length x)) (d : Nat) :
    ∀ (k : Nat) (i : Int), 0 ≤ i → i + d = l0.length → d + l1.length + K + 1 < k →
      spec_MemOk.l0 k i l0 l1 l2 l3 = some ((l0.drop i.toNat).all (obB l0.length) && l1.all (inB · l0.length) && l2.all (wtB l0) && l3.all (wtB l0)) := by
  induction d with
  | zero =>
    intro k i h0' h1' hk
    obtain ⟨k, rfl⟩ : ∃ m, k = m + 1 := ⟨k - 1, by omega⟩
    simp only [spec_MemOk.l0]
    rw [if_neg (by omega), drop_end _ _ (by omega), MemOk_l1 l0 l1 l2 l3 h0 h1 h2 K hK l1.length k 0 (by omega) (by omega) (by omega)]
    simp
  | succ d ih =>
    intro k i h0' h1' hk
    obtain ⟨k, rfl⟩ : ∃ m, k = m + 1 := ⟨k - 1, by omega⟩
    have hr := ih k (i + 1) (by omega) (by omega) (by omega)
    simp only [spec_MemOk.l0]
    rw [if_pos (by omega), if_pos h0']
    have hx := hK2 (rd_T38 l0 i) (getD_mem l0 z38 i h0' (by omega)) k (by omega)
    rw [hx]
    simp only [Option.bind_some]
    rw [wrap_succ _ h0' (by omega), hr, drop_cons _ z38 i h0' (by omega), List.all_cons]
    show _ = some (obB l0.length (rd_T38 l0 i) && _ && _ && _ && _)
    cases obB l0.length (rd_T38 l0 i) <;> simp
theorem MemOk_f : Ev (fun k => spec_MemOk.f k l0 l1 l2 l3) (okB l0 l1 l2 l3) := by
  obtain ⟨K1, hK1⟩ := l1WatchOk_f l0 l1 l2 l3 l2 h0 (by omega)
  obtain ⟨K2, hK2⟩ := l1WatchOk_f l0 l1 l2 l3 l3 h0 (by omega)
  obtain ⟨K3, hK3⟩ := ev_all l0 (fun x k => spec_l1ObjOk.f k x.f0 x.f1 x.f2 l0.length) (fun x => obB l0.length x) (fun x hx => l1ObjOk_f l0.length ⟨by omega, h0⟩ x (hf x hx))
  refine ⟨l0.length + l1.length + (K1 + K2 + K3) + 4, fun k hk => ?_⟩
  obtain ⟨k, rfl⟩ : ∃ m, k = m + 1 := ⟨k - 1, by omega⟩
  have hm := MemOk_l0 l0 l1 l2 l3 h0 hf h1 h2 (K1 + K2 + K3) (fun k hk => ⟨hK1 k (by omega), hK2 k (by omega)⟩) (fun x hx k hk => hK3 x hx k (by omega)) l0.length k 0 (by omega) (by omega) (by omega)
  show spec_MemOk.f (k + 1) l0 l1 l2 l3 = _
  have e : wrap64 ((l2.length : Int) + l3.length) = (l2.length : Int) + l3.length := by unfold wrap64; omega
  unfold spec_MemOk.f okB
  simp only [spec_MemOk.j0]
  rw [hm, e]
  by_cases c1 : (l0.length : Int) > 60
  · rw [if_pos c1, deF (show ¬ l0.length ≤ 60 by omega)]; simp
  rw [if_neg c1, deT (show l0.length ≤ 60 by omega)]
  by_cases c2 : (l1.length : Int) > 8
  · rw [if_pos c2, deF (show ¬ l1.length ≤ 8 by omega)]; simp
  rw [if_neg c2, deT (show l1.length ≤ 8 by omega)]
  by_cases c3 : ((l2.length : Int) + l3.length) > 20
  · rw [deT c3, deF (show ¬ l2.length + l3.length ≤ 20 by omega)]; simp
  · rw [deF c3, deT (show l2.length + l3.length ≤ 20 by omega)]; simp
end
end Go.Proofs.Ytigjhfijkdlldaa.H
