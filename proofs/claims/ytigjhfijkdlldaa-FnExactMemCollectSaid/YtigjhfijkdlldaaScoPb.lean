/- The laws' own small functions (sizes, copies of arguments, equality) and memObjOk, in plain words. -/
import Derived.Test.YtigjhfijkdlldaaScoPa
import Derived.Test.YtigjhfijkdlldaaScoIm
import Derived.Test.YtigjhfijkdlldaaScoSz
import Derived.Test.YtigjhfijkdlldaaScoTo
import Derived.Test.YtigjhfijkdlldaaScoEq
namespace Go.Proofs.Ytigjhfijkdlldaa.H
open Go.RowKit Go.Proofs.YtigjhfijkdlldaaW.PrintWords Go.Proofs.YtigjhfijkdlldaaW.PrintLast Go.Proofs.YtigjhfijkdlldaaW.PrintMore Go.Proofs.Ytigjhfijkdlldaa.Q
set_option linter.unusedVariables false
/-! ### memObjOk -/
theorem memObjOk_l0 (a0 : Int) (s : ByteArray) (l : List Int) (hs : (s.size : Int) ≤ 4611686018427387903) (d : Nat) : ∀ (k : Nat) (i : Int), 0 ≤ i → i + d = s.size → d < k →
    impl_memObjOk.l0 k s.size i a0 s l = some (((bytesOf s).drop i.toNat).all chOk && (decide (1 ≤ (s.size : Int)) && decide ((s.size : Int) ≤ 12)) && ((l.length : Int) == 0)) := by
  induction d with
  | zero =>
    intro k i h0 h1 hk
    obtain ⟨k, rfl⟩ : ∃ m, k = m + 1 := ⟨k - 1, by omega⟩
    simp only [impl_memObjOk.l0]
    rw [if_neg (by omega), drop_end _ _ (by rw [bytesOf_length]; omega)]
    by_cases c1 : (s.size : Int) ≥ 1
    · rw [if_pos c1, deT (show 1 ≤ (s.size : Int) from c1)]
      by_cases c2 : (s.size : Int) ≤ 12
      · rw [if_pos c2, deT c2]; rfl
      · rw [if_neg c2, deF c2]; rfl
    · rw [if_neg c1, deF (show ¬ 1 ≤ (s.size : Int) from c1)]; rfl
  | succ d ih =>
    intro k i h0 h1 hk
    obtain ⟨k, rfl⟩ : ∃ m, k = m + 1 := ⟨k - 1, by omega⟩
    have hr := ih k (i + 1) (by omega) (by omega) (by omega)
    have hb : (bytesOf s).getD i.toNat 0 = bt s i := by have := rd_bytesOf s i; unfold rd at this; exact this
    simp only [impl_memObjOk.l0]
    rw [if_pos (show i < (s.size : Int) by omega), if_pos h0, if_pos (show i < (s.size : Int) by omega), wrap_succ _ h0 (by omega), hr, drop_cons _ 0 i h0 (by rw [bytesOf_length]; omega), List.all_cons, hb]
    unfold chOk
    by_cases c1 : bt s i < 97
    · rw [if_pos c1, deF (show ¬ 97 ≤ bt s i by omega)]
      by_cases c3 : bt s i < 48
      · rw [if_pos c3, deF (show ¬ 48 ≤ bt s i by omega)]; rfl
      · rw [if_neg c3, deT (show 48 ≤ bt s i by omega)]
        by_cases c4 : bt s i > 57
        · rw [if_pos c4, deF (show ¬ bt s i ≤ 57 by omega)]; rfl
        · rw [if_neg c4, deT (show bt s i ≤ 57 by omega)]; rfl
    · rw [if_neg c1, deT (show 97 ≤ bt s i by omega)]
      by_cases c2 : bt s i > 122
      · rw [if_pos c2, deF (show ¬ bt s i ≤ 122 by omega)]
        by_cases c3 : bt s i < 48
        · rw [if_pos c3, deF (show ¬ 48 ≤ bt s i by omega)]; rfl
        · rw [if_neg c3, deT (show 48 ≤ bt s i by omega)]
          by_cases c4 : bt s i > 57
          · rw [if_pos c4, deF (show ¬ bt s i ≤ 57 by omega)]; rfl
          · rw [if_neg c4, deT (show bt s i ≤ 57 by omega)]; rfl
      · rw [if_neg c2, deT (show bt s i ≤ 122 by omega)]; rfl
theorem memObjOk_f (x : S38) (ha : Fit x) : Ev (fun k => impl_memObjOk.f k x.f0 x.f1 x.f2) (shB x) := by
  refine ⟨x.f1.size + 1, fun k hk => ?_⟩
  show impl_memObjOk.f k x.f0 x.f1 x.f2 = _
  unfold impl_memObjOk.f shB
  by_cases c1 : x.f0 = 1
  · rw [if_pos c1, if_pos c1, memObjOk_l0 x.f0 x.f1 x.f2 (by have := ha.1; omega) x.f1.size k 0 (by omega) (by omega) (by omega)]
    unfold txOk
    rw [Bool.and_comm (List.all _ _)]; rfl
  rw [if_neg c1, if_neg c1]
  by_cases c2 : x.f0 = 2
  · rw [if_pos c2, if_pos c2]
    by_cases c : x.f1.toList = [] <;> simp only [c, if_true, if_false, decide_true, decide_false, Bool.true_and, Bool.false_and]
  rw [if_neg c2, if_neg c2]
  by_cases c3 : x.f0 = 3
  · rw [if_pos c3, if_pos c3]
    by_cases c : x.f1.toList = [] <;> simp only [c, if_true, if_false, decide_true, decide_false, Bool.true_and, Bool.false_and]
  rw [if_neg c3, if_neg c3]
  by_cases c4 : x.f0 = 4
  · rw [if_pos c4, if_pos c4]
    by_cases c : x.f1.toList = [] <;> simp only [c, if_true, if_false, decide_true, decide_false, Bool.true_and, Bool.false_and]
  rw [if_neg c4, if_neg c4]
theorem memObjOk_calls (x : S38) (A : Option Addr) (c : Nat) (w : World) (ha : Fit x) (hr : Kd.C (Kd.int .i64) w A x.f2.length x.f2) (hc : x.f2.length ≤ c) :
    Calls Try.prog 83 #[.agg #[.int .i64 x.f0, .string x.f1, .slice A x.f2.length c]] w fun e w' => e = .returned (.bool (shB x)) ∧ Below w.heap.size w w' := by
  obtain ⟨k, hk⟩ := (memObjOk_f x ha).rounds
  exact impl_memObjOk.calls k x.f0 x.f1 A c x.f2 (shB x) w hr hc hk
/-! ### loops over an index -/
theorem run_loop {ρ : Type} (n K : Nat) (r : ρ) (L : Nat → Int → Option ρ) (hs : ∀ (k : Nat) (i : Int), K ≤ k → 0 ≤ i → i < n → L (k + 1) i = L k (i + 1)) (he : ∀ k, K ≤ k → L (k + 1) n = some r) :
    ∀ (d k : Nat) (i : Int), 0 ≤ i → i + d = n → d + K < k → L k i = some r
  | 0, k, i, h0, h1, hk => by
    obtain ⟨k, rfl⟩ : ∃ m, k = m + 1 := ⟨k - 1, by omega⟩
    obtain rfl : i = n := by omega
    exact he k (by omega)
  | d + 1, k, i, h0, h1, hk => by
    obtain ⟨k, rfl⟩ : ∃ m, k = m + 1 := ⟨k - 1, by omega⟩
    rw [hs k i (by omega) h0 (by omega)]
    exact run_loop n K r L hs he d k (i + 1) (by omega) (by omega) (by omega)
theorem set_mid {β : Type} (a : List β) (z v : β) (d : Nat) : (a ++ List.replicate (d + 1) z).set a.length v = (a ++ [v]) ++ List.replicate d z := by
  rw [List.replicate_succ, List.set_append_right _ _ (Nat.le_refl _)]; simp
theorem copy_loop {α β : Type} (xs : List α) (dx : α) (z : β) (f : α → β) (L : Nat → List β → Int → Option (List β)) (K : Nat)
    (hs : ∀ (k : Nat) (x3 : List β) (i : Int), K ≤ k → 0 ≤ i → i < xs.length → i < x3.length → L (k + 1) x3 i = L k (x3.set i.toNat (f (xs.getD i.toNat dx))) (i + 1))
    (he : ∀ k x3, K ≤ k → L (k + 1) x3 xs.length = some x3) : ∀ (d k : Nat) (i : Int), 0 ≤ i → i + d = xs.length → d + K < k → L k ((xs.take i.toNat).map f ++ List.replicate d z) i = some (xs.map f)
  | 0, k, i, h0, h1, hk => by
    obtain ⟨k, rfl⟩ : ∃ m, k = m + 1 := ⟨k - 1, by omega⟩
    obtain rfl : i = xs.length := by omega
    rw [he k _ (by omega)]; simp
  | d + 1, k, i, h0, h1, hk => by
    obtain ⟨k, rfl⟩ : ∃ m, k = m + 1 := ⟨k - 1, by omega⟩
    have hl : ((xs.take i.toNat).map f).length = i.toNat := by rw [List.length_map, List.length_take]; omega
    rw [hs k _ i (by omega) h0 (by omega) (by rw [List.length_append, hl, List.length_replicate]; omega)]
    have e : ((xs.take i.toNat).map f ++ List.replicate (d + 1) z).set i.toNat (f (xs.getD i.toNat dx)) = (xs.take (i + 1).toNat).map f ++ List.replicate d z := by
      have h2 : i.toNat < xs.length := by omega
      have := set_mid ((xs.take i.toNat).map f) z (f (xs.getD i.toNat dx)) d
      rw [hl] at this
      rw [this, show (i + 1).toNat = i.toNat + 1 by omega, List.take_succ_eq_append_getElem h2, List.map_append, List.getD_eq_getElem?_getD, List.getElem?_eq_getElem h2]; rfl
    rw [e]
    exact copy_loop xs dx z f L K hs he d k (i + 1) (by omega) (by omega) (by omega)
/-! ### the arguments copied -/
def cO (x : S72) : S38 := ⟨x.f0, x.f1, x.f2⟩
def cW (x : S126) : S60 := ⟨x.f0, x.f1⟩
theorem toIntS_f (l : List Int) (h : l.length ≤ 35184372088832) : Ev (fun k => laws_toIntS.f k l) l := by
  refine ⟨l.length + 1, fun k hk => ?_⟩
  show laws_toIntS.f k l = some l
  unfold laws_toIntS.f
  rw [if_pos (by omega), if_pos (by omega)]
  have := copy_loop l 0 (0 : Int) id (fun k x3 i => laws_toIntS.l0 k l x3 i) 0 (fun k x3 i _ h0 h1 h2 => by simp only [laws_toIntS.l0]; rw [if_pos h1, if_pos h0, if_pos h2, wrap_succ _ h0 (by omega)]; rfl)
    (fun k x3 _ => by simp only [laws_toIntS.l0]; rw [if_neg (by omega)]) l.length k 0 (by omega) (by omega) (by omega)
  simpa using this
theorem toMemObjS_f (l : List S72) (h : l.length ≤ 5864062014805) (hf : ∀ x ∈ l, x.f2.length ≤ 35184372088832) : Ev (fun k => laws_toMemObjS.f k l) (l.map cO) := by
  obtain ⟨K, hK⟩ := ev_all l (fun x k => laws_toIntS.f k x.f2) (fun x => x.f2) (fun x hx => toIntS_f x.f2 (hf x hx))
  refine ⟨l.length + K + 1, fun k hk => ?_⟩
  show laws_toMemObjS.f k l = _
  unfold laws_toMemObjS.f
  rw [if_pos (by omega), if_pos (by omega)]
  have := copy_loop l z72 z38 cO (fun k x3 i => laws_toMemObjS.l0 k l x3 i) K (fun k x3 i hk h0 h1 h2 => by
      simp only [laws_toMemObjS.l0]
      have hx : laws_toIntS.f k (rd_T72 l i).f2 = some (rd_T72 l i).f2 := hK (rd_T72 l i) (getD_mem l z72 i h0 h1) k hk
      rw [if_pos h1, if_pos h0, laws_toMemObj.f, hx]; simp only [Option.bind_some]
      rw [if_pos h2, wrap_succ _ h0 (by omega)]; rfl)
    (fun k x3 _ => by simp only [laws_toMemObjS.l0]; rw [if_neg (by omega)]) l.length k 0 (by omega) (by omega) (by omega)
  simpa using this
theorem toMemWatchS_f (l : List S126) (h : l.length ≤ 17592186044416) : Ev (fun k => laws_toMemWatchS.f k l) (l.map cW) := by
  refine ⟨l.length + 1, fun k hk => ?_⟩
  show laws_toMemWatchS.f k l = _
  unfold laws_toMemWatchS.f
  rw [if_pos (by omega), if_pos (by omega)]
  have := copy_loop l z126 z60 cW (fun k x3 i => laws_toMemWatchS.l0 k l x3 i) 0 (fun k x3 i hk h0 h1 h2 => by
      simp only [laws_toMemWatchS.l0]
      rw [if_pos h1, if_pos h0, laws_toMemWatch.f]; simp only [Option.bind_some]
      rw [if_pos h2, wrap_succ _ h0 (by omega)]; rfl)
    (fun k x3 _ => by simp only [laws_toMemWatchS.l0]; rw [if_neg (by omega)]) l.length k 0 (by omega) (by omega) (by omega)
  simpa using this
/-- A law's heap that its guard lets in. -/
structure Small (l0 : List S72) (l1 : List Int) (l2 l3 : List S126) : Prop where
  o : l0.length ≤ 1048576
  t : ∀ x ∈ l0, x.f1.size ≤ 1048576 ∧ x.f2.length ≤ 1048576
  r : l1.length ≤ 1048576
  w : l2.length + l3.length ≤ 1048576
theorem toMemHeap_f {l0 : List S72} {l1 : List Int} {l2 l3 : List S126} (h : Small l0 l1 l2 l3) : Ev (fun k => laws_toMemHeap.f k l0 l1 l2 l3) (l0.map cO, l1, l2.map cW, l3.map cW) := by
  have hw := h.w
  obtain ⟨K0, h0⟩ := toMemObjS_f l0 (by have := h.o; omega) (fun x hx => by have := (h.t x hx).2; omega)
  obtain ⟨K1, h1⟩ := toIntS_f l1 (by have := h.r; omega)
  obtain ⟨K2, h2⟩ := toMemWatchS_f l2 (by omega)
  obtain ⟨K3, h3⟩ := toMemWatchS_f l3 (by omega)
  refine ⟨K0 + K1 + K2 + K3, fun k hk => ?_⟩
  have e0 := h0 k (by omega)
  have e1 := h1 k (by omega)
  have e2 := h2 k (by omega)
  have e3 := h3 k (by omega)
  simp only at e0 e1 e2 e3
  show laws_toMemHeap.f k l0 l1 l2 l3 = _
  unfold laws_toMemHeap.f
  rw [e0, e1, e2, e3]; rfl
/-! ### sizes -/
theorem wrap_sub (a b : Int) (h0 : 0 ≤ a) (h1 : a ≤ 9223372036854775807) (h2 : 0 ≤ b) (h3 : b ≤ 9223372036854775807) : wrap64 (a - b) = a - b := by unfold wrap64; omega
theorem szIntS_f (n a : Int) (l : List Int) (ha : 0 ≤ a ∧ a ≤ 1048576) (hl : (l.length : Int) ≤ 9223372036854775807) :
    ∃ r, laws_szIntS.f l a = some r ∧ r ≤ a ∧ -1 ≤ r ∧ (0 ≤ r → (l.length : Int) + r ≤ a) := by
  unfold laws_szIntS.f
  rw [wrap_sub _ _ ha.1 (by omega) (by omega) hl]
  by_cases h : a - (l.length : Int) < 0
  · exact ⟨-1, by rw [if_pos h], by omega, by omega, by omega⟩
  · exact ⟨_, by rw [if_neg h], by omega, by omega, by omega⟩
theorem szMemWatchS_f (a : Int) (l : List S126) (ha : 0 ≤ a ∧ a ≤ 1048576) (hl : (l.length : Int) ≤ 9223372036854775807) :
    ∃ r, laws_szMemWatchS.f l a = some r ∧ r ≤ a ∧ -1 ≤ r ∧ (0 ≤ r → (l.length : Int) + r ≤ a) := by
  unfold laws_szMemWatchS.f
  rw [wrap_sub _ _ ha.1 (by omega) (by omega) hl]
  by_cases h : a - (l.length : Int) < 0
  · exact ⟨-1, by rw [if_pos h], by omega, by omega, by omega⟩
  · exact ⟨_, by rw [if_neg h], by omega, by omega, by omega⟩
def Fits (s : ByteArray) (l : List Int) : Prop := (s.size : Int) ≤ 9223372036854775807 ∧ (l.length : Int) ≤ 9223372036854775807
theorem szMemObj_f (a0 : Int) (s : ByteArray) (l : List Int) (a : Int) (ha : 0 ≤ a ∧ a ≤ 1048576) (hf : Fits s l) :
    ∃ r, laws_szMemObj.f a0 s l a = some r ∧ r ≤ a ∧ -1 ≤ r ∧ (0 ≤ r → s.size ≤ 1048576 ∧ l.length ≤ 1048576) := by
  obtain ⟨h1, h2⟩ := hf
  unfold laws_szMemObj.f
  rw [wrap_sub _ _ ha.1 (by omega) (by omega) h1]
  by_cases h : a - (s.size : Int) < 0
  · exact ⟨-1, by rw [if_pos h], by omega, by omega, by omega⟩
  · rw [if_neg h]
    obtain ⟨r, hr, h3, h4, h5⟩ := szIntS_f 0 (a - s.size) l ⟨by omega, by omega⟩ h2
    rw [hr]; simp only [Option.bind_some]
    by_cases h6 : r < 0
    · exact ⟨-1, by rw [if_pos h6], by omega, by omega, by omega⟩
    · exact ⟨r, by rw [if_neg h6], by omega, by omega, fun _ => by have := h5 (by omega); omega⟩
theorem szMemObjS_l0 (l : List S72) (hl : (l.length : Int) ≤ 9223372036854775807) (hf : ∀ x ∈ l, Fits x.f1 x.f2) (d : Nat) : ∀ (i a : Int), 0 ≤ i → i + d = l.length → 0 ≤ a → a ≤ 1048576 →
    ∃ r, (∀ k, d < k → laws_szMemObjS.l0 k l a i = some r) ∧ r ≤ a ∧ -1 ≤ r ∧ (0 ≤ r → ∀ x ∈ l.drop i.toNat, x.f1.size ≤ 1048576 ∧ x.f2.length ≤ 1048576) := by
  induction d with
  | zero =>
    intro i a h0 h1 h2 h3
    refine ⟨a, fun k hk => ?_, by omega, by omega, fun _ x hx => ?_⟩
    · obtain ⟨k, rfl⟩ : ∃ m, k = m + 1 := ⟨k - 1, by omega⟩
      simp only [laws_szMemObjS.l0]; rw [if_neg (by omega)]
    · rw [drop_end _ _ (by omega)] at hx; cases hx
  | succ d ih =>
    intro i a h0 h1 h2 h3
    obtain ⟨r, hr, h4, h5, h6⟩ := szMemObj_f (rd_T72 l i).f0 (rd_T72 l i).f1 (rd_T72 l i).f2 a ⟨h2, h3⟩ (hf _ (getD_mem l z72 i h0 (by omega)))
    by_cases h7 : r < 0
    · refine ⟨-1, fun k hk => ?_, by omega, by omega, by omega⟩
      obtain ⟨k, rfl⟩ : ∃ m, k = m + 1 := ⟨k - 1, by omega⟩
      simp only [laws_szMemObjS.l0]
      rw [if_pos (by omega), if_pos h0, hr]; simp only [Option.bind_some]
      rw [if_pos h7]
    · obtain ⟨q, hq, h8, h9, h10⟩ := ih (i + 1) r (by omega) (by omega) (by omega) (by omega)
      refine ⟨q, fun k hk => ?_, by omega, by omega, fun hq0 x hx => ?_⟩
      · obtain ⟨k, rfl⟩ : ∃ m, k = m + 1 := ⟨k - 1, by omega⟩
        simp only [laws_szMemObjS.l0]
        rw [if_pos (by omega), if_pos h0, hr]; simp only [Option.bind_some]
        rw [if_neg h7, wrap_succ _ h0 (by omega)]; exact hq k (by omega)
      · rw [drop_cons _ z72 i h0 (by omega)] at hx
        rcases List.mem_cons.1 hx with rfl | hx
        · exact h6 (by omega)
        · exact h10 hq0 x hx
theorem szMemObjS_f (l : List S72) (a : Int) (ha : 0 ≤ a ∧ a ≤ 1048576) (hl : (l.length : Int) ≤ 9223372036854775807) (hf : ∀ x ∈ l, Fits x.f1 x.f2) :
    ∃ r, (∀ k, l.length < k → laws_szMemObjS.f k l a = some r) ∧ r ≤ a ∧ -1 ≤ r ∧ (0 ≤ r → l.length ≤ 1048576 ∧ ∀ x ∈ l, x.f1.size ≤ 1048576 ∧ x.f2.length ≤ 1048576) := by
  by_cases h : a - (l.length : Int) < 0
  · exact ⟨-1, fun k _ => by unfold laws_szMemObjS.f; rw [wrap_sub _ _ ha.1 (by omega) (by omega) hl, if_pos h], by omega, by omega, by omega⟩
  · obtain ⟨r, h1, h2, h3, h4⟩ := szMemObjS_l0 l hl hf l.length 0 (a - l.length) (by omega) (by omega) (by omega) (by omega)
    exact ⟨r, fun k hk => by unfold laws_szMemObjS.f; rw [wrap_sub _ _ ha.1 (by omega) (by omega) hl, if_neg h]; exact h1 k hk, by omega, by omega, fun hr => ⟨by omega, h4 hr⟩⟩
theorem szMemHeap_f (l0 : List S72) (l1 : List Int) (l2 l3 : List S126) (a : Int) (ha : 0 ≤ a ∧ a ≤ 1048576) (h0 : (l0.length : Int) ≤ 9223372036854775807) (hf : ∀ x ∈ l0, Fits x.f1 x.f2)
    (h1 : (l1.length : Int) ≤ 9223372036854775807) (h2 : (l2.length : Int) ≤ 9223372036854775807) (h3 : (l3.length : Int) ≤ 9223372036854775807) :
    ∃ r, (∀ k, l0.length < k → laws_szMemHeap.f k l0 l1 l2 l3 a = some r) ∧ r ≤ a ∧ -1 ≤ r ∧ (0 ≤ r → Small l0 l1 l2 l3) := by
  obtain ⟨r0, e0, a0, b0, c0⟩ := szMemObjS_f l0 a ha h0 hf
  by_cases g0 : r0 < 0
  · exact ⟨-1, fun k hk => by unfold laws_szMemHeap.f; rw [e0 k hk]; simp only [Option.bind_some]; rw [if_pos g0], by omega, by omega, by omega⟩
  obtain ⟨r1, e1, a1, b1, c1⟩ := szIntS_f 0 r0 l1 ⟨by omega, by omega⟩ h1
  by_cases g1 : r1 < 0
  · exact ⟨-1, fun k hk => by unfold laws_szMemHeap.f; rw [e0 k hk]; simp only [Option.bind_some]; rw [if_neg g0, e1]; simp only [Option.bind_some]; rw [if_pos g1], by omega, by omega, by omega⟩
  obtain ⟨r2, e2, a2, b2, c2⟩ := szMemWatchS_f r1 l2 ⟨by omega, by omega⟩ h2
  by_cases g2 : r2 < 0
  · exact ⟨-1, fun k hk => by unfold laws_szMemHeap.f; rw [e0 k hk]; simp only [Option.bind_some]; rw [if_neg g0, e1]; simp only [Option.bind_some]; rw [if_neg g1, e2]; simp only [Option.bind_some]; rw [if_pos g2], by omega, by omega, by omega⟩
  obtain ⟨r3, e3, a3, b3, c3⟩ := szMemWatchS_f r2 l3 ⟨by omega, by omega⟩ h3
  by_cases g3 : r3 < 0
  · exact ⟨-1, fun k hk => by unfold laws_szMemHeap.f; rw [e0 k hk]; simp only [Option.bind_some]; rw [if_neg g0, e1]; simp only [Option.bind_some]; rw [if_neg g1, e2]; simp only [Option.bind_some]; rw [if_neg g2, e3]; simp only [Option.bind_some]; rw [if_pos g3], by omega, by omega, by omega⟩
  · refine ⟨r3, fun k hk => by unfold laws_szMemHeap.f; rw [e0 k hk]; simp only [Option.bind_some]; rw [if_neg g0, e1]; simp only [Option.bind_some]; rw [if_neg g1, e2]; simp only [Option.bind_some]; rw [if_neg g2, e3]; simp only [Option.bind_some]; rw [if_neg g3], by omega, by omega, fun _ => ?_⟩
    have d0 := c0 (by omega)
    have d1 := c1 (by omega)
    have d2 := c2 (by omega)
    have d3 := c3 (by omega)
    exact ⟨d0.1, d0.2, by omega, by omega⟩
/-! ### a heap equals itself -/
theorem eqIntS_f (l : List Int) (h : (l.length : Int) ≤ 9223372036854775807) (k : Nat) (hk : l.length < k) : laws_eqIntS.f k l l = some true := by
  unfold laws_eqIntS.f
  rw [if_pos rfl]
  exact run_loop l.length 0 true (fun k i => laws_eqIntS.l0 k l l i) (fun k i _ h0 h1 => by simp only [laws_eqIntS.l0]; rw [if_pos h1, if_pos h0, if_pos h1, wrap_succ _ h0 (by omega)]; simp only [if_true])
    (fun k _ => by simp only [laws_eqIntS.l0]; rw [if_neg (by omega)]) l.length k 0 (by omega) (by omega) (by omega)
theorem eqMemObjS_f (l : List S38) (h : (l.length : Int) ≤ 9223372036854775807) (hf : ∀ x ∈ l, (x.f2.length : Int) ≤ 9223372036854775807) : Ev (fun k => laws_eqMemObjS.f k l l) true := by
  obtain ⟨K, hK⟩ := ev_all l (fun x k => laws_eqIntS.f k x.f2 x.f2) (fun _ => true) (fun x hx => ⟨x.f2.length + 1, fun k hk => eqIntS_f x.f2 (hf x hx) k (by omega)⟩)
  refine ⟨l.length + K + 1, fun k hk => ?_⟩
  show laws_eqMemObjS.f k l l = _
  unfold laws_eqMemObjS.f
  rw [if_pos rfl]
  exact run_loop l.length K true (fun k i => laws_eqMemObjS.l0 k l l i) (fun k i hk h0 h1 => by
      have hx : laws_eqIntS.f k (rd_T38 l i).f2 (rd_T38 l i).f2 = some true := hK (rd_T38 l i) (getD_mem l z38 i h0 h1) k hk
      simp only [laws_eqMemObjS.l0]; rw [if_pos h1, if_pos h0, if_pos h1, laws_eqMemObj.f, if_pos rfl, if_pos rfl, hx]; simp only [Option.bind_some, if_true]; rw [wrap_succ _ h0 (by omega)])
    (fun k _ => by simp only [laws_eqMemObjS.l0]; rw [if_neg (by omega)]) l.length k 0 (by omega) (by omega) (by omega)
theorem eqMemWatchS_f (l : List S60) (h : (l.length : Int) ≤ 9223372036854775807) (k : Nat) (hk : l.length < k) : laws_eqMemWatchS.f k l l = some true := by
  unfold laws_eqMemWatchS.f
  rw [if_pos rfl]
  exact run_loop l.length 0 true (fun k i => laws_eqMemWatchS.l0 k l l i) (fun k i hk h0 h1 => by
      simp only [laws_eqMemWatchS.l0]; rw [if_pos h1, if_pos h0, if_pos h1, laws_eqMemWatch.f, if_pos rfl, if_pos rfl]; simp only [Option.bind_some, if_true]; rw [wrap_succ _ h0 (by omega)])
    (fun k _ => by simp only [laws_eqMemWatchS.l0]; rw [if_neg (by omega)]) l.length k 0 (by omega) (by omega) (by omega)
theorem eqMemHeap_f (l0 : List S38) (l1 : List Int) (l2 l3 : List S60) (h0 : (l0.length : Int) ≤ 9223372036854775807) (hf : ∀ x ∈ l0, (x.f2.length : Int) ≤ 9223372036854775807) (h1 : (l1.length : Int) ≤ 9223372036854775807)
    (h2 : (l2.length : Int) ≤ 9223372036854775807) (h3 : (l3.length : Int) ≤ 9223372036854775807) : Ev (fun k => laws_eqMemHeap.f k l0 l1 l2 l3 l0 l1 l2 l3) true := by
  obtain ⟨K, hK⟩ := eqMemObjS_f l0 h0 hf
  refine ⟨K + l1.length + l2.length + l3.length + 1, fun k hk => ?_⟩
  have e0 := hK k (by omega)
  simp only at e0
  show laws_eqMemHeap.f k l0 l1 l2 l3 l0 l1 l2 l3 = _
  unfold laws_eqMemHeap.f
  rw [e0, eqIntS_f l1 h1 k (by omega), eqMemWatchS_f l2 h2 k (by omega), eqMemWatchS_f l3 h3 k (by omega)]; rfl
end Go.Proofs.Ytigjhfijkdlldaa.H
