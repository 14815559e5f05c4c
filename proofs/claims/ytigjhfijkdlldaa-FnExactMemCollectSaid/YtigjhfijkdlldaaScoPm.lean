/- Marks: what mark.. writes and what held.. reads again, in plain words. -/
import Derived.Test.YtigjhfijkdlldaaScoPb
import Derived.Test.YtigjhfijkdlldaaScoMk
import Derived.Test.YtigjhfijkdlldaaScoHd
namespace Go.Proofs.Ytigjhfijkdlldaa.H
open Go.RowKit Go.Proofs.YtigjhfijkdlldaaW.PrintWords Go.Proofs.YtigjhfijkdlldaaW.PrintLast Go.Proofs.YtigjhfijkdlldaaW.PrintMore Go.Proofs.Ytigjhfijkdlldaa.Q
set_option linter.unusedVariables false
/-! ### the text of a number -/
theorem strOfNums_size (l : List Int) : (strOfNums l).size = l.length := by
  unfold strOfNums; simp [ByteArray.size]
theorem markText_l0 (m : Nat) : ∀ (x : Int) (s : ByteArray), x < 10 ^ m → s.size + m ≤ 1000000 → ∃ r, laws_markText.l0 (m + 1) x s = some r := by
  induction m with
  | zero =>
    intro x s h hs
    simp only [laws_markText.l0]
    rw [if_neg (by simp at h; omega), if_pos (by omega)]
    exact ⟨_, rfl⟩
  | succ m ih =>
    intro x s h hs
    simp only [laws_markText.l0]
    by_cases c : x > 0
    · rw [if_pos c]
      simp only [Option.bind_some]
      rw [strOfNums_size, if_pos (by simp; omega)]
      refine ih _ _ ?_ ?_
      · have e : Int.tdiv x 10 = x / 10 := Int.tdiv_eq_ediv_of_nonneg (by omega)
        have h2 : wrap64 (x / 10) ≤ x / 10 ∨ wrap64 (x / 10) < 0 := by
          by_cases c2 : x / 10 ≤ 9223372036854775807
          · left; unfold wrap64; omega
          · unfold wrap64; omega
        have h3 : (10 : Int) ^ (m + 1) = 10 ^ m * 10 := Int.pow_succ 10 m
        have h4 : (0 : Int) < 10 ^ m := Int.pow_pos (by decide)
        rw [e]
        rcases h2 with h2 | h2
        · refine Int.lt_of_le_of_lt h2 ?_
          exact Int.ediv_lt_of_lt_mul (by decide) (by rw [← h3]; exact h)
        · omega
      · rw [ByteArray.size_append, strOfNums_size]; simp; omega
    · rw [if_neg c, if_pos (by omega)]
      exact ⟨_, rfl⟩
def mtxt (a : Int) : ByteArray := (laws_markText.f 21 a).getD ⟨#[]⟩
theorem mtxt_f (a : Int) (h : a ≤ 9223372036854775807) : Ev (fun k => laws_markText.f k a) (mtxt a) := by
  have : ∃ r, laws_markText.f 21 a = some r := by
    unfold laws_markText.f
    by_cases c : a ≤ 0
    · rw [if_pos c]; exact ⟨_, rfl⟩
    · rw [if_neg c]; exact markText_l0 20 a _ (by omega) (by decide)
  obtain ⟨r, hr⟩ := this
  have e : mtxt a = r := by unfold mtxt; rw [hr]; rfl
  rw [e]
  exact Ev.of (laws_markText.mono a) hr
/-! ### numbers -/
def marksI (a : Int) (n : Nat) : List Int := (List.range n).map fun (j : Nat) => a + j
def marksW (a : Int) (n : Nat) : List S60 := (List.range n).map fun (j : Nat) => ⟨a + 2 * j, a + 2 * j + 1⟩
theorem marksI_length (a : Int) (n : Nat) : (marksI a n).length = n := by simp [marksI]
theorem marksW_length (a : Int) (n : Nat) : (marksW a n).length = n := by simp [marksW]
theorem marksI_succ (a : Int) (n : Nat) : marksI a (n + 1) = marksI a n ++ [a + n] := by simp [marksI, List.range_succ]
theorem marksW_succ (a : Int) (n : Nat) : marksW a (n + 1) = marksW a n ++ [⟨a + 2 * n, a + 2 * n + 1⟩] := by simp [marksW, List.range_succ]
theorem set_at {α : Type} (p : List α) (b v : α) (r : List α) (n : Nat) (h : p.length = n) : (p ++ b :: r).set n v = p ++ v :: r := by
  subst h; rw [List.set_append_right _ _ (Nat.le_refl _)]; simp
theorem getD_at {α : Type} (p : List α) (b d : α) (r : List α) (n : Nat) (h : p.length = n) : (p ++ b :: r).getD n d = b := by
  subst h; simp [List.getD_eq_getElem?_getD]
theorem wrap_id (x : Int) (h0 : 0 ≤ x) (h1 : x ≤ 9223372036854775807) : wrap64 x = x := by unfold wrap64; omega
theorem markIntS_l0 (a : Int) (ha : 0 ≤ a) : ∀ (rest : List Int) (i k : Nat), a + i + rest.length ≤ 1152921504606846976 → rest.length < k →
    laws_markIntS.l0 k (marksI a i ++ rest) (a + i) i = some (a + i + rest.length, marksI a (i + rest.length)) := by
  intro rest
  induction rest with
  | nil =>
    intro i k h hk
    obtain ⟨k, rfl⟩ : ∃ m, k = m + 1 := ⟨k - 1, by omega⟩
    simp only [laws_markIntS.l0]
    rw [if_neg (by simp [marksI_length])]; simp
  | cons b rest ih =>
    intro i k h hk
    rw [List.length_cons] at h hk
    obtain ⟨k, rfl⟩ : ∃ m, k = m + 1 := ⟨k - 1, by omega⟩
    simp only [laws_markIntS.l0]
    rw [if_pos (by rw [List.length_append, marksI_length, List.length_cons]; omega), if_pos (by omega), Int.toNat_natCast, set_at _ _ _ _ _ (marksI_length a i), wrap_id _ (by omega) (by omega), wrap_id _ (by omega) (by omega)]
    have e := ih (i + 1) k (by omega) (by omega)
    rw [marksI_succ, List.append_assoc] at e
    rw [show a + (i : Int) + 1 = a + ((i + 1 : Nat) : Int) by omega, show (i : Int) + 1 = ((i + 1 : Nat) : Int) by omega]
    rw [show marksI a i ++ (a + (i : Int)) :: rest = marksI a i ++ ([a + (i : Int)] ++ rest) from rfl, e]
    rw [List.length_cons, show i + 1 + rest.length = i + (rest.length + 1) by omega]
    congr 2; omega
theorem markIntS_f (a : Int) (ha : 0 ≤ a) (l : List Int) (h : a + l.length ≤ 1152921504606846976) (k : Nat) (hk : l.length < k) : laws_markIntS.f k l a = some (a + l.length, marksI a l.length) := by
  unfold laws_markIntS.f
  have := markIntS_l0 a ha l 0 k (by omega) hk
  simpa [marksI] using this
theorem heldIntS_l0 (a : Int) (ha : 0 ≤ a) (n : Nat) (h : a + n ≤ 1152921504606846976) : ∀ (d i k : Nat), i + d = n → d < k → laws_heldIntS.l0 k (marksI a n) (a + i) i = some (a + n) := by
  intro d
  induction d with
  | zero =>
    intro i k h1 hk
    obtain ⟨k, rfl⟩ : ∃ m, k = m + 1 := ⟨k - 1, by omega⟩
    simp only [laws_heldIntS.l0]
    rw [if_neg (by rw [marksI_length]; omega)]; congr 2; omega
  | succ d ih =>
    intro i k h1 hk
    obtain ⟨k, rfl⟩ : ∃ m, k = m + 1 := ⟨k - 1, by omega⟩
    simp only [laws_heldIntS.l0]
    have e : rd (marksI a n) i = a + i := by
      unfold rd marksI
      rw [Int.toNat_natCast, List.getD_eq_getElem?_getD, List.getElem?_map, List.getElem?_range (by omega)]; rfl
    rw [if_pos (by rw [marksI_length]; omega), if_pos (by omega), if_pos e, wrap_id _ (by omega) (by omega), wrap_id _ (by omega) (by omega)]
    have e2 := ih (i + 1) k (by omega) (by omega)
    rw [show a + (i : Int) + 1 = a + ((i + 1 : Nat) : Int) by omega]
    exact e2
theorem heldIntS_f (a : Int) (ha : 0 ≤ a) (n : Nat) (h : a + n ≤ 1152921504606846976) (k : Nat) (hk : n < k) : laws_heldIntS.f k (marksI a n) a = some (a + n) := by
  unfold laws_heldIntS.f
  have := heldIntS_l0 a ha n h n 0 k (by omega) hk
  simpa using this
theorem markMemWatchS_l0 (a : Int) (ha : 0 ≤ a) : ∀ (rest : List S60) (i k : Nat), a + 2 * i + 2 * rest.length ≤ 1152921504606846976 → rest.length < k →
    laws_markMemWatchS.l0 k (marksW a i ++ rest) (a + 2 * i) i = some (a + 2 * i + 2 * rest.length, marksW a (i + rest.length)) := by
  intro rest
  induction rest with
  | nil =>
    intro i k h hk
    obtain ⟨k, rfl⟩ : ∃ m, k = m + 1 := ⟨k - 1, by omega⟩
    simp only [laws_markMemWatchS.l0]
    rw [if_neg (by simp [marksW_length])]; simp
  | cons b rest ih =>
    intro i k h hk
    rw [List.length_cons] at h hk
    obtain ⟨k, rfl⟩ : ∃ m, k = m + 1 := ⟨k - 1, by omega⟩
    simp only [laws_markMemWatchS.l0]
    rw [if_pos (by rw [List.length_append, marksW_length, List.length_cons]; omega), if_pos (by omega)]
    unfold rd_T60
    simp only [Option.bind_some]
    rw [Int.toNat_natCast, set_at _ _ _ _ _ (marksW_length a i), getD_at _ _ _ _ _ (marksW_length a i), getD_at _ _ _ _ _ (marksW_length a i), set_at _ _ _ _ _ (marksW_length a i)]
    rw [wrap_id (a + 2 * (i : Int) + 1) (by omega) (by omega), wrap_id _ (by omega) (by omega), wrap_id _ (by omega) (by omega)]
    have e := ih (i + 1) k (by omega) (by omega)
    rw [marksW_succ, List.append_assoc] at e
    rw [show a + 2 * (i : Int) + 1 + 1 = a + 2 * ((i + 1 : Nat) : Int) by omega, show (i : Int) + 1 = ((i + 1 : Nat) : Int) by omega]
    rw [show ∀ z : S60, marksW a i ++ z :: rest = marksW a i ++ ([z] ++ rest) from fun _ => rfl, e]
    rw [List.length_cons, show i + 1 + rest.length = i + (rest.length + 1) by omega]
    congr 2; omega
theorem markMemWatchS_f (a : Int) (ha : 0 ≤ a) (l : List S60) (h : a + 2 * l.length ≤ 1152921504606846976) (k : Nat) (hk : l.length < k) : laws_markMemWatchS.f k l a = some (a + 2 * l.length, marksW a l.length) := by
  unfold laws_markMemWatchS.f
  have := markMemWatchS_l0 a ha l 0 k (by omega) hk
  simpa [marksW] using this
theorem heldMemWatchS_l0 (a : Int) (ha : 0 ≤ a) (n : Nat) (h : a + 2 * n ≤ 1152921504606846976) : ∀ (d i k : Nat), i + d = n → d < k → laws_heldMemWatchS.l0 k (marksW a n) (a + 2 * i) i = some (a + 2 * n) := by
  intro d
  induction d with
  | zero =>
    intro i k h1 hk
    obtain ⟨k, rfl⟩ : ∃ m, k = m + 1 := ⟨k - 1, by omega⟩
    simp only [laws_heldMemWatchS.l0]
    rw [if_neg (by rw [marksW_length]; omega)]; congr 2; omega
  | succ d ih =>
    intro i k h1 hk
    obtain ⟨k, rfl⟩ : ∃ m, k = m + 1 := ⟨k - 1, by omega⟩
    simp only [laws_heldMemWatchS.l0]
    have e : rd_T60 (marksW a n) i = ⟨a + 2 * i, a + 2 * i + 1⟩ := by
      unfold rd_T60 marksW
      rw [Int.toNat_natCast, List.getD_eq_getElem?_getD, List.getElem?_map, List.getElem?_range (by omega)]; rfl
    rw [if_pos (by rw [marksW_length]; omega), if_pos (by omega), e, wrap_id (a + 2 * (i : Int) + 1) (by omega) (by omega), wrap_id _ (by omega) (by omega), wrap_id _ (by omega) (by omega)]
    simp only [if_true]
    have e2 := ih (i + 1) k (by omega) (by omega)
    rw [show a + 2 * (i : Int) + 1 + 1 = a + 2 * ((i + 1 : Nat) : Int) by omega]
    exact e2
theorem heldMemWatchS_f (a : Int) (ha : 0 ≤ a) (n : Nat) (h : a + 2 * n ≤ 1152921504606846976) (k : Nat) (hk : n < k) : laws_heldMemWatchS.f k (marksW a n) a = some (a + 2 * n) := by
  unfold laws_heldMemWatchS.f
  have := heldMemWatchS_l0 a ha n h n 0 k (by omega) hk
  simpa using this
/-! ### objects -/
def markO : Int → List S38 → List S38
  | _, [] => []
  | a, x :: l => ⟨a, mtxt (a + 1), marksI (a + 2) x.f2.length⟩ :: markO (a + 2 + x.f2.length) l
def cntO : List S38 → Int
  | [] => 0
  | x :: l => 2 + x.f2.length + cntO l
theorem cntO_nonneg (l : List S38) : 0 ≤ cntO l := by
  induction l with
  | nil => exact Int.le_refl 0
  | cons x l ih => unfold cntO; omega
end Go.Proofs.Ytigjhfijkdlldaa.H
