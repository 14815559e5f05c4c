import Derived.Test.YtigjhfijkdlldaaSplYto
import Derived.Test.YtigjhfijkdlldaaSplC
import Derived.Test.YtigjhfijkdlldaaSplYob
import Derived.Test.YtigjhfijkdlldaaSplHsc
import Derived.Test.YtigjhfijkdlldaaSplPw
section
/- The laws' marks of numbers and events, the text of a number, and what is held of them: walked. -/
namespace Go.Proofs.Ytigjhfijkdlldaa.H
open Go.RowKit Go.Proofs.YtigjhfijkdlldaaW.PrintWords Go.Proofs.YtigjhfijkdlldaaW.PrintLast Go.Proofs.YtigjhfijkdlldaaW.PrintMore Go.Proofs.Ytigjhfijkdlldaa.Q
set_option linter.unusedVariables false
set_option linter.unusedSimpArgs false
theorem mixI_set (a : Int) (i : Int) (l : List Int) (h0 : 0 ≤ i) (h1 : i < l.length) : (marksI a i.toNat ++ l.drop i.toNat).set i.toNat (a + i) = marksI a (i + 1).toNat ++ l.drop (i + 1).toNat := by
  rw [drop_cons l 0 i h0 h1, set_at _ _ _ _ _ (marksI_length _ _), show (i + 1).toNat = i.toNat + 1 by omega, marksI_succ, List.append_assoc, Int.toNat_of_nonneg h0]
  rfl
theorem marksI_rd (a : Int) (n : Nat) (i : Int) (h0 : 0 ≤ i) (h1 : i < n) : rd (marksI a n) i = a + i := by
  unfold rd marksI
  rw [List.getD_eq_getElem?_getD, List.getElem?_map, List.getElem?_range (by omega)]
  simp; omega
theorem marksW_rd (a : Int) (n : Nat) (i : Int) (h0 : 0 ≤ i) (h1 : i < n) : rd_T60 (marksW a n) i = ⟨a + 2 * i, a + 2 * i + 1⟩ := by
  unfold rd_T60 marksW
  rw [List.getD_eq_getElem?_getD, List.getElem?_map, List.getElem?_range (by omega)]
  simp only [Option.map_some, Option.getD_some, Int.toNat_of_nonneg h0]
section
variable {w0 w : World} {A : Option Addr} {c d : Nat}
set_option maxHeartbeats 1000000 in
theorem markInt_c (a : Int) (ha : 0 ≤ a) {P : Nat → Prop} {l : List Int} (hB : Below w0.heap.size w0 w) (hO : Kd.R (Kd.int .i64) 3 w w0.heap.size P (.slice A l.length c) l) (hl : a + l.length ≤ 1152921504606846976) :
    Calls Try.prog 31 #[.slice A l.length c, .int .i64 a] w fun e w' => e = .returned (.int .i64 (a + l.length)) ∧ Kd.R (Kd.int .i64) 3 w' w0.heap.size P (.slice A l.length c) (marksI a l.length) ∧ Below w0.heap.size w0 w' ∧ Kept w w' (fun k => some k = (Value.slice A l.length c).ownBlock) := by
  have HB := AK hB
  have HO := AK hO
  have HL := AK (And.intro ha hl)
  clear hB hO ha hl
  go_enter Try.func31, Try.ntmps31
  go_wp2
  go_loopg [1, 5] l.length (fun kq v1 v5 w' => ∃ i : Int, v1 = .int .i64 (a + i) ∧ v5 = .int .i64 i ∧ Aside0 (0 ≤ i ∧ i + kq = l.length) ∧ Aside0 (Kd.R (Kd.int .i64) 3 w' w0.heap.size P (.slice A l.length c) (marksI a i.toNat ++ l.drop i.toNat)) ∧ Aside0 (Below w0.heap.size w0 w') ∧ Aside0 (Kept w w' (fun k => some k = (Value.slice A l.length c).ownBlock)))
  case atStart => exact ⟨0, by rw [Int.add_zero], rfl, ⟨by omega, by omega⟩, ⟨HO.out⟩, HB, ⟨Kept.refl _ _⟩⟩
  case round =>
    clear HO HB
    obtain ⟨i, rfl, rfl, HI, HO, HB, HK⟩ := hrel
    cases gk with
    | zero =>
      obtain rfl : i = (l.length : Int) := by have := HI.out; omega
      have c9 : decide ((l.length : Int) < (l.length : Int)) = false := deF (by omega)
      have h1 := HO.out
      rw [Int.toNat_natCast, List.drop_length, List.append_nil] at h1
      have H1 := AK h1
      clear h1
      go_wp2
      go_ret
      exact ⟨rfl, H1.out, HB.out, HK.out⟩
    | succ k1 =>
      have c9 : decide (i < (l.length : Int)) = true := deT (by have := HI.out; omega)
      have hi0 := eq_true (show 0 ≤ i by have := HI.out; omega)
      have hi1 := eq_true (show i < (l.length : Int) by have := HI.out; omega)
      have hml : (marksI a i.toNat ++ l.drop i.toNat).length = l.length := by rw [List.length_append, marksI_length, List.length_drop]; have := HI.out; omega
      obtain ⟨g, cap, ee, hgb, hgl, _⟩ := Kd.R_form HO.out (by rw [hml]; have := HI.out; omega)
      injection ee with e1 e2 e3
      subst e1 e3
      clear e2
      obtain ⟨hy, hf⟩ := RI_at HO.out i (by have := HI.out; omega) (by have := HI.out; omega)
      have N0 := AK (RI_set HO.out i (by have := HI.out; omega) (by have := HI.out; omega) (a + i))
      rw [mixI_set a i l (by have := HI.out; omega) (by have := HI.out; omega)] at N0
      have hw1 : wrap64 (a + i + 1) = a + (i + 1) := by have := HI.out; have := HL.out; unfold wrap64; omega
      have hw3 : wrap64 (i + 1) = i + 1 := by have := HI.out; have := HL.out; unfold wrap64; omega
      have N1 := AK (below_set (j := i.toNat) (v := .int .i64 (a + i)) HB.out hgb)
      have N2 := AK (Kept.setCell HK.out (p := ⟨g, i.toNat, none⟩) (.inl rfl) (.int .i64 (a + i)))
      clear hml hgb hgl HO HB HK
      go_wp2
      go_roundg k1
      case measure => omega
      case rel =>
        try rw [hw1]
        try rw [hw3]
        exact ⟨i + 1, rfl, rfl, ⟨by have := HI.out; omega, by have := HI.out; omega⟩, N0, N1, N2⟩
theorem heldInt_c {a : Int} {n : Nat} (ha : 0 ≤ a) (hl : a + n ≤ 1152921504606846976) (h : Kd.C (Kd.int .i64) w A n (marksI a n)) : Calls Try.prog 32 #[.slice A n c, .int .i64 a] w fun e w' => e = .returned (.int .i64 (a + n)) ∧ Drawn0 w w' := by
  have HL := AK (And.intro ha (And.intro hl h))
  clear ha hl h
  go_enter Try.func32, Try.ntmps32
  go_wp2
  go_loopg [1, 5] n (fun kq v1 v5 w' => ∃ i : Int, v1 = .int .i64 (a + i) ∧ v5 = .int .i64 i ∧ Aside0 (0 ≤ i ∧ i + kq = n) ∧ Drawn0 w w')
  case atStart => exact ⟨0, by rw [Int.add_zero], rfl, ⟨by omega, by omega⟩, Drawn0.refl _⟩
  case round =>
    obtain ⟨i, rfl, rfl, HI, ⟨m, rfl⟩⟩ := hrel
    cases gk with
    | zero =>
      obtain rfl : i = (n : Int) := by have := HI.out; omega
      have c9 : decide ((n : Int) < (n : Int)) = false := deF (by omega)
      go_wp2
      go_ret
      exact ⟨rfl, ⟨_, rfl⟩⟩
    | succ k1 =>
      have c9 : decide (i < (n : Int)) = true := deT (by have := HI.out; omega)
      have hi0 := eq_true (show 0 ≤ i by have := HI.out; omega)
      have hi1 := eq_true (show i < (n : Int) by have := HI.out; omega)
      obtain ⟨ad, e1, hx⟩ := Kd.at_int HL.out.2.2 i (by have := HI.out; omega) (by have := HI.out; omega)
      subst e1
      rw [marksI_rd a n i (by have := HI.out; omega) (by have := HI.out; omega)] at hx
      have hn : (a + i != a + i) = false := by simp
      have hw1 : wrap64 (a + i + 1) = a + (i + 1) := by have := HI.out; have := HL.out; unfold wrap64; omega
      have hw3 : wrap64 (i + 1) = i + 1 := by have := HI.out; have := HL.out; unfold wrap64; omega
      go_wp2
      go_roundg k1
      case measure => omega
      case rel =>
        try rw [hw1]
        try rw [hw3]
        exact ⟨i + 1, rfl, rfl, ⟨by have := HI.out; omega, by have := HI.out; omega⟩, ⟨_, rfl⟩⟩
theorem heldW_c {a : Int} {n : Nat} (ha : 0 ≤ a) (hl : a + 2 * n ≤ 1152921504606846976) (h : Kd.C k60 w A n (marksW a n)) : Calls Try.prog 101 #[.slice A n c, .int .i64 a] w fun e w' => e = .returned (.int .i64 (a + 2 * n)) ∧ Drawn0 w w' := by
  have HL := AK (And.intro ha (And.intro hl h))
  clear ha hl h
  go_enter Try.func101, Try.ntmps101
  go_wp2
  go_loopg [1, 5] n (fun kq v1 v5 w' => ∃ i : Int, v1 = .int .i64 (a + 2 * i) ∧ v5 = .int .i64 i ∧ Aside0 (0 ≤ i ∧ i + kq = n) ∧ Drawn0 w w')
  case atStart => exact ⟨0, by rw [show a + 2 * (0 : Int) = a by omega], rfl, ⟨by omega, by omega⟩, Drawn0.refl _⟩
  case round =>
    obtain ⟨i, rfl, rfl, HI, ⟨m, rfl⟩⟩ := hrel
    cases gk with
    | zero =>
      obtain rfl : i = (n : Int) := by have := HI.out; omega
      have c9 : decide ((n : Int) < (n : Int)) = false := deF (by omega)
      go_wp2
      go_ret
      exact ⟨rfl, ⟨_, rfl⟩⟩
    | succ k1 =>
      have c9 : decide (i < (n : Int)) = true := deT (by have := HI.out; omega)
      have hi0 := eq_true (show 0 ≤ i by have := HI.out; omega)
      have hi1 := eq_true (show i < (n : Int) by have := HI.out; omega)
      obtain ⟨ad, e1, hx, hy⟩ := at_T60 HL.out.2.2 i (by have := HI.out; omega) (by have := HI.out; omega)
      subst e1
      rw [marksW_rd a n i (by have := HI.out; omega) (by have := HI.out; omega)] at hx hy
      have hn : (a + 2 * i != a + 2 * i) = false := by simp
      have hn2 : (a + 2 * i + 1 != a + 2 * i + 1) = false := by simp
      have hw1 : wrap64 (a + 2 * i + 1) = a + 2 * i + 1 := by have := HI.out; have := HL.out; unfold wrap64; omega
      have hw2 : wrap64 (a + 2 * i + 1 + 1) = a + 2 * (i + 1) := by have := HI.out; have := HL.out; unfold wrap64; omega
      have hw3 : wrap64 (i + 1) = i + 1 := by have := HI.out; have := HL.out; unfold wrap64; omega
      go_wp2
      go_roundg k1
      case measure => omega
      case rel => exact ⟨i + 1, rfl, rfl, ⟨by have := HI.out; omega, by have := HI.out; omega⟩, ⟨_, rfl⟩⟩
end
end Go.Proofs.Ytigjhfijkdlldaa.H
end
section
/- The laws' text of a number, walked. -/
namespace Go.Proofs.Ytigjhfijkdlldaa.H
open Go.RowKit Go.Proofs.YtigjhfijkdlldaaW.PrintWords Go.Proofs.YtigjhfijkdlldaaW.PrintLast Go.Proofs.YtigjhfijkdlldaaW.PrintMore Go.Proofs.Ytigjhfijkdlldaa.Q
set_option linter.unusedVariables false
set_option linter.unusedSimpArgs false
set_option maxHeartbeats 2000000 in
theorem mtxt_c {w : World} (a : Int) (ha : a ≤ 9223372036854775807) : Calls Try.prog 112 #[.int .i64 a] w fun e w' => e = .returned (.string (mtxt a)) ∧ Below w.heap.size w w' := by
  obtain ⟨r, er⟩ : ∃ r, r = mtxt a := ⟨_, rfl⟩
  rw [← er]
  by_cases h : a ≤ 0
  case pos =>
    have h1 : decide (a ≤ 0) = true := deT h
    have e : r = ⟨#[109, 48]⟩ := by rw [er]; exact if_pos h
    subst e
    clear er h
    go_enter Try.func112, Try.ntmps112
    go_wp2
    go_ret
    exact ⟨rfl, Below.refl _ _⟩
  have h1 : decide (a ≤ 0) = false := deF h
  have HR := AK (show r = ⟨#[109]⟩ ++ txL 20 a ⟨#[]⟩ by rw [er]; exact if_neg h)
  clear er h
  go_enter Try.func112, Try.ntmps112
  go_wp2
  go_loopg [0, 3] 20 (fun kq v0 v3 w' => ∃ (x : Int) (s : ByteArray), v0 = .int .i64 x ∧ v3 = .string s ∧ Aside0 (r = ⟨#[109]⟩ ++ txL kq x s) ∧ Aside0 (x ≤ 9223372036854775807 ∧ x < 10 ^ kq ∧ s.size + kq ≤ 20) ∧ Aside0 (Below w.heap.size w w'))
  case atStart => exact ⟨a, ⟨#[]⟩, rfl, rfl, HR, ⟨ha, by omega, by decide⟩, ⟨Below.refl _ _⟩⟩
  case round =>
    clear HR
    obtain ⟨x, s, rfl, rfl, HR, HX, HB⟩ := hrel
    by_cases hx : x ≤ 0
    case pos =>
      have c7 : decide (0 < x) = false := deF (by omega)
      have e : r = ⟨#[109]⟩ ++ s := by rw [HR.out]; cases gk with | zero => rfl | succ k => rw [txL, if_pos hx]
      subst e
      have hs1 : ByteArray.size (⟨#[109]⟩ ++ s) ≤ 9223372036854775807 := by rw [ByteArray.size_append]; have := HX.out.2.2; have : (⟨#[109]⟩ : ByteArray).size = 1 := rfl; omega
      have hs2 : (⟨#[109]⟩ : ByteArray).size + s.size ≤ 9223372036854775807 := by have := HX.out.2.2; have : (⟨#[109]⟩ : ByteArray).size = 1 := rfl; omega
      have hs3 : decide ((⟨#[109]⟩ : ByteArray).size + s.size ≤ 9223372036854775807) = true := deT hs2
      clear HR hx
      go_wp2
      go_ret
      exact ⟨rfl, HB.out⟩
    cases gk with
    | zero => exact absurd HX.out.2.1 (by simp; omega)
    | succ k1 =>
      have c7 : decide (0 < x) = true := deT (by omega)
      have hm : Int.tmod x 10 = x % 10 := Int.tmod_eq_emod_of_nonneg (by omega)
      have hq : Int.tdiv x 10 = x / 10 := Int.tdiv_eq_ediv_of_nonneg (by omega)
      have hw1 : wrap64 (48 + x % 10) = 48 + x % 10 := by unfold wrap64; omega
      have hw2 : (48 + x % 10) % 256 = 48 + x % 10 := by omega
      have hw3 : wrap64 (x / 10) = x / 10 := by have := HX.out.1; unfold wrap64; omega
      have hsz : (strOfNums [48 + x % 10]).size + s.size ≤ 9223372036854775807 := by rw [strOfNums_size]; have := HX.out.2.2; simp; omega
      have hsd : decide ((strOfNums [48 + x % 10]).size + s.size ≤ 9223372036854775807) = true := deT hsz
      have HN := AK (show r = ⟨#[109]⟩ ++ txL k1 (x / 10) (strOfNums [48 + x % 10] ++ s) by rw [HR.out, txL, if_neg hx])
      have HX2 := AK (show x / 10 ≤ 9223372036854775807 ∧ x / 10 < 10 ^ k1 ∧ (strOfNums [48 + x % 10] ++ s).size + k1 ≤ 20 by
        have h3 : (10 : Int) ^ (k1 + 1) = 10 ^ k1 * 10 := Int.pow_succ 10 k1
        refine ⟨by have := HX.out.1; omega, Int.ediv_lt_of_lt_mul (by decide) (by rw [← h3]; exact HX.out.2.1), ?_⟩
        rw [ByteArray.size_append, strOfNums_size]; have := HX.out.2.2; simp; omega)
      clear HR hx
      go_wp2_with ((with_reducible refine gate_dst (N := 12) rfl ?_); refine Kd.R_lit (Kd.int .u8) (w0 := w) w.heap.size 5 ?hg (N := 12) ?hd (xs := ([48 + x % 10] : List Int)) (inner := [.int .u8 (48 + x % 10)]) (ok := fun _ => True) (okp := fun _ => True) ?hr ?hp (fun _ hk => hk) trivial HB.out HB.out.size (by simp) ?_; (case hd => rfl); (case hg => rfl); (case hr => first | (go_simp; done) | (go_simp; rfl)); (case hp => exact (Reps.one (show Kd.M (Kd.int .u8) _ _ _ (48 + x % 10) [.int .u8 (48 + x % 10)] from rfl) (Reps.none _ _))); intro v12 w5 ho hb _ _; have HB5 := AK hb; have hcv := own_string (P := Try.prog) Try.underlying23 Try.underlying5 Try.underlying9 (Kd.own_of_R ho); clear hb ho)
      go_roundg k1
      case measure => omega
      case rel => exact ⟨x / 10, _, by rw [hw3], rfl, HN, HX2, HB5⟩
end Go.Proofs.Ytigjhfijkdlldaa.H
end
section
/- laws.markMemObjS: each object of a row of the law's own is marked; nothing else is written. -/
namespace Go.Proofs.Ytigjhfijkdlldaa.H
open Go.RowKit Go.Proofs.YtigjhfijkdlldaaW.PrintWords Go.Proofs.YtigjhfijkdlldaaW.PrintLast Go.Proofs.YtigjhfijkdlldaaW.PrintMore Go.Proofs.Ytigjhfijkdlldaa.Q
set_option linter.unusedVariables false
theorem markO_append (l l' : List S38) : ∀ a : Int, markO a (l ++ l') = markO a l ++ markO (a + cntO l) l' := by
  induction l with
  | nil => intro a; simp [markO, cntO]
  | cons x l ih => intro a; simp only [List.cons_append, markO, cntO, ih]; rw [show a + 2 + (x.f2.length : Int) + cntO l = a + (2 + x.f2.length + cntO l) by omega]
theorem cntO_append (l l' : List S38) : cntO (l ++ l') = cntO l + cntO l' := by
  induction l with
  | nil => simp [cntO]
  | cons x l ih => simp only [List.cons_append, cntO, ih]; omega
theorem markO_length (l : List S38) : ∀ a : Int, (markO a l).length = l.length := by
  induction l with
  | nil => intro a; rfl
  | cons x l ih => intro a; simp [markO, ih]
theorem mark_step (a : Int) (l : List S38) (i : Int) (h0 : 0 ≤ i) (h1 : i < l.length) :
    (markO a (l.take i.toNat) ++ l.drop i.toNat).set i.toNat ⟨a + cntO (l.take i.toNat), mtxt (a + cntO (l.take i.toNat) + 1), marksI (a + cntO (l.take i.toNat) + 2) (rd_T38 l i).f2.length⟩ = markO a (l.take (i + 1).toNat) ++ l.drop (i + 1).toNat := by
  have h2 : i.toNat < l.length := by omega
  have hl : (markO a (l.take i.toNat)).length = i.toNat := by rw [markO_length, List.length_take]; omega
  have e : l[i.toNat] = rd_T38 l i := by unfold rd_T38; rw [List.getD_eq_getElem?_getD, List.getElem?_eq_getElem h2]; rfl
  rw [show (i + 1).toNat = i.toNat + 1 by omega, List.take_succ_eq_append_getElem h2, markO_append, List.drop_eq_getElem_cons h2, set_at _ _ _ _ _ hl, e]
  simp [markO]
theorem cnt_step (l : List S38) (i : Int) (h0 : 0 ≤ i) (h1 : i < l.length) : cntO (l.take (i + 1).toNat) = cntO (l.take i.toNat) + 2 + (rd_T38 l i).f2.length := by
  have h2 : i.toNat < l.length := by omega
  have e : l[i.toNat] = rd_T38 l i := by unfold rd_T38; rw [List.getD_eq_getElem?_getD, List.getElem?_eq_getElem h2]; rfl
  rw [show (i + 1).toNat = i.toNat + 1 by omega, List.take_succ_eq_append_getElem h2, cntO_append, e]
  simp [cntO]; omega
theorem cnt_le (l : List S38) (i : Nat) : cntO (l.take i) ≤ cntO l := by
  have h := cntO_append (l.take i) (l.drop i)
  rw [List.take_append_drop] at h
  have := cntO_nonneg (l.drop i)
  omega
theorem rd_mark (a : Int) (l : List S38) (i : Int) (h0 : 0 ≤ i) (h1 : i < l.length) : (markO a (l.take i.toNat) ++ l.drop i.toNat).getD i.toNat z38 = rd_T38 l i := by
  have h2 : i.toNat < l.length := by omega
  have hl : (markO a (l.take i.toNat)).length = i.toNat := by rw [markO_length, List.length_take]; omega
  have e : l[i.toNat] = rd_T38 l i := by unfold rd_T38; rw [List.getD_eq_getElem?_getD, List.getElem?_eq_getElem h2]; rfl
  rw [List.drop_eq_getElem_cons h2, getD_at _ _ _ _ _ hl, e]
theorem H_at {α : Type} {d : Kd α} {e g n cap : Nat} {W : World} {base : Nat} {ok oki : Nat → Prop} {xs : List α} {i : Int} {c : List Value} (h : Kd.H d e W base ok (.slice (some ⟨g, 0, none⟩) n cap) xs i oki c) (h0 : 0 ≤ i) (h1 : i < n) :
    (∀ j u, c[j]? = some u → W.cell? ⟨g, i.toNat * d.sz + j, none⟩ = some u) ∧ ∀ j, W.frozen? ⟨g, j, none⟩ = false := by
  obtain ⟨_, _, _, _, _, hcc, _⟩ := Kd.H_raw h h0 h1
  obtain ⟨_, f, hR⟩ := h
  obtain ⟨cells, hc⟩ := Kd.R_typed hR g (by simp [Value.ownBlock])
  exact ⟨hcc, fun j => bfz hc j⟩
theorem H_seg1 {α : Type} {d : Kd α} {e g n cap : Nat} {W : World} {base : Nat} {ok oki : Nat → Prop} {xs : List α} {i : Int} {c : List Value} (h : Kd.H d e W base ok (.slice (some ⟨g, 0, none⟩) n cap) xs i oki c) (h0 : 0 ≤ i) (h1 : i < n) (j : Nat) (u : Value) (hj : j + 1 ≤ d.sz) (hu : u.oneCell' = true) :
    Kd.H d e (W.setCell ⟨g, i.toNat * d.sz + j, none⟩ u) base ok (.slice (some ⟨g, 0, none⟩) n cap) xs i oki (c.take j ++ [u] ++ c.drop (j + 1)) ∧ W.grownBy (W.setCell ⟨g, i.toNat * d.sz + j, none⟩ u) (some g) :=
  Kd.H_seg h h0 h1 (seg := [u]) (j := j) hj (fun q hq => by rw [List.mem_singleton.1 hq]; exact hu)
theorem below_grown2 {w0 w w1 : World} {g : Nat} (h : Below w0.heap.size w0 w) (hg : w.grownBy w1 (some g)) (hg' : w0.heap.size ≤ g) : Below w0.heap.size w0 w1 :=
  h.grown hg h.size (fun k hk => by cases hk; exact hg')
set_option maxHeartbeats 4000000 in
set_option maxRecDepth 100000 in
theorem markMemObjS_calls (a : Int) (w0 w : World) (P : Nat → Prop) (v : Value) (l : List S38) (hB : Below w0.heap.size w0 w) (hS : Kd.S k38 38 w w0.heap.size P v l) (ha : 0 ≤ a) (hc : a + cntO l ≤ 1152921504606846976) (hl : l.length ≤ 1048576) :
    Calls Try.prog 87 #[v, .int .i64 a] w fun e w' => e = .returned (.int .i64 (a + cntO l)) ∧ Kd.S k38 38 w' w0.heap.size P v (markO a l) ∧ Below w0.heap.size w0 w' ∧ Kept w w' P := by
  have HS := AK hS
  have HB := AK hB
  have HC := AK hc
  have HA := AK ha
  have HL := AK hl
  obtain ⟨A, c, rfl⟩ := Kd.S_slice hS
  clear hS hB hc ha hl
  go_enter Try.func87, Try.ntmps87
  go_wp2
  go_loopg [1, 5] l.length (fun kq v1 v5 w' => ∃ (x i : Int), v1 = .int .i64 x ∧ v5 = .int .i64 i ∧ Aside0 (0 ≤ i ∧ i + kq = l.length) ∧ Aside0 (x = a + cntO (l.take i.toNat)) ∧
    Aside0 (Kd.S k38 38 w' w0.heap.size P (.slice A l.length c) (markO a (l.take i.toNat) ++ l.drop i.toNat)) ∧ Aside0 (Below w0.heap.size w0 w') ∧ Aside0 (Kept w w' P))
  case atStart => exact ⟨a, 0, rfl, rfl, ⟨by omega, by omega⟩, ⟨by simp [cntO]⟩, HS, HB, ⟨Kept.refl _ _⟩⟩
  case round =>
    clear HS HB
    obtain ⟨x, i, rfl, rfl, HI, HX, HS, HB, HK⟩ := hrel
    cases gk with
    | succ k1 =>
      have c4b : decide (i < (l.length : Int)) = true := deT (by have := HI.out; omega)
      have e4a := eq_true (show 0 ≤ i by have := HI.out; omega)
      have e4b := eq_true (show i < (l.length : Int) by have := HI.out; omega)
      have hlen : (markO a (l.take i.toNat) ++ l.drop i.toNat).length = l.length := by rw [List.length_append, markO_length, List.length_take, List.length_drop]; have := HI.out; omega
      obtain ⟨g, cap, hv, gb, gl, cl, hg⟩ := Kd.S_form HS.out (by rw [hlen]; have := HI.out; omega)
      injection hv with hv1 hv2 hv3
      subst hv1 hv3
      obtain ⟨oki, ce, hcl, hM, hcc, hfr, hoki, hH⟩ := Kd.S_elem HS.out z38 i (by have := HI.out; omega) (by have := HI.out; omega)
      rw [rd_mark a l i (by have := HI.out; omega) (by have := HI.out; omega)] at hM
      obtain ⟨sv, rfl, hR⟩ := k38_openM hM
      obtain ⟨As, cs, rfl⟩ := Kd.R_slice hR
      have x0 : wr.cell? ⟨g, i.toNat * 3, none⟩ = some (.int .i64 (rd_T38 l i).f0) := hcc 0 _ rfl
      have f0 : wr.frozen? ⟨g, i.toNat * 3, none⟩ = false := hfr 0
      have hcn := cnt_step l i (by have := HI.out; omega) (by have := HI.out; omega)
      have hcl2 := cnt_le l (i + 1).toNat
      have hnn := cntO_nonneg (l.take i.toNat)
      have bx0 : 0 ≤ x := by have := HX.out; have := HA.out; omega
      have bx1 : x + 2 + (rd_T38 l i).f2.length ≤ 1152921504606846976 := by have := HX.out; have := HC.out; omega
      have bx2 : x ≤ 1152921504606846976 := by omega
      have HCN := AK hcn
      have HB1 := AK bx1
      have HR := AK hR
      have HH := AK hH
      have HO := AK hoki
      have HGB := AK gb
      have HPG := AK (show P g from (Kd.S_R HS.out).1 g rfl)
      have HI2 := AK (show 0 ≤ i ∧ i < (l.length : Int) by have := HI.out; omega)
      clear hlen gb gl hg hcl hM hcc hfr hoki hH hR hv2 hcn hcl2 hnn bx1 HS
      go_wp2_with (first | ((with_reducible refine gate_store (t := 3) (p := 16) rfl ?_); refine store_event (t := 3) (p := 16) (v := ?vo1) (w1 := wr.setCell ⟨g, i.toNat * 3, none⟩ (.int .i64 x)) ?hg ?ho ?hn ?hr ?_; (case ho => rfl); (case hg => rfl); (case hn => rfl); (case hr => first | (go_simp; done) | (go_simp; rfl)); intro w2 hw; obtain ⟨h2, g2⟩ := H_seg1 HH.out HI2.out.1 HI2.out.2 0 (.int .i64 x) (show 0 + 1 ≤ 3 by omega) rfl; have hg2 : wr.grownBy w2 (some g) := (by rw [hw]; exact g2); have HH2 := AK (show Kd.H k38 38 w2 w0.heap.size P (.slice (some ⟨g, 0, none⟩) l.length c) (markO a (l.take i.toNat) ++ l.drop i.toNat) i oki [.int .i64 x, .string (rd_T38 l i).f1, .slice As (rd_T38 l i).f2.length cs] by rw [hw]; exact h2); have HR2 := AK (Kd.R_grown HR.out hg2 (fun k hk he => (HO.out k hk).2 (Option.some.inj he))); have HB2 := AK (below_grown2 HB.out hg2 HGB.out); have HK2 := AK (Kept.of_grown hg2 HK.out (fun k hk => by cases hk; exact .inl HPG.out)); clear hw h2 g2 hg2 HH HR HB HK) | (go_at_call 112; refine (mtxt_c (x + 1) (by omega)).mono ?_; rintro e w3 ⟨rfl, hb⟩; have HH3 := AK (Kd.H_below HH2.out hb); have HR3 := AK (Kd.R_below HR2.out hb); have HB3 := AK (bst HB2.out hb); have HK3 := AK (Kept.below HK2.out hb); clear hb HH2 HR2 HB2 HK2; have q1 : w3.cell? ⟨g, i.toNat * 3 + 1, none⟩ = some (.string (rd_T38 l i).f1) := (H_at HH3.out HI2.out.1 HI2.out.2).1 1 _ rfl; have f1 : w3.frozen? ⟨g, i.toNat * 3 + 1, none⟩ = false := (H_at HH3.out HI2.out.1 HI2.out.2).2 _) | ((with_reducible refine gate_store (t := 9) (p := 24) rfl ?_); refine store_event (t := 9) (p := 24) (v := ?vo2) (w1 := w3.setCell ⟨g, i.toNat * 3 + 1, none⟩ (.string (mtxt (x + 1)))) ?hg ?ho ?hn ?hr ?_; (case ho => rfl); (case hg => rfl); (case hn => rfl); (case hr => first | (go_simp; done) | (go_simp; rfl)); intro w4 hw; obtain ⟨h2, g2⟩ := H_seg1 HH3.out HI2.out.1 HI2.out.2 1 (.string (mtxt (x + 1))) (show 1 + 1 ≤ 3 by omega) rfl; have hg2 : w3.grownBy w4 (some g) := (by rw [hw]; exact g2); have HH4 := AK (show Kd.H k38 38 w4 w0.heap.size P (.slice (some ⟨g, 0, none⟩) l.length c) (markO a (l.take i.toNat) ++ l.drop i.toNat) i oki [.int .i64 x, .string (mtxt (x + 1)), .slice As (rd_T38 l i).f2.length cs] by rw [hw]; exact h2); have HR4 := AK (Kd.R_grown HR3.out hg2 (fun k hk he => (HO.out k hk).2 (Option.some.inj he))); have HB4 := AK (below_grown2 HB3.out hg2 HGB.out); have HK4 := AK (Kept.of_grown hg2 HK3.out (fun k hk => by cases hk; exact .inl HPG.out)); clear hw h2 g2 hg2 HH3 HR3 HB3 HK3; have q2 : w4.cell? ⟨g, i.toNat * 3 + 2, none⟩ = some (.slice As (rd_T38 l i).f2.length cs) := (H_at HH4.out HI2.out.1 HI2.out.2).1 2 _ rfl) | (go_at_call 31; rw [show x + 1 + 1 = x + 2 by omega]; refine (markInt_c (x + 2) (by omega) HB4.out HR4.out (by have := HB1.out; omega)).mono ?_; rintro e w5 ⟨rfl, hr, hb, hk⟩; have HR5 := AK hr; have HB5 := AK hb; have HK5 := AK (Kept.then_ HK4.out hk (fun k hk => .inl (HO.out k (HR4.out.1 k hk.symm)).1)); have HH5 := AK (Kd.H_step HH4.out (fun k _ hn hlt => hk.2 k hlt (fun e => hn (HR4.out.1 k e.symm)))); have HOW := AK HR4.out.1; clear hr hb hk HH4 HR4 HB4 HK4))
      go_roundg k1
      case measure => omega
      case rel =>
        have h1 := HI.out
        have h2 := HX.out
        have h3 := HCN.out
        have h4 := HL.out
        have h5 := HB1.out
        rw [wrap_succ i (by omega) (by omega)]
        refine ⟨_, i + 1, rfl, rfl, ⟨by omega, by omega⟩, ⟨by rw [h3, h2]; omega⟩, ⟨?_⟩, HB5, HK5⟩
        have hM : k38.M w5 w0.heap.size oki (⟨x, mtxt (x + 1), marksI (x + 2) (rd_T38 l i).f2.length⟩ : S38) [.int .i64 x, .string (mtxt (x + 1)), .slice As (rd_T38 l i).f2.length cs] :=
          k38_mkM _ _ _ (⟨x, mtxt (x + 1), marksI (x + 2) (rd_T38 l i).f2.length⟩ : S38) (Kd.R_mono (Kd.R_tight rfl HR5.out) (fun k hk => HOW.out k hk.symm))
        have hb := Kd.H_back HH5.out hM (fun _ hk => hk)
        rw [← mark_step a l i (by omega) (by omega), ← h2]
        exact hb
    | zero =>
      have c4b : decide (i < (l.length : Int)) = false := deF (by have := HI.out; omega)
      go_wp2
      go_ret
      have h1 := HI.out
      have h2 := HX.out
      have h3 := HS.out
      rw [take_all _ _ (by omega)] at h2 h3
      rw [drop_end _ _ (by omega), List.append_nil] at h3
      exact ⟨by rw [h2]; rfl, h3, HB.out, HK.out⟩
end Go.Proofs.Ytigjhfijkdlldaa.H
end
section
/- laws.markMemHeap: a heap of the law's own is marked; only its own blocks, which have P, are written. -/
namespace Go.Proofs.Ytigjhfijkdlldaa.H
open Go.RowKit Go.Proofs.YtigjhfijkdlldaaW.PrintWords Go.Proofs.YtigjhfijkdlldaaW.PrintLast Go.Proofs.YtigjhfijkdlldaaW.PrintMore Go.Proofs.Ytigjhfijkdlldaa.Q
set_option linter.unusedVariables false
/-- A heap of the call's own, its blocks from lo on and of P. -/
structure OwnP (w : World) (lo : Nat) (P : Nat → Prop) (A0 : Option Addr) (c0 : Nat) (A1 : Option Addr) (c1 : Nat) (A2 : Option Addr) (c2 : Nat) (A3 : Option Addr) (c3 : Nat) (l0 : List S38) (l1 : List Int) (l2 l3 : List S60) : Prop where
  s0 : Kd.S k38 38 w lo (fun k => P k ∧ some k ≠ (Value.slice A1 l1.length c1).ownBlock) (.slice A0 l0.length c0) l0
  s1 : Kd.R (Kd.int .i64) 3 w lo (fun k => P k) (.slice A1 l1.length c1) l1
  s2 : Kd.R k60 60 w lo (fun k => P k ∧ some k ≠ (Value.slice A3 l3.length c3).ownBlock) (.slice A2 l2.length c2) l2
  s3 : Kd.R k60 60 w lo (fun k => P k ∧ some k ≠ (Value.slice A2 l2.length c2).ownBlock) (.slice A3 l3.length c3) l3
section
variable {w w1 : World} {lo : Nat} {P : Nat → Prop} {A0 A1 A2 A3 : Option Addr} {c0 c1 c2 c3 : Nat} {l0 : List S38} {l1 : List Int} {l2 l3 : List S60}
theorem OwnP.kept {S : Nat → Prop} (h : OwnP w lo P A0 c0 A1 c1 A2 c2 A3 c3 l0 l1 l2 l3) (hk : Kept w w1 S) (hS : ∀ k, P k → ¬ S k) : OwnP w1 lo P A0 c0 A1 c1 A2 c2 A3 c3 l0 l1 l2 l3 :=
  ⟨Kd.S_kept h.s0 hk (fun k h1 => hS k h1.1), Kd.R_kept h.s1 hk hS, Kd.R_kept h.s2 hk (fun k h1 => hS k h1.1), Kd.R_kept h.s3 hk (fun k h1 => hS k h1.1)⟩
theorem OwnH.toP {w : World} {lo : Nat} {P : Nat → Prop} {A0 A1 A2 A3 : Option Addr} {c0 c1 c2 c3 : Nat} {l0 : List S38} {l1 : List Int} {l2 l3 : List S60} (h : OwnH w lo A0 c0 A1 c1 A2 c2 A3 c3 l0 l1 l2 l3) (hP : ∀ k, lo ≤ k → k < w.heap.size → P k) : OwnP w lo P A0 c0 A1 c1 A2 c2 A3 c3 l0 l1 l2 l3 :=
  ⟨Kd.S_mono (Kd.S_bound h.s0) (fun k hk => ⟨hP k hk.2.1 hk.2.2.1, hk.1⟩), Kd.R_mono (Kd.R_bound h.s1) (fun k hk => hP k hk.2.1 hk.2.2.1), Kd.R_mono (Kd.R_bound h.s2) (fun k hk => ⟨hP k hk.2.1 hk.2.2.1, hk.1⟩), Kd.R_mono (Kd.R_bound h.s3) (fun k hk => ⟨hP k hk.2.1 hk.2.2.1, hk.1⟩)⟩
theorem OwnP.below (h : OwnP w lo P A0 c0 A1 c1 A2 c2 A3 c3 l0 l1 l2 l3) (hb : Below w.heap.size w w1) : OwnP w1 lo P A0 c0 A1 c1 A2 c2 A3 c3 l0 l1 l2 l3 :=
  ⟨Kd.S_below h.s0 hb, Kd.R_below h.s1 hb, Kd.R_below h.s2 hb, Kd.R_below h.s3 hb⟩
theorem OwnP.reads (h : OwnP w lo P A0 c0 A1 c1 A2 c2 A3 c3 l0 l1 l2 l3) : InH w A0 c0 A1 c1 A2 c2 A3 c3 l0 l1 l2 l3 :=
  ⟨(Kd.R_reads' (Kd.S_R h.s0)).2.2, (Kd.R_reads' h.s1).2.2, (Kd.R_reads' h.s2).2.2, (Kd.R_reads' h.s3).2.2, (Kd.R_reads' (Kd.S_R h.s0)).2.1, (Kd.R_reads' h.s1).2.1, (Kd.R_reads' h.s2).2.1, (Kd.R_reads' h.s3).2.1⟩
end
def cntHP (l0 : List S38) (l1 : List Int) (l2 l3 : List S60) : Int := cntO l0 + l1.length + 2 * l2.length + 2 * l3.length
/-- Kept, where one row alone was written. -/
theorem R_apart_keptP {α β : Type} {d : Kd α} {d' : Kd β} {e e' base b : Nat} {ok ok' : Nat → Prop} {W W1 : World} {u v : Value} {xs : List α} {ys : List β} (h : d.R e W base ok u xs) (hv : d'.R e' W b ok' v ys)
    (ht : ∀ q, q ∈ e :: d.E → q ≠ e') (hk : Kept W W1 (fun k => some k = v.ownBlock)) : d.R e W1 base ok u xs :=
  Kd.R_mono (Kd.R_kept (Kd.R_apart' h (Kd.R_typed hv) ht) hk (fun k h1 h2 => h1.2 h2)) (fun _ h1 => h1.1)
theorem S_apart_keptP {α β : Type} {d : Kd α} {d' : Kd β} {e e' base b : Nat} {ok ok' : Nat → Prop} {W W1 : World} {u v : Value} {xs : List α} {ys : List β} (h : Kd.S d e W base ok u xs) (hv : d'.R e' W b ok' v ys)
    (ht : ∀ q, q ∈ e :: d.E → q ≠ e') (hk : Kept W W1 (fun k => some k = v.ownBlock)) : Kd.S d e W1 base ok u xs :=
  Kd.S_mono (Kd.S_kept (Kd.S_apart' h (Kd.R_typed hv) ht) hk (fun k h1 h2 => h1.2 h2)) (fun _ h1 => h1.1)
/-- Kept, where blocks of types other than the row's alone were written. -/
theorem R_types_keptP {α : Type} {d : Kd α} {e base : Nat} {ok : Nat → Prop} {E : List Nat} {S : Nat → Prop} {W W1 : World} {u : Value} {xs : List α} (hE : d.E = []) (h : d.R e W base ok u xs) (ht : e ∉ E)
    (hS : ∀ k, S k → ∃ q, q ∈ E ∧ ∃ cells, W.heap[k]? = some (.cells cells q (0, 0))) (hk : Kept W W1 S) : d.R e W1 base ok u xs :=
  Kd.R_mono (Kd.R_kept (Kd.R_tight hE h) hk (fun k h1 h2 => by
    obtain ⟨q, hq, cells, hc⟩ := hS k h2
    obtain ⟨cells', hc'⟩ := Kd.R_typed h k h1.symm
    rw [hc] at hc'
    injection hc' with hc'
    injection hc' with _ hc'
    subst hc'
    exact ht hq)) (fun k h1 => h.1 k h1.symm)
/-- A marked heap of the law's own. -/
structure Mkd (w : World) (lo : Nat) (P : Nat → Prop) (a : Int) (A0 : Option Addr) (c0 : Nat) (A1 : Option Addr) (c1 : Nat) (A2 : Option Addr) (c2 : Nat) (A3 : Option Addr) (c3 : Nat) (l0 : List S38) (n1 n2 n3 : Nat) : Prop where
  s0 : Kd.S k38 38 w lo P (.slice A0 l0.length c0) (markO a l0)
  s1 : Kd.R (Kd.int .i64) 3 w lo P (.slice A1 n1 c1) (marksI (a + cntO l0) n1)
  s2 : Kd.R k60 60 w lo P (.slice A2 n2 c2) (marksW (a + cntO l0 + n1) n2)
  s3 : Kd.R k60 60 w lo P (.slice A3 n3 c3) (marksW (a + cntO l0 + n1 + 2 * n2) n3)
theorem Mkd.below {w w1 : World} {lo : Nat} {P : Nat → Prop} {a : Int} {A0 A1 A2 A3 : Option Addr} {c0 c1 c2 c3 n1 n2 n3 : Nat} {l0 : List S38} (h : Mkd w lo P a A0 c0 A1 c1 A2 c2 A3 c3 l0 n1 n2 n3) (hb : Below w.heap.size w w1) : Mkd w1 lo P a A0 c0 A1 c1 A2 c2 A3 c3 l0 n1 n2 n3 :=
  ⟨Kd.S_below h.s0 hb, Kd.R_below h.s1 hb, Kd.R_below h.s2 hb, Kd.R_below h.s3 hb⟩
theorem Mkd.kept {w w1 : World} {lo : Nat} {P S : Nat → Prop} {a : Int} {A0 A1 A2 A3 : Option Addr} {c0 c1 c2 c3 n1 n2 n3 : Nat} {l0 : List S38} (h : Mkd w lo P a A0 c0 A1 c1 A2 c2 A3 c3 l0 n1 n2 n3) (hk : Kept w w1 S) (hS : ∀ k, P k → ¬ S k) : Mkd w1 lo P a A0 c0 A1 c1 A2 c2 A3 c3 l0 n1 n2 n3 :=
  ⟨Kd.S_kept h.s0 hk hS, Kd.R_kept h.s1 hk hS, Kd.R_kept h.s2 hk hS, Kd.R_kept h.s3 hk hS⟩
set_option maxHeartbeats 4000000 in
set_option maxRecDepth 100000 in
theorem markHeapP_calls {d3 : Nat} (a : Int) (P : Nat → Prop) (w0 w : World) (A0 A1 A2 A3 : Option Addr) (c0 c1 c2 c3 : Nat) (l0 : List S38) (l1 : List Int) (l2 l3 : List S60) (hB : Below w0.heap.size w0 w) (hO : OwnP w w0.heap.size P A0 c0 A1 c1 A2 c2 A3 c3 l0 l1 l2 l3)
    (hhi : ∀ k, P k → k < w.heap.size) (ha : 0 ≤ a) (hc : a + cntHP l0 l1 l2 l3 ≤ 1152921504606846976) (hl : l0.length ≤ 1048576) :
    Calls Try.prog 30 #[.agg #[.slice A0 l0.length c0, .slice A1 l1.length c1, .slice A2 l2.length c2, .slice A3 l3.length d3], .int .i64 a] w fun e w' => e = .returned (.int .i64 (a + cntHP l0 l1 l2 l3)) ∧
      Mkd w' w0.heap.size P a A0 c0 A1 c1 A2 c2 A3 c3 l0 l1.length l2.length l3.length ∧
      Below w0.heap.size w0 w' ∧ Kept w w' (fun k => w0.heap.size ≤ k ∧ P k) := by
  have hn0 := cntO_nonneg l0
  have e1 : cntHP l0 l1 l2 l3 = cntO l0 + l1.length + 2 * l2.length + 2 * l3.length := rfl
  have bx0 : 0 ≤ a := ha
  have bx1 : a + cntO l0 + l1.length + 2 * l2.length + 2 * l3.length ≤ 1152921504606846976 := by omega
  have HE := AK e1
  have HN := AK hn0
  have HX := AK bx1
  have HHI := AK hhi
  have HLL := AK hl
  have HB1 := AK (below_alloc hB (.cells #[.slice A0 l0.length c0, .slice A1 l1.length c1, .slice A2 l2.length c2, .slice A3 l3.length d3] 28 (0, 0)))
  have HO1 := AK (hO.below (below_alloc (Below.refl _ _) (.cells #[.slice A0 l0.length c0, .slice A1 l1.length c1, .slice A2 l2.length c2, .slice A3 l3.length d3] 28 (0, 0))))
  have HBX1 := AK (blk_new w (.cells #[.slice A0 l0.length c0, .slice A1 l1.length c1, .slice A2 l2.length c2, .slice A3 l3.length d3] 28 (0, 0)))
  clear hc hO hB e1 hn0 hhi bx1 ha hl
  go_enter Try.func30, Try.ntmps30
  go_wp2_with fail
  refine (markMemObjS_calls a w0 _ _ _ l0 HB1.out (Kd.S_bound HO1.out.s0) bx0 (by have := HX.out; omega) HLL.out).mono ?_
  rintro e w2 ⟨rfl, hs, hb, hk⟩
  have HB2 := AK hb
  have HS0 := AK (Kd.S_mono hs (fun _ h1 => h1.1))
  have HS1 := AK (Kd.R_mono (Kd.R_kept (Kd.R_tight rfl HO1.out.s1) hk (fun k h1 h2 => h2.1.2 h1)) (fun k h1 => HO1.out.s1.1 k h1.symm))
  have HS2 := AK (R_types_keptP rfl HO1.out.s2 (by decide) (fun k h1 => h1.2.2.2) hk)
  have HS3 := AK (R_types_keptP rfl HO1.out.s3 (by decide) (fun k h1 => h1.2.2.2) hk)
  have HK2 := AK (Kept.then_ (Kept.alloc (Kept.refl w (fun k => w0.heap.size ≤ k ∧ P k)) (.cells #[.slice A0 l0.length c0, .slice A1 l1.length c1, .slice A2 l2.length c2, .slice A3 l3.length d3] 28 (0, 0))) hk (fun k h1 => .inl ⟨h1.2.1, h1.1.1⟩))
  have HBX2 := AK (blk_kept HBX1.out hk (fun h1 => by have h2 := HHI.out _ h1.1.1; omega))
  clear hs hb hk HO1 HB1 HBX1
  obtain ⟨q0, q1, q2, q3⟩ := box4 HBX2.out
  go_wp2_with fail
  have hxx := HX.out
  have hnn := HN.out
  refine (markInt_c (a + cntO l0) (by omega) HB2.out (Kd.R_tight rfl HS1.out) (by omega)).mono ?_
  rintro e w3 ⟨rfl, hr, hb, hk⟩
  have HB3 := AK hb
  have HT1 := AK (Kd.R_mono (Kd.R_tight rfl hr) (fun k h1 => HS1.out.1 k h1.symm))
  have HT0 := AK (Kd.S_kept HS0.out hk (fun k h1 h2 => h1.2 h2))
  have HT2 := AK (R_apart_keptP HS2.out HS1.out (by decide) hk)
  have HT3 := AK (R_apart_keptP HS3.out HS1.out (by decide) hk)
  have HK3 := AK (Kept.then_ HK2.out hk (fun k h1 => .inl ⟨Kd.R_base HS1.out k h1.symm, HS1.out.1 k h1.symm⟩))
  have HBX3 := AK (blk_kept HBX2.out hk (fun h1 => by have h2 := HHI.out _ (HS1.out.1 _ h1.symm); omega))
  clear hr hb hk HB2 HS0 HS1 HS2 HS3 HK2 HBX2 q0 q1 q2 q3
  obtain ⟨q0, q1, q2, q3⟩ := box4 HBX3.out
  go_wp2_with fail
  refine (markW_calls (a + cntO l0 + l1.length) (by omega) w0 _ (fun k => some k = (Value.slice A2 l2.length c2).ownBlock) A2 c2 c2 l2 HB3.out (Kd.R_tight rfl HT2.out) (by omega)).mono ?_
  rintro e w4 ⟨rfl, hr, hb, hk⟩
  have HB4 := AK hb
  have HU2 := AK (Kd.R_mono (Kd.R_tight rfl hr) (fun k h1 => HT2.out.1 k h1.symm))
  have HU0 := AK (S_apart_keptP HT0.out HT2.out (by decide) hk)
  have HU1 := AK (R_apart_keptP HT1.out HT2.out (by decide) hk)
  have HU3 := AK (Kd.R_kept HT3.out hk (fun k h1 h2 => h1.2 h2))
  have HK4 := AK (Kept.then_ HK3.out hk (fun k h1 => .inl ⟨Kd.R_base HT2.out k h1.symm, (HT2.out.1 k h1.symm).1⟩))
  have HBX4 := AK (blk_kept HBX3.out hk (fun h1 => by have h2 := HHI.out _ (HT2.out.1 _ h1.symm).1; omega))
  clear hr hb hk HB3 HT0 HT1 HT2 HT3 HK3 HBX3 q0 q1 q2 q3
  obtain ⟨q0, q1, q2, q3⟩ := box4 HBX4.out
  go_wp2_with fail
  refine (markW_calls (a + cntO l0 + l1.length + 2 * l2.length) (by omega) w0 _ (fun k => some k = (Value.slice A3 l3.length c3).ownBlock) A3 c3 d3 l3 HB4.out (Kd.R_tight rfl HU3.out) (by omega)).mono ?_
  rintro e w5 ⟨rfl, hr, hb, hk⟩
  have HB5 := AK hb
  have HV3 := AK (Kd.R_mono (Kd.R_tight rfl hr) (fun k h1 => HU3.out.1 k h1.symm))
  have HV0 := AK (S_apart_keptP HU0.out HU3.out (by decide) hk)
  have HV1 := AK (R_apart_keptP HU1.out HU3.out (by decide) hk)
  have HV2 := AK (Kd.R_kept HU2.out hk (fun k h1 h2 => h1.2 h2))
  have HK5 := AK (Kept.then_ HK4.out hk (fun k h1 => .inl ⟨Kd.R_base HU3.out k h1.symm, (HU3.out.1 k h1.symm).1⟩))
  clear hr hb hk HB4 HU0 HU1 HU2 HU3 HK4 HBX4 q0 q1 q2 q3
  go_wp2
  go_ret
  exact ⟨by rw [HE.out]; simp only [show a + cntO l0 + (l1.length : Int) + 2 * (l2.length : Int) + 2 * (l3.length : Int) = a + (cntO l0 + (l1.length : Int) + 2 * (l2.length : Int) + 2 * (l3.length : Int)) by omega]; rfl, ⟨Kd.S_mono HV0.out (fun _ h1 => h1.1), HV1.out, Kd.R_mono HV2.out (fun _ h1 => h1.1), Kd.R_mono HV3.out (fun _ h1 => h1.1)⟩, HB5.out, HK5.out⟩
end Go.Proofs.Ytigjhfijkdlldaa.H
end
section
/- laws.heldMemObjS, laws.heldMemHeap: a marked heap is held. -/
namespace Go.Proofs.Ytigjhfijkdlldaa.H
open Go.RowKit Go.Proofs.YtigjhfijkdlldaaW.PrintWords Go.Proofs.YtigjhfijkdlldaaW.PrintLast Go.Proofs.YtigjhfijkdlldaaW.PrintMore Go.Proofs.Ytigjhfijkdlldaa.Q
set_option linter.unusedVariables false
set_option linter.unusedSimpArgs false
theorem markO_rd (a : Int) (l : List S38) (i : Int) (h0 : 0 ≤ i) (h1 : i < l.length) : rd_T38 (markO a l) i = ⟨a + cntO (l.take i.toNat), mtxt (a + cntO (l.take i.toNat) + 1), marksI (a + cntO (l.take i.toNat) + 2) (rd_T38 l i).f2.length⟩ := by
 have h2 : i.toNat < l.length := by omega
 have e : l[i.toNat] = rd_T38 l i := by unfold rd_T38; rw [List.getD_eq_getElem?_getD, List.getElem?_eq_getElem h2]; rfl
 have hl : (markO a (l.take i.toNat)).length = i.toNat := by rw [markO_length, List.length_take]; omega
 conv => lhs; unfold rd_T38; rw [show l = l.take i.toNat ++ l.drop i.toNat from (List.take_append_drop _ _).symm, markO_append, List.drop_eq_getElem_cons h2]
 rw [show markO (a + cntO (List.take i.toNat l)) (l[i.toNat] :: List.drop (i.toNat + 1) l) = _ :: _ from rfl, getD_at _ _ _ _ _ hl, e]
theorem heldInt_c3 {w : World} {A : Option Addr} {c : Nat} {a : Int} {n : Nat} (h : Kd.C (Kd.int .i64) w A (marksI a n).length (marksI a n)) (hc : (marksI a n).length ≤ c) (ha : 0 ≤ a) (hn : a + n ≤ 1152921504606846976) :
  Calls Try.prog 32 #[.slice A (marksI a n).length c, .int .i64 a] w fun e w' => e = .returned (.int .i64 (a + n)) ∧ Drawn0 w w' :=
 by rw [marksI_length] at h ⊢; exact heldInt_c ha hn h
theorem heldWatch_c3 {w : World} {A : Option Addr} {c : Nat} {a : Int} {n : Nat} (h : Kd.C k60 w A (marksW a n).length (marksW a n)) (hc : (marksW a n).length ≤ c) (ha : 0 ≤ a) (hn : a + 2 * n ≤ 1152921504606846976) :
  Calls Try.prog 101 #[.slice A (marksW a n).length c, .int .i64 a] w fun e w' => e = .returned (.int .i64 (a + 2 * n)) ∧ Drawn0 w w' :=
 by rw [marksW_length] at h ⊢; exact heldW_c ha hn h
theorem held7_tab : rtab .any (opsOf Try.f100 7) = (true, [([], []), ([], []), ([0, 1], [0, 1]), ([2], [2]), ([3], [3]), ([], []), ([5], [5]), ([4, 6], [4, 6])]) := by kernel_rfl
theorem held7_bits : waitsOk [([], []), ([], []), ([0, 1], [0, 1]), ([2], [2]), ([3], [3]), ([], []), ([5], [5]), ([4, 6], [4, 6])] [0, 0, 3, 7, 15, 0, 32, 127] = true := by kernel_rfl
set_option maxHeartbeats 4000000 in
set_option maxRecDepth 100000 in
theorem heldMemObjS_calls (a : Int) (w : World) (A : Option Addr) (c : Nat) (l : List S38) (h : Kd.C k38 w A l.length (markO a l)) (hk : l.length ≤ c) (ha : 0 ≤ a) (hc : a + cntO l ≤ 1152921504606846976) (hl : l.length ≤ 1048576) :
  Calls Try.prog 100 #[.slice A l.length c, .int .i64 a] w fun e w' => e = .returned (.int .i64 (a + cntO l)) ∧ Below w.heap.size w w' := by
 have HS := AK h
 have HB := AK (Below.refl w.heap.size w)
 have HC := AK hc
 have HA := AK ha
 have HL := AK hl
 clear h hk ha hc hl
 go_enter Try.func100, Try.ntmps100
 go_wp2
 go_loopg [1, 5] l.length (fun kq v1 v5 w' => ∃ (x i : Int), v1 = .int .i64 x ∧ v5 = .int .i64 i ∧ Aside0 (0 ≤ i ∧ i + kq = l.length) ∧ Aside0 (x = a + cntO (l.take i.toNat)) ∧ Aside0 (Below w.heap.size w w'))
 case atStart => exact ⟨a, 0, rfl, rfl, ⟨by omega, by omega⟩, ⟨by simp [cntO]⟩, HB⟩
 case round =>
  clear HB
  obtain ⟨x, i, rfl, rfl, HI, HX, HB⟩ := hrel
  cases gk with
  | succ k1 =>
   have c9 : decide (i < (l.length : Int)) = true := deT (by have := HI.out; omega)
   have hi0 := eq_true (show 0 ≤ i by have := HI.out; omega)
   have hi1 := eq_true (show i < (l.length : Int) by have := HI.out; omega)
   obtain ⟨ad, As, cs, e, z0, z1, z2, zl, zc⟩ := at_T38 HS.out i (by have := HI.out; omega) (by have := HI.out; omega)
   subst e
   rw [markO_rd a l i (by have := HI.out; omega) (by have := HI.out; omega), ← HX.out] at z0 z1 z2 zl zc
   have hcn := cnt_step l i (by have := HI.out; omega) (by have := HI.out; omega)
   have hcl2 := cnt_le l (i + 1).toNat
   have hnn := cntO_nonneg (l.take i.toNat)
   obtain ⟨n, en⟩ : ∃ n, n = (rd_T38 l i).f2.length := ⟨_, rfl⟩
   rw [← en] at z2 zl zc hcn
   rw [show x + 2 = x + 1 + 1 by omega] at z2 zl zc
   have bx0 : 0 ≤ x := by have := HX.out; have := HA.out; omega
   have bx1 : x + 2 + n ≤ 1152921504606846976 := by have := HX.out; have := HC.out; omega
   have bx2 : x ≤ 1152921504606846976 := by omega
   have HXN := AK (show a + cntO (l.take (i + 1).toNat) = x + 2 + n by rw [hcn, HX.out]; omega)
   have hxx : (x != x) = false := by simp
   obtain ⟨tx, etx⟩ : ∃ tx, tx = mtxt (x + 1) := ⟨_, rfl⟩
   rw [← etx] at z1
   have HTX := AK (show ∀ w : World, Calls Try.prog 112 #[.int .i64 (x + 1)] w fun e w' => e = .returned (.string tx) ∧ Below w.heap.size w w' by rw [etx]; exact fun w => mtxt_c (x + 1) (by omega))
   have htt : (tx.toList != tx.toList) = false := by simp
   have HZ := AK (And.intro zc zl)
   have Z1 := AK z1
   have Z2 := AK z2
   have HB1 := AK bx1
   obtain ⟨y0, ey0⟩ : ∃ y0, y0 = wr.cell? (ad.add (i.toNat * 3)) := ⟨_, rfl⟩
   rw [pcb HB.out z0] at ey0
   replace z0 := pcb HB.out z0
   clear hcn hcl2 hnn en etx z1 z2 zl zc ey0
   go_wp2_with fail
   clear z0
   obtain ⟨u7, hu7⟩ : ∃ u, u = wr := ⟨_, rfl⟩
   subst hu7
   replace HB := AK (below_drew1 HB.out)
   refine start_ (n := 8) (S := (fun w' => w'.cell? ⟨(ad.add (i.toNat * 3)).block, (ad.add (i.toNat * 3)).off + 1, none⟩ = some (.string tx))) (ds := []) #[fF,fF,fF,fF,fF,fF,fF,fF] (by kernel_rfl) rfl rfl (pcb HB.out Z1.out) (fun hHeld => ?_); refine with_tabW held7_tab held7_bits (fun HT_ HW_ => ?_)
   generalize u7.drew = v5 at HB hHeld ⊢
   refine pure_ (i := 0) (N := some 21) (v := ?_) (a' := ?_) #[tT,fF,fF,fF,fF,fF,fF,fF] rfl rfl (any_of HT_.out (by kernel_rfl)) (fun _ _ _ h => h) (Or.inl ⟨by rfl, ?_⟩) ?_ ?_
   rotate_left
   ·intro w'
    go_simp
    with_reducible rfl
   rotate_left
   ·exact zP
   refine pure_ (i := 1) (N := some 22) (v := ?_) (a' := ?_) #[tT,tT,fF,fF,fF,fF,fF,fF] rfl rfl (any_of HT_.out (by kernel_rfl)) (fun _ _ _ h => h) (Or.inl ⟨by rfl, ?_⟩) ?_ ?_
   rotate_left
   ·intro w'
    go_simp
    with_reducible rfl
   rotate_left
   ·exact zP
   refine pure_ (i := 2) (N := some 23) (v := ?_) (a' := ?_) #[tT,tT,tT,fF,fF,fF,fF,fF] rfl rfl (any_of HT_.out (by kernel_rfl)) (fun _ _ _ h => h) (Or.inl ⟨by rfl, ?_⟩) ?_ ?_
   rotate_left
   ·intro w'
    go_simp
    with_reducible rfl
   rotate_left
   ·exact zP
   refine pure_ (i := 3) (N := some 24) (v := ?_) (a' := ?_) #[tT,tT,tT,tT,fF,fF,fF,fF] rfl rfl (any_of HT_.out (by kernel_rfl)) (fun _ _ _ h => h) (Or.inl ⟨by rfl, ?_⟩) ?_ ?_
   rotate_left
   ·intro w'
    go_simp
    with_reducible rfl
   rotate_left
   ·exact zP
   refine take_ (i := 4) (N := some 25) (v := ?_) (a' := ?_) #[tT,tT,tT,tT,tT,fF,fF,fF] rfl rfl (take_ofW HT_.out HW_.out (by kernel_rfl)) (fun _ _ _ h => h) (Or.inl ⟨by rfl, ?_⟩) hHeld ?_ ?_
   rotate_left
   ·rintro w' s_0
    go_simp
    with_reducible rfl
   rotate_left
   ·exact zP
   refine pure_ (i := 5) (N := some 26) (v := ?_) (a' := ?_) #[tT,tT,tT,tT,tT,tT,fF,fF] rfl rfl (any_of HT_.out (by kernel_rfl)) (fun _ _ _ h => h) (Or.inl ⟨by rfl, ?_⟩) ?_ ?_
   rotate_left
   ·intro w'
    go_simp
    with_reducible rfl
   rotate_left
   ·exact zP
   refine one_ (i := 6) (N := some 27) #[tT,tT,tT,tT,tT,tT,tT,fF] rfl rfl (one_of HT_.out (by kernel_rfl)) (by decide) (fun K hK => ?_)
   refine goes_ Try.func112 (by kernel_rfl) rfl #[.int .i64 (x + 1)] (by rfl) rfl rfl zI ?_
   refine (HTX.out _).mono ?_
   rintro e v6 ⟨rfl, hb⟩
   refine ⟨_, rfl, ?_⟩
   replace HB := AK (bst HB.out hb)
   clear hb
   refine hK.out _ _ (pcb HB.out Z1.out) (fun hHeld => ?_)
   clear hK K
   refine norm_ (a' := ?_) ?_ ?_
   rotate_left
   ·show Act.put _ (some 27) _ = _
    exact zP
   refine pure_ (i := 7) (N := some 28) (v := ?_) (a' := ?_) #[tT,tT,tT,tT,tT,tT,tT,tT] rfl rfl (any_of HT_.out (by kernel_rfl)) (fun _ _ _ h => h) (Or.inl ⟨by rfl, ?_⟩) ?_ ?_
   rotate_left
   ·intro w'
    go_simp
    with_reducible rfl
   rotate_left
   ·exact zP
   refine done_ (done_of HT_.out (by kernel_rfl)) ?_
   clear HT_ HW_ hHeld
   have z2 := pcb HB.out Z2.out
   go_wp2_with fail
   clear z2
   refine (heldInt_c3 (Kd.C_below HZ.out.1 HB.out) HZ.out.2 (by omega) (by omega)).mono ?_
   rintro e v8 ⟨rfl, hd⟩
   replace HB := AK (bst HB.out hd.below)
   have hlt : decide (x + 1 + 1 + (n : Int) < 0) = false := deF (by omega)
   clear hd
   go_wp2
   go_roundg k1
   case measure => omega
   case rel =>
    have h1 := HI.out
    have h2 := HL.out
    have h3 := HXN.out
    rw [wrap_succ i (by omega) (by omega)]
    exact ⟨_, i + 1, rfl, rfl, ⟨by omega, by omega⟩, ⟨by omega⟩, HB⟩
  | zero =>
   have c9 : decide (i < (l.length : Int)) = false := deF (by have := HI.out; omega)
   go_wp2
   go_ret
   have h2 := HX.out
   rw [take_all _ _ (by have := HI.out; omega)] at h2
   exact ⟨by rw [h2]; rfl, HB.out⟩
theorem Mkd.at0 {w : World} {lo : Nat} {P : Nat → Prop} {a : Int} {A0 A1 A2 A3 : Option Addr} {c0 c1 c2 c3 n1 n2 n3 : Nat} {l0 : List S38} (h : Mkd w lo P a A0 c0 A1 c1 A2 c2 A3 c3 l0 n1 n2 n3) : Kd.C k38 w A0 l0.length (markO a l0) ∧ l0.length ≤ c0 := by
 have h1 := Kd.R_reads' (Kd.S_R h.s0)
 rw [markO_length] at h1
 exact ⟨h1.2.2, h1.2.1⟩
set_option maxHeartbeats 4000000 in
set_option maxRecDepth 100000 in
theorem heldHeap_calls {d3 : Nat} {w : World} {lo : Nat} {P : Nat → Prop} {a : Int} {A0 A1 A2 A3 : Option Addr} {c0 c1 c2 c3 n1 n2 n3 : Nat} {l0 : List S38} (h : Mkd w lo P a A0 c0 A1 c1 A2 c2 A3 c3 l0 n1 n2 n3) (ha : 0 ≤ a) (hl : l0.length ≤ 1048576) (b : Int) (hb : b = a + cntO l0 + n1 + 2 * n2 + 2 * n3) (hc : b ≤ 1152921504606846976) (hd3 : n3 ≤ d3) :
  Calls Try.prog 40 #[.agg #[.slice A0 l0.length c0, .slice A1 n1 c1, .slice A2 n2 c2, .slice A3 n3 d3], .int .i64 a] w fun e w' => e = .returned (.int .i64 b) ∧ Below w.heap.size w w' := by
 have HM := AK h
 have HD3 := AK hd3
 have HL := AK hl
 have hn := cntO_nonneg l0
 obtain ⟨b0, e0⟩ : ∃ b0, b0 = a + cntO l0 := ⟨_, rfl⟩
 obtain ⟨b1, e1⟩ : ∃ b1 : Int, b1 = b0 + n1 := ⟨_, rfl⟩
 obtain ⟨b2, e2⟩ : ∃ b2 : Int, b2 = b1 + 2 * n2 := ⟨_, rfl⟩
 have hb0 : decide (b0 < 0) = false := deF (by omega)
 have hb1 : decide (b1 < 0) = false := deF (by omega)
 have hb2 : decide (b2 < 0) = false := deF (by omega)
 have hb3 : decide (b < 0) = false := deF (by omega)
 have HE := AK (show b0 = a + cntO l0 ∧ b1 = b0 + n1 ∧ b2 = b1 + 2 * n2 ∧ b = b2 + 2 * n3 by omega)
 have HN := AK (show 0 ≤ a ∧ 0 ≤ b0 ∧ 0 ≤ b1 ∧ 0 ≤ b2 ∧ b ≤ 1152921504606846976 by omega)
 have HB := AK (below_alloc (Below.refl w.heap.size w) (.cells #[.slice A0 l0.length c0, .slice A1 n1 c1, .slice A2 n2 c2, .slice A3 n3 d3] 28 (0, 0)))
 have HX := AK (blk_new w (.cells #[.slice A0 l0.length c0, .slice A1 n1 c1, .slice A2 n2 c2, .slice A3 n3 d3] 28 (0, 0)))
 clear h hd3 hn ha hl hb hc e0 e1 e2
 go_enter Try.func40, Try.ntmps40
 go_wp2_with fail
 have hm := HM.out.below HB.out
 refine (heldMemObjS_calls a _ A0 c0 l0 hm.at0.1 hm.at0.2 HN.out.1 (by have := HE.out; have := HN.out; omega) HL.out).mono ?_
 rintro e v1 ⟨rfl, hb⟩
 clear hm
 rw [← HE.out.1]
 replace HB := AK (bst HB.out hb)
 replace HX := AK (bbl HX.out hb)
 clear hb
 obtain ⟨q0, q1, q2, q3⟩ := box4 HX.out
 go_wp2_with fail
 clear q0 q1 q2 q3
 have h1 := Kd.R_reads' (HM.out.below HB.out).s1
 have e1 : n1 = (marksI b0 n1).length := (marksI_length _ _).symm
 rw [← HE.out.1, ← e1] at h1
 have hq := @heldInt_c3 v1 A1 c1 b0 n1 (by rw [← e1]; exact h1.2.2) (by rw [← e1]; exact h1.2.1) HN.out.2.1 (by have := HE.out; have := HN.out; omega)
 rw [← e1] at hq
 refine hq.mono ?_
 rintro e v2 ⟨rfl, hd⟩
 have hb := hd.below
 clear hq h1 e1 hd
 rw [← HE.out.2.1]
 replace HB := AK (bst HB.out hb)
 replace HX := AK (bbl HX.out hb)
 clear hb
 obtain ⟨q0, q1, q2, q3⟩ := box4 HX.out
 go_wp2_with fail
 clear q0 q1 q2 q3
 have h1 := Kd.R_reads' (HM.out.below HB.out).s2
 have e1 : n2 = (marksW b1 n2).length := (marksW_length _ _).symm
 rw [← HE.out.1, ← HE.out.2.1, ← e1] at h1
 have hq := @heldWatch_c3 v2 A2 c2 b1 n2 (by rw [← e1]; exact h1.2.2) (by rw [← e1]; exact h1.2.1) HN.out.2.2.1 (by have := HE.out; have := HN.out; omega)
 rw [← e1] at hq
 refine hq.mono ?_
 rintro e v3 ⟨rfl, hd⟩
 have hb := hd.below
 clear hq h1 e1 hd
 rw [← HE.out.2.2.1]
 replace HB := AK (bst HB.out hb)
 replace HX := AK (bbl HX.out hb)
 clear hb
 obtain ⟨q0, q1, q2, q3⟩ := box4 HX.out
 go_wp2_with fail
 clear q0 q1 q2 q3
 have h1 := Kd.R_reads' (HM.out.below HB.out).s3
 have e1 : n3 = (marksW b2 n3).length := (marksW_length _ _).symm
 rw [← HE.out.1, ← HE.out.2.1, ← HE.out.2.2.1, ← e1] at h1
 have hq := @heldWatch_c3 v3 A3 d3 b2 n3 (by rw [← e1]; exact h1.2.2) (by rw [← e1]; exact HD3.out) HN.out.2.2.2.1 (by have := HE.out; have := HN.out; omega)
 rw [← e1] at hq
 refine hq.mono ?_
 rintro e v4 ⟨rfl, hd⟩
 have hb := hd.below
 clear hq h1 e1 hd
 rw [← HE.out.2.2.2]
 replace HB := AK (bst HB.out hb)
 clear hb
 go_wp2
 go_ret
 exact ⟨rfl, HB.out⟩
end Go.Proofs.Ytigjhfijkdlldaa.H
end
section
/- The sizes of a collected heap, and rows of the law's own that a marking leaves. -/
namespace Go.Proofs.Ytigjhfijkdlldaa.H
open Go.RowKit Go.Proofs.YtigjhfijkdlldaaW.PrintWords Go.Proofs.YtigjhfijkdlldaaW.PrintLast Go.Proofs.YtigjhfijkdlldaaW.PrintMore Go.Proofs.Ytigjhfijkdlldaa.Q
set_option linter.unusedVariables false
theorem cntO_leP (l : List S38) (B : Nat) (h : ∀ x ∈ l, x.f2.length ≤ B) : cntO l ≤ l.length * (2 + B) := by
  induction l with
  | nil => simp [cntO]
  | cons x l ih =>
    have h1 := h x (List.mem_cons_self ..)
    have h2 := ih (fun y hy => h y (List.mem_cons_of_mem _ hy))
    simp only [cntO, List.length_cons]
    have : ((l.length + 1 : Nat) : Int) * (2 + B) = l.length * (2 + B) + (2 + B) := by rw [Int.natCast_add, Int.add_mul]; simp
    rw [this]; omega
theorem cntHP_fine {l0 : List S72} {l1 : List Int} {l2 l3 : List S126} (h : Small l0 l1 l2 l3) : cntHP (l0.map cO) l1 (l2.map cW) (l3.map cW) ≤ 1099517927424 := by
  have h1 := cntO_leP (l0.map cO) 1048576 (fun x hx => by obtain ⟨y, hy, rfl⟩ := List.mem_map.1 hx; exact (h.t y hy).2)
  have h2 := h.o; have h3 := h.r; have h4 := h.w
  unfold cntHP
  simp only [List.length_map] at *
  have : (l0.length : Int) * (2 + (1048576 : Nat)) ≤ 1048576 * (2 + (1048576 : Nat)) := Int.mul_le_mul_of_nonneg_right (by omega) (by omega)
  omega
/-- A heap within the bounds of the form. -/
structure SmallG (G : Hp) : Prop where
  n : G.o.length ≤ 60
  f : ∀ x ∈ G.o, x.f2.length ≤ 6
  r : G.r.length ≤ 8
  w : G.w.length + G.d.length ≤ 20
theorem SmallG.cnt {G : Hp} (h : SmallG G) : 0 ≤ cntHP G.o G.r G.w G.d ∧ cntHP G.o G.r G.w G.d ≤ 528 := by
  have h1 := cntO_leP G.o 6 h.f
  have h2 := cntO_nonneg G.o
  have h3 := h.n; have h4 := h.r; have h5 := h.w
  unfold cntHP
  have h6 : (G.o.length : Int) * (2 + (6 : Nat)) ≤ 60 * (2 + (6 : Nat)) := Int.mul_le_mul_of_nonneg_right (by omega) (by omega)
  omega
section
variable {w : World} {base lo : Nat} {P : Nat → Prop} {A0 A1 A2 A3 E : Option Addr} {c0 c1 c2 c3 e : Nat} {h : Hp} {m : List Int}
/-- What a collect made, by a property of its blocks: the heap's blocks are not the moves'. -/
theorem OwnM.toP (ho : OwnM w base A0 c0 A1 c1 A2 c2 A3 c3 E e h m) (hb : lo ≤ base) (hP : ∀ k, base ≤ k → k < w.heap.size → some k ≠ (Value.slice E m.length e).ownBlock → P k) : OwnP w lo P A0 c0 A1 c1 A2 c2 A3 c3 h.o h.r h.w h.d :=
  ⟨S_lower (Kd.S_mono (Kd.S_bound ho.s0) (fun k hk => ⟨hP k hk.2.1 hk.2.2.1 hk.1.2, hk.1.1⟩)) hb, Kd.R_lower (Kd.R_mono (Kd.R_bound ho.s1) (fun k hk => hP k hk.2.1 hk.2.2.1 hk.1)) hb,
   Kd.R_lower (Kd.R_mono (Kd.R_bound (Kd.R_apart' ho.s2 (Kd.R_typed ho.m) (by decide))) (fun k hk => ⟨hP k hk.2.1 hk.2.2.1 hk.1.2, hk.1.1⟩)) hb,
   Kd.R_lower (Kd.R_mono (Kd.R_bound (Kd.R_apart' ho.s3 (Kd.R_typed ho.m) (by decide))) (fun k hk => ⟨hP k hk.2.1 hk.2.2.1 hk.1.2, hk.1.1⟩)) hb⟩
theorem OwnM.mv (ho : OwnM w base A0 c0 A1 c1 A2 c2 A3 c3 E e h m) (hb : lo ≤ base) (hP : ∀ k, base ≤ k → k < w.heap.size → some k = (Value.slice E m.length e).ownBlock → P k) : Kd.R (Kd.int .i64) 3 w lo P (.slice E m.length e) m :=
  Kd.R_lower (Kd.R_mono (Kd.R_bound (Kd.R_tight rfl ho.m)) (fun k hk => hP k hk.2.1 hk.2.2.1 hk.1)) hb
end
end Go.Proofs.Ytigjhfijkdlldaa.H
end
section
/- A step, in plain words; spec's small step functions come to them. -/
namespace Go.Proofs.Ytigjhfijkdlldaa.H
open Go.RowKit Go.Proofs.YtigjhfijkdlldaaW.PrintWords Go.Proofs.YtigjhfijkdlldaaW.PrintLast Go.Proofs.YtigjhfijkdlldaaW.PrintMore Go.Proofs.Ytigjhfijkdlldaa.Q
set_option linter.unusedVariables false
def sNo : ByteArray := ⟨#[110, 111]⟩
def sOk : ByteArray := ⟨#[111, 107]⟩
def sFull : ByteArray := ⟨#[102, 117, 108, 108]⟩
def sNone : ByteArray := ⟨#[110, 111, 110, 101]⟩
def sCell : ByteArray := ⟨#[99, 101, 108, 108, 32, 111, 102, 32]⟩
def sWeak : ByteArray := ⟨#[119, 101, 97, 107]⟩
def sGuard : ByteArray := ⟨#[103, 117, 97, 114, 100, 105, 97, 110]⟩
def knownL (r : List Int) (p : Int) : Int := if 0 ≤ p ∧ p < r.length then rd r p else -1
def seesB (l0 : List S38) (p : Int) : ByteArray :=
  if p < 0 then sNone else if (rd_T38 l0 p).f0 = 1 then (rd_T38 l0 p).f1 else if (rd_T38 l0 p).f0 = 2 then sCell ++ strOfNums [48 + ((rd_T38 l0 p).f2.length : Int)] else if (rd_T38 l0 p).f0 = 3 then sWeak else sGuard
def partL (l0 : List S38) (r : List Int) (p a : Int) : Int := if knownL r p < 0 then -1 else if 0 ≤ a ∧ a < (rd_T38 l0 (knownL r p)).f2.length then knownL r p else -1
def madeO (h : Hp) (e : S40) : S38 := ⟨e.f4.f0, e.f4.f1, e.f4.f2.map (knownL h.r)⟩
def makesB (h : Hp) (e : S40) : Hp × ByteArray :=
  if obB h.o.length (madeO h e) = true then (if 60 ≤ h.o.length then (h, sFull) else (⟨h.o ++ [madeO h e], h.r.set e.f1.toNat h.o.length, h.w, h.d⟩, seesB (h.o ++ [madeO h e]) h.o.length)) else (h, sNo)
def takesB (h : Hp) (e : S40) : Hp × ByteArray :=
  if partL h.o h.r e.f2 e.f3 < 0 then (h, sNo) else (⟨h.o, h.r.set e.f1.toNat (rd (rd_T38 h.o (partL h.o h.r e.f2 e.f3)).f2 e.f3), h.w, h.d⟩, seesB h.o (rd (rd_T38 h.o (partL h.o h.r e.f2 e.f3)).f2 e.f3))
def putRef (o : S38) (a p : Int) : S38 := ⟨o.f0, o.f1, o.f2.set a.toNat p⟩
def setsB (h : Hp) (e : S40) : Hp × ByteArray :=
  if partL h.o h.r e.f1 e.f3 < 0 then (h, sNo) else (⟨h.o.set (partL h.o h.r e.f1 e.f3).toNat (putRef (rd_T38 h.o (partL h.o h.r e.f1 e.f3)) e.f3 (knownL h.r e.f2)), h.r, h.w, h.d⟩, sOk)
def forgetsB (h : Hp) (e : S40) : Hp × ByteArray := (⟨h.o, h.r.set e.f1.toNat (-1), h.w, h.d⟩, sOk)
def isGuard (h : Hp) (p : Int) : Bool := decide (0 ≤ p) && decide ((rd_T38 h.o p).f0 = 4)
def watchesB (h : Hp) (e : S40) : Hp × ByteArray :=
  if isGuard h (knownL h.r e.f1) = true ∧ 0 ≤ knownL h.r e.f2 then (if 20 ≤ h.w.length + h.d.length then (h, sFull) else (⟨h.o, h.r, h.w ++ [⟨knownL h.r e.f1, knownL h.r e.f2⟩], h.d⟩, sOk)) else (h, sNo)
/-- The first of what a guardian has been told of, and what is left behind it. -/
def askD (g : Int) : List S60 → Option (Int × List S60)
  | [] => none
  | x :: l => if x.f0 = g then some (x.f1, l) else (askD g l).map fun y => (y.1, x :: y.2)
def askP (g : Int) (l : List S60) : Int := ((askD g l).map (·.1)).getD (-1)
def askL (g : Int) (l : List S60) : List S60 := ((askD g l).map (·.2)).getD l
def asksB (h : Hp) (e : S40) : Hp × ByteArray :=
  if isGuard h (knownL h.r e.f2) = true then (⟨h.o, h.r.set e.f1.toNat (askP (knownL h.r e.f2) h.d), h.w, askL (knownL h.r e.f2) h.d⟩, seesB h.o (askP (knownL h.r e.f2) h.d)) else (h, sNo)
def doB (h : Hp) (e : S40) : Hp × ByteArray :=
  if e.f0 = 1 then makesB h e else if e.f0 = 2 then takesB h e else if e.f0 = 3 then setsB h e else if e.f0 = 4 then forgetsB h e else if e.f0 = 5 then watchesB h e else if e.f0 = 6 then asksB h e else if e.f0 = 7 then ((collectB h).1, sOk) else (h, sNo)
def toB (h : Hp) (e : S40) : Bool := decide (0 ≤ e.f1) && decide (e.f1 < h.r.length)
def stepB (h : Hp) (e : S40) : Hp × ByteArray :=
  if h.ok = true then (if e.f0 = 7 ∨ toB h e = true then doB h e else (h, sNo)) else (hp0, sNo)
theorem known_range {l0 : List S38} {l1 : List Int} {l2 l3 : List S60} (h : OkH l0 l1 l2 l3) (p : Int) : -1 ≤ knownL l1 p ∧ knownL l1 p < l0.length := by
  unfold knownL
  by_cases c : 0 ≤ p ∧ p < l1.length
  · rw [if_pos c]; exact h.rs _ (getD_mem l1 0 p c.1 c.2)
  · rw [if_neg c]; omega
end Go.Proofs.Ytigjhfijkdlldaa.H
end
