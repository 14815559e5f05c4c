import Derived.Test.YtigjhfijkdlldaaSplYto
section
/- What is ok: the spec's functions and the program's memObjOk, walked. -/
namespace Go.Proofs.Ytigjhfijkdlldaa.H
open Go.RowKit Go.Proofs.YtigjhfijkdlldaaW.PrintWords Go.Proofs.YtigjhfijkdlldaaW.PrintLast Go.Proofs.YtigjhfijkdlldaaW.PrintMore Go.Proofs.Ytigjhfijkdlldaa.Q
set_option linter.unusedVariables false
set_option linter.unusedSimpArgs false
section
variable {w : World} {A A0 A1 A2 A3 : Option Addr} {c c0 c1 c2 c3 : Nat}
def lB (p a b : Int) : Bool := decide (a ≤ p) && decide (p ≤ b)
theorem l1In_c {p a b : Int} : Calls Try.prog 77 #[.int .i64 p, .int .i64 a, .int .i64 b] w fun e w' => e = .returned (.bool (lB p a b)) ∧ w' = w := by
  unfold lB
  obtain ⟨x, hx⟩ : ∃ x, decide (a ≤ p) = x := ⟨_, rfl⟩
  rw [hx]
  cases x
  all_goals (go_enter Try.func77, Try.ntmps77; go_wp2; go_ret; exact ⟨rfl, rfl⟩)
theorem tx_step (s : ByteArray) (i : Int) (h0 : 0 ≤ i) (h1 : i < s.size) : ((bytesOf s).drop i.toNat).all chOk = (chOk (bt s i) && ((bytesOf s).drop (i + 1).toNat).all chOk) := by
  rw [drop_cons _ 0 i h0 (by rw [bytesOf_length]; exact h1), List.all_cons]
  have := rd_bytesOf s i
  unfold rd at this
  rw [this]
theorem l1Text_c {s : ByteArray} (hs : (s.size : Int) ≤ 4611686018427387903) : Calls Try.prog 114 #[.string s] w fun e w' => e = .returned (.bool (txOk s)) ∧ w' = w := by
  have HS := AK hs
  have HT := AK (show txOk s = (lB s.size 1 12 && (bytesOf s).all chOk) from rfl)
  clear hs
  obtain ⟨r, er⟩ : ∃ r, r = txOk s := ⟨_, rfl⟩
  rw [← er] at HT ⊢
  clear er
  go_enter Try.func114, Try.ntmps114
  go_wp2_with fail
  refine (l1In_c (p := s.size) (a := 1) (b := 12)).mono ?_
  rintro e w2 ⟨rfl, rfl⟩
  obtain ⟨x, hx⟩ : ∃ x, lB s.size 1 12 = x := ⟨_, rfl⟩
  rw [hx] at HT ⊢
  cases x with
  | false =>
    have hr : r = false := HT.out
    subst hr
    go_wp2
    go_ret
    exact ⟨rfl, rfl⟩
  | true =>
  clear hx
  have HT2 := AK (show r = ((bytesOf s).drop (0 : Int).toNat).all chOk from HT.out)
  clear HT
  go_wp2
  go_loopg [3] s.size (fun kq v3 w' => ∃ i : Int, v3 = .int .i64 i ∧ Aside0 (0 ≤ i ∧ i + kq = s.size) ∧ Aside0 (r = ((bytesOf s).drop i.toNat).all chOk) ∧ w' = w2)
  case atStart => exact ⟨0, rfl, ⟨by omega, by omega⟩, HT2, rfl⟩
  case round =>
    clear HT2
    obtain ⟨i, rfl, HI, HT, rfl⟩ := hrel
    cases gk with
    | zero =>
      have c9 : decide (i < (s.size : Int)) = false := deF (by have := HI.out; omega)
      have hr : r = true := by rw [HT.out, drop_end _ _ (by rw [bytesOf_length]; have := HI.out; omega)]; rfl
      subst hr
      go_wp2
      go_ret
      exact ⟨rfl, rfl⟩
    | succ k1 =>
      have c9 : decide (i < (s.size : Int)) = true := deT (by have := HI.out; omega)
      have hi0 := eq_true (show 0 ≤ i by have := HI.out; omega)
      have hi1 := eq_true (show i < (s.size : Int) by have := HI.out; omega)
      have hb := bt_at s i
      have HR := AK (HT.out.trans (tx_step s i (by have := HI.out; omega) (by have := HI.out; omega)))
      have hc : chOk (bt s i) = (decide (97 ≤ bt s i) && decide (bt s i ≤ 122) || decide (48 ≤ bt s i) && decide (bt s i ≤ 57)) := rfl
      rw [hc] at HR
      obtain ⟨x1, h1⟩ : ∃ x, decide (97 ≤ bt s i) = x := ⟨_, rfl⟩
      obtain ⟨x2, h2⟩ : ∃ x, decide (bt s i ≤ 122) = x := ⟨_, rfl⟩
      obtain ⟨x3, h3⟩ : ∃ x, decide (48 ≤ bt s i) = x := ⟨_, rfl⟩
      obtain ⟨x4, h4⟩ : ∃ x, decide (bt s i ≤ 57) = x := ⟨_, rfl⟩
      rw [h1, h2, h3, h4] at HR
      clear hc HT
      cases x1 <;> cases x2 <;> cases x3 <;> cases x4
      all_goals first
        | (have hr : r = false := HR.out
           subst hr
           go_wp2
           go_ret
           exact ⟨rfl, rfl⟩)
        | (have HT := AK (show r = ((bytesOf s).drop (i + 1).toNat).all chOk from HR.out)
           go_wp2
           go_roundg k1
           case measure => omega
           case rel =>
             rw [wrap_succ i (by have := HI.out; omega) (by have := HI.out; have := HS.out; omega)]
             exact ⟨i + 1, rfl, ⟨by have := HI.out; omega, by have := HI.out; omega⟩, HT, rfl⟩)
/-- the kinds' tails -/
theorem sh1 {x : S38} (h : x.f0 = 1) : shB x = (txOk x.f1 && ((x.f2.length : Int) == 0)) := by unfold shB; rw [if_pos h]
theorem sh2 {x : S38} (h : x.f0 = 2) : shB x = ((x.f1.toList == ([] : List UInt8)) && decide ((x.f2.length : Int) ≤ 6)) := by unfold shB; rw [if_neg (by omega), if_pos h]; congr 1; exact Bool.eq_iff_iff.2 (by rw [decide_eq_true_eq, beq_iff_eq])
theorem sh3 {x : S38} (h : x.f0 = 3) : shB x = ((x.f1.toList == ([] : List UInt8)) && ((x.f2.length : Int) == 2)) := by unfold shB; rw [if_neg (by omega), if_neg (by omega), if_pos h]; congr 1; exact Bool.eq_iff_iff.2 (by rw [decide_eq_true_eq, beq_iff_eq])
theorem sh4 {x : S38} (h : x.f0 = 4) : shB x = ((x.f1.toList == ([] : List UInt8)) && ((x.f2.length : Int) == 0)) := by unfold shB; rw [if_neg (by omega), if_neg (by omega), if_neg (by omega), if_pos h]; congr 1; exact Bool.eq_iff_iff.2 (by rw [decide_eq_true_eq, beq_iff_eq])
theorem sh0 {x : S38} (h1 : ¬ x.f0 = 1) (h2 : ¬ x.f0 = 2) (h3 : ¬ x.f0 = 3) (h4 : ¬ x.f0 = 4) : shB x = false := by unfold shB; rw [if_neg h1, if_neg h2, if_neg h3, if_neg h4]
set_option maxHeartbeats 2000000 in
theorem l1ObjOk_c {x : S38} {n : Int} (hn : 0 ≤ n ∧ n ≤ 4611686018427387903) (hf : Fit x) (hC : Kd.C (Kd.int .i64) w A x.f2.length x.f2) : Calls Try.prog 76 #[.agg #[.int .i64 x.f0, .string x.f1, .slice A x.f2.length c], .int .i64 n] w fun e w' => e = .returned (.bool (obB n x)) ∧ Below w.heap.size w w' := by
  obtain ⟨hf1, hf2⟩ := hf
  have HF := AK (And.intro hn (And.intro hf1 hf2))
  have hw : wrap64 (n - 1) = n - 1 := by unfold wrap64; omega
  have HB := AK (below_alloc (Below.refl w.heap.size w) (.cells #[.int .i64 x.f0, .string x.f1, .slice A x.f2.length c] 38 (0, 0)))
  have HX := AK (blk_new w (.cells #[.int .i64 x.f0, .string x.f1, .slice A x.f2.length c] 38 (0, 0)))
  have HC := AK (Kd.C_below hC HB.out)
  obtain ⟨r, er⟩ : ∃ r, r = obB n x := ⟨_, rfl⟩
  have HR := AK (show r = (shB x && (x.f2.drop (0 : Int).toNat).all (inB · n)) from er)
  rw [← er]
  clear hf1 hf2 hn er hC
  go_enter Try.func76, Try.ntmps76
  go_wp2
  generalize w.alloc (.cells #[.int .i64 x.f0, .string x.f1, .slice A x.f2.length c] 38 (0, 0)) = w1 at HB HX HC ⊢
  generalize w.heap.size = b at HX ⊢
  go_loopg [5] x.f2.length (fun kq v5 w' => ∃ i : Int, v5 = .int .i64 i ∧ Aside0 (0 ≤ i ∧ i + kq = x.f2.length) ∧ Aside0 (r = (shB x && (x.f2.drop i.toNat).all (inB · n))) ∧ w' = w1)
  case atStart => exact ⟨0, rfl, ⟨by omega, by omega⟩, HR, rfl⟩
  case round =>
    clear HR
    obtain ⟨i, rfl, HI, HR, rfl⟩ := hrel
    obtain ⟨p0, p1, p2⟩ := box3 HX.out
    cases gk with
    | succ k1 =>
      have c9 : decide (i < (x.f2.length : Int)) = true := deT (by have := HI.out; omega)
      have hi0 := eq_true (show 0 ≤ i by have := HI.out; omega)
      have hi1 := eq_true (show i < (x.f2.length : Int) by have := HI.out; omega)
      obtain ⟨ad, e1, hq⟩ := Kd.at_int HC.out i (by have := HI.out; omega) (by have := HI.out; omega)
      subst e1
      have hr := HR.out
      rw [drop_cons _ 0 i (by have := HI.out; omega) (by have := HI.out; omega), List.all_cons] at hr
      obtain ⟨q, eq⟩ : ∃ q, q = rd x.f2 i := ⟨_, rfl⟩
      rw [← eq] at hq
      rw [show x.f2.getD i.toNat 0 = q from eq.symm, show inB q n = lB q (-1) (n - 1) by unfold inB lB; congr 1; exact decide_eq_decide.2 (by omega)] at hr
      have HR2 := AK hr
      clear hr eq HR
      go_wp2_with fail
      refine (l1In_c (p := q) (a := -1) (b := n - 1)).mono ?_
      rintro e w2 ⟨rfl, rfl⟩
      obtain ⟨y, hy⟩ : ∃ y, lB q (-1) (n - 1) = y := ⟨_, rfl⟩
      rw [hy] at HR2 ⊢
      clear hy hq
      cases y with
      | false =>
        have h2 : r = false := by rw [HR2.out]; simp
        subst h2
        clear p0 p1 p2
        go_wp2
        go_ret
        exact ⟨rfl, HB.out⟩
      | true =>
        have HR := AK (show r = (shB x && (x.f2.drop (i + 1).toNat).all (inB · n)) from HR2.out)
        clear HR2 p0 p1 p2
        go_wp2
        go_roundg k1
        case measure => omega
        case rel =>
          rw [wrap_succ i (by have := HI.out; omega) (by have := HI.out; have := HF.out; omega)]
          exact ⟨i + 1, rfl, ⟨by have := HI.out; omega, by have := HI.out; omega⟩, HR, rfl⟩
    | zero =>
      have c9 : decide (i < (x.f2.length : Int)) = false := deF (by have := HI.out; omega)
      have HS := AK (show r = shB x by rw [HR.out, drop_end _ _ (by have := HI.out; omega)]; simp)
      clear HR
      by_cases k1 : x.f0 = 1
      case pos =>
        have f1 : (x.f0 == 1) = true := beq_iff_eq.mpr k1
        have hr := HS.out.trans (sh1 k1)
        clear k1
        go_wp2_with fail
        refine (l1Text_c HF.out.2.1).mono ?_
        rintro e w2 ⟨rfl, rfl⟩
        obtain ⟨y, hy⟩ : ∃ y, txOk x.f1 = y := ⟨_, rfl⟩
        obtain ⟨z, hz⟩ : ∃ z, ((x.f2.length : Int) == 0) = z := ⟨_, rfl⟩
        rw [hy, hz] at hr
        rw [hy]
        cases y <;> cases z <;> (subst hr; go_wp2; go_ret; exact ⟨rfl, HB.out⟩)
      have f1 : (x.f0 == 1) = false := beq_eq_false_iff_ne.mpr k1
      by_cases k2 : x.f0 = 2
      case pos =>
        have f2 : (x.f0 == 2) = true := beq_iff_eq.mpr k2
        have hr := HS.out.trans (sh2 k2)
        clear k2
        obtain ⟨y, hy⟩ : ∃ y, (x.f1.toList == ([] : List UInt8)) = y := ⟨_, rfl⟩
        obtain ⟨z, hz⟩ : ∃ z, decide ((x.f2.length : Int) ≤ 6) = z := ⟨_, rfl⟩
        rw [hy, hz] at hr
        cases y <;> cases z <;> (subst hr; go_wp2; go_ret; exact ⟨rfl, HB.out⟩)
      have f2 : (x.f0 == 2) = false := beq_eq_false_iff_ne.mpr k2
      by_cases k3 : x.f0 = 3
      case pos =>
        have f3 : (x.f0 == 3) = true := beq_iff_eq.mpr k3
        have hr := HS.out.trans (sh3 k3)
        clear k3
        obtain ⟨y, hy⟩ : ∃ y, (x.f1.toList == ([] : List UInt8)) = y := ⟨_, rfl⟩
        obtain ⟨z, hz⟩ : ∃ z, ((x.f2.length : Int) == 2) = z := ⟨_, rfl⟩
        rw [hy, hz] at hr
        cases y <;> cases z <;> (subst hr; go_wp2; go_ret; exact ⟨rfl, HB.out⟩)
      have f3 : (x.f0 == 3) = false := beq_eq_false_iff_ne.mpr k3
      by_cases k4 : x.f0 = 4
      case pos =>
        have f4 : (x.f0 == 4) = true := beq_iff_eq.mpr k4
        have hr := HS.out.trans (sh4 k4)
        clear k4
        obtain ⟨y, hy⟩ : ∃ y, (x.f1.toList == ([] : List UInt8)) = y := ⟨_, rfl⟩
        obtain ⟨z, hz⟩ : ∃ z, ((x.f2.length : Int) == 0) = z := ⟨_, rfl⟩
        rw [hy, hz] at hr
        cases y <;> cases z <;> (subst hr; go_wp2; go_ret; exact ⟨rfl, HB.out⟩)
      have f4 : (x.f0 == 4) = false := beq_eq_false_iff_ne.mpr k4
      have hr := HS.out.trans (sh0 k1 k2 k3 k4)
      clear k1 k2 k3 k4
      subst hr
      go_wp2
      go_ret
      exact ⟨rfl, HB.out⟩
set_option maxHeartbeats 2000000 in
theorem memObjOk_calls (x : S38) (A : Option Addr) (c : Nat) (w : World) (ha : Fit x) (hr : Kd.C (Kd.int .i64) w A x.f2.length x.f2) (hc : x.f2.length ≤ c) :
    Calls Try.prog 83 #[.agg #[.int .i64 x.f0, .string x.f1, .slice A x.f2.length c]] w fun e w' => e = .returned (.bool (shB x)) ∧ Below w.heap.size w w' := by
  have HF := AK ha
  have HB := AK (below_alloc (Below.refl w.heap.size w) (.cells #[.int .i64 x.f0, .string x.f1, .slice A x.f2.length c] 38 (0, 0)))
  have HX := AK (blk_new w (.cells #[.int .i64 x.f0, .string x.f1, .slice A x.f2.length c] 38 (0, 0)))
  obtain ⟨r, er⟩ : ∃ r, r = shB x := ⟨_, rfl⟩
  have HS := AK er
  rw [← er]
  clear er ha hr hc
  go_enter Try.func83, Try.ntmps83
  go_upto_region 1 with fail
  generalize w.alloc (.cells #[.int .i64 x.f0, .string x.f1, .slice A x.f2.length c] 38 (0, 0)) = w1 at HB HX ⊢
  generalize w.heap.size = b at HX ⊢
  obtain ⟨p0, p1, p2⟩ := box3 HX.out
  by_cases k1 : x.f0 = 1
  case pos =>
    have f1 : (x.f0 == 1) = true := beq_iff_eq.mpr k1
    have HT := AK (show r = (((bytesOf x.f1).drop (0 : Int).toNat).all chOk && (lB x.f1.size 1 12 && ((x.f2.length : Int) == 0))) by
      rw [HS.out, sh1 k1]; show ((lB x.f1.size 1 12 && (bytesOf x.f1).all chOk) && _) = ((bytesOf x.f1).all chOk && _)
      cases lB x.f1.size 1 12 <;> cases (bytesOf x.f1).all chOk <;> rfl)
    clear k1 HS
    go_wp2
    clear p0 p1 p2
    go_loopg [12] x.f1.size (fun kq v12 w' => ∃ i : Int, v12 = .int .i64 i ∧ Aside0 (0 ≤ i ∧ i + kq = x.f1.size) ∧ Aside0 (r = (((bytesOf x.f1).drop i.toNat).all chOk && (lB x.f1.size 1 12 && ((x.f2.length : Int) == 0)))) ∧ w' = w1)
    case atStart => exact ⟨0, rfl, ⟨by omega, by omega⟩, HT, rfl⟩
    case round =>
      clear HT
      obtain ⟨i, rfl, HI, HT, rfl⟩ := hrel
      obtain ⟨p0, p1, p2⟩ := box3 HX.out
      cases gk with
      | zero =>
        have c9 : decide (i < (x.f1.size : Int)) = false := deF (by have := HI.out; omega)
        have hr : r = ((decide (1 ≤ (x.f1.size : Int)) && decide ((x.f1.size : Int) ≤ 12)) && ((x.f2.length : Int) == 0)) := by rw [HT.out, drop_end _ _ (by rw [bytesOf_length]; have := HI.out; omega)]; rfl
        obtain ⟨y, hy⟩ : ∃ y, decide (1 ≤ (x.f1.size : Int)) = y := ⟨_, rfl⟩
        obtain ⟨u, hu⟩ : ∃ u, decide ((x.f1.size : Int) ≤ 12) = u := ⟨_, rfl⟩
        obtain ⟨z, hz⟩ : ∃ z, ((x.f2.length : Int) == 0) = z := ⟨_, rfl⟩
        rw [hy, hu, hz] at hr
        clear HT
        cases y <;> cases u <;> cases z <;> (subst hr; go_wp2; go_ret; exact ⟨rfl, HB.out⟩)
      | succ k1 =>
        have c9 : decide (i < (x.f1.size : Int)) = true := deT (by have := HI.out; omega)
        have hi0 := eq_true (show 0 ≤ i by have := HI.out; omega)
        have hi1 := eq_true (show i < (x.f1.size : Int) by have := HI.out; omega)
        have hb := bt_at x.f1 i
        have hr := HT.out
        rw [tx_step x.f1 i (by have := HI.out; omega) (by have := HI.out; omega), show chOk (bt x.f1 i) = (!decide (bt x.f1 i < 97) && !decide (122 < bt x.f1 i) || !decide (bt x.f1 i < 48) && !decide (57 < bt x.f1 i)) by
          unfold chOk; rw [← decide_not, ← decide_not, ← decide_not, ← decide_not]; simp only [Int.not_lt]] at hr
        have HR := AK hr
        obtain ⟨x1, h1⟩ : ∃ y, decide (bt x.f1 i < 97) = y := ⟨_, rfl⟩
        obtain ⟨x2, h2⟩ : ∃ y, decide (122 < bt x.f1 i) = y := ⟨_, rfl⟩
        obtain ⟨x3, h3⟩ : ∃ y, decide (bt x.f1 i < 48) = y := ⟨_, rfl⟩
        obtain ⟨x4, h4⟩ : ∃ y, decide (57 < bt x.f1 i) = y := ⟨_, rfl⟩
        rw [h1, h2, h3, h4] at HR
        clear hr HT
        cases x1 <;> cases x2 <;> cases x3 <;> cases x4
        all_goals first
          | (have hr : r = false := HR.out
             subst hr
             go_wp2
             go_ret
             exact ⟨rfl, HB.out⟩)
          | (have HT := AK (show r = (((bytesOf x.f1).drop (i + 1).toNat).all chOk && (lB x.f1.size 1 12 && ((x.f2.length : Int) == 0))) from HR.out)
             go_wp2
             go_roundg k1
             case measure => omega
             case rel =>
               rw [wrap_succ i (by have := HI.out; omega) (by have := HI.out; have := HF.out.1; omega)]
               exact ⟨i + 1, rfl, ⟨by have := HI.out; omega, by have := HI.out; omega⟩, HT, rfl⟩)
  have f1 : (x.f0 == 1) = false := beq_eq_false_iff_ne.mpr k1
  by_cases k2 : x.f0 = 2
  case pos =>
    have f2 : (x.f0 == 2) = true := beq_iff_eq.mpr k2
    have hr := HS.out.trans (sh2 k2)
    clear k2
    obtain ⟨y, hy⟩ : ∃ y, (x.f1.toList == ([] : List UInt8)) = y := ⟨_, rfl⟩
    obtain ⟨z, hz⟩ : ∃ z, decide ((x.f2.length : Int) ≤ 6) = z := ⟨_, rfl⟩
    rw [hy, hz] at hr
    cases y <;> cases z <;> (subst hr; go_wp2; go_ret; exact ⟨rfl, HB.out⟩)
  have f2 : (x.f0 == 2) = false := beq_eq_false_iff_ne.mpr k2
  by_cases k3 : x.f0 = 3
  case pos =>
    have f3 : (x.f0 == 3) = true := beq_iff_eq.mpr k3
    have hr := HS.out.trans (sh3 k3)
    clear k3
    obtain ⟨y, hy⟩ : ∃ y, (x.f1.toList == ([] : List UInt8)) = y := ⟨_, rfl⟩
    obtain ⟨z, hz⟩ : ∃ z, ((x.f2.length : Int) == 2) = z := ⟨_, rfl⟩
    rw [hy, hz] at hr
    cases y <;> cases z <;> (subst hr; go_wp2; go_ret; exact ⟨rfl, HB.out⟩)
  have f3 : (x.f0 == 3) = false := beq_eq_false_iff_ne.mpr k3
  by_cases k4 : x.f0 = 4
  case pos =>
    have f4 : (x.f0 == 4) = true := beq_iff_eq.mpr k4
    have hr := HS.out.trans (sh4 k4)
    clear k4
    obtain ⟨y, hy⟩ : ∃ y, (x.f1.toList == ([] : List UInt8)) = y := ⟨_, rfl⟩
    obtain ⟨z, hz⟩ : ∃ z, ((x.f2.length : Int) == 0) = z := ⟨_, rfl⟩
    rw [hy, hz] at hr
    cases y <;> cases z <;> (subst hr; go_wp2; go_ret; exact ⟨rfl, HB.out⟩)
  have f4 : (x.f0 == 4) = false := beq_eq_false_iff_ne.mpr k4
  have hr := HS.out.trans (sh0 k1 k2 k3 k4)
  clear k1 k2 k3 k4
  subst hr
  go_wp2
  go_ret
  exact ⟨rfl, HB.out⟩
set_option maxHeartbeats 2000000 in
theorem l1WatchOk_c {l0 : List S38} {l1 : List Int} {l2 l3 l : List S60} (h0 : Kd.C k38 w A0 l0.length l0) (h : Kd.C k60 w A l.length l) : Calls Try.prog 78 #[.agg #[.slice A0 l0.length c0, .slice A1 l1.length c1, .slice A2 l2.length c2, .slice A3 l3.length c3], .slice A l.length c] w fun e w' => e = .returned (.bool (l.all (wtB l0))) ∧ Below w.heap.size w w' := by
  have hw : wrap64 ((l0.length : Int) - 1) = l0.length - 1 := by have := h0.2.1; unfold wrap64; omega
  have HB := AK (below_alloc (Below.refl w.heap.size w) (.cells #[.slice A0 l0.length c0, .slice A1 l1.length c1, .slice A2 l2.length c2, .slice A3 l3.length c3] 28 (0, 0)))
  have HX := AK (blk_new w (.cells #[.slice A0 l0.length c0, .slice A1 l1.length c1, .slice A2 l2.length c2, .slice A3 l3.length c3] 28 (0, 0)))
  have HC := AK (And.intro h0 (And.intro h h.2.1))
  obtain ⟨r, er⟩ : ∃ r, r = l.all (wtB l0) := ⟨_, rfl⟩
  have HR := AK (show r = (l.drop (0 : Int).toNat).all (wtB l0) from er)
  rw [← er]
  clear er h0 h
  go_enter Try.func78, Try.ntmps78
  go_wp2
  generalize w.alloc (.cells #[.slice A0 l0.length c0, .slice A1 l1.length c1, .slice A2 l2.length c2, .slice A3 l3.length c3] 28 (0, 0)) = w1 at HB HX ⊢
  have HN := AK (blk_lt HX.out)
  generalize w.heap.size = b at HX HN ⊢
  go_loopg [5] l.length (fun kq v5 w' => ∃ i : Int, v5 = .int .i64 i ∧ Aside0 (0 ≤ i ∧ i + kq = l.length) ∧ Aside0 (r = (l.drop i.toNat).all (wtB l0)) ∧ Aside0 (Below w.heap.size w w') ∧ Aside0 (w'.heap[b]? = some (.cells #[.slice A0 l0.length c0, .slice A1 l1.length c1, .slice A2 l2.length c2, .slice A3 l3.length c3] 28 (0, 0))))
  case atStart => exact ⟨0, rfl, ⟨by omega, by omega⟩, HR, HB, HX⟩
  case round =>
    clear HR HB HX
    obtain ⟨i, rfl, HI, HR, HB, HX⟩ := hrel
    cases gk with
    | zero =>
      have c9 : decide (i < (l.length : Int)) = false := deF (by have := HI.out; omega)
      have hr : r = true := by rw [HR.out, drop_end _ _ (by have := HI.out; omega)]; rfl
      subst hr
      go_wp2
      go_ret
      exact ⟨rfl, HB.out⟩
    | succ k1 =>
      have c9 : decide (i < (l.length : Int)) = true := deT (by have := HI.out; omega)
      have hi0 := eq_true (show 0 ≤ i by have := HI.out; omega)
      have hi1 := eq_true (show i < (l.length : Int) by have := HI.out; omega)
      obtain ⟨ad, e1, x0, x1⟩ := at_T60 (Kd.C_below HC.out.2.1 HB.out) i (by have := HI.out; omega) (by have := HI.out; omega)
      subst e1
      have hr := HR.out
      rw [drop_cons _ z60 i (by have := HI.out; omega) (by have := HI.out; omega), List.all_cons] at hr
      obtain ⟨z, ez⟩ : ∃ z, z = rd_T60 l i := ⟨_, rfl⟩
      rw [← ez] at x0 x1
      rw [show l.getD i.toNat z60 = z from ez.symm] at hr
      have HR2 := AK hr
      have HY := AK (blk_new wr (.cells #[.int .i64 z.f0, .int .i64 z.f1] 60 (0, 0)))
      clear ez hr HR
      go_upto_region 5 with fail
      clear x0 x1
      replace HB := AK (below_alloc HB.out (.cells #[.int .i64 z.f0, .int .i64 z.f1] 60 (0, 0)))
      replace HX := AK (blk_alloc HX.out (.cells #[.int .i64 z.f0, .int .i64 z.f1] 60 (0, 0)))
      generalize wr.alloc (.cells #[.int .i64 z.f0, .int .i64 z.f1] 60 (0, 0)) = w2 at HB HX HY ⊢
      obtain ⟨p0, p1, p2, p3⟩ := box4 HX.out
      obtain ⟨q0, q1⟩ := box2 HY.out
      have HWT := AK (show wtB l0 z = (lB z.f0 0 (l0.length - 1) && lB z.f1 0 (l0.length - 1) && ((rd_T38 l0 z.f0).f0 == 4)) by
        unfold wtB lB
        rw [show decide (z.f0 ≤ (l0.length : Int) - 1) = decide (z.f0 < l0.length) from decide_eq_decide.2 (by omega), show decide (z.f1 ≤ (l0.length : Int) - 1) = decide (z.f1 < l0.length) from decide_eq_decide.2 (by omega), show ((rd_T38 l0 z.f0).f0 == 4) = decide ((rd_T38 l0 z.f0).f0 = 4) from Bool.eq_iff_iff.2 (by rw [decide_eq_true_eq, beq_iff_eq])]
        simp only [Bool.and_assoc, Bool.and_comm, Bool.and_left_comm])
      go_wp2_with fail
      refine (l1In_c (p := z.f0) (a := 0) (b := l0.length - 1)).mono ?_
      rintro e w3 ⟨rfl, rfl⟩
      obtain ⟨y, hy⟩ : ∃ y, lB z.f0 0 (l0.length - 1) = y := ⟨_, rfl⟩
      have HLB := AK hy
      rw [hy] at HWT ⊢
      clear hy
      cases y with
      | false =>
        have h2 : r = false := by rw [HR2.out, HWT.out]; rfl
        subst h2
        go_wp2
        go_ret
        exact ⟨rfl, HB.out⟩
      | true =>
      go_wp2_with fail
      refine (l1In_c (p := z.f1) (a := 0) (b := l0.length - 1)).mono ?_
      rintro e w4 ⟨rfl, rfl⟩
      obtain ⟨y, hy⟩ : ∃ y, lB z.f1 0 (l0.length - 1) = y := ⟨_, rfl⟩
      rw [hy] at HWT ⊢
      clear hy
      cases y with
      | false =>
        have h2 : r = false := by rw [HR2.out, HWT.out]; rfl
        subst h2
        go_wp2
        go_ret
        exact ⟨rfl, HB.out⟩
      | true =>
      have hz := HLB.out
      unfold lB at hz
      rw [Bool.and_eq_true, decide_eq_true_eq, decide_eq_true_eq] at hz
      obtain ⟨ae, F, f, e1, k0, _⟩ := at_T38 (Kd.C_below HC.out.1 HB.out) z.f0 hz.1 (by omega)
      subst e1
      have hz0 := eq_true hz.1
      have hz1 := eq_true (show z.f0 < (l0.length : Int) by omega)
      obtain ⟨y, hy⟩ : ∃ y, ((rd_T38 l0 z.f0).f0 == 4) = y := ⟨_, rfl⟩
      have hn : ((rd_T38 l0 z.f0).f0 != 4) = !y := by rw [← hy]; rfl
      rw [hy] at HWT
      clear hz hy
      cases y with
      | false =>
        have h2 : r = false := by rw [HR2.out, HWT.out]; rfl
        subst h2
        go_wp2
        go_ret
        exact ⟨rfl, HB.out⟩
      | true =>
        have HR := AK (show r = (l.drop (i + 1).toNat).all (wtB l0) by rw [HR2.out, HWT.out]; rfl)
        clear HR2 HWT HLB
        go_wp2
        go_roundg k1
        case measure => omega
        case rel =>
          rw [wrap_succ i (by have := HI.out; omega) (by have := HI.out; have := HC.out.2.2; omega)]
          exact ⟨i + 1, rfl, ⟨by have := HI.out; omega, by have := HI.out; omega⟩, HR, HB, HX⟩
end
end Go.Proofs.Ytigjhfijkdlldaa.H
end
section
/- The laws' comparisons, walked, where both sides hold the same: they answer true. -/
namespace Go.Proofs.Ytigjhfijkdlldaa.H
open Go.RowKit Go.Proofs.YtigjhfijkdlldaaW.PrintWords Go.Proofs.YtigjhfijkdlldaaW.PrintLast Go.Proofs.YtigjhfijkdlldaaW.PrintMore Go.Proofs.Ytigjhfijkdlldaa.Q
set_option linter.unusedVariables false
set_option linter.unusedSimpArgs false
section
variable {w : World} {A B A0 A1 A2 A3 B0 B1 B2 B3 : Option Addr} {c d c0 c1 c2 c3 d0 d1 d2 d3 : Nat}
theorem eqInt_q {l : List Int} (h : Kd.C (Kd.int .i64) w A l.length l) (h' : Kd.C (Kd.int .i64) w B l.length l) : Calls Try.prog 29 #[.slice A l.length c, .slice B l.length d] w fun e w' => e = .returned (.bool true) ∧ Drawn0 w w' := by
  have HH := AK (And.intro h (And.intro h' h.2.1))
  have hn : ((l.length : Int) != (l.length : Int)) = false := by simp
  clear h h'
  go_enter Try.func29, Try.ntmps29
  go_wp2
  go_loopg [5] l.length (fun kq v5 w' => ∃ i : Int, v5 = .int .i64 i ∧ Aside0 (0 ≤ i ∧ i + kq = l.length) ∧ Drawn0 w w')
  case atStart => exact ⟨0, rfl, ⟨by omega, by omega⟩, Drawn0.refl _⟩
  case round =>
    obtain ⟨i, rfl, HI, ⟨m, rfl⟩⟩ := hrel
    cases gk with
    | zero =>
      have c9 : decide (i < (l.length : Int)) = false := deF (by have := HI.out; omega)
      go_wp2
      go_ret
      exact ⟨rfl, ⟨_, rfl⟩⟩
    | succ k1 =>
      have c9 : decide (i < (l.length : Int)) = true := deT (by have := HI.out; omega)
      have hi0 := eq_true (show 0 ≤ i by have := HI.out; omega)
      have hi1 := eq_true (show i < (l.length : Int) by have := HI.out; omega)
      obtain ⟨ad, e1, hx⟩ := Kd.at_int HH.out.1 i (by have := HI.out; omega) (by have := HI.out; omega)
      obtain ⟨be, e2, hy⟩ := Kd.at_int HH.out.2.1 i (by have := HI.out; omega) (by have := HI.out; omega)
      subst e1 e2
      have hne : (rd l i != rd l i) = false := by simp
      go_wp2_with fail
      go_quiet (fail)
      go_wp2
      go_roundg k1
      case measure => omega
      case rel =>
        rw [wrap_succ i (by have := HI.out; omega) (by have := HI.out; have := HH.out.2.2; omega)]
        exact ⟨i + 1, rfl, ⟨by have := HI.out; omega, by have := HI.out; omega⟩, by repeat (first | exact Drawn0.refl _ | apply Drawn0.step)⟩
theorem eqObj_q {x : S38} (h : Kd.C (Kd.int .i64) w A x.f2.length x.f2) (h' : Kd.C (Kd.int .i64) w B x.f2.length x.f2) :
    Calls Try.prog 110 #[.agg #[.int .i64 x.f0, .string x.f1, .slice A x.f2.length c], .agg #[.int .i64 x.f0, .string x.f1, .slice B x.f2.length d]] w fun e w' => e = .returned (.bool true) ∧ Below w.heap.size w w' := by
  have HB := AK (below_alloc (below_alloc (Below.refl w.heap.size w) (.cells #[.int .i64 x.f0, .string x.f1, .slice A x.f2.length c] 38 (0, 0))) (.cells #[.int .i64 x.f0, .string x.f1, .slice B x.f2.length d] 38 (0, 0)))
  have HH := AK (And.intro h h')
  have hk : (x.f0 != x.f0) = false := by simp
  have hs : (x.f1.toList != x.f1.toList) = false := by simp
  clear h h'
  go_enter Try.func110, Try.ntmps110
  go_wp2_with fail
  refine (eqInt_q (Kd.C_below HH.out.1 HB.out) (Kd.C_below HH.out.2 HB.out)).mono ?_
  rintro e w2 ⟨rfl, hd⟩
  replace HB := AK (bst HB.out hd.below)
  clear hd
  go_wp2
  go_ret
  exact ⟨rfl, HB.out⟩
theorem eqWatch_q {x : S60} : Calls Try.prog 116 #[.agg #[.int .i64 x.f0, .int .i64 x.f1], .agg #[.int .i64 x.f0, .int .i64 x.f1]] w fun e w' => e = .returned (.bool true) ∧ Below w.heap.size w w' := by
  have hk : (x.f0 != x.f0) = false := by simp
  have hs : (x.f1 != x.f1) = false := by simp
  go_enter Try.func116, Try.ntmps116
  go_wp2
  go_ret
  exact ⟨rfl, below_alloc (below_alloc (Below.refl _ _) _) _⟩
theorem eqObjS_q {l : List S38} (h : Kd.C k38 w A l.length l) (h' : Kd.C k38 w B l.length l) : Calls Try.prog 84 #[.slice A l.length c, .slice B l.length d] w fun e w' => e = .returned (.bool true) ∧ Below w.heap.size w w' := by
  have HH := AK (And.intro h (And.intro h' h.2.1))
  have hn : ((l.length : Int) != (l.length : Int)) = false := by simp
  clear h h'
  go_enter Try.func84, Try.ntmps84
  go_wp2
  go_loopg [5] l.length (fun kq v5 w' => ∃ i : Int, v5 = .int .i64 i ∧ Aside0 (0 ≤ i ∧ i + kq = l.length) ∧ Aside0 (Below w.heap.size w w'))
  case atStart => exact ⟨0, rfl, ⟨by omega, by omega⟩, ⟨Below.refl _ _⟩⟩
  case round =>
    obtain ⟨i, rfl, HI, HB⟩ := hrel
    cases gk with
    | zero =>
      have c9 : decide (i < (l.length : Int)) = false := deF (by have := HI.out; omega)
      go_wp2
      go_ret
      exact ⟨rfl, HB.out⟩
    | succ k1 =>
      have c9 : decide (i < (l.length : Int)) = true := deT (by have := HI.out; omega)
      have hi0 := eq_true (show 0 ≤ i by have := HI.out; omega)
      have hi1 := eq_true (show i < (l.length : Int) by have := HI.out; omega)
      obtain ⟨ad, F, f, e1, x0, x1, x2, _, hx⟩ := at_T38 (Kd.C_below HH.out.1 HB.out) i (by have := HI.out; omega) (by have := HI.out; omega)
      obtain ⟨be, G, g, e2, y0, y1, y2, _, hy⟩ := at_T38 (Kd.C_below HH.out.2.1 HB.out) i (by have := HI.out; omega) (by have := HI.out; omega)
      subst e1 e2
      obtain ⟨z, ez⟩ : ∃ z, z = rd_T38 l i := ⟨_, rfl⟩
      rw [← ez] at x0 x1 x2 y0 y1 y2 hx hy
      have HX := AK (show (_ ∧ _ ∧ _) ∧ _ ∧ _ ∧ _ from ⟨⟨x0, x1, x2⟩, y0, y1, y2⟩)
      have HC := AK (And.intro hx hy)
      clear ez hx hy
      go_wp2_with fail
      go_region_held3 (fun w' => (w'.cell? (ad.add (i.toNat * 3)) = some (.int .i64 z.f0) ∧ w'.cell? ⟨(ad.add (i.toNat * 3)).block, (ad.add (i.toNat * 3)).off + 1, none⟩ = some (.string z.f1) ∧ w'.cell? ⟨(ad.add (i.toNat * 3)).block, (ad.add (i.toNat * 3)).off + 2, none⟩ = some (.slice F z.f2.length f)) ∧ w'.cell? (be.add (i.toNat * 3)) = some (.int .i64 z.f0) ∧ w'.cell? ⟨(be.add (i.toNat * 3)).block, (be.add (i.toNat * 3)).off + 1, none⟩ = some (.string z.f1) ∧ w'.cell? ⟨(be.add (i.toNat * 3)).block, (be.add (i.toNat * 3)).off + 2, none⟩ = some (.slice G z.f2.length g))
        (first | exact HX.out | exact HY.out)
        (first | (go_at_call 110; refine (eqObj_q (Kd.C_below HC.out.1 (below_drew1 (Below.refl _ _))) (Kd.C_below HC.out.2 (below_drew1 (Below.refl _ _)))).mono ?_; rintro e w5 ⟨rfl, hb⟩; have HY := AK (show (_ ∧ _ ∧ _) ∧ _ ∧ _ ∧ _ from ⟨⟨pcb hb HX.out.1.1, pcb hb HX.out.1.2.1, pcb hb HX.out.1.2.2⟩, pcb hb HX.out.2.1, pcb hb HX.out.2.2.1, pcb hb HX.out.2.2.2⟩); replace HB := AK (bst (below_drew1 HB.out) hb); clear hb))
      go_wp2
      go_roundg k1
      case measure => omega
      case rel =>
        rw [wrap_succ i (by have := HI.out; omega) (by have := HI.out; have := HH.out.2.2; omega)]
        exact ⟨i + 1, rfl, ⟨by have := HI.out; omega, by have := HI.out; omega⟩, HB⟩
theorem eqWatchS_q {l : List S60} (h : Kd.C k60 w A l.length l) (h' : Kd.C k60 w B l.length l) : Calls Try.prog 85 #[.slice A l.length c, .slice B l.length d] w fun e w' => e = .returned (.bool true) ∧ Below w.heap.size w w' := by
  have HH := AK (And.intro h (And.intro h' h.2.1))
  have hn : ((l.length : Int) != (l.length : Int)) = false := by simp
  clear h h'
  go_enter Try.func85, Try.ntmps85
  go_wp2
  go_loopg [5] l.length (fun kq v5 w' => ∃ i : Int, v5 = .int .i64 i ∧ Aside0 (0 ≤ i ∧ i + kq = l.length) ∧ Aside0 (Below w.heap.size w w'))
  case atStart => exact ⟨0, rfl, ⟨by omega, by omega⟩, ⟨Below.refl _ _⟩⟩
  case round =>
    obtain ⟨i, rfl, HI, HB⟩ := hrel
    cases gk with
    | zero =>
      have c9 : decide (i < (l.length : Int)) = false := deF (by have := HI.out; omega)
      go_wp2
      go_ret
      exact ⟨rfl, HB.out⟩
    | succ k1 =>
      have c9 : decide (i < (l.length : Int)) = true := deT (by have := HI.out; omega)
      have hi0 := eq_true (show 0 ≤ i by have := HI.out; omega)
      have hi1 := eq_true (show i < (l.length : Int) by have := HI.out; omega)
      obtain ⟨ad, e1, x0, x1⟩ := at_T60 (Kd.C_below HH.out.1 HB.out) i (by have := HI.out; omega) (by have := HI.out; omega)
      obtain ⟨be, e2, y0, y1⟩ := at_T60 (Kd.C_below HH.out.2.1 HB.out) i (by have := HI.out; omega) (by have := HI.out; omega)
      subst e1 e2
      obtain ⟨z, ez⟩ : ∃ z, z = rd_T60 l i := ⟨_, rfl⟩
      rw [← ez] at x0 x1 y0 y1
      have HX := AK (show (_ ∧ _) ∧ _ ∧ _ from ⟨⟨x0, x1⟩, y0, y1⟩)
      clear ez
      go_wp2_with fail
      go_region_held3 (fun w' => (w'.cell? (ad.add (i.toNat * 2)) = some (.int .i64 z.f0) ∧ w'.cell? ⟨(ad.add (i.toNat * 2)).block, (ad.add (i.toNat * 2)).off + 1, none⟩ = some (.int .i64 z.f1)) ∧ w'.cell? (be.add (i.toNat * 2)) = some (.int .i64 z.f0) ∧ w'.cell? ⟨(be.add (i.toNat * 2)).block, (be.add (i.toNat * 2)).off + 1, none⟩ = some (.int .i64 z.f1))
        (first | exact HX.out | exact HY.out)
        (first | (go_at_call 116; refine (eqWatch_q (x := z)).mono ?_; rintro e w5 ⟨rfl, hb⟩; have HY := AK (show (_ ∧ _) ∧ _ ∧ _ from ⟨⟨pcb hb HX.out.1.1, pcb hb HX.out.1.2⟩, pcb hb HX.out.2.1, pcb hb HX.out.2.2⟩); replace HB := AK (bst (below_drew1 HB.out) hb); clear hb))
      go_wp2
      go_roundg k1
      case measure => omega
      case rel =>
        rw [wrap_succ i (by have := HI.out; omega) (by have := HI.out; have := HH.out.2.2; omega)]
        exact ⟨i + 1, rfl, ⟨by have := HI.out; omega, by have := HI.out; omega⟩, HB⟩
theorem eqHeap_q {l0 : List S38} {l1 : List Int} {l2 l3 : List S60} (h0 : Kd.C k38 w A0 l0.length l0 ∧ Kd.C (Kd.int .i64) w A1 l1.length l1 ∧ Kd.C k60 w A2 l2.length l2 ∧ Kd.C k60 w A3 l3.length l3) (h1 : Kd.C k38 w B0 l0.length l0 ∧ Kd.C (Kd.int .i64) w B1 l1.length l1 ∧ Kd.C k60 w B2 l2.length l2 ∧ Kd.C k60 w B3 l3.length l3) :
    Calls Try.prog 26 #[.agg  #[.slice A0 l0.length c0, .slice A1 l1.length c1, .slice A2 l2.length c2, .slice A3 l3.length c3], .agg  #[.slice B0 l0.length d0, .slice B1 l1.length d1, .slice B2 l2.length d2, .slice B3 l3.length d3]] w fun e w' => e = .returned (.bool true) ∧ Below w.heap.size w w' := by
  have HB := AK (below_alloc (below_alloc (Below.refl w.heap.size w) (.cells #[.slice A0 l0.length c0, .slice A1 l1.length c1, .slice A2 l2.length c2, .slice A3 l3.length c3] 28 (0, 0))) (.cells #[.slice B0 l0.length d0, .slice B1 l1.length d1, .slice B2 l2.length d2, .slice B3 l3.length d3] 28 (0, 0)))
  have HX := AK (blk_alloc (blk_new w (.cells #[.slice A0 l0.length c0, .slice A1 l1.length c1, .slice A2 l2.length c2, .slice A3 l3.length c3] 28 (0, 0))) (.cells #[.slice B0 l0.length d0, .slice B1 l1.length d1, .slice B2 l2.length d2, .slice B3 l3.length d3] 28 (0, 0)))
  have HY := AK (blk_new1 w (.cells #[.slice A0 l0.length c0, .slice A1 l1.length c1, .slice A2 l2.length c2, .slice A3 l3.length c3] 28 (0, 0)) (.cells #[.slice B0 l0.length d0, .slice B1 l1.length d1, .slice B2 l2.length d2, .slice B3 l3.length d3] 28 (0, 0)))
  have HH := AK (And.intro h0 h1)
  clear h0 h1
  go_enter Try.func26, Try.ntmps26
  go_wp2_with fail
  generalize (w.alloc (.cells #[.slice A0 l0.length c0, .slice A1 l1.length c1, .slice A2 l2.length c2, .slice A3 l3.length c3] 28 (0, 0))).alloc (.cells #[.slice B0 l0.length d0, .slice B1 l1.length d1, .slice B2 l2.length d2, .slice B3 l3.length d3] 28 (0, 0)) = w1 at HB HX HY ⊢
  refine (eqObjS_q (Kd.C_below HH.out.1.1 HB.out) (Kd.C_below HH.out.2.1 HB.out)).mono ?_
  rintro e v0 ⟨rfl, hb⟩
  replace hb : Below _ _ _ := hb
  replace HB := AK (bst HB.out hb)
  replace HX := AK (bbl HX.out hb)
  replace HY := AK (bbl HY.out hb)
  clear hb
  obtain ⟨p0, p1, p2, p3⟩ := box4 HX.out
  obtain ⟨q0, q1, q2, q3⟩ := box4 HY.out
  go_wp2_with fail
  clear p0 p1 p2 p3 q0 q1 q2 q3
  refine (eqInt_q (Kd.C_below HH.out.1.2.1 HB.out) (Kd.C_below HH.out.2.2.1 HB.out)).mono ?_
  rintro e v1 ⟨rfl, hb⟩
  replace hb : Below _ _ _ := hb.below
  replace HB := AK (bst HB.out hb)
  replace HX := AK (bbl HX.out hb)
  replace HY := AK (bbl HY.out hb)
  clear hb
  obtain ⟨p0, p1, p2, p3⟩ := box4 HX.out
  obtain ⟨q0, q1, q2, q3⟩ := box4 HY.out
  go_wp2_with fail
  clear p0 p1 p2 p3 q0 q1 q2 q3
  refine (eqWatchS_q (Kd.C_below HH.out.1.2.2.1 HB.out) (Kd.C_below HH.out.2.2.2.1 HB.out)).mono ?_
  rintro e v2 ⟨rfl, hb⟩
  replace hb : Below _ _ _ := hb
  replace HB := AK (bst HB.out hb)
  replace HX := AK (bbl HX.out hb)
  replace HY := AK (bbl HY.out hb)
  clear hb
  obtain ⟨p0, p1, p2, p3⟩ := box4 HX.out
  obtain ⟨q0, q1, q2, q3⟩ := box4 HY.out
  go_wp2_with fail
  clear p0 p1 p2 p3 q0 q1 q2 q3
  refine (eqWatchS_q (Kd.C_below HH.out.1.2.2.2 HB.out) (Kd.C_below HH.out.2.2.2.2 HB.out)).mono ?_
  rintro e v3 ⟨rfl, hb⟩
  replace hb : Below _ _ _ := hb
  replace HB := AK (bst HB.out hb)
  go_wp2
  go_ret
  exact ⟨rfl, HB.out⟩
theorem eqEv_q {x : S40} (h : Kd.C (Kd.int .i64) w A x.f4.f2.length x.f4.f2) (h' : Kd.C (Kd.int .i64) w B x.f4.f2.length x.f4.f2) :
    Calls Try.prog 51 #[.agg #[.int .i64 x.f0, .int .i64 x.f1, .int .i64 x.f2, .int .i64 x.f3, .int .i64 x.f4.f0, .string x.f4.f1, .slice A x.f4.f2.length c], .agg #[.int .i64 x.f0, .int .i64 x.f1, .int .i64 x.f2, .int .i64 x.f3, .int .i64 x.f4.f0, .string x.f4.f1, .slice B x.f4.f2.length d]] w fun e w' => e = .returned (.bool true) ∧ Below w.heap.size w w' := by
  have HB := AK (below_alloc (below_alloc (Below.refl w.heap.size w) (.cells #[.int .i64 x.f0, .int .i64 x.f1, .int .i64 x.f2, .int .i64 x.f3, .int .i64 x.f4.f0, .string x.f4.f1, .slice A x.f4.f2.length c] 40 (0, 0))) (.cells #[.int .i64 x.f0, .int .i64 x.f1, .int .i64 x.f2, .int .i64 x.f3, .int .i64 x.f4.f0, .string x.f4.f1, .slice B x.f4.f2.length d] 40 (0, 0)))
  have HH := AK (And.intro h h')
  have k0 : (x.f0 != x.f0) = false := by simp
  have k1 : (x.f1 != x.f1) = false := by simp
  have k2 : (x.f2 != x.f2) = false := by simp
  have k3 : (x.f3 != x.f3) = false := by simp
  clear h h'
  go_enter Try.func51, Try.ntmps51
  go_wp2_with fail
  refine (eqObj_q (x := x.f4) (Kd.C_below HH.out.1 HB.out) (Kd.C_below HH.out.2 HB.out)).mono ?_
  rintro e w2 ⟨rfl, hb⟩
  replace HB := AK (bst HB.out hb)
  clear hb
  go_wp2
  go_ret
  exact ⟨rfl, HB.out⟩
end
end Go.Proofs.Ytigjhfijkdlldaa.H
end
section
/- Contracts in short form: a heap's value that is read (InH), one of the call's own (OwnH), a law's argument (InL); the laws' copies and comparisons, and the spec's MemOk, with these. -/
namespace Go.Proofs.Ytigjhfijkdlldaa.H
open Go.RowKit Go.Proofs.YtigjhfijkdlldaaW.PrintWords Go.Proofs.YtigjhfijkdlldaaW.PrintLast Go.Proofs.YtigjhfijkdlldaaW.PrintMore Go.Proofs.Ytigjhfijkdlldaa.Q
set_option linter.unusedVariables false
set_option linter.unusedSimpArgs false
structure InH (w : World) (A0 : Option Addr) (c0 : Nat) (A1 : Option Addr) (c1 : Nat) (A2 : Option Addr) (c2 : Nat) (A3 : Option Addr) (c3 : Nat) (l0 : List S38) (l1 : List Int) (l2 l3 : List S60) : Prop where
  r0 : Kd.C k38 w A0 l0.length l0
  r1 : Kd.C (Kd.int .i64) w A1 l1.length l1
  r2 : Kd.C k60 w A2 l2.length l2
  r3 : Kd.C k60 w A3 l3.length l3
  k0 : l0.length ≤ c0
  k1 : l1.length ≤ c1
  k2 : l2.length ≤ c2
  k3 : l3.length ≤ c3
structure InL (w : World) (A0 : Option Addr) (c0 : Nat) (A1 : Option Addr) (c1 : Nat) (A2 : Option Addr) (c2 : Nat) (A3 : Option Addr) (c3 : Nat) (l0 : List S72) (l1 : List Int) (l2 l3 : List S126) : Prop where
  r0 : Kd.C k72 w A0 l0.length l0
  r1 : Kd.C (Kd.int .i64) w A1 l1.length l1
  r2 : Kd.C k126 w A2 l2.length l2
  r3 : Kd.C k126 w A3 l3.length l3
  k0 : l0.length ≤ c0
  k1 : l1.length ≤ c1
  k2 : l2.length ≤ c2
  k3 : l3.length ≤ c3
structure OwnH (w : World) (base : Nat) (A0 : Option Addr) (c0 : Nat) (A1 : Option Addr) (c1 : Nat) (A2 : Option Addr) (c2 : Nat) (A3 : Option Addr) (c3 : Nat) (l0 : List S38) (l1 : List Int) (l2 l3 : List S60) : Prop where
  s0 : Kd.S k38 38 w base (fun k => some k ≠ (Value.slice A1 l1.length c1).ownBlock) (.slice A0 l0.length c0) l0
  s1 : Kd.R (Kd.int .i64) 3 w base (fun _ => True) (.slice A1 l1.length c1) l1
  s2 : Kd.R k60 60 w base (fun k => some k ≠ (Value.slice A3 l3.length c3).ownBlock) (.slice A2 l2.length c2) l2
  s3 : Kd.R k60 60 w base (fun k => some k ≠ (Value.slice A2 l2.length c2).ownBlock) (.slice A3 l3.length c3) l3
section
variable {w w1 : World} {base : Nat} {A0 A1 A2 A3 : Option Addr} {c0 c1 c2 c3 : Nat} {l0 : List S38} {l1 : List Int} {l2 l3 : List S60}
theorem InH.below (h : InH w A0 c0 A1 c1 A2 c2 A3 c3 l0 l1 l2 l3) (hb : Below w.heap.size w w1) : InH w1 A0 c0 A1 c1 A2 c2 A3 c3 l0 l1 l2 l3 :=
  ⟨Kd.C_below h.r0 hb, Kd.C_below h.r1 hb, Kd.C_below h.r2 hb, Kd.C_below h.r3 hb, h.k0, h.k1, h.k2, h.k3⟩
theorem InL.below {l0 : List S72} {l2 l3 : List S126} (h : InL w A0 c0 A1 c1 A2 c2 A3 c3 l0 l1 l2 l3) (hb : Below w.heap.size w w1) : InL w1 A0 c0 A1 c1 A2 c2 A3 c3 l0 l1 l2 l3 :=
  ⟨Kd.C_below h.r0 hb, Kd.C_below h.r1 hb, Kd.C_below h.r2 hb, Kd.C_below h.r3 hb, h.k0, h.k1, h.k2, h.k3⟩
theorem OwnH.below (h : OwnH w base A0 c0 A1 c1 A2 c2 A3 c3 l0 l1 l2 l3) (hb : Below w.heap.size w w1) : OwnH w1 base A0 c0 A1 c1 A2 c2 A3 c3 l0 l1 l2 l3 :=
  ⟨Kd.S_below h.s0 hb, Kd.R_below h.s1 hb, Kd.R_below h.s2 hb, Kd.R_below h.s3 hb⟩
theorem OwnH.reads (h : OwnH w base A0 c0 A1 c1 A2 c2 A3 c3 l0 l1 l2 l3) : InH w A0 c0 A1 c1 A2 c2 A3 c3 l0 l1 l2 l3 :=
  ⟨(Kd.R_reads' (Kd.S_R h.s0)).2.2, (Kd.R_reads' h.s1).2.2, (Kd.R_reads' h.s2).2.2, (Kd.R_reads' h.s3).2.2, (Kd.R_reads' (Kd.S_R h.s0)).2.1, (Kd.R_reads' h.s1).2.1, (Kd.R_reads' h.s2).2.1, (Kd.R_reads' h.s3).2.1⟩
end
/-- The four cells of a box set. -/
def set4 (w : World) (g : Nat) (a b c d : Value) : World := (((w.setCell ⟨g, 0, none⟩ a).setCell ⟨g, 1, none⟩ b).setCell ⟨g, 2, none⟩ c).setCell ⟨g, 3, none⟩ d
theorem set4_blk {w : World} {g : Nat} {a b c d p q r s : Value} (h : w.heap[g]? = some (.cells #[p, q, r, s] 28 (0, 0))) : (set4 w g a b c d).heap[g]? = some (.cells #[a, b, c, d] 28 (0, 0)) :=
  blk_put (blk_put (blk_put (blk_put h 0 _ rfl) 1 _ rfl) 2 _ rfl) 3 _ rfl
theorem set4_far {w : World} {g k : Nat} {a b c d : Value} {o : Obj} (h : w.heap[k]? = some o) (hne : k ≠ g) : (set4 w g a b c d).heap[k]? = some o := by
  have h1 : ∀ (w : World) (i : Nat) (u : Value), (w.setCell ⟨g, i, none⟩ u).heap[k]? = w.heap[k]? := fun w i u => Below.heap_setCell w ⟨g, i, none⟩ u k hne
  unfold set4
  rw [h1, h1, h1, h1]; exact h
theorem set4_R {α : Type} {dk : Kd α} {e base : Nat} {ok : Nat → Prop} {w : World} {v : Value} {xs : List α} {g : Nat} {cs : Array Value} {a b c d : Value} (h : dk.R e w base ok v xs) (hb : w.heap[g]? = some (.cells cs 28 (0, 0))) (ht : ∀ q, q ∈ e :: dk.E → q ≠ 28) : dk.R e (set4 w g a b c d) base ok v xs :=
  Kd.R_set (Kd.R_set (Kd.R_set (Kd.R_set h hb ht 0 a) (blk_set hb 0 a) ht 1 b) (blk_set (blk_set hb 0 a) 1 b) ht 2 c) (blk_set (blk_set (blk_set hb 0 a) 1 b) 2 c) ht 3 d
theorem set4_S {w : World} {base : Nat} {ok : Nat → Prop} {v : Value} {xs : List S38} {g : Nat} {cs : Array Value} {a b c d : Value} (h : Kd.S k38 38 w base ok v xs) (hb : w.heap[g]? = some (.cells cs 28 (0, 0))) : Kd.S k38 38 (set4 w g a b c d) base ok v xs :=
  have ht := k38_ap 28 (by decide) (by decide)
  Kd.S_set (Kd.S_set (Kd.S_set (Kd.S_set h hb ht 0 a) (blk_set hb 0 a) ht 1 b) (blk_set (blk_set hb 0 a) 1 b) ht 2 c) (blk_set (blk_set (blk_set hb 0 a) 1 b) 2 c) ht 3 d
theorem set4_below {w w1 : World} {g : Nat} {a b c d : Value} (h : Below w.heap.size w w1) (hg : w.heap.size ≤ g) : Below w.heap.size w (set4 w1 g a b c d) := below_set (below_set (below_set (below_set h hg) hg) hg) hg
/-- The four lists of a copy, laid one behind the other. -/
theorem own_laid {w : World} {base : Nat} {A0 A1 A2 A3 : Option Addr} {c0 c1 c2 c3 : Nat} {l0 : List S38} {l1 : List Int} {l2 l3 : List S60} {n0 n2 : Nat} {ok1 ok2 ok3 : Nat → Prop} (h0 : Kd.S k38 38 w base (fun k => k < n0) (.slice A0 l0.length c0) l0)
    (h1 : Kd.R (Kd.int .i64) 3 w base ok1 (.slice A1 l1.length c1) l1) (h2 : Kd.R k60 60 w base ok2 (.slice A2 l2.length c2) l2) (h3 : Kd.R k60 60 w base ok3 (.slice A3 l3.length c3) l3)
    (k1 : ∀ k, ok1 k → n0 ≤ k) (k2 : ∀ k, ok2 k → k < n2) (k3 : ∀ k, ok3 k → n2 ≤ k) : OwnH w base A0 c0 A1 c1 A2 c2 A3 c3 l0 l1 l2 l3 :=
  ⟨Kd.S_mono h0 (fun k hk e => by have := k1 k (h1.1 k e.symm); omega), Kd.R_mono h1 (fun _ _ => trivial), Kd.R_mono h2 (fun k hk e => by have := k3 k (h3.1 k e.symm); have := k2 k hk; omega), Kd.R_mono h3 (fun k hk e => by have := k2 k (h2.1 k e.symm); have := k3 k hk; omega)⟩
theorem C_max {w : World} {α : Type} {d : Kd α} {A : Option Addr} {xs : List α} (h : Kd.C d w A xs.length xs) : (xs.length : Int) ≤ 9223372036854775807 := by have := h.2.1; omega
theorem S_lowerC {w : World} {base base' : Nat} {ok : Nat → Prop} {v : Value} {xs : List S38} (h : Kd.S k38 38 w base ok v xs) (hb : base' ≤ base) : Kd.S k38 38 w base' ok v xs := by
  obtain ⟨f, hf⟩ := h
  exact ⟨f, Kd.R_lower hf hb⟩
theorem size_set (w : World) (p : Addr) (u : Value) : (w.setCell p u).heap.size = w.heap.size := by simp [World.setCell]
section
variable {w : World} {A0 A1 A2 A3 : Option Addr} {c0 c1 c2 c3 : Nat} {l0 : List S72} {l1 : List Int} {l2 l3 : List S126}
set_option maxHeartbeats 2000000 in
theorem toHeap_c {m0 : List S38} {m2 m3 : List S60} (e0 : m0 = l0.map cO) (e2 : m2 = l2.map cW) (e3 : m3 = l3.map cW) (hs : Small l0 l1 l2 l3) (h : InL w A0 c0 A1 c1 A2 c2 A3 c3 l0 l1 l2 l3) :
    Calls Try.prog 24 #[.agg #[.slice A0 l0.length c0, .slice A1 l1.length c1, .slice A2 l2.length c2, .slice A3 l3.length c3]] w fun e w' =>
      ∃ B0 d0 B1 d1 B2 d2 B3 d3, e = .returned (.agg #[.slice B0 m0.length d0, .slice B1 l1.length d1, .slice B2 m2.length d2, .slice B3 m3.length d3]) ∧
        OwnH w' w.heap.size B0 d0 B1 d1 B2 d2 B3 d3 m0 l1 m2 m3 ∧ Below w.heap.size w w' := by
  have HB := AK (below_alloc (below_alloc (below_alloc (Below.refl w.heap.size w) (.cells #[.slice A0 l0.length c0, .slice A1 l1.length c1, .slice A2 l2.length c2, .slice A3 l3.length c3] 45 (0, 0))) (.cells #[.slice none 0 0, .slice none 0 0, .slice none 0 0, .slice none 0 0] 28 (0, 0))) (.cells #[.slice none 0 0, .slice none 0 0, .slice none 0 0, .slice none 0 0] 28 (0, 0)))
  have HX := AK (blk_alloc (blk_alloc (blk_new w (.cells #[.slice A0 l0.length c0, .slice A1 l1.length c1, .slice A2 l2.length c2, .slice A3 l3.length c3] 45 (0, 0))) (.cells #[.slice none 0 0, .slice none 0 0, .slice none 0 0, .slice none 0 0] 28 (0, 0))) (.cells #[.slice none 0 0, .slice none 0 0, .slice none 0 0, .slice none 0 0] 28 (0, 0)))
  have HZ := AK (blk_alloc (blk_new1 w (.cells #[.slice A0 l0.length c0, .slice A1 l1.length c1, .slice A2 l2.length c2, .slice A3 l3.length c3] 45 (0, 0)) (.cells #[.slice none 0 0, .slice none 0 0, .slice none 0 0, .slice none 0 0] 28 (0, 0))) (.cells #[.slice none 0 0, .slice none 0 0, .slice none 0 0, .slice none 0 0] 28 (0, 0)))
  have HT := AK (blk_newC w (.cells #[.slice A0 l0.length c0, .slice A1 l1.length c1, .slice A2 l2.length c2, .slice A3 l3.length c3] 45 (0, 0)) (.cells #[.slice none 0 0, .slice none 0 0, .slice none 0 0, .slice none 0 0] 28 (0, 0)) (.cells #[.slice none 0 0, .slice none 0 0, .slice none 0 0, .slice none 0 0] 28 (0, 0)))
  have HH := AK (And.intro hs h)
  have HL := AK (show l0.length = m0.length ∧ l2.length = m2.length ∧ l3.length = m3.length by rw [e0, e2, e3, List.length_map, List.length_map, List.length_map]; exact ⟨rfl, rfl, rfl⟩)
  have HE := AK (And.intro e0 (And.intro e2 e3))
  clear hs h e0 e2 e3
  go_enter Try.func24, Try.ntmps24
  go_wp2_with fail
  generalize (((w.alloc (.cells #[.slice A0 l0.length c0, .slice A1 l1.length c1, .slice A2 l2.length c2, .slice A3 l3.length c3] 45 (0, 0))).alloc (.cells #[.slice none 0 0, .slice none 0 0, .slice none 0 0, .slice none 0 0] 28 (0, 0))).alloc (.cells #[.slice none 0 0, .slice none 0 0, .slice none 0 0, .slice none 0 0] 28 (0, 0))) = w1 at HB HX HZ HT ⊢
  refine (toObjS_c (Kd.C_below HH.out.2.r0 HB.out) HH.out.1.o (fun x hx => (HH.out.1.t x hx).2)).mono ?_
  rintro e v0 ⟨B0, d0, rfl, hr, hb⟩
  rw [HL.out.1] at hr ⊢
  rw [← HE.out.1] at hr
  have H0 := AK (S_lowerC (Kd.S_mono (Kd.S_bound hr) (ok' := fun k => k < v0.heap.size) (fun k hk => hk.2.2.1)) HB.out.size)
  have N0 := AK hb.size
  replace HB := AK (bst HB.out hb)
  replace HX := AK (bbl HX.out hb)
  replace HZ := AK (bbl HZ.out hb)
  replace HT := AK (bbl HT.out hb)
  clear hr hb
  obtain ⟨p0, p1, p2, p3⟩ := box4 HT.out
  have pf := bfz HT.out 0
  obtain ⟨q0, q1, q2, q3⟩ := box4 HX.out
  have G0 := AK (Kd.S_set H0.out HT.out (k38_ap 28 (by decide) (by decide)) 0 (.slice B0 m0.length d0))
  have GX := AK (blk_far HX.out (p := ⟨w.heap.size + 1 + 1, 0, none⟩) (show w.heap.size ≠ w.heap.size + 1 + 1 by omega) (.slice B0 m0.length d0))
  have GZ := AK (blk_far HZ.out (p := ⟨w.heap.size + 1 + 1, 0, none⟩) (show w.heap.size + 1 ≠ w.heap.size + 1 + 1 by omega) (.slice B0 m0.length d0))
  have GB := AK (below_set (j := 0) (v := (.slice B0 m0.length d0)) HB.out (show w.heap.size ≤ w.heap.size + 1 + 1 by omega))
  have GT := AK (blk_put HT.out 0 (.slice B0 m0.length d0) rfl)
  have M0 := AK (show v0.heap.size ≤ (v0.setCell ⟨w.heap.size + 1 + 1, 0, none⟩ (.slice B0 m0.length d0)).heap.size by rw [size_set]; exact Nat.le_refl _)
  go_upto_region 3 with fail
  clear p0 p1 p2 p3 pf q0 q1 q2 q3 HT HX HZ HB H0
  generalize v0.setCell ⟨w.heap.size + 1 + 1, 0, none⟩ (.slice B0 m0.length d0) = u0 at GX GZ GB GT G0 M0 ⊢
  have HB := GB; have HX := GX; have HZ := GZ; have HT := GT; have H0 := G0
  clear GB GX GZ GT G0
  obtain ⟨q0, q1, q2, q3⟩ := box4 HX.out
  go_wp2_with fail
  clear q0 q1 q2 q3
  refine (toInt_c (Kd.C_below HH.out.2.r1 HB.out) HH.out.1.r).mono ?_
  rintro e v1 ⟨B1, d1, rfl, hr, hb⟩
  replace H0 := AK (Kd.S_below H0.out hb)
  have H1 := AK (Kd.R_lower (Kd.R_mono (Kd.R_bound hr) (ok' := fun k => v0.heap.size ≤ k) (fun k hk => by have h2 := hk.2.1; have h3 := M0.out; omega)) HB.out.size)
  replace HB := AK (bst HB.out hb)
  replace HX := AK (bbl HX.out hb)
  replace HZ := AK (bbl HZ.out hb)
  replace HT := AK (bbl HT.out hb)
  clear hr hb
  obtain ⟨p0, p1, p2, p3⟩ := box4 HT.out
  have pf := bfz HT.out 1
  obtain ⟨q0, q1, q2, q3⟩ := box4 HX.out
  have G0 := AK (Kd.S_set H0.out HT.out (k38_ap 28 (by decide) (by decide)) 1 (.slice B1 l1.length d1))
  have G1 := AK (Kd.R_set H1.out HT.out (int_ap 28 (by decide)) 1 (.slice B1 l1.length d1))
  have GX := AK (blk_far HX.out (p := ⟨w.heap.size + 1 + 1, 1, none⟩) (show w.heap.size ≠ w.heap.size + 1 + 1 by omega) (.slice B1 l1.length d1))
  have GZ := AK (blk_far HZ.out (p := ⟨w.heap.size + 1 + 1, 1, none⟩) (show w.heap.size + 1 ≠ w.heap.size + 1 + 1 by omega) (.slice B1 l1.length d1))
  have GB := AK (below_set (j := 1) (v := (.slice B1 l1.length d1)) HB.out (show w.heap.size ≤ w.heap.size + 1 + 1 by omega))
  have GT := AK (blk_put HT.out 1 (.slice B1 l1.length d1) rfl)
  go_upto_region 4 with fail
  clear p0 p1 p2 p3 pf q0 q1 q2 q3 HT HX HZ HB H0 H1
  generalize v1.setCell ⟨w.heap.size + 1 + 1, 1, none⟩ (.slice B1 l1.length d1) = u1 at GX GZ GB GT G0 G1 ⊢
  have HB := GB; have HX := GX; have HZ := GZ; have HT := GT; have H0 := G0; have H1 := G1
  clear GB GX GZ GT G0 G1
  obtain ⟨q0, q1, q2, q3⟩ := box4 HX.out
  go_wp2_with fail
  clear q0 q1 q2 q3
  refine (toWatchS_c (Kd.C_below HH.out.2.r2 HB.out) (by have := HH.out.1.w; omega)).mono ?_
  rintro e v2 ⟨B2, d2, rfl, hr, hb⟩
  rw [HL.out.2.1] at hr ⊢
  rw [← HE.out.2.1] at hr
  replace H0 := AK (Kd.S_below H0.out hb)
  replace H1 := AK (Kd.R_below H1.out hb)
  have H2 := AK (Kd.R_lower (Kd.R_mono (Kd.R_bound hr) (ok' := fun k => k < v2.heap.size) (fun k hk => hk.2.2.1)) HB.out.size)
  replace HB := AK (bst HB.out hb)
  replace HX := AK (bbl HX.out hb)
  replace HZ := AK (bbl HZ.out hb)
  replace HT := AK (bbl HT.out hb)
  clear hr hb
  obtain ⟨p0, p1, p2, p3⟩ := box4 HT.out
  have pf := bfz HT.out 2
  obtain ⟨q0, q1, q2, q3⟩ := box4 HX.out
  have G0 := AK (Kd.S_set H0.out HT.out (k38_ap 28 (by decide) (by decide)) 2 (.slice B2 m2.length d2))
  have G1 := AK (Kd.R_set H1.out HT.out (int_ap 28 (by decide)) 2 (.slice B2 m2.length d2))
  have G2 := AK (Kd.R_set H2.out HT.out (k60_ap 28 (by decide)) 2 (.slice B2 m2.length d2))
  have GX := AK (blk_far HX.out (p := ⟨w.heap.size + 1 + 1, 2, none⟩) (show w.heap.size ≠ w.heap.size + 1 + 1 by omega) (.slice B2 m2.length d2))
  have GZ := AK (blk_far HZ.out (p := ⟨w.heap.size + 1 + 1, 2, none⟩) (show w.heap.size + 1 ≠ w.heap.size + 1 + 1 by omega) (.slice B2 m2.length d2))
  have GB := AK (below_set (j := 2) (v := (.slice B2 m2.length d2)) HB.out (show w.heap.size ≤ w.heap.size + 1 + 1 by omega))
  have GT := AK (blk_put HT.out 2 (.slice B2 m2.length d2) rfl)
  have M2 := AK (show v2.heap.size ≤ (v2.setCell ⟨w.heap.size + 1 + 1, 2, none⟩ (.slice B2 m2.length d2)).heap.size by rw [size_set]; exact Nat.le_refl _)
  go_upto_region 5 with fail
  clear p0 p1 p2 p3 pf q0 q1 q2 q3 HT HX HZ HB H0 H1 H2
  generalize v2.setCell ⟨w.heap.size + 1 + 1, 2, none⟩ (.slice B2 m2.length d2) = u2 at GX GZ GB GT G0 G1 G2 M2 ⊢
  have HB := GB; have HX := GX; have HZ := GZ; have HT := GT; have H0 := G0; have H1 := G1; have H2 := G2
  clear GB GX GZ GT G0 G1 G2
  obtain ⟨q0, q1, q2, q3⟩ := box4 HX.out
  go_wp2_with fail
  clear q0 q1 q2 q3
  refine (toWatchS_c (Kd.C_below HH.out.2.r3 HB.out) (by have := HH.out.1.w; omega)).mono ?_
  rintro e v3 ⟨B3, d3, rfl, hr, hb⟩
  rw [HL.out.2.2] at hr ⊢
  rw [← HE.out.2.2] at hr
  replace H0 := AK (Kd.S_below H0.out hb)
  replace H1 := AK (Kd.R_below H1.out hb)
  replace H2 := AK (Kd.R_below H2.out hb)
  have H3 := AK (Kd.R_lower (Kd.R_mono (Kd.R_bound hr) (ok' := fun k => v2.heap.size ≤ k) (fun k hk => by have h2 := hk.2.1; have h3 := M2.out; omega)) HB.out.size)
  replace HB := AK (bst HB.out hb)
  replace HX := AK (bbl HX.out hb)
  replace HZ := AK (bbl HZ.out hb)
  replace HT := AK (bbl HT.out hb)
  clear hr hb
  obtain ⟨p0, p1, p2, p3⟩ := box4 HT.out
  have pf := bfz HT.out 3
  obtain ⟨q0, q1, q2, q3⟩ := box4 HX.out
  have G0 := AK (Kd.S_set H0.out HT.out (k38_ap 28 (by decide) (by decide)) 3 (.slice B3 m3.length d3))
  have G1 := AK (Kd.R_set H1.out HT.out (int_ap 28 (by decide)) 3 (.slice B3 m3.length d3))
  have G2 := AK (Kd.R_set H2.out HT.out (k60_ap 28 (by decide)) 3 (.slice B3 m3.length d3))
  have G3 := AK (Kd.R_set H3.out HT.out (k60_ap 28 (by decide)) 3 (.slice B3 m3.length d3))
  have GX := AK (blk_far HX.out (p := ⟨w.heap.size + 1 + 1, 3, none⟩) (show w.heap.size ≠ w.heap.size + 1 + 1 by omega) (.slice B3 m3.length d3))
  have GZ := AK (blk_far HZ.out (p := ⟨w.heap.size + 1 + 1, 3, none⟩) (show w.heap.size + 1 ≠ w.heap.size + 1 + 1 by omega) (.slice B3 m3.length d3))
  have GB := AK (below_set (j := 3) (v := (.slice B3 m3.length d3)) HB.out (show w.heap.size ≤ w.heap.size + 1 + 1 by omega))
  have GT := AK (blk_put HT.out 3 (.slice B3 m3.length d3) rfl)
  go_upto_region 6 with fail
  clear p0 p1 p2 p3 pf q0 q1 q2 q3 HT HX HZ HB H0 H1 H2 H3
  generalize v3.setCell ⟨w.heap.size + 1 + 1, 3, none⟩ (.slice B3 m3.length d3) = u3 at GX GZ GB GT G0 G1 G2 G3 ⊢
  have HB := GB; have HX := GX; have HZ := GZ; have HT := GT; have H0 := G0; have H1 := G1; have H2 := G2; have H3 := G3
  clear GB GX GZ GT G0 G1 G2 G3
  obtain ⟨p0, p1, p2, p3⟩ := box4 HT.out
  obtain ⟨q0, q1, q2, q3⟩ := box4 HZ.out
  have f0 := bfz HZ.out 0
  have f1 := bfz HZ.out 1
  have f2 := bfz HZ.out 2
  have f3 := bfz HZ.out 3
  go_wp2
  refine bodyPost_ret (results_cell_row rfl _ _ (w.heap.size + 1) 28 #[.slice B0 m0.length d0, .slice B1 l1.length d1, .slice B2 m2.length d2, .slice B3 m3.length d3] (0, 0) _ rfl (set4_blk HZ.out) Try.underlying28 rfl (by kernel_rfl)) rfl ?_
  exact ⟨B0, d0, B1, d1, B2, d2, B3, d3, rfl, own_laid (set4_S H0.out HZ.out) (set4_R H1.out HZ.out (int_ap 28 (by decide))) (set4_R H2.out HZ.out (k60_ap 28 (by decide))) (set4_R H3.out HZ.out (k60_ap 28 (by decide))) (fun _ h => h) (fun _ h => h) (fun _ h => h), set4_below HB.out (by omega)⟩
end
/-- A heap that a law has made of its argument, behind its guard. -/
structure Fine (l0 : List S38) (l1 : List Int) (l2 l3 : List S60) : Prop where
  o : (l0.length : Int) ≤ 1048576
  f : ∀ x ∈ l0, Fit x
  r : (l1.length : Int) ≤ 1048576
  w : (l2.length : Int) + l3.length ≤ 1048576
theorem small_fine {l0 : List S72} {l1 : List Int} {l2 l3 : List S126} {m0 : List S38} {m2 m3 : List S60} (e0 : m0 = l0.map cO) (e2 : m2 = l2.map cW) (e3 : m3 = l3.map cW) (h : Small l0 l1 l2 l3) : Fine m0 l1 m2 m3 := by
  subst e0 e2 e3
  refine ⟨by have := h.o; rw [List.length_map]; omega, fun x hx => ?_, by have := h.r; omega, by have := h.w; rw [List.length_map, List.length_map]; omega⟩
  obtain ⟨y, hy, rfl⟩ := List.mem_map.1 hx
  have := h.t y hy
  exact ⟨by simp only [cO]; omega, by simp only [cO]; omega⟩
end Go.Proofs.Ytigjhfijkdlldaa.H
end
