/- impl.memPlaces, walked: for each object its place in the list, or -1. -/
import Derived.Test.YtigjhfijkdlldaaScoPs
import Derived.Test.YtigjhfijkdlldaaScoHre
namespace Go.Proofs.Ytigjhfijkdlldaa.H
open Go.RowKit Go.Proofs.YtigjhfijkdlldaaW.PrintWords Go.Proofs.YtigjhfijkdlldaaW.PrintLast Go.Proofs.YtigjhfijkdlldaaW.PrintMore Go.Proofs.Ytigjhfijkdlldaa.Q
set_option linter.unusedVariables false
def tabL (n : Nat) (f : Nat → Int) : List Int := (List.range n).map f
theorem tabL_length (n : Nat) (f : Nat → Int) : (tabL n f).length = n := by simp [tabL]
theorem tabL_set (n : Nat) (f : Nat → Int) (i : Nat) (v : Int) : (tabL n f).set i v = tabL n (fun j => if j = i then v else f j) := by
  refine List.ext_getElem (by simp [tabL]) (fun j h1 h2 => ?_)
  simp only [tabL, List.getElem_set, List.getElem_map, List.getElem_range]
  by_cases c : i = j
  · rw [if_pos c, if_pos c.symm]
  · rw [if_neg c, if_neg (fun h => c h.symm)]
theorem tabL_congr (n : Nat) (f g : Nat → Int) (h : ∀ j, j < n → f j = g j) : tabL n f = tabL n g :=
  List.map_congr_left (fun j hj => h j (List.mem_range.1 hj))
theorem tabL_rd (n : Nat) (f : Nat → Int) (p : Int) (h0 : 0 ≤ p) (h1 : p < n) : rd (tabL n f) p = f p.toNat := by
  have h2 : p.toNat < n := by omega
  simp [rd, tabL, List.getD_eq_getElem?_getD, h2]
theorem tabL_zero (n : Nat) : List.replicate n (0 : Int) = tabL n (fun j => if j < 0 then -1 else 0) := by
  refine List.ext_getElem (by simp [tabL]) (fun j h1 h2 => ?_)
  simp [tabL]
theorem idxL_append (a : List Int) (x p : Int) : idxL (a ++ [x]) p = if p ∈ a then idxL a p else if x = p then (a.length : Int) else -1 := by
  induction a with
  | nil => simp [idxL]
  | cons b a ih =>
    have hr := (idxL_range a p).1
    show (if b = p then 0 else if idxL (a ++ [x]) p < 0 then -1 else idxL (a ++ [x]) p + 1) = _
    by_cases c : b = p
    · subst c; simp [idxL]
    · have c' : ¬ p = b := fun h => c h.symm
      rw [if_neg c, ih]
      by_cases d : p ∈ a
      · have hm : p ∈ b :: a := List.mem_cons_of_mem _ d
        rw [if_pos d, if_pos hm]
        conv => rhs; unfold idxL
        rw [if_neg c]
      · have hm : ¬ p ∈ b :: a := by simp [c', d]
        rw [if_neg d, if_neg hm]
        by_cases e : x = p
        · rw [if_pos e, if_pos e, if_neg (by omega)]; simp
        · rw [if_neg e, if_neg e]; rfl
theorem idxL_take (l : List Int) (hn : l.Nodup) (i : Int) (h0 : 0 ≤ i) (h1 : i < l.length) (p : Int) : idxL (l.take (i + 1).toNat) p = if p = rd l i then i else idxL (l.take i.toNat) p := by
  have h2 : i.toNat < l.length := by omega
  have e1 : rd l i = l[i.toNat] := by simp [rd, List.getD_eq_getElem?_getD, h2]
  have hni : rd l i ∉ l.take i.toNat := by
    rw [e1]; intro hm
    obtain ⟨j, hj, he⟩ := List.mem_iff_getElem.1 hm
    rw [List.length_take] at hj
    rw [List.getElem_take] at he
    have := (List.getElem_inj (h₀ := by omega) (h₁ := h2) hn).1 he
    omega
  rw [show (i + 1).toNat = i.toNat + 1 by omega, List.take_add_one, List.getElem?_eq_getElem h2, ← e1]
  show idxL (l.take i.toNat ++ [rd l i]) p = _
  rw [idxL_append]
  by_cases c : p = rd l i
  · subst c; rw [if_neg hni, if_pos rfl, if_pos rfl, List.length_take]; omega
  · rw [if_neg c]
    by_cases d : p ∈ l.take i.toNat
    · rw [if_pos d]
    · rw [if_neg d, if_neg (fun h => c h.symm)]
      have := (idxL_neg _ _).2 d
      have := (idxL_range (l.take i.toNat) p).1
      omega
/-- The places of the objects of a list. -/
def plL (n : Nat) (l : List Int) : List Int := tabL n (fun p => idxL l p)
theorem plL_length (n : Nat) (l : List Int) : (plL n l).length = n := tabL_length ..
theorem plL_rd (n : Nat) (l : List Int) (p : Int) (h0 : 0 ≤ p) (h1 : p < n) : rd (plL n l) p = idxL l p := by
  unfold plL; rw [tabL_rd _ _ _ h0 h1, Int.toNat_of_nonneg h0]
set_option maxHeartbeats 4000000 in
set_option maxRecDepth 100000 in
theorem memPlaces_calls (A0 A1 A2 A3 B : Option Addr) (c0 c1 c2 c3 d : Nat) (l0 : List S38) (l1 : List Int) (l2 l3 : List S60) (l : List Int) (w : World) (h : InH w A0 c0 A1 c1 A2 c2 A3 c3 l0 l1 l2 l3)
    (hl : Kd.C (Kd.int .i64) w B l.length l) (hd : l.length ≤ d) (hg : GoodL l0.length l) (hn : l0.length ≤ 60) :
    Calls Try.prog 68 #[.agg #[.slice A0 l0.length c0, .slice A1 l1.length c1, .slice A2 l2.length c2, .slice A3 l3.length c3], .slice B l.length d] w fun e w' =>
      ∃ v : Value, e = .returned v ∧ Kd.R (Kd.int .i64) 3 w' w.heap.size (fun _ => True) v (plL l0.length l) ∧ Below w.heap.size w w' := by
  have HL := AK hl
  have HD := AK hd
  have HG := AK hg
  have HN := AK hn
  have HLN := AK (nodup_len _ _ hg)
  have HB := AK (below_alloc (Below.refl w.heap.size w) (.cells #[.slice A0 l0.length c0, .slice A1 l1.length c1, .slice A2 l2.length c2, .slice A3 l3.length c3] 28 (0, 0)))
  have c2b1 : decide (0 ≤ (l0.length : Int)) = true := deT (by omega)
  clear h hl hd hg hn
  go_enter Try.func68, Try.ntmps68
  go_wp2_with (first | ((with_reducible refine gate_dst (N := 12) rfl ?_); refine Kd.R_make (Kd.int .i64) _ 3 rfl (N := 12) rfl 25 _ _ rfl (l0.length : Int) rfl rfl Try.underlying25 (.int .i64 0) 8 info3 rfl (by decide) (by omega) 0 (ok := fun _ => True) (okp := fun _ => True) rfl (fun _ hk => hk) trivial (by omega) (by have := HN.out; omega) (Below.refl _ _) (Nat.le_refl _) ?_; intro v5 w4 ho5 hb hg_ hnew_; clear hg_ hnew_; have HB4 := AK (bst HB.out hb); rw [show (l0.length : Int).toNat = l0.length by omega, tabL_zero] at ho5; have HO4 := AK (Kd.R_lower ho5 HB.out.size); obtain ⟨Ao, co, e⟩ := Kd.R_slice ho5; rw [tabL_length] at e; subst e; clear ho5 hb))
  go_loopg [15] l0.length (fun kq v15 w' => ∃ y : Int, v15 = .int .i64 y ∧ Aside0 (0 ≤ y ∧ y + kq = l0.length) ∧ Aside0 (Kd.R (Kd.int .i64) 3 w' w.heap.size (fun _ => True) (.slice Ao l0.length co) (tabL l0.length (fun j => if j < y.toNat then -1 else 0))) ∧ Aside0 (Below w.heap.size w w'))
  case atStart => exact ⟨0, rfl, ⟨by omega, by omega⟩, HO4, HB4⟩
  case round =>
    clear HO4 HB4
    obtain ⟨y, rfl, HY, HO, HB⟩ := hrel
    cases gk with
    | succ k1 =>
      have c4b : decide (y < (l0.length : Int)) = true := deT (by have := HY.out; omega)
      have e4a := eq_true (show 0 ≤ y by have := HY.out; omega)
      have e4b := eq_true (show y < (l0.length : Int) by have := HY.out; omega)
      obtain ⟨go5, co5, eo5, gb5, gl5, cl5, HG5⟩ := Kd.R_form HO.out (by rw [tabL_length]; have := HY.out; omega)
      injection eo5 with ea_ en_ ec_
      subst ea_
      clear en_ ec_ gl5 HG5
      have GB5 := AK gb5
      obtain ⟨hx5, hf5⟩ := Kd.R_celln 0 HO.out y (by have := HY.out; omega) (by have := HY.out; omega)
      have HP7 := Kd.R_putg HO.out y (-1)
      go_wp2_with (first | ((with_reducible refine gate_store (t := 3) (p := 20) rfl ?_); refine store_event (t := 3) (p := 20) (v := ?vo_w8) (w1 := (wr.setCell ⟨go5, y.toNat, none⟩ (.int .i64 (-1)))) ?hg ?ho ?hn ?hr ?_; (case ho => rfl); (case hg => rfl); (case hn => rfl); (case hr => first | (go_simp; done) | (go_simp; rfl)); intro w8 hw; have HP8 := AK (show Kd.R (Kd.int .i64) 3 w8 w.heap.size (fun _ => True) (.slice (some ⟨go5, 0, none⟩) l0.length co) ((tabL l0.length (fun j => if j < y.toNat then -1 else 0)).set y.toNat (-1)) by rw [hw]; exact HP7.1); have HB8 := AK (show Below w.heap.size w w8 by rw [hw]; exact below_set HB.out GB5.out); clear HP7 hw))
      go_roundg k1
      case measure => omega
      case rel =>
        have h1 := HY.out
        have h2 := HN.out
        rw [wrap_succ y (by omega) (by omega)]
        refine ⟨y + 1, rfl, ⟨by omega, by omega⟩, ⟨?_⟩, HB8⟩
        have h3 := HP8.out
        rw [tabL_set] at h3
        rwa [tabL_congr _ _ (fun j => if j < (y + 1).toNat then -1 else 0) (fun j hj => by
          by_cases c : j = y.toNat
          · rw [if_pos c, if_pos (by omega)]
          · rw [if_neg c]
            by_cases e : j < y.toNat
            · rw [if_pos e, if_pos (by omega)]
            · rw [if_neg e, if_neg (by omega)])] at h3
    | zero =>
      have c4b : decide (y < (l0.length : Int)) = false := deF (by have := HY.out; omega)
      have HO1 := AK (show Kd.R (Kd.int .i64) 3 wr w.heap.size (fun _ => True) (.slice Ao l0.length co) (plL l0.length (l.take (0 : Int).toNat)) by
        have h1 := HO.out
        rwa [tabL_congr _ _ (fun j => idxL (l.take (0 : Int).toNat) j) (fun j hj => by have := HY.out; rw [if_pos (by omega)]; rfl)] at h1)
      go_wp2
      have HB1 := HB
      go_loopg [24] l.length (fun kq v24 w' => ∃ y : Int, v24 = .int .i64 y ∧ Aside0 (0 ≤ y ∧ y + kq = l.length) ∧ Aside0 (Kd.R (Kd.int .i64) 3 w' w.heap.size (fun _ => True) (.slice Ao l0.length co) (plL l0.length (l.take y.toNat))) ∧ Aside0 (Below w.heap.size w w'))
      case atStart => exact ⟨0, rfl, ⟨by omega, by omega⟩, HO1, HB1⟩
      case round =>
        clear HO1 HB1 HO HB
        obtain ⟨i, rfl, HI, HO, HB⟩ := hrel
        cases gk with
        | succ k2 =>
          have hp := HG.out.2 _ (getD_mem l 0 i (by have := HI.out; omega) (by have := HI.out; omega))
          have c5b : decide (i < (l.length : Int)) = true := deT (by have := HI.out; omega)
          have e5a := eq_true (show 0 ≤ i by have := HI.out; omega)
          have e5b := eq_true (show i < (l.length : Int) by have := HI.out; omega)
          obtain ⟨ad2, e, hz⟩ := Kd.at_int HL.out i (by have := HI.out; omega) (by have := HI.out; omega)
          subst e
          replace hz := pcb HB.out hz
          obtain ⟨p, ep⟩ : ∃ p, p = rd l i := ⟨_, rfl⟩
          have EP := AK ep
          rw [← ep] at hz
          have hp' : 0 ≤ p ∧ p < l0.length := by rw [ep]; exact hp
          have e6a := eq_true hp'.1
          have e6b := eq_true hp'.2
          have HPP := AK hp'
          clear ep hp
          obtain ⟨go5, co5, eo5, gb5, gl5, cl5, HG5⟩ := Kd.R_form HO.out (by rw [plL_length]; omega)
          injection eo5 with ea_ en_ ec_
          subst ea_
          clear en_ ec_ gl5 HG5
          have GB5 := AK gb5
          obtain ⟨hx5, hf5⟩ := Kd.R_celln 0 HO.out p hp'.1 hp'.2
          have HP7 := Kd.R_putg HO.out p i
          clear hp'
          have HP8 := AK HP7.1
          have HB8 := AK (below_set (v := .int .i64 i) (j := p.toNat) HB.out GB5.out)
          clear HP7
          go_wp2
          go_roundg k2
          case measure => omega
          case rel =>
            have h1 := HI.out
            have h2 := HN.out
            have h4 := HLN.out
            rw [wrap_succ i (by omega) (by omega)]
            refine ⟨i + 1, rfl, ⟨by omega, by omega⟩, ⟨?_⟩, HB8⟩
            have h3 := HP8.out
            have h5 := HPP.out
            unfold plL at h3 ⊢
            rw [tabL_set] at h3
            rwa [tabL_congr _ _ (fun (j : Nat) => idxL (l.take (i + 1).toNat) j) (fun j hj => by
              rw [idxL_take l HG.out.1 i (by omega) (by omega), ← EP.out]
              by_cases c : j = p.toNat
              · rw [if_pos c, if_pos (by omega)]
              · rw [if_neg c, if_neg (by omega)])] at h3
        | zero =>
          have c5b : decide (i < (l.length : Int)) = false := deF (by have := HI.out; omega)
          go_wp2
          go_ret
          exact ⟨_, rfl, by have h1 := HO.out; rwa [take_all _ _ (by have := HI.out; omega)] at h1, HB.out⟩
end Go.Proofs.Ytigjhfijkdlldaa.H
