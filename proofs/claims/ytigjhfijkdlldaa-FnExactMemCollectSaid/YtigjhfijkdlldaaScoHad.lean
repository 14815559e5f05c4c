/- memReach's closure 'add': what it does to the list and to the marks. -/
import Derived.Test.YtigjhfijkdlldaaScoC
namespace Go.Proofs.Ytigjhfijkdlldaa.H
open Go.RowKit Go.Proofs.YtigjhfijkdlldaaW.PrintWords Go.Proofs.YtigjhfijkdlldaaW.PrintLast Go.Proofs.YtigjhfijkdlldaaW.PrintMore Go.Proofs.Ytigjhfijkdlldaa.Q
set_option linter.unusedVariables false
def putL (l : List Int) (p : Int) : List Int := if p < 0 then l else if p ∈ l then l else l ++ [p]
structure RInv (w0 w : World) (gh go gt : Nat) (hc : Array Value) (n : Nat) (out : List Int) : Prop where
  bel : Below w0.heap.size w0 w
  hh : w.heap[gh]? = some (.cells hc 28 (0, 0))
  ho : ∃ v, w.heap[go]? = some (.cells #[v] 25 (0, 0)) ∧ Kd.R (Kd.int .i64) 3 w w0.heap.size (fun _ => True) v out
  ht : ∃ v bs, w.heap[gt]? = some (.cells #[v] 122 (0, 0)) ∧ Kd.R Kd.bool 4 w w0.heap.size (fun _ => True) v bs ∧ bs.length = n ∧ ∀ i : Int, 0 ≤ i → i < n → rdOf false bs i = decide (i ∈ out)
  go : w0.heap.size ≤ go
theorem RInv.below {w0 w w1 : World} {gh go gt : Nat} {hc : Array Value} {n : Nat} {out : List Int} (h : RInv w0 w gh go gt hc n out) (hb : Below w.heap.size w w1) : RInv w0 w1 gh go gt hc n out := by
  obtain ⟨h1, h2, ⟨v, h3, h4⟩, ⟨u, bs, h5, h6, h7, h8⟩, h9⟩ := h
  exact ⟨bst h1 hb, bbl h2 hb, ⟨v, bbl h3 hb, Kd.R_below h4 hb⟩, ⟨u, bs, bbl h5 hb, Kd.R_below h6 hb, h7, h8⟩, h9⟩
theorem rdOf_set (bs : List Bool) (i j : Int) (h0 : 0 ≤ i) (h1 : i < bs.length) (h2 : 0 ≤ j) (b : Bool) : rdOf false (bs.set i.toNat b) j = if i = j then b else rdOf false bs j := by
  unfold rdOf
  rw [List.getD_eq_getElem?_getD, List.getD_eq_getElem?_getD, List.getElem?_set]
  by_cases h : i = j
  · subst h; rw [if_pos rfl, if_pos rfl, if_pos (by omega)]; rfl
  · rw [if_neg (by omega), if_neg h]
theorem ne_typed {w : World} {g g' t t' : Nat} {cs cs' : Array Value} (h : w.heap[g]? = some (.cells cs t (0, 0))) (h' : w.heap[g']? = some (.cells cs' t' (0, 0))) (ht : t ≠ t') : some g ≠ some g' :=
  fun he => blk_ne h h' ht (Option.some.inj he)
theorem below_grown' {w0 w w1 : World} {g : Nat} (h : Below w0.heap.size w0 w) (hg : w.grownBy w1 (some g)) (hg' : w0.heap.size ≤ g) : Below w0.heap.size w0 w1 :=
  h.grown hg h.size (fun k hk => by cases hk; exact hg')
theorem ne_own {α : Type} {d : Kd α} {e base : Nat} {ok : Nat → Prop} {w : World} {g t : Nat} {cs : Array Value} {v : Value} {xs : List α} (hv : d.R e w base ok v xs) (h : w.heap[g]? = some (.cells cs t (0, 0))) (ht : t ≠ e) : some g ≠ v.ownBlock := by
  intro he
  obtain ⟨cells, hc⟩ := Kd.R_typed hv g he.symm
  exact blk_ne h hc ht rfl
set_option maxHeartbeats 1000000 in
set_option maxRecDepth 100000 in
theorem add_calls (p : Int) (w0 w : World) (gh go gt : Nat) (hc : Array Value) (n : Nat) (out : List Int) (h : RInv w0 w gh go gt hc n out) (hp : p < n) (hlen : out.length ≤ 1048576) :
    Calls Try.prog 113 #[.int .i64 p, .pointer (some ⟨gt, 0, none⟩), .pointer (some ⟨go, 0, none⟩)] w fun e w' => e = .returned (.tuple #[]) ∧ RInv w0 w' gh go gt hc n (putL out p) := by
  have HI := AK h
  by_cases c : p < 0
  · have cb : decide (0 ≤ p) = false := deF (by omega)
    have e : putL out p = out := by unfold putL; rw [if_pos c]
    rw [e]
    clear c e h
    go_enter Try.func113, Try.ntmps113
    go_wp2
    go_end0
    exact ⟨rfl, HI.out⟩
  have c0 := eq_true (show 0 ≤ p by omega)
  have c1 := eq_true (show p < (n : Int) from hp)
  have cb : decide (0 ≤ p) = true := deT (by omega)
  obtain ⟨h1, h2, ⟨v, h3, h4⟩, ⟨u, bs, h5, h6, h7, h8⟩, h9⟩ := h
  obtain ⟨Ao, co, rfl⟩ := Kd.R_slice h4
  have hz : 0 < bs.length := by omega
  obtain ⟨gm, cm, rfl, m1, m2, cells, m3⟩ := Kd.R_form h6 hz
  subst h7
  have hmem := h8 p (by omega) (by omega)
  obtain ⟨x0, f0⟩ := Kd.R_celln (enc := Value.bool) (h1 := fun _ => rfl) false h6 p (by omega) (by omega)
  have q0 := (box1 h3).1
  have q1 := (box1 h5).1
  have HC := AK c
  clear c hp
  by_cases d : p ∈ out
  · rw [hmem, deT d] at x0
    have e : putL out p = out := by unfold putL; rw [if_neg HC.out, if_pos d]
    rw [e]
    clear e d h1 h2 h3 h4 h5 h6 h8 h9 hmem
    go_enter Try.func113, Try.ntmps113
    go_wp2
    go_end0
    exact ⟨rfl, HI.out⟩
  · rw [hmem, deF d] at x0
    have e : putL out p = out ++ [p] := by unfold putL; rw [if_neg HC.out, if_neg d]
    rw [e]
    have HD := AK d
    have HB := AK h1
    have HH := AK h2
    have HV := AK h4
    have HO := AK h3
    have HT := AK h5
    have HM := AK h6
    have H8 := AK h8
    have H9 := AK h9
    have HL := AK hlen
    have M2 := AK m1
    have M3 := AK m3
    have HP := AK (Kd.R_putg h6 p true)
    clear e d h1 h2 h3 h4 h5 h6 h8 h9 hmem m1 m2 m3 HI hlen
    go_enter Try.func113, Try.ntmps113
    go_wp2_with (first | ((with_reducible refine gate_store (t := 4) (p := 15) rfl ?_); refine store_event (t := 4) (p := 15) (v := ?vo1) (w1 := w.setCell ⟨gm, p.toNat, none⟩ (.bool true)) ?hg ?ho ?hn ?hr ?_; (case ho => rfl); (case hg => rfl); (case hn => rfl); (case hr => first | (go_simp; done) | (go_simp; rfl)); intro w2 hw; have hg2 : w.grownBy w2 (some gm) := (by rw [hw]; exact HP.out.2); have HM2 := AK (show Kd.R Kd.bool 4 w2 w0.heap.size (fun _ => True) (.slice (some ⟨gm, 0, none⟩) bs.length cm) (bs.set p.toNat true) by rw [hw]; exact HP.out.1); have HB2 := AK (below_grown' HB.out hg2 M2.out); have HH2 := AK (blk_grown HH.out hg2 (ne_typed HH.out M3.out (by decide))); have HO2 := AK (blk_grown HO.out hg2 (ne_typed HO.out M3.out (by decide))); have HT2 := AK (blk_grown HT.out hg2 (ne_typed HT.out M3.out (by decide))); have HV2 := AK (Kd.R_over' (v := .slice (some ⟨gm, 0, none⟩) bs.length cm) HV.out (Kd.R_typed HM.out) (by decide) hg2); clear hw hg2; clear HB HH HO HT HV HM; have q2 := (box1 HO2.out).1) | ((with_reducible refine gate_builtin (b := .append) (xs := #[.tmp 16, .tmp 18]) rfl ?_); at_builtin; refine Kd.R_append (Kd.int .i64) (w0 := w0) w0.heap.size rfl (.tmp 16) (.tmp 18) 25 3 (.int .i64 0) 8 rfl Try.underlying25 info3 rfl (by decide) (by omega) (.slice Ao out.length co) out p [.int .i64 p] (fun _ => True) (fun _ => False) rfl rfl ?aP (fun _ hk => hk.elim) (fun _ _ => trivial) HV2.out HB2.out HB2.out.size ?aL ?_; (case aP => exact rfl); (case aL => have := HL.out; omega); intro v3 w3 ho hb hg hat; obtain ⟨A3, c3, hv3⟩ := Kd.R_slice ho; subst hv3; have HV3 := AK ho; have HB3 := AK hb; have HH3 := AK (blk_grown HH2.out hg (ne_own HV2.out HH2.out (by decide))); have HO3 := AK (blk_grown HO2.out hg (ne_own HV2.out HO2.out (by decide))); have HT3 := AK (blk_grown HT2.out hg (ne_own HV2.out HT2.out (by decide))); have HM3 := AK (Kd.R_over' HM2.out (Kd.R_typed HV2.out) (by decide) hg); clear ho hb hg hat; clear HV2 HB2 HH2 HO2 HT2 HM2; have q3 := (box1 HO3.out).1; have f3 := (box1 HO3.out).2))
    go_end0
    have H9' := H9.out
    refine ⟨rfl, ⟨HB3.out.setCell H9' _, blk_far HH3.out (blk_ne HH3.out HO3.out (by decide)) _, ⟨_, one_setCell HO3.out, by have z := Kd.R_set HV3.out HO3.out (by decide) 0 (.slice A3 (out.length + 1) c3); rw [List.length_append] at z; exact z⟩, ⟨_, _, blk_far HT3.out (blk_ne HT3.out HO3.out (by decide)) _, Kd.R_set HM3.out HO3.out (by decide) 0 _, by rw [List.length_set], fun i i0 i1 => ?_⟩, H9'⟩⟩
    have hc0 := HC.out
    rw [rdOf_set bs p i (by omega) (of_eq_true c1) i0, H8.out i i0 i1]
    by_cases hi : p = i
    · subst hi; simp
    · rw [if_neg hi]; simp [Ne.symm hi]
end Go.Proofs.Ytigjhfijkdlldaa.H
