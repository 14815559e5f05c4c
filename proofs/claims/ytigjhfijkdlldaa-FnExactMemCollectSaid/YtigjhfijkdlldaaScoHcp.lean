/- impl.memCopy, walked: a heap of its own that holds what came in. Condition: sizes. -/
import Derived.Test.YtigjhfijkdlldaaScoV
namespace Go.Proofs.Ytigjhfijkdlldaa.H
open Go.RowKit Go.Proofs.YtigjhfijkdlldaaW.PrintWords Go.Proofs.YtigjhfijkdlldaaW.PrintLast Go.Proofs.YtigjhfijkdlldaaW.PrintMore Go.Proofs.Ytigjhfijkdlldaa.Q
set_option linter.unusedVariables false
set_option linter.unusedSimpArgs false
/-- A copy under way: the argument's box, the answer's box, the copy's box. -/
structure CI (w : World) (XA : Array Value) (l : List S38) (w' : World) : Prop where
 b : Below w.heap.size w w'
 x : w'.heap[w.heap.size]? = some (.cells XA 28 (0, 0))
 z : w'.heap[w.heap.size + 1]? = some (.cells #[.slice none 0 0, .slice none 0 0, .slice none 0 0, .slice none 0 0] 28 (0, 0))
 o : ∃ v, w'.heap[w.heap.size + 1 + 1]? = some (.cells #[v, .slice none 0 0, .slice none 0 0, .slice none 0 0] 28 (0, 0)) ∧ Kd.S k38 38 w' w.heap.size (fun _ => True) v l
theorem CI.below {w : World} {XA : Array Value} {l : List S38} {w1 w2 : World} (h : CI w XA l w1) (hb : Below w1.heap.size w1 w2) : CI w XA l w2 := by
 obtain ⟨v, h1, h2⟩ := h.o
 exact ⟨bst h.b hb, bbl h.x hb, bbl h.z hb, v, bbl h1 hb, Kd.S_below h2 hb⟩
theorem CI.push {w W w1 : World} {XA : Array Value} {l : List S38} {v v1 : Value} {o : S38} (h : CI w XA l W) (hv : W.heap[w.heap.size + 1 + 1]? = some (.cells #[v, .slice none 0 0, .slice none 0 0, .slice none 0 0] 28 (0, 0))) (hS : Kd.S k38 38 W w.heap.size (fun _ => True) v l)
  (hs : Kd.S k38 38 w1 w.heap.size (fun _ => True) v1 (l ++ [o])) (hb : Below w.heap.size w w1) (hg : W.grownBy w1 v.ownBlock) : CI w XA (l ++ [o]) (w1.setCell ⟨w.heap.size + 1 + 1, 0, none⟩ v1) := by
 have hx := blk_grown h.x hg (Kd.S_ne hS h.x (by decide))
 have hz := blk_grown h.z hg (Kd.S_ne hS h.z (by decide))
 have ho := blk_grown hv hg (Kd.S_ne hS hv (by decide))
 exact ⟨below_set hb (by omega), blk_far hx (p := ⟨w.heap.size + 1 + 1, 0, none⟩) (show w.heap.size ≠ w.heap.size + 1 + 1 by omega) _, blk_far hz (p := ⟨w.heap.size + 1 + 1, 0, none⟩) (show w.heap.size + 1 ≠ w.heap.size + 1 + 1 by omega) _, v1, blk_set ho 0 v1, Kd.S_set hs ho (k38_ap 28 (by decide) (by decide)) 0 v1⟩
theorem CI.new (w : World) (XA : Array Value) : CI w XA [] (((w.alloc (.cells XA 28 (0, 0))).alloc (.cells #[.slice none 0 0, .slice none 0 0, .slice none 0 0, .slice none 0 0] 28 (0, 0))).alloc (.cells #[.slice none 0 0, .slice none 0 0, .slice none 0 0, .slice none 0 0] 28 (0, 0))) :=
 ⟨below_alloc (below_alloc (below_alloc (Below.refl _ _) _) _) _, blk_alloc (blk_alloc (blk_new w _) _) _, blk_alloc (blk_new1 w _ _) _, _, blk_new3 w _ _ _, Kd.S_nil _ _ _ _ _⟩
/-- The copy's objects are laid; its lists follow. -/
structure CE (w : World) (XA : Array Value) (l : List S38) (n : Nat) (v : Value) (cs : Array Value) (w' : World) : Prop where
 b : Below w.heap.size w w'
 x : w'.heap[w.heap.size]? = some (.cells XA 28 (0, 0))
 z : w'.heap[w.heap.size + 1]? = some (.cells #[.slice none 0 0, .slice none 0 0, .slice none 0 0, .slice none 0 0] 28 (0, 0))
 o : w'.heap[w.heap.size + 1 + 1]? = some (.cells cs 28 (0, 0))
 s : Kd.S k38 38 w' w.heap.size (fun k => k < n) v l
theorem CE.below {w : World} {XA cs : Array Value} {l : List S38} {n : Nat} {v : Value} {w1 w2 : World} (h : CE w XA l n v cs w1) (hb : Below w1.heap.size w1 w2) : CE w XA l n v cs w2 :=
 ⟨bst h.b hb, bbl h.x hb, bbl h.z hb, bbl h.o hb, Kd.S_below h.s hb⟩
theorem CE.set {w : World} {XA cs : Array Value} {l : List S38} {n : Nat} {v : Value} {w1 : World} (h : CE w XA l n v cs w1) (j : Nat) (u : Value) (cs' : Array Value) (e : cs.setIfInBounds j u = cs') : CE w XA l n v cs' (w1.setCell ⟨w.heap.size + 1 + 1, j, none⟩ u) :=
 ⟨below_set h.b (by omega), blk_far h.x (p := ⟨w.heap.size + 1 + 1, j, none⟩) (show w.heap.size ≠ w.heap.size + 1 + 1 by omega) _, blk_far h.z (p := ⟨w.heap.size + 1 + 1, j, none⟩) (show w.heap.size + 1 ≠ w.heap.size + 1 + 1 by omega) _, blk_put h.o j u e, Kd.S_set h.s h.o (k38_ap 28 (by decide) (by decide)) j u⟩
theorem CI.ends {w : World} {XA : Array Value} {l : List S38} {w1 : World} (h : CI w XA l w1) : ∃ A c, CE w XA l w1.heap.size (.slice A l.length c) #[.slice A l.length c, .slice none 0 0, .slice none 0 0, .slice none 0 0] w1 := by
 obtain ⟨v, h1, h2⟩ := h.o
 obtain ⟨A, c, rfl⟩ := Kd.S_slice h2
 exact ⟨A, c, h.b, h.x, h.z, h1, Kd.S_mono (Kd.S_bound h2) (fun k hk => hk.2.2.1)⟩
set_option maxHeartbeats 4000000 in
set_option maxRecDepth 100000 in
theorem memCopy_calls (A0 A1 A2 A3 : Option Addr) (c0 c1 c2 c3 : Nat) (l0 : List S38) (l1 : List Int) (l2 l3 : List S60) (w : World) (h : InH w A0 c0 A1 c1 A2 c2 A3 c3 l0 l1 l2 l3) (hl : Lim l0 l1 l2 l3) :
  Calls Try.prog 64 #[.agg #[.slice A0 l0.length c0, .slice A1 l1.length c1, .slice A2 l2.length c2, .slice A3 l3.length c3]] w fun e w' =>
   ∃ B0 d0 B1 d1 B2 d2 B3 d3, e = .returned (.agg #[.slice B0 l0.length d0, .slice B1 l1.length d1, .slice B2 l2.length d2, .slice B3 l3.length d3]) ∧
    OwnH w' w.heap.size B0 d0 B1 d1 B2 d2 B3 d3 l0 l1 l2 l3 ∧ Below w.heap.size w w' := by
 have HI0 := AK h
 have HL := AK hl
 have HC := AK (CI.new w #[.slice A0 l0.length c0, .slice A1 l1.length c1, .slice A2 l2.length c2, .slice A3 l3.length c3])
 clear h hl
 go_enter Try.func64, Try.ntmps64
 go_wp2_with fail
 generalize (((w.alloc (.cells #[.slice A0 l0.length c0, .slice A1 l1.length c1, .slice A2 l2.length c2, .slice A3 l3.length c3] 28 (0, 0))).alloc (.cells #[.slice none 0 0, .slice none 0 0, .slice none 0 0, .slice none 0 0] 28 (0, 0))).alloc (.cells #[.slice none 0 0, .slice none 0 0, .slice none 0 0, .slice none 0 0] 28 (0, 0))) = w1 at HC ⊢
 go_loopg [9] l0.length (fun kq v9 w' => ∃ i : Int, v9 = .int .i64 i ∧ Aside0 (0 ≤ i ∧ i + kq = l0.length) ∧ Aside0 (CI w #[.slice A0 l0.length c0, .slice A1 l1.length c1, .slice A2 l2.length c2, .slice A3 l3.length c3] (l0.take i.toNat) w'))
 case atStart => exact ⟨0, rfl, ⟨by omega, by omega⟩, HC⟩
 case round =>
  clear HC
  obtain ⟨i, rfl, HI, HC⟩ := hrel
  cases gk with
  | succ k1 =>
   have c10 : decide (i < (l0.length : Int)) = true := deT (by have := HI.out; omega)
   have hi0 := eq_true (show 0 ≤ i by have := HI.out; omega)
   have hi1 := eq_true (show i < (l0.length : Int) by have := HI.out; omega)
   obtain ⟨ad0, Ao, co, e, ha0, ha1, ha2, hal, hag⟩ := at_T38 (HI0.out.below HC.out.b).r0 i (by have := HI.out; omega) (by have := HI.out; omega)
   subst e
   have HT := AK (show l0.take (i + 1).toNat = l0.take i.toNat ++ [rd_T38 l0 i] by
    rw [show (i + 1).toNat = i.toNat + 1 by have := HI.out; omega, List.take_add_one, List.getElem?_eq_getElem (by have := HI.out; omega)]
    simp [rd_T38, List.getD_eq_getElem?_getD, List.getElem?_eq_getElem (show i.toNat < l0.length by have := HI.out; omega)])
   obtain ⟨o, eo⟩ : ∃ o, o = rd_T38 l0 i := ⟨_, rfl⟩
   have HOL := AK (show o.f2.length ≤ 1048576 by rw [eo]; exact HL.out.f _ (getD_mem l0 z38 i (by have := HI.out; omega) (by have := HI.out; omega)))
   rw [← eo] at ha0 ha1 ha2 hal hag HT
   have HG := AK (And.intro hag hal)
   clear eo hal hag
   obtain ⟨l, el⟩ : ∃ l, l = l0.take i.toNat := ⟨_, rfl⟩
   rw [← el] at HC HT
   have HLL := AK (show l.length ≤ 1048576 by rw [el, List.length_take]; have := HL.out.o; omega)
   obtain ⟨l', el'⟩ : ∃ l', l' = l ++ [o] := ⟨_, rfl⟩
   rw [← el'] at HT
   have EL := AK el'
   clear el el'
   obtain ⟨v, hv, hS⟩ := HC.out.o
   obtain ⟨Ov, cv, e⟩ := Kd.S_slice hS
   subst e
   have HV := AK (And.intro hv hS)
   have HB := AK (Below.refl wr.heap.size wr)
   clear hv hS
   go_wp2_with (first | ((with_reducible refine gate_dst (N := 15) rfl ?_); at_builtin; refine copy_rows (Kd.int .i64) rfl (.const (.slice none 0 0)) (.tmp 14) 25 3 (.int .i64 0) 8 rfl Try.underlying25 info3 rfl (by decide) (by omega) o.f2 Ao co rfl rfl (Kd.C_below HG.out.1 (below_alloc (Below.refl _ _) _)) (fun _ _ h => h) (by have := HOL.out; omega) ?_; intro v15 w15 hr hb; obtain ⟨Rv, dv, e⟩ := Kd.R_slice hr; subst e; have K5 := AK (bbl (blk_new wr _) hb); have HR := AK hr; replace HB := AK (bst (below_alloc HB.out _) hb); clear hr hb; obtain ⟨z0, z1, z2⟩ := box3 K5.out; have y2 := bfz K5.out 2; have p0 := (box4 (bbl HV.out.1 HB.out)).1; have hne := Nat.ne_of_gt (blk_lt HV.out.1)) | ((with_reducible refine gate_store (t := 25) (p := 16) (v := .tmp 15) rfl ?_); refine skip_event (W1 := ?_) rfl rfl ?hr ?_; (case hr => go_simp; rfl); have N1 := AK (show (w15.setCell ⟨wr.heap.size, 2, none⟩ (.slice Rv o.f2.length dv)).heap[wr.heap.size]? = some (.cells #[.int .i64 o.f0, .string o.f1, .slice Rv o.f2.length dv] 38 (0, 0)) from blk_set K5.out 2 _); have N2 := AK (Kd.R_mono (Kd.R_bound (Kd.R_lower (base' := w.heap.size) (Kd.R_mono (Kd.R_bound (Kd.R_set HR.out K5.out (int_ap 38 (by decide)) 2 (.slice Rv o.f2.length dv))) (ok' := fun k => wr.heap.size < k) (fun k hk => Nat.lt_of_lt_of_le (Nat.lt_succ_self _) (show wr.heap.size + 1 ≤ k by have h1 := hk.2.1; rwa [show (wr.alloc (.cells #[.int .i64 o.f0, .string o.f1, .slice Ao o.f2.length co] 38 (0, 0))).heap.size = wr.heap.size + 1 from Array.size_push ..] at h1))) (Nat.le_trans HC.out.b.size (below_alloc (Below.refl _ _) _).size))) (ok' := fun k => wr.heap.size < k) (fun k hk => hk.1)); replace HB := AK (below_set (j := 2) (v := .slice Rv o.f2.length dv) HB.out (Nat.le_refl wr.heap.size)); clear K5 HR z0 z1 z2 y2 p0; generalize (w15.setCell ⟨wr.heap.size, 2, none⟩ (.slice Rv o.f2.length dv)) = w16 at N1 N2 HB ⊢; have K5 := N1; have HR := N2; clear N1 N2; obtain ⟨z0, z1, z2⟩ := box3 K5.out; have p0 := (box4 (bbl HV.out.1 HB.out)).1) | ((with_reducible refine gate_dst (N := 21) rfl ?_); at_builtin; refine Kd.S_append k38 (w0 := w) w.heap.size rfl (.tmp 18) (.tmp 20) 24 38 (.agg #[.int .i64 0, .string ⟨#[]⟩, .slice none 0 0]) 48 rfl Try.underlying24 info38 rfl (by decide) (by omega) (.slice Ov l.length cv) l o [.int .i64 o.f0, .string o.f1, .slice Rv o.f2.length dv] (fun _ => True) (fun k => some k = (Value.slice Rv o.f2.length dv).ownBlock) rfl rfl ?aP ?aK (fun _ _ => trivial) ?aO ?aB ?aS ?aL ?_; (case aP => exact k38_mkM _ _ _ o (Kd.R_tight rfl HR.out)); (case aK => exact fun k hk => ⟨trivial, fun e => by have h1 := HR.out.1 k hk.symm; have h2 := Kd.S_lt HV.out.2 k e.symm; omega⟩); (case aO => exact Kd.S_mono (Kd.S_old HV.out.2 HB.out) (fun k hk => ⟨trivial, fun e => by have h1 := HR.out.1 k e.symm; have h2 := hk.2; omega⟩)); (case aB => exact bst HC.out.b HB.out); (case aS => exact (bst HC.out.b HB.out).size); (case aL => have := HLL.out; omega); intro v21 w21 hs hb hg hat; clear hat p0; have p0 := (box4 (blk_grown (bbl HV.out.1 HB.out) hg (Kd.S_ne (Kd.S_below HV.out.2 HB.out) (bbl HV.out.1 HB.out) (by decide)))).1; have y0 := bfz (blk_grown (bbl HV.out.1 HB.out) hg (Kd.S_ne (Kd.S_below HV.out.2 HB.out) (bbl HV.out.1 HB.out) (by decide))) 0; have N0 := AK (CI.push (HC.out.below HB.out) (bbl HV.out.1 HB.out) (Kd.S_below HV.out.2 HB.out) hs hb hg); rw [← EL.out] at hs N0; obtain ⟨Ow, cw, e⟩ := Kd.S_slice hs; subst e; clear hs hb hg))
   go_roundg k1
   case measure => omega
   case rel =>
    have h1 := HI.out
    have h2 := HL.out.o
    rw [wrap_succ i (by omega) (by omega)]
    exact ⟨i + 1, rfl, ⟨by omega, by omega⟩, ⟨by rw [HT.out]; exact N0.out⟩⟩
  | zero =>
   have c10 : decide (i < (l0.length : Int)) = false := deF (by have := HI.out; omega)
   have hh := HC.out
   rw [take_all _ _ (by have := HI.out; omega)] at hh
   obtain ⟨Ov, cv, hE⟩ := hh.ends
   have HE := AK hE
   have HN := AK (show w.heap.size + 1 + 1 < wr.heap.size from blk_lt hE.o)
   clear hh hE HC HI
   obtain ⟨p0, p1, p2, p3⟩ := box4 HE.out.x
   go_wp2_with (first
    | ((with_reducible refine gate_dst (N := 26) rfl ?_); at_builtin; refine copy_rows (Kd.int .i64) rfl (.const (.slice none 0 0)) (.tmp 25) 25 3 (.int .i64 0) 8 rfl Try.underlying25 info3 rfl (by decide) (by omega) l1 A1 c1 rfl rfl (HI0.out.below HE.out.b).r1 (fun _ _ h => h) (by have := HL.out.r; omega) ?_; intro v26 w26 hr hb; obtain ⟨R1, e1, e⟩ := Kd.R_slice hr; subst e; have H1 := AK (R_fresh hr HE.out.b.size); replace HE := AK (HE.out.below hb); have L1 := AK hb.size; clear hr hb; clear p0 p1 p2 p3; have z1 := (box4 HE.out.o).2.1; have y1 := bfz HE.out.o 1; obtain ⟨q0, q1, q2, q3⟩ := box4 HE.out.o; clear z1)
    | ((with_reducible refine gate_store (t := 25) (p := 27) (v := .tmp 26) rfl ?_); refine skip_event (W1 := ?_) rfl rfl ?hr ?_; (case hr => go_simp; rfl); have N0 := AK (HE.out.set 1 (.slice R1 l1.length e1) #[(.slice Ov l0.length cv), (.slice R1 l1.length e1), (.slice none 0 0), (.slice none 0 0)] rfl); have N1 := AK (Kd.R_set H1.out HE.out.o (int_ap 28 (by decide)) 1 (.slice R1 l1.length e1)); clear HE H1 q0 q1 q2 q3 y1; generalize e_ : (w26.setCell ⟨w.heap.size + 1 + 1, 1, none⟩ (.slice R1 l1.length e1)) = u26 at N0 N1 ⊢; have LU1 := AK (show u26.heap.size = w26.heap.size by rw [← e_]; exact size_set ..); clear e_; have HE := N0; have H1 := N1; clear N0 N1; obtain ⟨p0, p1, p2, p3⟩ := box4 HE.out.x)
    | ((with_reducible refine gate_dst (N := 30) rfl ?_); at_builtin; refine copy_rows k60 rfl (.const (.slice none 0 0)) (.tmp 29) 26 60 (.agg #[.int .i64 0, .int .i64 0]) 16 rfl Try.underlying26 info60 rfl (by decide) (by omega) l2 A2 c2 rfl rfl (HI0.out.below HE.out.b).r2 (fun _ _ h => h) (by have := HL.out.w; omega) ?_; intro v30 w30 hr hb; obtain ⟨R2, e2, e⟩ := Kd.R_slice hr; subst e; have H2 := AK (R_fresh hr HE.out.b.size); replace H1 := AK (Kd.R_below H1.out hb); replace HE := AK (HE.out.below hb); have L2 := AK hb.size; clear hr hb; clear p0 p1 p2 p3; have z2 := (box4 HE.out.o).2.1; have y2 := bfz HE.out.o 2; obtain ⟨q0, q1, q2, q3⟩ := box4 HE.out.o; clear z2)
    | ((with_reducible refine gate_store (t := 26) (p := 31) (v := .tmp 30) rfl ?_); refine skip_event (W1 := ?_) rfl rfl ?hr ?_; (case hr => go_simp; rfl); have N0 := AK (HE.out.set 2 (.slice R2 l2.length e2) #[(.slice Ov l0.length cv), (.slice R1 l1.length e1), (.slice R2 l2.length e2), (.slice none 0 0)] rfl); have N1 := AK (Kd.R_set H1.out HE.out.o (int_ap 28 (by decide)) 2 (.slice R2 l2.length e2)); have N2 := AK (Kd.R_set H2.out HE.out.o (k60_ap 28 (by decide)) 2 (.slice R2 l2.length e2)); clear HE H1 H2 q0 q1 q2 q3 y2; generalize e_ : (w30.setCell ⟨w.heap.size + 1 + 1, 2, none⟩ (.slice R2 l2.length e2)) = u30 at N0 N1 N2 ⊢; have LU2 := AK (show u30.heap.size = w30.heap.size by rw [← e_]; exact size_set ..); clear e_; have HE := N0; have H1 := N1; have H2 := N2; clear N0 N1 N2; obtain ⟨p0, p1, p2, p3⟩ := box4 HE.out.x)
    | ((with_reducible refine gate_dst (N := 34) rfl ?_); at_builtin; refine copy_rows k60 rfl (.const (.slice none 0 0)) (.tmp 33) 26 60 (.agg #[.int .i64 0, .int .i64 0]) 16 rfl Try.underlying26 info60 rfl (by decide) (by omega) l3 A3 c3 rfl rfl (HI0.out.below HE.out.b).r3 (fun _ _ h => h) (by have := HL.out.d; omega) ?_; intro v34 w34 hr hb; obtain ⟨R3, e3, e⟩ := Kd.R_slice hr; subst e; have H3 := AK (R_fresh hr HE.out.b.size); replace H1 := AK (Kd.R_below H1.out hb); replace H2 := AK (Kd.R_below H2.out hb); replace HE := AK (HE.out.below hb); have L3 := AK hb.size; clear hr hb; clear p0 p1 p2 p3; have z3 := (box4 HE.out.o).2.1; have y3 := bfz HE.out.o 3; obtain ⟨q0, q1, q2, q3⟩ := box4 HE.out.o; clear z3)
    | ((with_reducible refine gate_store (t := 26) (p := 35) (v := .tmp 34) rfl ?_); refine skip_event (W1 := ?_) rfl rfl ?hr ?_; (case hr => go_simp; rfl); have N0 := AK (HE.out.set 3 (.slice R3 l3.length e3) #[(.slice Ov l0.length cv), (.slice R1 l1.length e1), (.slice R2 l2.length e2), (.slice R3 l3.length e3)] rfl); have N1 := AK (Kd.R_set H1.out HE.out.o (int_ap 28 (by decide)) 3 (.slice R3 l3.length e3)); have N2 := AK (Kd.R_set H2.out HE.out.o (k60_ap 28 (by decide)) 3 (.slice R3 l3.length e3)); have N3 := AK (Kd.R_set H3.out HE.out.o (k60_ap 28 (by decide)) 3 (.slice R3 l3.length e3)); clear HE H1 H2 H3 q0 q1 q2 q3 y3; generalize e_ : (w34.setCell ⟨w.heap.size + 1 + 1, 3, none⟩ (.slice R3 l3.length e3)) = u34 at N0 N1 N2 N3 ⊢; have LU3 := AK (show u34.heap.size = w34.heap.size by rw [← e_]; exact size_set ..); clear e_; have HE := N0; have H1 := N1; have H2 := N2; have H3 := N3; clear N0 N1 N2 N3; obtain ⟨p0, p1, p2, p3⟩ := box4 HE.out.o; obtain ⟨q0, q1, q2, q3⟩ := box4 HE.out.z; have y0 := bfz HE.out.z 0; have y1 := bfz HE.out.z 1; have y2 := bfz HE.out.z 2; have y3 := bfz HE.out.z 3))
   refine bodyPost_ret (results_cell_row rfl _ _ (w.heap.size + 1) 28 #[.slice Ov l0.length cv, .slice R1 l1.length e1, .slice R2 l2.length e2, .slice R3 l3.length e3] (0, 0) _ rfl (set4_blk HE.out.z) Try.underlying28 rfl (by kernel_rfl)) rfl ?_
   exact ⟨Ov, cv, R1, e1, R2, e2, R3, e3, rfl, own_laid (n0 := wr.heap.size) (n2 := w30.heap.size) (set4_S HE.out.s HE.out.z) (set4_R H1.out HE.out.z (int_ap 28 (by decide))) (set4_R H2.out HE.out.z (k60_ap 28 (by decide))) (set4_R H3.out HE.out.z (k60_ap 28 (by decide))) (fun k hk => hk.1) (fun k hk => hk.2) (fun k hk => by have := LU2.out; have := hk.1; omega), set4_below HE.out.b (by omega)⟩
end Go.Proofs.Ytigjhfijkdlldaa.H
