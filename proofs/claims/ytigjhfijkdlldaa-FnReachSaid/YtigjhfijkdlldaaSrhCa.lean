import Derived.Test.YtigjhfijkdlldaaSrhYob
import Derived.Test.YtigjhfijkdlldaaSrhPt
import Derived.Test.YtigjhfijkdlldaaSrhHsf
import Derived.Test.YtigjhfijkdlldaaSrhRa
section
/- An own row of objects laid open: each object's cells and its parts' row, told apart by an owner function. -/
namespace Go.Proofs.Ytigjhfijkdlldaa.H
open Go.RowKit Go.Proofs.YtigjhfijkdlldaaW.PrintWords Go.Proofs.YtigjhfijkdlldaaW.PrintLast Go.Proofs.YtigjhfijkdlldaaW.PrintMore Go.Proofs.Ytigjhfijkdlldaa.Q
set_option linter.unusedVariables false
theorem cell_of_heap {w w1 : World} {g o : Nat} (h : w1.heap[g]? = w.heap[g]?) : w1.cell? ⟨g, o, none⟩ = w.cell? ⟨g, o, none⟩ := by
  simp only [World.cell?, h]
/-- Object p of a row at block g: its cells; its parts are a row of their own, whose blocks are those that f gives to p. -/
def U (w : World) (base g : Nat) (okM : Nat → Prop) (f : Nat → Nat) (p : Int) (o : S38) : Prop :=
  ∃ A2 c2, w.cell? ⟨g, p.toNat * 3, none⟩ = some (.int .i64 o.f0) ∧ w.cell? ⟨g, p.toNat * 3 + 1, none⟩ = some (.string o.f1) ∧ w.cell? ⟨g, p.toNat * 3 + 2, none⟩ = some (.slice A2 o.f2.length c2) ∧
    Kd.R (Kd.int .i64) 3 w base (fun k => okM k ∧ f k = p.toNat) (.slice A2 o.f2.length c2) o.f2
theorem U.keep {w w1 : World} {base g : Nat} {okM : Nat → Prop} {f : Nat → Nat} {p : Int} {o : S38} (h : U w base g okM f p o) (hg : w1.heap[g]? = w.heap[g]?) (hm : ∀ k, okM k ∧ f k = p.toNat → k < w.heap.size → w1.heap[k]? = w.heap[k]?) :
    U w1 base g okM f p o := by
  obtain ⟨A2, c2, h0, h1, h2, h3⟩ := h
  exact ⟨A2, c2, by rw [cell_of_heap hg]; exact h0, by rw [cell_of_heap hg]; exact h1, by rw [cell_of_heap hg]; exact h2, Kd.R_step h3 hm⟩
theorem lt_of_cell {w : World} {g o : Nat} {v : Value} (h : w.cell? ⟨g, o, none⟩ = some v) : g < w.heap.size := World.block_lt_of_cell? w ⟨g, o, none⟩ h
theorem U.lt {w : World} {base g : Nat} {okM : Nat → Prop} {f : Nat → Nat} {p : Int} {o : S38} (h : U w base g okM f p o) : g < w.heap.size := by
  obtain ⟨A2, c2, h0, _⟩ := h; exact lt_of_cell h0
theorem U.below {w w1 : World} {base g : Nat} {okM : Nat → Prop} {f : Nat → Nat} {p : Int} {o : S38} (h : U w base g okM f p o) (hb : Below w.heap.size w w1) : U w1 base g okM f p o :=
  h.keep (hb.block g h.lt) (fun k _ hk => hb.block k hk)
theorem U.set {w : World} {base g : Nat} {okM : Nat → Prop} {f : Nat → Nat} {p : Int} {o : S38} (h : U w base g okM f p o) {b : Nat} (h1 : g ≠ b) (h2 : ∀ k, okM k → f k = p.toNat → k ≠ b) (j : Nat) (u : Value) : U (w.setCell ⟨b, j, none⟩ u) base g okM f p o :=
  h.keep (Below.heap_setCell w ⟨b, j, none⟩ u g h1) (fun k hk _ => Below.heap_setCell w ⟨b, j, none⟩ u k (h2 k hk.1 hk.2))
theorem U.grown {w w1 : World} {base g : Nat} {okM : Nat → Prop} {f : Nat → Nat} {p : Int} {o : S38} (h : U w base g okM f p o) {row : Option Nat} (hg : w.grownBy w1 row) (h1 : some g ≠ row) (h2 : ∀ k, okM k → some k ≠ row) : U w1 base g okM f p o :=
  h.keep (hg.block g h.lt h1) (fun k hk hl => hg.block k hl (h2 k hk.1))
/-- An own row of objects, laid open. -/
theorem S_open {w : World} {base g c n : Nat} {ok : Nat → Prop} {l : List S38} (h : Kd.S k38 38 w base ok (.slice (some ⟨g, 0, none⟩) n c) l) :
    ∃ f : Nat → Nat, ∀ p : Int, 0 ≤ p → p < l.length → U w base g (fun k => ok k ∧ k ≠ g) f p (rd_T38 l p) := by
  obtain ⟨f, hR⟩ := h
  refine ⟨f, fun p h0 h1 => ?_⟩
  have hn := (Kd.R_reads' hR).1
  rw [List.length_zipIdx] at hn
  obtain ⟨ce, hcl, hM, hcc, _⟩ := Kd.R_elem hR (z38, p.toNat) p h0 (by omega)
  have e : l.zipIdx.getD p.toNat (z38, p.toNat) = (rd_T38 l p, p.toNat) := by
    have h2 : p.toNat < l.length := by omega
    rw [List.getD_eq_getElem?_getD, List.getElem?_zipIdx, Nat.zero_add, List.getElem?_eq_getElem h2]
    simp [rd_T38, List.getD_eq_getElem?_getD, List.getElem?_eq_getElem h2]
  rw [e] at hM
  obtain ⟨v2, rfl, hv⟩ := k38_openM (show k38.M w base (fun k => (ok k ∧ k ≠ g) ∧ f k = p.toNat) (rd_T38 l p) ce from hM)
  obtain ⟨A2, c2, rfl⟩ := Kd.R_slice hv
  exact ⟨A2, c2, hcc 0 _ rfl, hcc 1 _ rfl, hcc 2 _ rfl, hv⟩
/-- The answer of collecting: a heap of its own and a list of its own, apart from each other. -/
structure OwnM (w : World) (base : Nat) (A0 : Option Addr) (c0 : Nat) (A1 : Option Addr) (c1 : Nat) (A2 : Option Addr) (c2 : Nat) (A3 : Option Addr) (c3 : Nat) (E : Option Addr) (e : Nat) (h : Hp) (m : List Int) : Prop where
  s0 : Kd.S k38 38 w base (fun k => some k ≠ (Value.slice A1 h.r.length c1).ownBlock ∧ some k ≠ (Value.slice E m.length e).ownBlock) (.slice A0 h.o.length c0) h.o
  s1 : Kd.R (Kd.int .i64) 3 w base (fun k => some k ≠ (Value.slice E m.length e).ownBlock) (.slice A1 h.r.length c1) h.r
  s2 : Kd.R k60 60 w base (fun k => some k ≠ (Value.slice A3 h.d.length c3).ownBlock) (.slice A2 h.w.length c2) h.w
  s3 : Kd.R k60 60 w base (fun k => some k ≠ (Value.slice A2 h.w.length c2).ownBlock) (.slice A3 h.d.length c3) h.d
  m : Kd.R (Kd.int .i64) 3 w base (fun _ => True) (.slice E m.length e) m
theorem OwnM.below {w w1 : World} {base : Nat} {A0 A1 A2 A3 E : Option Addr} {c0 c1 c2 c3 e : Nat} {h : Hp} {m : List Int} (ho : OwnM w base A0 c0 A1 c1 A2 c2 A3 c3 E e h m) (hb : Below w.heap.size w w1) : OwnM w1 base A0 c0 A1 c1 A2 c2 A3 c3 E e h m :=
  ⟨Kd.S_below ho.s0 hb, Kd.R_below ho.s1 hb, Kd.R_below ho.s2 hb, Kd.R_below ho.s3 hb, Kd.R_below ho.m hb⟩
theorem OwnM.own {w : World} {base : Nat} {A0 A1 A2 A3 E : Option Addr} {c0 c1 c2 c3 e : Nat} {h : Hp} {m : List Int} (ho : OwnM w base A0 c0 A1 c1 A2 c2 A3 c3 E e h m) : OwnH w base A0 c0 A1 c1 A2 c2 A3 c3 h.o h.r h.w h.d :=
  ⟨Kd.S_mono ho.s0 (fun _ hk => hk.1), Kd.R_mono ho.s1 (fun _ _ => trivial), ho.s2, ho.s3⟩
end Go.Proofs.Ytigjhfijkdlldaa.H
end
section
/- Moving, in memory: what holds while objects are moved one by one out of an own row into another. -/
namespace Go.Proofs.Ytigjhfijkdlldaa.H
open Go.RowKit Go.Proofs.YtigjhfijkdlldaaW.PrintWords Go.Proofs.YtigjhfijkdlldaaW.PrintLast Go.Proofs.YtigjhfijkdlldaaW.PrintMore Go.Proofs.Ytigjhfijkdlldaa.Q
set_option linter.unusedVariables false
theorem U.bound {w : World} {base g : Nat} {okM : Nat → Prop} {f : Nat → Nat} {p : Int} {o : S38} (h : U w base g okM f p o) : U w base g (fun k => okM k ∧ base ≤ k ∧ k < w.heap.size) f p o := by
  obtain ⟨A2, c2, h0, h1, h2, h3⟩ := h
  exact ⟨A2, c2, h0, h1, h2, Kd.R_mono (Kd.R_bound h3) (fun k hk => ⟨⟨hk.1.1, hk.2.1, hk.2.2.1⟩, hk.1.2⟩)⟩
/-- What is fixed while objects are moved. n: the heap's size when it begins; g: the objects' row; okM, f: whose parts' rows lie where. -/
structure MF (w : World) (n g : Nat) (okM : Nat → Prop) (f : Nat → Nat) (l0 : List S38) (x : List Int) (R : Option Addr) (cr : Nat) (l1 : List Int) : Prop where
  nb : w.heap.size + 1 < n
  gb : w.heap.size ≤ g ∧ g < n
  ok : ∀ k, okM k → w.heap.size ≤ k ∧ k < n ∧ k ≠ g ∧ some k ≠ (Value.slice R l1.length cr).ownBlock
  xs : GoodL l0.length x
/-- Blocks that the moved objects lead to. -/
def okO (n : Nat) (qb : Option Nat) (okM : Nat → Prop) (f : Nat → Nat) (x : List Int) (i : Nat) (k : Nat) : Prop := (n ≤ k ∧ some k ≠ qb) ∨ (okM k ∧ ∃ q ∈ x.take i, f k = q.toNat)
structure MI (w : World) (n g bp bo : Nat) (okM : Nat → Prop) (f : Nat → Nat) (l0 : List S38) (x : List Int) (hx : Array Value) (R : Option Addr) (cr : Nat) (l1 : List Int) (W : Option Addr) (cw : Nat) (m2 : List S60) (D : Option Addr) (cd : Nat) (m3 : List S60) (X : Option Addr) (cx : Nat) (Q : Option Addr) (cq : Nat) (ql : List Int)
    (nu no : Nat) (V : Value) (w' : World) : Prop where
  b : Below w.heap.size w w'
  yh : w'.heap[w.heap.size]? = some (.cells hx 28 (0, 0))
  yz : w'.heap[w.heap.size + 1]? = some (.cells #[.slice none 0 0, .slice none 0 0, .slice none 0 0, .slice none 0 0] 28 (0, 0))
  yp : w'.heap[bp]? = some (.cells #[.slice Q ql.length cq] 25 (0, 0))
  yo : w'.heap[bo]? = some (.cells #[V, .slice none 0 0, .slice none 0 0, .slice none 0 0] 28 (0, 0))
  rx : Kd.R (Kd.int .i64) 3 w' n (fun _ => True) (.slice X x.length cx) x
  rq : Kd.R (Kd.int .i64) 3 w' n (fun _ => True) (.slice Q ql.length cq) ql
  r1 : Kd.R (Kd.int .i64) 3 w' w.heap.size (fun _ => True) (.slice R l1.length cr) l1
  r2 : Kd.R k60 60 w' w.heap.size (fun _ => True) (.slice W m2.length cw) m2
  r3 : Kd.R k60 60 w' w.heap.size (fun _ => True) (.slice D m3.length cd) m3
  u : ∀ p ∈ x.drop nu, U w' w.heap.size g okM f p (rd_T38 l0 p)
  s : Kd.S k38 38 w' w.heap.size (okO n (Value.slice Q ql.length cq).ownBlock okM f x no) V ((x.take no).map fun p => objOf x (rd_T38 l0 p))
  v : ∀ k, V.ownBlock = some k → n ≤ k
section
variable {w w1 w2 : World} {n g bp bo : Nat} {okM : Nat → Prop} {f : Nat → Nat} {l0 : List S38} {x : List Int} {hx : Array Value} {R : Option Addr} {cr : Nat} {l1 : List Int} {W : Option Addr} {cw : Nat} {m2 : List S60} {D : Option Addr} {cd : Nat} {m3 : List S60} {X : Option Addr} {cx : Nat} {Q : Option Addr} {cq : Nat} {ql : List Int} {nu no : Nat} {V : Value}
theorem MI.below (h : MI w n g bp bo okM f l0 x hx R cr l1 W cw m2 D cd m3 X cx Q cq ql nu no V w1) (hb : Below w1.heap.size w1 w2) : MI w n g bp bo okM f l0 x hx R cr l1 W cw m2 D cd m3 X cx Q cq ql nu no V w2 :=
  ⟨bst h.b hb, bbl h.yh hb, bbl h.yz hb, bbl h.yp hb, bbl h.yo hb, Kd.R_below h.rx hb, Kd.R_below h.rq hb, Kd.R_below h.r1 hb, Kd.R_below h.r2 hb, Kd.R_below h.r3 hb, fun p hp => (h.u p hp).below hb, Kd.S_below h.s hb, h.v⟩
/-- A store into the parts' row of an object that is being moved. -/
theorem MI.set (hF : MF w n g okM f l0 x R cr l1) (h : MI w n g bp bo okM f l0 x hx R cr l1 W cw m2 D cd m3 X cx Q cq ql nu no V w1) {b : Nat} {cells : Array Value} (hb : okM b) (ht : w1.heap[b]? = some (.cells cells 3 (0, 0)))
    (h1 : ∀ p ∈ x.drop nu, f b ≠ p.toNat) (h2 : ∀ q ∈ x.take no, f b ≠ q.toNat) (j : Nat) (u : Value) : MI w n g bp bo okM f l0 x hx R cr l1 W cw m2 D cd m3 X cx Q cq ql nu no V (w1.setCell ⟨b, j, none⟩ u) := by
  obtain ⟨hb0, hb1, hb2, hb3⟩ := hF.ok b hb
  have hne : ∀ {k : Nat} {cs : Array Value} {t : TypeId}, w1.heap[k]? = some (.cells cs t (0, 0)) → t ≠ 3 → k ≠ b := fun hk h3 => blk_ne hk ht h3
  refine ⟨below_set h.b hb0, blk_far h.yh (p := ⟨b, j, none⟩) (hne h.yh (by decide)) u, blk_far h.yz (p := ⟨b, j, none⟩) (hne h.yz (by decide)) u, blk_far h.yp (p := ⟨b, j, none⟩) (hne h.yp (by decide)) u, blk_far h.yo (p := ⟨b, j, none⟩) (hne h.yo (by decide)) u, ?_, ?_, ?_, ?_, ?_, fun p hp => ?_, ?_, h.v⟩
  · exact Kd.R_mono (Kd.R_far (p := ⟨b, j, none⟩) (Kd.R_bound h.rx) (fun k hk e => by have := hk.2.1; have e2 : k = b := e; omega) u) (fun _ _ => trivial)
  · exact Kd.R_mono (Kd.R_far (p := ⟨b, j, none⟩) (Kd.R_bound h.rq) (fun k hk e => by have := hk.2.1; have e2 : k = b := e; omega) u) (fun _ _ => trivial)
  · exact Kd.R_mono (Kd.R_far (p := ⟨b, j, none⟩) (Kd.R_tight rfl h.r1) (fun k hk e => hb3 (by rw [← hk]; exact congrArg some (show b = k from Eq.symm e))) u) (fun _ _ => trivial)
  · exact Kd.R_set h.r2 ht (k60_ap 3 (by decide)) j u
  · exact Kd.R_set h.r3 ht (k60_ap 3 (by decide)) j u
  · exact (h.u p hp).set (fun e => hb2 e.symm) (fun k hk he e => h1 p hp (by rw [← e]; exact he)) j u
  · exact Kd.S_far (p := ⟨b, j, none⟩) h.s (fun k hk e => by
      have e2 : k = b := e
      subst e2
      rcases hk with ⟨hk, _⟩ | ⟨_, q, hq, hk⟩
      · omega
      · exact h2 q hq hk) u
/-- The moved object is laid behind the others; the box is stored into. -/
theorem MI.push (hF : MF w n g okM f l0 x R cr l1) (h : MI w n g bp bo okM f l0 x hx R cr l1 W cw m2 D cd m3 X cx Q cq ql nu no V w1) (hbo : n ≤ bo) (hbp : n ≤ bp) (hpo : bp ≠ bo) {V2 : Value} (hs : Kd.S k38 38 w2 w.heap.size (okO n (Value.slice Q ql.length cq).ownBlock okM f x (no + 1)) V2 ((x.take (no + 1)).map fun p => objOf x (rd_T38 l0 p)))
    (hb : Below w.heap.size w w2) (hg : w1.grownBy w2 V.ownBlock) (hat : V2.ownBlock = V.ownBlock ∨ ∃ b, V2.ownBlock = some b ∧ w1.heap.size ≤ b) :
    MI w n g bp bo okM f l0 x hx R cr l1 W cw m2 D cd m3 X cx Q cq ql nu (no + 1) V2 (w2.setCell ⟨bo, 0, none⟩ V2) := by
  have hno : ∀ {k : Nat} {cs : Array Value} {t : TypeId}, w1.heap[k]? = some (.cells cs t (0, 0)) → (38 : Nat) ≠ t → some k ≠ V.ownBlock := fun hk h3 => Kd.S_ne h.s hk h3
  have hx2 := blk_grown h.yh hg (hno h.yh (by decide))
  have hz2 := blk_grown h.yz hg (hno h.yz (by decide))
  have hp2 := blk_grown h.yp hg (hno h.yp (by decide))
  have ho2 := blk_grown h.yo hg (hno h.yo (by decide))
  have ty := Kd.S_typed h.s
  have nb := hF.nb
  have gb := hF.gb
  have n1 : n ≤ w1.heap.size := by have := blk_lt h.yo; omega
  refine ⟨below_set hb (by omega), blk_far hx2 (p := ⟨bo, 0, none⟩) (show w.heap.size ≠ bo by omega) _, blk_far hz2 (p := ⟨bo, 0, none⟩) (show w.heap.size + 1 ≠ bo by omega) _, blk_far hp2 (p := ⟨bo, 0, none⟩) hpo _, blk_put ho2 0 _ rfl, ?_, ?_, ?_, ?_, ?_, fun p hp => ?_, ?_, fun k hk => ?_⟩
  · exact Kd.R_set (Kd.R_over' h.rx ty (int_ap 38 (by decide)) hg) ho2 (int_ap 28 (by decide)) 0 _
  · exact Kd.R_set (Kd.R_over' h.rq ty (int_ap 38 (by decide)) hg) ho2 (int_ap 28 (by decide)) 0 _
  · exact Kd.R_set (Kd.R_over' h.r1 ty (int_ap 38 (by decide)) hg) ho2 (int_ap 28 (by decide)) 0 _
  · exact Kd.R_set (Kd.R_over' h.r2 ty (k60_ap 38 (by decide)) hg) ho2 (k60_ap 28 (by decide)) 0 _
  · exact Kd.R_set (Kd.R_over' h.r3 ty (k60_ap 38 (by decide)) hg) ho2 (k60_ap 28 (by decide)) 0 _
  · refine ((h.u p hp).grown hg (fun e => by have := h.v g e.symm; omega) (fun k hk e => by have := h.v k e.symm; have := (hF.ok k hk).2.1; omega)).set (by omega) (fun k hk _ => by have := (hF.ok k hk).2.1; omega) 0 _
  · exact Kd.S_set hs ho2 (k38_ap 28 (by decide) (by decide)) 0 _
  · rcases hat with e | ⟨b, e, hb2⟩
    · rw [e] at hk; exact h.v k hk
    · rw [e] at hk; injection hk with hk; omega
end
/-- Objects are moved; lists follow. n2: the heap's size when they begin. -/
structure MG (w : World) (n2 bp bo : Nat) (hx : Array Value) (R : Option Addr) (cr : Nat) (l1 : List Int) (W : Option Addr) (cw : Nat) (m2 : List S60) (D : Option Addr) (cd : Nat) (m3 : List S60) (Q : Option Addr) (cq : Nat) (ql : List Int) (V : Value) (objs : List S38) (cs : Array Value) (w' : World) : Prop where
  b : Below w.heap.size w w'
  yh : w'.heap[w.heap.size]? = some (.cells hx 28 (0, 0))
  yz : w'.heap[w.heap.size + 1]? = some (.cells #[.slice none 0 0, .slice none 0 0, .slice none 0 0, .slice none 0 0] 28 (0, 0))
  yp : w'.heap[bp]? = some (.cells #[.slice Q ql.length cq] 25 (0, 0))
  yo : w'.heap[bo]? = some (.cells cs 28 (0, 0))
  rq : Kd.R (Kd.int .i64) 3 w' w.heap.size (fun k => k < n2) (.slice Q ql.length cq) ql
  r1 : Kd.R (Kd.int .i64) 3 w' w.heap.size (fun k => k < n2) (.slice R l1.length cr) l1
  r2 : Kd.R k60 60 w' w.heap.size (fun k => k < n2) (.slice W m2.length cw) m2
  r3 : Kd.R k60 60 w' w.heap.size (fun k => k < n2) (.slice D m3.length cd) m3
  s : Kd.S k38 38 w' w.heap.size (fun k => k < n2 ∧ some k ≠ (Value.slice Q ql.length cq).ownBlock) V objs
section
variable {w w1 w2 : World} {n n2 g bp bo : Nat} {okM : Nat → Prop} {f : Nat → Nat} {l0 : List S38} {x : List Int} {hx : Array Value} {R : Option Addr} {cr : Nat} {l1 : List Int} {W : Option Addr} {cw : Nat} {m2 : List S60} {D : Option Addr} {cd : Nat} {m3 : List S60} {X : Option Addr} {cx : Nat} {Q : Option Addr} {cq : Nat} {ql : List Int} {nu no : Nat} {V : Value} {objs : List S38} {cs : Array Value}
theorem MI.done (hF : MF w n g okM f l0 x R cr l1) (h : MI w n g bp bo okM f l0 x hx R cr l1 W cw m2 D cd m3 X cx Q cq ql nu no V w1) : MG w w1.heap.size bp bo hx R cr l1 W cw m2 D cd m3 Q cq ql V ((x.take no).map fun p => objOf x (rd_T38 l0 p)) #[V, .slice none 0 0, .slice none 0 0, .slice none 0 0] w1 :=
  ⟨h.b, h.yh, h.yz, h.yp, h.yo, Kd.R_lower (Kd.R_mono (Kd.R_bound h.rq) (fun k hk => hk.2.2.1)) (by have := hF.nb; omega), Kd.R_mono (Kd.R_bound h.r1) (fun k hk => hk.2.2.1), Kd.R_mono (Kd.R_bound h.r2) (fun k hk => hk.2.2.1), Kd.R_mono (Kd.R_bound h.r3) (fun k hk => hk.2.2.1),
    Kd.S_mono (Kd.S_bound h.s) (fun k hk => ⟨hk.2.2.1, hk.1.elim (fun h1 => h1.2) (fun h1 e => by have h2 := Kd.R_base h.rq k e.symm; have h3 := (hF.ok k h1.1).2.1; omega)⟩)⟩
theorem MG.below (h : MG w n2 bp bo hx R cr l1 W cw m2 D cd m3 Q cq ql V objs cs w1) (hb : Below w1.heap.size w1 w2) : MG w n2 bp bo hx R cr l1 W cw m2 D cd m3 Q cq ql V objs cs w2 :=
  ⟨bst h.b hb, bbl h.yh hb, bbl h.yz hb, bbl h.yp hb, bbl h.yo hb, Kd.R_below h.rq hb, Kd.R_below h.r1 hb, Kd.R_below h.r2 hb, Kd.R_below h.r3 hb, Kd.S_below h.s hb⟩
/-- A new row of numbers has grown. -/
theorem MG.grown (h : MG w n2 bp bo hx R cr l1 W cw m2 D cd m3 Q cq ql V objs cs w1) {v : Value} (hg : w1.grownBy w2 v.ownBlock) (hb : Below w.heap.size w w2) (hv : ∀ k, v.ownBlock = some k → n2 ≤ k ∧ ∃ cells, w1.heap[k]? = some (.cells cells 3 (0, 0))) : MG w n2 bp bo hx R cr l1 W cw m2 D cd m3 Q cq ql V objs cs w2 := by
  have hno : ∀ {k : Nat} {cs : Array Value} {t : TypeId}, w1.heap[k]? = some (.cells cs t (0, 0)) → t ≠ 3 → some k ≠ v.ownBlock := fun hk h3 e => by
    obtain ⟨_, cells, hc⟩ := hv _ e.symm
    exact blk_ne hk hc h3 rfl
  have hlt : ∀ k, k < n2 → some k ≠ v.ownBlock := fun k hk e => by have := (hv k e.symm).1; omega
  exact ⟨hb, blk_grown h.yh hg (hno h.yh (by decide)), blk_grown h.yz hg (hno h.yz (by decide)), blk_grown h.yp hg (hno h.yp (by decide)), blk_grown h.yo hg (hno h.yo (by decide)), Kd.R_step h.rq (fun k hk hl => hg.block k hl (hlt k hk)), Kd.R_step h.r1 (fun k hk hl => hg.block k hl (hlt k hk)), Kd.R_step h.r2 (fun k hk hl => hg.block k hl (hlt k hk)), Kd.R_step h.r3 (fun k hk hl => hg.block k hl (hlt k hk)), Kd.S_step h.s (fun k hk hl => hg.block k hl (hlt k hk.1))⟩
theorem MG.set (h : MG w n2 bp bo hx R cr l1 W cw m2 D cd m3 Q cq ql V objs cs w1) (h1 : w.heap.size + 1 < bo) (h2 : bp ≠ bo) (j : Nat) (u : Value) (cs' : Array Value) (e : cs.setIfInBounds j u = cs') : MG w n2 bp bo hx R cr l1 W cw m2 D cd m3 Q cq ql V objs cs' (w1.setCell ⟨bo, j, none⟩ u) :=
  ⟨below_set h.b (by omega), blk_far h.yh (p := ⟨bo, j, none⟩) (show w.heap.size ≠ bo by omega) _, blk_far h.yz (p := ⟨bo, j, none⟩) (show w.heap.size + 1 ≠ bo by omega) _, blk_far h.yp (p := ⟨bo, j, none⟩) h2 _, blk_put h.yo j u e, Kd.R_set h.rq h.yo (int_ap 28 (by decide)) j u, Kd.R_set h.r1 h.yo (int_ap 28 (by decide)) j u, Kd.R_set h.r2 h.yo (k60_ap 28 (by decide)) j u, Kd.R_set h.r3 h.yo (k60_ap 28 (by decide)) j u, Kd.S_set h.s h.yo (k38_ap 28 (by decide) (by decide)) j u⟩
end
/-- An own row of objects, laid open, empty or not. -/
theorem S_openA {w : World} {base c : Nat} {ok : Nat → Prop} {A : Option Addr} {l : List S38} (h : Kd.S k38 38 w base ok (.slice A l.length c) l) (hb : base < w.heap.size) :
    ∃ (g : Nat) (f : Nat → Nat), (base ≤ g ∧ g < w.heap.size) ∧ ∀ p : Int, 0 ≤ p → p < l.length → A = some ⟨g, 0, none⟩ ∧ U w base g (fun k => (ok k ∧ k ≠ g) ∧ base ≤ k ∧ k < w.heap.size) f p (rd_T38 l p) := by
  by_cases hl : 0 < l.length
  · obtain ⟨g, cap, e, hg0, hg1, _⟩ := Kd.S_form h hl
    injection e with e1 e2 e3
    subst e1
    subst e3
    obtain ⟨f, hf⟩ := S_open h
    exact ⟨g, f, ⟨hg0, hg1⟩, fun p h0 h1 => ⟨rfl, (hf p h0 h1).bound⟩⟩
  · exact ⟨base, fun _ => 0, ⟨Nat.le_refl _, hb⟩, fun p h0 h1 => by omega⟩
end Go.Proofs.Ytigjhfijkdlldaa.H
end
section
/- impl.MemCollect, walked: telling, then moving. -/
namespace Go.Proofs.Ytigjhfijkdlldaa.H
open Go.RowKit Go.Proofs.YtigjhfijkdlldaaW.PrintWords Go.Proofs.YtigjhfijkdlldaaW.PrintLast Go.Proofs.YtigjhfijkdlldaaW.PrintMore Go.Proofs.Ytigjhfijkdlldaa.Q
set_option linter.unusedVariables false
set_option linter.unusedSimpArgs false
/-- A heap handed in fits. -/
structure FitC (l0 : List S38) (l2 l3 : List S60) : Prop where
 w : (l2.length : Int) + l3.length ≤ 4611686018427387903
 f : ∀ x ∈ l0, Fit x
def Z28 : Obj := .cells #[.slice none 0 0, .slice none 0 0, .slice none 0 0, .slice none 0 0] 28 (0, 0)
/-- A telling under way: the heap's box holds lists of its own. -/
structure TI (w : World) (O R : Option Addr) (co cr : Nat) (l0 : List S38) (l1 : List Int) (m2 m3 : List S60) (W D : Option Addr) (cw cd : Nat) (w' : World) : Prop where
 b : Below w.heap.size w w'
 x : w'.heap[w.heap.size]? = some (.cells #[.slice O l0.length co, .slice R l1.length cr, .slice W m2.length cw, .slice D m3.length cd] 28 (0, 0))
 z : w'.heap[w.heap.size + 1]? = some Z28
 o : OwnH w' w.heap.size O co R cr W cw D cd l0 l1 m2 m3
theorem TI.below {w w1 w2 : World} {O R W D : Option Addr} {co cr cw cd : Nat} {l0 : List S38} {l1 : List Int} {m2 m3 : List S60} (h : TI w O R co cr l0 l1 m2 m3 W D cw cd w1) (hb : Below w1.heap.size w1 w2) : TI w O R co cr l0 l1 m2 m3 W D cw cd w2 :=
 ⟨bst h.b hb, bbl h.x hb, bbl h.z hb, h.o.below hb⟩
/-- The copy is laid into the heap's box. -/
theorem TI.new {w w1 : World} {O R W D : Option Addr} {co cr cw cd n : Nat} {l0 : List S38} {l1 : List Int} {l2 l3 : List S60} {p q r s : Value} (hb : Below w.heap.size w w1) (hx : w1.heap[w.heap.size]? = some (.cells #[p, q, r, s] 28 (0, 0))) (hz : w1.heap[w.heap.size + 1]? = some Z28)
  (ho : OwnH w1 n O co R cr W cw D cd l0 l1 l2 l3) (hn : w.heap.size ≤ n) : TI w O R co cr l0 l1 l2 l3 W D cw cd (set4 w1 w.heap.size (.slice O l0.length co) (.slice R l1.length cr) (.slice W l2.length cw) (.slice D l3.length cd)) :=
 ⟨set4_below hb (Nat.le_refl _), set4_blk hx, set4_far hz (by omega), set4_S (Kd.S_lower ho.s0 hn) hx, set4_R (Kd.R_lower ho.s1 hn) hx (int_ap 28 (by decide)), set4_R (Kd.R_lower ho.s2 hn) hx (k60_ap 28 (by decide)), set4_R (Kd.R_lower ho.s3 hn) hx (k60_ap 28 (by decide))⟩
/-- A round of telling: what stays is laid into the box (v5, made since w1), what is told is appended to what was told (v1). -/
theorem TI.step {w w1 w2 w3 : World} {O R W D S E : Option Addr} {co cr cw cd cs ce : Nat} {l0 : List S38} {l1 : List Int} {m2 m3 s2 s3 : List S60} (h : TI w O R co cr l0 l1 m2 m3 W D cw cd w1) (hb : Below w1.heap.size w1 w2)
  (hs : Kd.R k60 60 w2 w1.heap.size (fun _ => True) (.slice S s2.length cs) s2)
  (ha : Kd.R k60 60 w3 w.heap.size (fun k => some k ≠ (Value.slice S s2.length cs).ownBlock) (.slice E s3.length ce) s3) (hb3 : Below w.heap.size w w3)
  (hg : (w2.setCell ⟨w.heap.size, 2, none⟩ (.slice S s2.length cs)).grownBy w3 (Value.slice D m3.length cd).ownBlock) (hat : (Value.slice E s3.length ce).ownBlock = (Value.slice D m3.length cd).ownBlock ∨ ∃ b, (Value.slice E s3.length ce).ownBlock = some b ∧ w2.heap.size ≤ b) :
  TI w O R co cr l0 l1 s2 s3 S E cs ce (w3.setCell ⟨w.heap.size, 3, none⟩ (.slice E s3.length ce)) := by
 have hT := h.below hb
 have hx2 := blk_put hT.x 2 (.slice S s2.length cs) rfl
 have hz2 := blk_far hT.z (p := ⟨w.heap.size, 2, none⟩) (show w.heap.size + 1 ≠ w.heap.size by omega) (.slice S s2.length cs)
 have hD2 := Kd.R_set hT.o.s3 hT.x (k60_ap 28 (by decide)) 2 (.slice S s2.length cs)
 have hx3 := blk_grown hx2 hg (Kd.R_ne hD2 hx2 (by decide))
 have hz3 := blk_grown hz2 hg (Kd.R_ne hD2 hz2 (by decide))
 have hlt : ∀ k, (Value.slice D m3.length cd).ownBlock = some k → k < w1.heap.size := Kd.R_lt h.o.s3
 have hge : ∀ k, (Value.slice S s2.length cs).ownBlock = some k → w1.heap.size ≤ k := Kd.R_base hs
 have hs2 := Kd.R_set hs hT.x (k60_ap 28 (by decide)) 2 (.slice S s2.length cs)
 have hne : ∀ k, (Value.slice S s2.length cs).ownBlock = some k → some k ≠ (Value.slice E s3.length ce).ownBlock := fun k hk e => by
  rcases hat with h1 | ⟨b, h1, h2⟩
  ·rw [h1] at e; have := hlt k e.symm; have := hge k hk; omega
  ·rw [h1] at e; injection e with e; subst e
   have := Kd.R_lt hs k hk; omega
 have hs3 : Kd.R k60 60 w3 w.heap.size (fun k => some k ≠ (Value.slice E s3.length ce).ownBlock) (.slice S s2.length cs) s2 := by
  have h1 := Kd.R_tight (d := k60) rfl hs2
  have h2 := Kd.R_step h1 (w1 := w3) (fun k hk hl => hg.block k hl (fun e => by have := hlt k e.symm; have := hge k hk.symm; omega))
  exact Kd.R_lower (Kd.R_mono h2 (fun k hk => hne k hk.symm)) h.b.size
 refine ⟨below_set hb3 (Nat.le_refl _), blk_put hx3 3 _ rfl, blk_far hz3 (p := ⟨w.heap.size, 3, none⟩) (show w.heap.size + 1 ≠ w.heap.size by omega) _, ?_, ?_, ?_, ?_⟩
 ·exact Kd.S_set (Kd.S_over' (Kd.S_set hT.o.s0 hT.x (k38_ap 28 (by decide) (by decide)) 2 _) (Kd.R_typed hD2) (k38_ap 60 (by decide) (by decide)) hg) hx3 (k38_ap 28 (by decide) (by decide)) 3 _
 ·exact Kd.R_set (Kd.R_over' (Kd.R_set hT.o.s1 hT.x (int_ap 28 (by decide)) 2 _) (Kd.R_typed hD2) (int_ap 60 (by decide)) hg) hx3 (int_ap 28 (by decide)) 3 _
 ·exact Kd.R_set hs3 hx3 (k60_ap 28 (by decide)) 3 _
 ·exact Kd.R_set ha hx3 (k60_ap 28 (by decide)) 3 _
theorem MI.start {w u1 v2 : World} {O R W D X Q : Option Addr} {co cr cw cd cX cQ : Nat} {l0 : List S38} {l1 x ql : List Int} {m2 m3 : List S60} (hT : TI w O R co cr l0 l1 m2 m3 W D cw cd u1) (hb : Below u1.heap.size u1 v2) (hX : Kd.R (Kd.int .i64) 3 v2 u1.heap.size (fun _ => True) (.slice X x.length cX) x)
  (hQ : Kd.R (Kd.int .i64) 3 v2 u1.heap.size (fun _ => True) (.slice Q ql.length cQ) ql) (hx : GoodL l0.length x) : ∃ (g : Nat) (okM : Nat → Prop) (f : Nat → Nat), MF w u1.heap.size g okM f l0 x R cr l1 ∧ (∀ p ∈ x, O = some ⟨g, 0, none⟩) ∧
   MI w u1.heap.size g v2.heap.size (v2.heap.size + 1) okM f l0 x #[.slice O l0.length co, .slice R l1.length cr, .slice W m2.length cw, .slice D m3.length cd] R cr l1 W cw m2 D cd m3 X cX Q cQ ql 0 0 (.slice none 0 0) ((v2.alloc (.cells #[.slice Q ql.length cQ] 25 (0, 0))).alloc (.cells #[.slice none 0 0, .slice none 0 0, .slice none 0 0, .slice none 0 0] 28 (0, 0))) := by
 have hlt := blk_lt hT.z
 obtain ⟨g, f, hg, hU⟩ := S_openA hT.o.s0 (by omega)
 have hB2 := below_alloc (below_alloc (Below.refl v2.heap.size v2) (.cells #[.slice Q ql.length cQ] 25 (0, 0))) (.cells #[.slice none 0 0, .slice none 0 0, .slice none 0 0, .slice none 0 0] 28 (0, 0))
 have hB := bst hb hB2
 have hT2 := hT.below hB
 exact ⟨g, _, f, ⟨hlt, hg, fun k hk => ⟨hk.2.1, hk.2.2, hk.1.2, hk.1.1⟩, hx⟩, fun p hp => (hU p (hx.2 p hp).1 (hx.2 p hp).2).1,
  ⟨hT2.b, hT2.x, hT2.z, blk_alloc (blk_new v2 _) _, blk_new1 v2 _ _, Kd.R_below hX hB2, Kd.R_below hQ hB2, hT2.o.s1, Kd.R_mono hT2.o.s2 (fun _ _ => trivial), Kd.R_mono hT2.o.s3 (fun _ _ => trivial), fun p hp => (hU p (hx.2 p hp).1 (hx.2 p hp).2).2.below hB, Kd.S_nil _ _ _ _ _, fun k hk => by simp [Value.ownBlock] at hk⟩⟩
theorem mixed_set (x : List Int) (l : List Int) (j : Int) (h0 : 0 ≤ j) (h1 : j < l.length) : ((l.take j.toNat).map (wh x) ++ l.drop j.toNat).set j.toNat (wh x (rd l j)) = (l.take (j + 1).toNat).map (wh x) ++ l.drop (j + 1).toNat := by
 have h2 : j.toNat < l.length := by omega
 rw [drop_cons l 0 j h0 h1, set_at _ _ _ _ _ (by rw [List.length_map, List.length_take]; omega), show (j + 1).toNat = j.toNat + 1 by omega, List.take_add_one, List.getElem?_eq_getElem h2]
 have e : rd l j = l[j.toNat] := by simp [rd, List.getD_eq_getElem?_getD, h2]
 rw [e, List.map_append, List.append_assoc]
 rfl
theorem mixed_rd (x : List Int) (l : List Int) (j : Int) (h0 : 0 ≤ j) (h1 : j < l.length) : rd ((l.take j.toNat).map (wh x) ++ l.drop j.toNat) j = rd l j := by
 have h2 : j.toNat < l.length := by omega
 rw [drop_cons l 0 j h0 h1]
 unfold rd
 rw [getD_at _ _ _ _ _ (by rw [List.length_map, List.length_take]; omega)]
theorem mixed_len (x : List Int) (l : List Int) (j : Int) : ((l.take j.toNat).map (wh x) ++ l.drop j.toNat).length = l.length := by
 rw [List.length_append, List.length_map, List.length_take, List.length_drop]; omega
theorem lim_ok {l0 : List S38} {l1 : List Int} {l2 l3 : List S60} (h : OkH l0 l1 l2 l3) : Lim l0 l1 l2 l3 := by
 refine ⟨by have := h.n; omega, fun x hx => ?_, by have := h.r; omega, by have := h.w; omega, by have := h.w; omega⟩
 obtain ⟨_, _, h2⟩ := ob_parts (h.o x hx)
 rcases h2 with ⟨_, h⟩ | ⟨_, h⟩ | ⟨_, h⟩ | ⟨_, h⟩
 ·rw [h]; simp
 ·omega
 ·omega
 ·rw [h]; simp
theorem ob_small2 {n : Int} {x : S38} (h : obB n x = true) : (∀ z ∈ x.f2, z < n) ∧ x.f2.length ≤ 6 := by
 obtain ⟨h1, _, h2⟩ := ob_parts h
 refine ⟨fun z hz => (h1 z hz).2, ?_⟩
 rcases h2 with ⟨_, h⟩ | ⟨_, h⟩ | ⟨_, h⟩ | ⟨_, h⟩
 ·rw [h]; simp
 ·exact h
 ·omega
 ·rw [h]; simp
end Go.Proofs.Ytigjhfijkdlldaa.H
end
section
/- The spec's moving, in memory: what holds while a new heap is laid list by list. -/
namespace Go.Proofs.Ytigjhfijkdlldaa.H
open Go.RowKit Go.Proofs.YtigjhfijkdlldaaW.PrintWords Go.Proofs.YtigjhfijkdlldaaW.PrintLast Go.Proofs.YtigjhfijkdlldaaW.PrintMore Go.Proofs.Ytigjhfijkdlldaa.Q
set_option linter.unusedVariables false
/-- v: the world from which on all is new; bg, bo: the boxes of the heap that is moved and of the new one; n1, n2: the heap's size when objects, and roots, are begun. -/
structure NS (v : World) (bg bo : Nat) (GX cs : Array Value) (n1 n2 : Nat) (M : Option Addr) (em : Nat) (mv : List Int) (V : Value) (objs : List S38) (w' : World) : Prop where
  b : Below v.heap.size v w'
  g : w'.heap[bg]? = some (.cells GX 28 (0, 0))
  o : w'.heap[bo]? = some (.cells cs 28 (0, 0))
  m : Kd.R (Kd.int .i64) 3 w' v.heap.size (fun k => k < n1) (.slice M mv.length em) mv
  s : Kd.S k38 38 w' v.heap.size (fun k => n1 ≤ k ∧ k < n2) V objs
section
variable {v w1 w2 : World} {bg bo : Nat} {GX cs : Array Value} {n1 n2 n3 : Nat} {M : Option Addr} {em : Nat} {mv : List Int} {V : Value} {objs : List S38}
theorem NS.below (h : NS v bg bo GX cs n1 n2 M em mv V objs w1) (hb : Below w1.heap.size w1 w2) : NS v bg bo GX cs n1 n2 M em mv V objs w2 :=
  ⟨bst h.b hb, bbl h.g hb, bbl h.o hb, Kd.R_below h.m hb, Kd.S_below h.s hb⟩
theorem NS.more (h : NS v bg bo GX cs n1 n2 M em mv V objs w1) (hn : n2 ≤ n3) : NS v bg bo GX cs n1 n3 M em mv V objs w1 :=
  { h with s := Kd.S_mono h.s (fun k hk => ⟨hk.1, by omega⟩) }
theorem NS.set (h : NS v bg bo GX cs n1 n2 M em mv V objs w1) (hbo : v.heap.size ≤ bo) (hne : bg ≠ bo) (j : Nat) (u : Value) (cs' : Array Value) (e : cs.setIfInBounds j u = cs') : NS v bg bo GX cs' n1 n2 M em mv V objs (w1.setCell ⟨bo, j, none⟩ u) :=
  ⟨below_set h.b hbo, blk_far h.g (p := ⟨bo, j, none⟩) hne u, blk_put h.o j u e, Kd.R_set h.m h.o (int_ap 28 (by decide)) j u, Kd.S_set h.s h.o (k38_ap 28 (by decide) (by decide)) j u⟩
/-- A row of numbers that is none of these has grown. -/
theorem NS.grown (h : NS v bg bo GX cs n1 n2 M em mv V objs w1) {u : Value} (hg : w1.grownBy w2 u.ownBlock) (hb : Below v.heap.size v w2) (hu : ∀ k, u.ownBlock = some k → n2 ≤ k ∧ n1 ≤ k ∧ ∃ cells, w1.heap[k]? = some (.cells cells 3 (0, 0))) : NS v bg bo GX cs n1 n2 M em mv V objs w2 := by
  have hno : ∀ {k : Nat} {cs : Array Value} {t : TypeId}, w1.heap[k]? = some (.cells cs t (0, 0)) → t ≠ 3 → some k ≠ u.ownBlock := fun hk h3 e => by
    obtain ⟨_, _, cells, hc⟩ := hu _ e.symm
    exact blk_ne hk hc h3 rfl
  exact ⟨hb, blk_grown h.g hg (hno h.g (by decide)), blk_grown h.o hg (hno h.o (by decide)), Kd.R_step h.m (fun k hk hl => hg.block k hl (fun e => by have := (hu k e.symm).2.1; omega)), Kd.S_step h.s (fun k hk hl => hg.block k hl (fun e => by have := (hu k e.symm).1; omega))⟩
/-- An object is laid behind the others; the box is stored into. -/
theorem NS.push (h : NS v bg bo GX cs n1 n2 M em mv V objs w1) (hbo : v.heap.size ≤ bo) (hne : bg ≠ bo) {V2 : Value} {objs2 : List S38} (hs : Kd.S k38 38 w2 v.heap.size (fun k => n1 ≤ k ∧ k < n3) V2 objs2) (hb : Below v.heap.size v w2) (hg : w1.grownBy w2 V.ownBlock) (cs' : Array Value) (e : cs.setIfInBounds 0 V2 = cs') :
    NS v bg bo GX cs' n1 n3 M em mv V2 objs2 (w2.setCell ⟨bo, 0, none⟩ V2) := by
  have hno : ∀ {k : Nat} {cs : Array Value} {t : TypeId}, w1.heap[k]? = some (.cells cs t (0, 0)) → (38 : Nat) ≠ t → some k ≠ V.ownBlock := fun hk h3 => Kd.S_ne h.s hk h3
  have ho2 := blk_grown h.o hg (hno h.o (by decide))
  have ty := Kd.S_typed h.s
  exact ⟨below_set hb hbo, blk_far (blk_grown h.g hg (hno h.g (by decide))) (p := ⟨bo, 0, none⟩) hne _, blk_put ho2 0 _ e, Kd.R_set (Kd.R_over' h.m ty (int_ap 38 (by decide)) hg) ho2 (int_ap 28 (by decide)) 0 _, Kd.S_set hs ho2 (k38_ap 28 (by decide) (by decide)) 0 _⟩
/-- A store into a row of numbers that is none of these. -/
theorem NS.far (h : NS v bg bo GX cs n1 n2 M em mv V objs w1) {b : Nat} {cells : Array Value} (hv : v.heap.size ≤ b) (ht : w1.heap[b]? = some (.cells cells 3 (0, 0))) (h1 : n1 ≤ b) (h2 : n2 ≤ b) (j : Nat) (u : Value) : NS v bg bo GX cs n1 n2 M em mv V objs (w1.setCell ⟨b, j, none⟩ u) :=
  ⟨below_set h.b hv, blk_far h.g (p := ⟨b, j, none⟩) (blk_ne h.g ht (by decide)) u, blk_far h.o (p := ⟨b, j, none⟩) (blk_ne h.o ht (by decide)) u, Kd.R_far (p := ⟨b, j, none⟩) h.m (fun k hk e => by have e2 : k = b := e; omega) u, Kd.S_far (p := ⟨b, j, none⟩) h.s (fun k hk e => by have e2 : k = b := e; omega) u⟩
end
theorem S_upto {w : World} {base n : Nat} {V : Value} {objs : List S38} {ok : Nat → Prop} (h : Kd.S k38 38 w base (fun k => n ≤ k ∧ ok k) V objs) : Kd.S k38 38 w base (fun k => n ≤ k ∧ k < w.heap.size) V objs :=
  Kd.S_mono (Kd.S_bound h) (fun k hk => ⟨hk.1.1, hk.2.2.1⟩)
end Go.Proofs.Ytigjhfijkdlldaa.H
end
section
/- More contracts in short form: the spec's MemOk, comparisons of heaps and events, a law's event. -/
namespace Go.Proofs.Ytigjhfijkdlldaa.H
open Go.RowKit Go.Proofs.YtigjhfijkdlldaaW.PrintWords Go.Proofs.YtigjhfijkdlldaaW.PrintLast Go.Proofs.YtigjhfijkdlldaaW.PrintMore Go.Proofs.Ytigjhfijkdlldaa.Q
set_option linter.unusedVariables false
set_option linter.unusedSimpArgs false
section
variable {w : World} {A0 A1 A2 A3 B0 B1 B2 B3 A6 : Option Addr} {c0 c1 c2 c3 d0 d1 d2 d3 c6 : Nat} {l0 : List S38} {l1 : List Int} {l2 l3 : List S60}
set_option maxHeartbeats 4000000 in
theorem specOk_c (h : InH w A0 c0 A1 c1 A2 c2 A3 c3 l0 l1 l2 l3) (h0 : (l0.length : Int) ≤ 4611686018427387903) (hf : ∀ x ∈ l0, Fit x) (h1 : (l1.length : Int) ≤ 4611686018427387903) (h2 : (l2.length : Int) + l3.length ≤ 4611686018427387903) :
    Calls Try.prog 23 #[.agg #[.slice A0 l0.length c0, .slice A1 l1.length c1, .slice A2 l2.length c2, .slice A3 l3.length c3]] w fun e w' => e = .returned (.bool (okB l0 l1 l2 l3)) ∧ Below w.heap.size w w' := by
  have HI := AK h
  have HF := AK (And.intro h0 (And.intro hf (And.intro h1 h2)))
  have HX := AK (blk_new w (.cells #[.slice A0 l0.length c0, .slice A1 l1.length c1, .slice A2 l2.length c2, .slice A3 l3.length c3] 28 (0, 0)))
  have HB := AK (below_alloc (Below.refl w.heap.size w) (.cells #[.slice A0 l0.length c0, .slice A1 l1.length c1, .slice A2 l2.length c2, .slice A3 l3.length c3] 28 (0, 0)))
  have hw2 : wrap64 ((l2.length : Int) + l3.length) = l2.length + l3.length := by unfold wrap64; omega
  have hw0 : wrap64 ((l0.length : Int) - 1) = l0.length - 1 := by unfold wrap64; omega
  obtain ⟨r, er⟩ : ∃ r, r = okB l0 l1 l2 l3 := ⟨_, rfl⟩
  rw [← er]
  have HR := AK (show r = (!decide (60 < (l0.length : Int)) && !decide (8 < (l1.length : Int)) && !decide (20 < (l2.length : Int) + l3.length) && (l0.all (obB l0.length) && (l1.all (inB · l0.length) && (l2.all (wtB l0) && l3.all (wtB l0))))) by
    rw [er]; unfold okB; rw [← decide_not, ← decide_not, ← decide_not]
    rw [show decide (l0.length ≤ 60) = decide (¬ (60 < (l0.length : Int))) from decide_eq_decide.2 (by omega), show decide (l1.length ≤ 8) = decide (¬ (8 < (l1.length : Int))) from decide_eq_decide.2 (by omega), show decide (l2.length + l3.length ≤ 20) = decide (¬ (20 < (l2.length : Int) + l3.length)) from decide_eq_decide.2 (by omega)]
    simp only [Bool.and_assoc])
  clear h h0 hf h1 h2 er
  obtain ⟨x0, hx0⟩ : ∃ y, decide (60 < (l0.length : Int)) = y := ⟨_, rfl⟩
  obtain ⟨x1, hx1⟩ : ∃ y, decide (8 < (l1.length : Int)) = y := ⟨_, rfl⟩
  obtain ⟨x2, hx2⟩ : ∃ y, decide (20 < (l2.length : Int) + l3.length) = y := ⟨_, rfl⟩
  rw [hx0, hx1, hx2] at HR
  go_enter Try.func23, Try.ntmps23
  go_upto_region 1 with fail
  generalize w.alloc (.cells #[.slice A0 l0.length c0, .slice A1 l1.length c1, .slice A2 l2.length c2, .slice A3 l3.length c3] 28 (0, 0)) = w1 at HB HX ⊢
  generalize w.heap.size = n at HX ⊢
  obtain ⟨p0, p1, p2, p3⟩ := box4 HX.out
  cases x0 with
  | true =>
    have h2 : r = false := HR.out
    subst h2
    go_wp2
    go_ret
    exact ⟨rfl, HB.out⟩
  | false =>
  cases x1 with
  | true =>
    have h2 : r = false := HR.out
    subst h2
    go_wp2
    go_ret
    exact ⟨rfl, HB.out⟩
  | false =>
  cases x2 with
  | true =>
    have h2 : r = false := HR.out
    subst h2
    go_wp2
    go_ret
    exact ⟨rfl, HB.out⟩
  | false =>
  have HR1 := AK (show r = ((l0.drop (0 : Int).toNat).all (obB l0.length) && (l1.all (inB · l0.length) && (l2.all (wtB l0) && l3.all (wtB l0)))) from HR.out)
  clear HR
  go_wp2
  clear p0 p1 p2 p3 hx0 hx1 hx2 hw2
  go_loopg [3] l0.length (fun kq v3 w' => ∃ i : Int, v3 = .int .i64 i ∧ Aside0 (0 ≤ i ∧ i + kq = l0.length) ∧ Aside0 (r = ((l0.drop i.toNat).all (obB l0.length) && (l1.all (inB · l0.length) && (l2.all (wtB l0) && l3.all (wtB l0))))) ∧ Aside0 (Below w.heap.size w w') ∧ Aside0 (w'.heap[n]? = some (.cells #[.slice A0 l0.length c0, .slice A1 l1.length c1, .slice A2 l2.length c2, .slice A3 l3.length c3] 28 (0, 0))))
  case atStart => exact ⟨0, rfl, ⟨by omega, by omega⟩, HR1, HB, HX⟩
  case round =>
    clear HR1 HB HX
    obtain ⟨i, rfl, HI0, HR, HB, HX⟩ := hrel
    obtain ⟨p0, p1, p2, p3⟩ := box4 HX.out
    cases gk with
    | succ k1 =>
      have c9 : decide (i < (l0.length : Int)) = true := deT (by have := HI0.out; omega)
      have hi0 := eq_true (show 0 ≤ i by have := HI0.out; omega)
      have hi1 := eq_true (show i < (l0.length : Int) by have := HI0.out; omega)
      have HM := AK (HF.out.2.1 _ (getD_mem l0 z38 i (by have := HI0.out; omega) (by have := HI0.out; omega)))
      obtain ⟨ad, F, f, e1, y0, y1, y2, _, hx⟩ := at_T38 (Kd.C_below HI.out.r0 HB.out) i (by have := HI0.out; omega) (by have := HI0.out; omega)
      subst e1
      have hr := HR.out
      rw [drop_cons _ z38 i (by have := HI0.out; omega) (by have := HI0.out; omega), List.all_cons] at hr
      obtain ⟨z, ez⟩ : ∃ z, z = rd_T38 l0 i := ⟨_, rfl⟩
      rw [← ez] at y0 y1 y2 hx
      rw [show l0.getD i.toNat z38 = z from ez.symm] at hr HM
      have HR2 := AK hr
      have HC := AK hx
      have HS := AK (show (_ ∧ _ ∧ _) ∧ _ from ⟨⟨y0, y1, y2⟩, p0⟩)
      clear ez hr hx HR
      go_wp2_with fail
      clear p0 p1 p2 p3 y0 y1 y2
      go_region_held3 (fun w' => (w'.cell? (ad.add (i.toNat * 3)) = some (.int .i64 z.f0) ∧ w'.cell? ⟨(ad.add (i.toNat * 3)).block, (ad.add (i.toNat * 3)).off + 1, none⟩ = some (.string z.f1) ∧ w'.cell? ⟨(ad.add (i.toNat * 3)).block, (ad.add (i.toNat * 3)).off + 2, none⟩ = some (.slice F z.f2.length f)) ∧ w'.cell? ⟨n, 0, none⟩ = some (.slice (some ad) l0.length c0))
        (first | exact HS.out | exact HY.out)
        (first | (go_at_call 76; refine (l1ObjOk_c (x := z) ⟨by omega, HF.out.1⟩ HM.out (Kd.C_below HC.out (below_drew1 (Below.refl _ _)))).mono ?_; rintro e w5 ⟨rfl, hb⟩; have HY := AK (show (_ ∧ _ ∧ _) ∧ _ from ⟨⟨pcb hb HS.out.1.1, pcb hb HS.out.1.2.1, pcb hb HS.out.1.2.2⟩, pcb hb HS.out.2⟩); have HX5 := AK (bbl (blk_drew HX.out) hb); have HB5 := AK (bst (below_drew1 HB.out) hb); clear hb))
      obtain ⟨y, hy⟩ : ∃ y, obB l0.length z = y := ⟨_, rfl⟩
      rw [hy] at HR2 ⊢
      clear hy
      cases y with
      | false =>
        have h2 : r = false := HR2.out
        subst h2
        go_wp2
        go_ret
        exact ⟨rfl, HB5.out⟩
      | true =>
        have HR := AK (show r = ((l0.drop (i + 1).toNat).all (obB l0.length) && (l1.all (inB · l0.length) && (l2.all (wtB l0) && l3.all (wtB l0)))) from HR2.out)
        clear HR2
        go_wp2
        go_roundg k1
        case measure => omega
        case rel =>
          rw [wrap_succ i (by have := HI0.out; omega) (by have := HI0.out; have := HF.out.1; omega)]
          exact ⟨i + 1, rfl, ⟨by have := HI0.out; omega, by have := HI0.out; omega⟩, HR, HB5, HX5⟩
    | zero =>
    have c9 : decide (i < (l0.length : Int)) = false := deF (by have := HI0.out; omega)
    have hr := HR.out
    rw [drop_end _ _ (by have := HI0.out; omega)] at hr
    have HR1 := AK (show r = ((l1.drop (0 : Int).toNat).all (inB · l0.length) && (l2.all (wtB l0) && l3.all (wtB l0))) from hr)
    clear hr HR HI0
    go_wp2
    clear p0 p1 p2 p3 c9
    go_loopg [4] l1.length (fun kq v4 w' => ∃ i : Int, v4 = .int .i64 i ∧ Aside0 (0 ≤ i ∧ i + kq = l1.length) ∧ Aside0 (r = ((l1.drop i.toNat).all (inB · l0.length) && (l2.all (wtB l0) && l3.all (wtB l0)))) ∧ Aside0 (Below w.heap.size w w') ∧ Aside0 (w'.heap[n]? = some (.cells #[.slice A0 l0.length c0, .slice A1 l1.length c1, .slice A2 l2.length c2, .slice A3 l3.length c3] 28 (0, 0))))
    case atStart => exact ⟨0, rfl, ⟨by omega, by omega⟩, HR1, HB, HX⟩
    case round =>
      clear HR1 HB HX
      obtain ⟨i, rfl, HI0, HR, HB, HX⟩ := hrel
      obtain ⟨p0, p1, p2, p3⟩ := box4 HX.out
      cases gk with
      | succ k1 =>
        have c9 : decide (i < (l1.length : Int)) = true := deT (by have := HI0.out; omega)
        have hi0 := eq_true (show 0 ≤ i by have := HI0.out; omega)
        have hi1 := eq_true (show i < (l1.length : Int) by have := HI0.out; omega)
        obtain ⟨ad, e1, hq⟩ := Kd.at_int (Kd.C_below HI.out.r1 HB.out) i (by have := HI0.out; omega) (by have := HI0.out; omega)
        subst e1
        have hr := HR.out
        rw [drop_cons _ 0 i (by have := HI0.out; omega) (by have := HI0.out; omega), List.all_cons] at hr
        obtain ⟨q, eq⟩ : ∃ q, q = rd l1 i := ⟨_, rfl⟩
        rw [← eq] at hq
        rw [show l1.getD i.toNat 0 = q from eq.symm, show inB q l0.length = lB q (-1) (l0.length - 1) by unfold inB lB; congr 1; exact decide_eq_decide.2 (by omega)] at hr
        have HR2 := AK hr
        clear hr eq HR
        go_wp2_with fail
        go_quiet (refine Calls.quiet_of_same (l1In_c (p := q) (a := -1) (b := l0.length - 1)))
        obtain ⟨y, hy⟩ : ∃ y, lB q (-1) (l0.length - 1) = y := ⟨_, rfl⟩
        rw [hy] at HR2 ⊢
        clear hy hq
        replace HB := AK (pw_below_drewN HB.out nq)
        replace HX := AK (blk_drewN HX.out nq)
        cases y with
        | false =>
          have h2 : r = false := HR2.out
          subst h2
          go_wp2
          go_ret
          exact ⟨rfl, HB.out⟩
        | true =>
          have HR := AK (show r = ((l1.drop (i + 1).toNat).all (inB · l0.length) && (l2.all (wtB l0) && l3.all (wtB l0))) from HR2.out)
          clear HR2 p0 p1 p2 p3
          go_wp2
          go_roundg k1
          case measure => omega
          case rel =>
            rw [wrap_succ i (by have := HI0.out; omega) (by have := HI0.out; have := HF.out.2.2.1; omega)]
            exact ⟨i + 1, rfl, ⟨by have := HI0.out; omega, by have := HI0.out; omega⟩, HR, HB, HX⟩
      | zero =>
        have c9 : decide (i < (l1.length : Int)) = false := deF (by have := HI0.out; omega)
        have hr := HR.out
        rw [drop_end _ _ (by have := HI0.out; omega)] at hr
        have HR1 := AK (show r = (l2.all (wtB l0) && l3.all (wtB l0)) from hr)
        clear hr HR HI0
        go_wp2_with fail
        clear p0 p1 p2 p3
        refine (l1WatchOk_c (Kd.C_below HI.out.r0 HB.out) (Kd.C_below HI.out.r2 HB.out)).mono ?_
        rintro e w5 ⟨rfl, hb⟩
        replace HB := AK (bst HB.out hb)
        replace HX := AK (bbl HX.out hb)
        obtain ⟨p0, p1, p2, p3⟩ := box4 HX.out
        clear hb
        obtain ⟨y, hy⟩ : ∃ y, l2.all (wtB l0) = y := ⟨_, rfl⟩
        rw [hy] at HR1 ⊢
        clear hy
        cases y with
        | false =>
          have h2 : r = false := HR1.out
          subst h2
          go_wp2
          go_ret
          exact ⟨rfl, HB.out⟩
        | true =>
          have h2 : r = l3.all (wtB l0) := HR1.out
          subst h2
          clear HR1
          go_wp2_with fail
          clear p0 p1 p2 p3
          refine (l1WatchOk_c (Kd.C_below HI.out.r0 HB.out) (Kd.C_below HI.out.r3 HB.out)).mono ?_
          rintro e w5 ⟨rfl, hb⟩
          replace HB := AK (bst HB.out hb)
          clear hb
          go_wp2
          go_ret
          exact ⟨rfl, HB.out⟩
end
end Go.Proofs.Ytigjhfijkdlldaa.H
end
