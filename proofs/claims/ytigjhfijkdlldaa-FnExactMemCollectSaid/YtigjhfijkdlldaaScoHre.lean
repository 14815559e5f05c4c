/- impl.memReach of an ok heap is reachL. -/
import Derived.Test.YtigjhfijkdlldaaScoPc
namespace Go.Proofs.Ytigjhfijkdlldaa.H
open Go.RowKit Go.Proofs.YtigjhfijkdlldaaW.PrintWords Go.Proofs.YtigjhfijkdlldaaW.PrintLast Go.Proofs.YtigjhfijkdlldaaW.PrintMore Go.Proofs.Ytigjhfijkdlldaa.Q
set_option linter.unusedVariables false
theorem info4 : (Try.prog.info? 4).map (fun i => (i.zero, i.size, i.bytes)) = some (some (.bool false), 1, 1) := by kernel_rfl
theorem start_inv {w w1 : World} {A0 A1 A2 A3 Am : Option Addr} {c0 c1 c2 c3 cm n0 n1 n2 n3 n : Nat}
    (hm : Kd.R Kd.bool 4 w1 w.heap.size (fun _ => True) (.slice Am (List.replicate (n : Int).toNat false).length cm) (List.replicate (n : Int).toNat false)) (hb : Below w.heap.size w w1)
    (hg : ((w.alloc (.cells #[.slice A0 n0 c0, .slice A1 n1 c1, .slice A2 n2 c2, .slice A3 n3 c3] 28 (0, 0))).alloc (.cells #[.slice none 0 0] 25 (0, 0))).grownBy w1 none) :
    RInv w (w1.alloc (.cells #[.slice Am n cm] 122 (0, 0))) w.heap.size (w.heap.size + 1) w1.heap.size #[.slice A0 n0 c0, .slice A1 n1 c1, .slice A2 n2 c2, .slice A3 n3 c3] n (putAll [] []) := by
  have e : (List.replicate (n : Int).toNat false).length = n := by simp
  rw [e] at hm
  refine ⟨below_alloc hb _, blk_alloc (blk_grown (blk_alloc (blk_new w _) _) hg (by simp)) _, ⟨_, blk_alloc (blk_grown (blk_new1 w _ _) hg (by simp)) _, Kd.R_nil _ _ _ _ _⟩, ⟨_, _, blk_new w1 _, Kd.R_alloc hm _, e, fun i h0 h1 => ?_⟩, by omega⟩
  have : i.toNat < n := by omega
  simp [rdOf, putAll, this]
theorem putAll_take (l xs : List Int) (x : Int) (h0 : 0 ≤ x) (h1 : x < xs.length) : putL (putAll l (xs.take x.toNat)) (rd xs x) = putAll l (xs.take (x + 1).toNat) := by
  have h2 : x.toNat < xs.length := by omega
  rw [show (x + 1).toNat = x.toNat + 1 by omega, List.take_succ_eq_append_getElem h2, putAll_append]
  unfold rd
  rw [List.getD_eq_getElem?_getD, List.getElem?_eq_getElem h2]; rfl
theorem filter_take (l : List S60) (p y : Int) (h0 : 0 ≤ y) (h1 : y < l.length) : ((l.take (y + 1).toNat).filter (fun x => x.f0 == p)).map (·.f1) =
    ((l.take y.toNat).filter (fun x => x.f0 == p)).map (·.f1) ++ (if ((rd_T60 l y).f0 == p) = true then [(rd_T60 l y).f1] else []) := by
  have h2 : y.toNat < l.length := by omega
  have e : rd_T60 l y = l[y.toNat] := by unfold rd_T60; rw [List.getD_eq_getElem?_getD, List.getElem?_eq_getElem h2]; rfl
  rw [show (y + 1).toNat = y.toNat + 1 by omega, List.take_succ_eq_append_getElem h2, List.filter_append, List.map_append, ← e, List.filter_cons, List.filter_nil]
  by_cases c : ((rd_T60 l y).f0 == p) = true
  · rw [if_pos c, if_pos c]; rfl
  · rw [if_neg c, if_neg c]; rfl
set_option maxHeartbeats 4000000 in
set_option maxRecDepth 100000 in
theorem memReach_calls (A0 A1 A2 A3 : Option Addr) (c0 c1 c2 c3 : Nat) (l0 : List S38) (l1 : List Int) (l2 l3 : List S60) (w : World) (h : InH w A0 c0 A1 c1 A2 c2 A3 c3 l0 l1 l2 l3) (hok : OkH l0 l1 l2 l3) :
    Calls Try.prog 67 #[.agg #[.slice A0 l0.length c0, .slice A1 l1.length c1, .slice A2 l2.length c2, .slice A3 l3.length c3]] w fun e w' =>
      ∃ v : Value, e = .returned v ∧ Kd.R (Kd.int .i64) 3 w' w.heap.size (fun _ => True) v (reachL l0 l1 l3) ∧ Below w.heap.size w w' := by
  have HI := AK h
  have HK := AK hok
  clear h hok
  go_enter Try.func67, Try.ntmps67
  go_wp2_with (first | ((with_reducible refine gate_dst (N := 18) rfl ?_); refine Kd.R_make Kd.bool (w0 := w) w.heap.size 4 rfl (N := 18) rfl 122 _ _ rfl (l0.length : Int) rfl rfl Try.underlying122 (.bool false) 1 info4 rfl (by decide) (by omega) false (ok := fun _ => True) (okp := fun _ => True) rfl (fun _ hk => hk) trivial (by omega) (by have := HK.out.n; omega) (below_alloc (below_alloc (Below.refl _ _) _) _) (by simp; omega) ?_; intro v1 w1 ho hb hg hnew; obtain ⟨Am, cm, hv1⟩ := Kd.R_slice ho; subst hv1; have HM := AK ho; have HB := AK hb; have HG := AK hg; have HX0 := AK (blk_grown (blk_alloc (blk_new w (.cells #[.slice A0 l0.length c0, .slice A1 l1.length c1, .slice A2 l2.length c2, .slice A3 l3.length c3] 28 (0, 0))) (.cells #[.slice none 0 0] 25 (0, 0))) hg (by simp)); obtain ⟨q0, q1, q2, q3⟩ := box4 HX0.out; have z0 := blk_lt HX0.out; clear ho hb hg hnew))
  have HR0 := AK (start_inv HM.out HB.out HG.out)
  go_loopg [23] l1.length (fun kq v23 w' => ∃ x : Int, v23 = .int .i64 x ∧ Aside0 (0 ≤ x ∧ x + kq = l1.length) ∧
    Aside0 (RInv w w' w.heap.size (w.heap.size + 1) w1.heap.size #[.slice A0 l0.length c0, .slice A1 l1.length c1, .slice A2 l2.length c2, .slice A3 l3.length c3] l0.length (putAll [] (l1.take x.toNat))))
  case atStart => exact ⟨0, rfl, ⟨by omega, by omega⟩, HR0⟩
  case round =>
    clear HR0 HM HB HG HX0 q0 q1 q2 q3 z0
    obtain ⟨x, rfl, HX, HR⟩ := hrel
    have HGD := AK (show GoodL l0.length (putAll [] (l1.take x.toNat)) from good_putAll _ (good_nil _) (fun p hp => (HK.out.rs p (List.mem_of_mem_take hp)).2))
    cases gk with
    | succ k1 =>
      have c4b : decide (x < (l1.length : Int)) = true := deT (by have := HX.out; omega)
      have e4a := eq_true (show 0 ≤ x by have := HX.out; omega)
      have e4b := eq_true (show x < (l1.length : Int) by have := HX.out; omega)
      obtain ⟨ad, e, hx0⟩ := Kd.at_int HI.out.r1 x (by have := HX.out; omega) (by have := HX.out; omega)
      subst e
      replace hx0 := pcb HR.out.bel hx0
      go_wp2_with (go_at_call 113; refine (add_calls (rd l1 x) w _ _ _ _ _ _ _ HR.out (by have := (HK.out.rs _ (getD_mem l1 0 x (by have := HX.out; omega) (by have := HX.out; omega))).2; exact this) (by have := nodup_len _ _ HGD.out; have := HK.out.n; omega)).mono ?_; rintro e w5 ⟨rfl, hr⟩; have HR5 := AK hr; clear hr)
      go_roundg k1
      case measure => omega
      case rel =>
        have h1 := HX.out
        have h2 := HK.out.r
        rw [wrap_succ x (by omega) (by omega)]
        refine ⟨x + 1, rfl, ⟨by omega, by omega⟩, ⟨?_⟩⟩
        have h3 := HR5.out
        rwa [putAll_take _ _ _ (by omega) (by omega)] at h3
    | zero =>
      have c4b : decide (x < (l1.length : Int)) = false := deF (by have := HX.out; omega)
      have HX0 := AK HR.out.hh
      obtain ⟨q0, q1, q2, q3⟩ := box4 HX0.out
      have HR0 := AK (show RInv w wr w.heap.size (w.heap.size + 1) w1.heap.size #[.slice A0 l0.length c0, .slice A1 l1.length c1, .slice A2 l2.length c2, .slice A3 l3.length c3] l0.length (putAll [] l1) from by have h1 := HR.out; rwa [take_all _ _ (by have := HX.out; omega)] at h1)
      have HGD0 := AK (show GoodL l0.length (putAll [] l1) from good_putAll _ (good_nil _) (fun p hp => (HK.out.rs p hp).2))
      clear HR HX HGD HX0
      go_wp2
      go_loopg [8] (l0.length + 1) (fun kq v8 w' => ∃ (x : Int) (out : List Int), v8 = .int .i64 x ∧ Aside0 (0 ≤ x ∧ x + kq = l0.length + 1 ∧ x ≤ out.length) ∧ Aside0 (GoodL l0.length out) ∧ Aside0 (traceL l0 l3 kq x out = reachL l0 l1 l3) ∧
        Aside0 (RInv w w' w.heap.size (w.heap.size + 1) w1.heap.size #[.slice A0 l0.length c0, .slice A1 l1.length c1, .slice A2 l2.length c2, .slice A3 l3.length c3] l0.length out))
      case atStart => exact ⟨0, putAll [] l1, rfl, ⟨by omega, by omega, by omega⟩, HGD0, ⟨rfl⟩, HR0⟩
      case round =>
        clear HR0 HGD0 q0 q1 q2 q3
        obtain ⟨x, out, rfl, HX, HGD, HT, HR⟩ := hrel
        obtain ⟨v, ho, hR⟩ := HR.out.ho
        obtain ⟨Ao, co, rfl⟩ := Kd.R_slice hR
        have qo := (box1 ho).1
        have HRO := AK hR
        have hlen := nodup_len _ _ HGD.out
        have HLEN := AK hlen
        clear ho hR hlen
        by_cases hlt : x < (out.length : Int)
        · obtain ⟨k1, rfl⟩ : ∃ k1, gk = k1 + 1 := ⟨gk - 1, by have := HX.out; have := HLEN.out; omega⟩
          have c4b : decide (x < (out.length : Int)) = true := deT hlt
          have e4a := eq_true (show 0 ≤ x by have := HX.out; omega)
          have e4b := eq_true hlt
          obtain ⟨ad, e, hx0⟩ := Kd.at_int (Kd.R_reads' HRO.out).2.2 x (by have := HX.out; omega) hlt
          subst e
          obtain ⟨p, hp⟩ : ∃ p, p = rd out x := ⟨_, rfl⟩
          rw [← hp] at hx0
          have hpr := HGD.out.2 p (by rw [hp]; exact getD_mem out 0 x (by have := HX.out; omega) hlt)
          have e5a := eq_true hpr.1
          have e5b := eq_true hpr.2
          have HP := AK hpr
          have HPE := AK hp
          have HLT := AK hlt
          clear hpr hp hlt
          obtain ⟨ad2, Af, cf, e, hy0, hy1, hy2, hl, hg⟩ := at_T38 HI.out.r0 p HP.out.1 HP.out.2
          subst e
          replace hy0 := pcb HR.out.bel hy0
          replace hy1 := pcb HR.out.bel hy1
          replace hy2 := pcb HR.out.bel hy2
          have q0 := (box4 HR.out.hh).1
          have z0 := blk_lt HR.out.hh
          have HF := AK hg
          clear hg
          have hT := HT.out
          simp only [traceL] at hT
          rw [if_pos HLT.out, ← HPE.out] at hT
          have HT2 := AK hT
          have HN := AK (next_lt HK.out HP.out.1 HP.out.2)
          clear hT HT
          obtain ⟨hparts, hsh, hkind⟩ := ob_parts (ob_at HK.out HP.out.1 HP.out.2)
          have HPT := AK hparts
          clear hparts hsh
          rcases hkind with ⟨hk, he⟩ | ⟨hk, he⟩ | ⟨hk, he⟩ | ⟨hk, he⟩
          · have b2 : ((rd_T38 l0 p).f0 == 2) = false := by rw [hk]; rfl
            have b3 : ((rd_T38 l0 p).f0 == 3) = false := by rw [hk]; rfl
            have b4 : ((rd_T38 l0 p).f0 == 4) = false := by rw [hk]; rfl
            have HNX := AK (show nextL l0 l3 p = [] by unfold nextL; rw [hk, he]; rfl)
            clear hk he
            go_wp2
            go_roundg k1
            case measure => omega
            case rel =>
              have h1 := HX.out
              have h2 := HK.out.n
              have h3 := HLT.out
              have h4 := HT2.out
              rw [HNX.out] at h4
              rw [wrap_succ x (by omega) (by omega)]
              exact ⟨x + 1, out, rfl, ⟨by omega, by omega, by omega⟩, HGD, ⟨h4⟩, ⟨HR.out.below (below_alloc (Below.refl _ _) _)⟩⟩
          · have b2 : ((rd_T38 l0 p).f0 == 2) = true := by rw [hk]; rfl
            have HNX := AK (show nextL l0 l3 p = (rd_T38 l0 p).f2 by unfold nextL; rw [hk]; rfl)
            have HE := AK he
            clear hk he
            go_wp2
            have HR1 := AK (HR.out.below (below_alloc (Below.refl _ _) (.cells #[.int .i64 (rd_T38 l0 p).f0, .string (rd_T38 l0 p).f1, .slice Af (rd_T38 l0 p).f2.length cf] 38 (0, 0))))
            clear qo q0 hy0 hy1 hy2 z0 HRO
            go_loopg [53] (rd_T38 l0 p).f2.length (fun kq v53 w' => ∃ y : Int, v53 = .int .i64 y ∧ Aside0 (0 ≤ y ∧ y + kq = (rd_T38 l0 p).f2.length) ∧
              Aside0 (RInv w w' w.heap.size (w.heap.size + 1) w1.heap.size #[.slice (some ad2) l0.length c0, .slice A1 l1.length c1, .slice A2 l2.length c2, .slice A3 l3.length c3] l0.length (putAll out ((rd_T38 l0 p).f2.take y.toNat))))
            case atStart => exact ⟨0, rfl, ⟨by omega, by omega⟩, HR1⟩
            case round =>
              clear HR1 HR
              obtain ⟨y, rfl, HY, HR⟩ := hrel
              cases gk with
              | succ k2 =>
                have c5b : decide (y < ((rd_T38 l0 p).f2.length : Int)) = true := deT (by have := HY.out; omega)
                have e6a := eq_true (show 0 ≤ y by have := HY.out; omega)
                have e6b := eq_true (show y < ((rd_T38 l0 p).f2.length : Int) by have := HY.out; omega)
                obtain ⟨ad3, e, hz0⟩ := Kd.at_int HF.out y (by have := HY.out; omega) (by have := HY.out; omega)
                subst e
                replace hz0 := pcb HR.out.bel hz0
                have HGY := AK (good_putAll ((rd_T38 l0 p).f2.take y.toNat) HGD.out (fun q hq => (HPT.out q (List.mem_of_mem_take hq)).2))
                go_wp2_with (go_at_call 113; refine (add_calls (rd (rd_T38 l0 p).f2 y) w _ _ _ _ _ _ _ HR.out (HPT.out _ (getD_mem (rd_T38 l0 p).f2 0 y (by have := HY.out; omega) (by have := HY.out; omega))).2 (by have := nodup_len _ _ HGY.out; have := HK.out.n; omega)).mono ?_; rintro e w5 ⟨rfl, hr⟩; have HR5 := AK hr; clear hr)
                go_roundg k2
                case measure => omega
                case rel =>
                  have h1 := HY.out
                  have h2 := HE.out
                  rw [wrap_succ y (by omega) (by omega)]
                  refine ⟨y + 1, rfl, ⟨by omega, by omega⟩, ⟨?_⟩⟩
                  have h3 := HR5.out
                  rwa [putAll_take out (rd_T38 l0 p).f2 y (by omega) (by omega)] at h3
              | zero =>
                have c5b : decide (y < ((rd_T38 l0 p).f2.length : Int)) = false := deF (by have := HY.out; omega)
                go_wp2
                go_roundg k1
                case measure => omega
                case rel =>
                  have h1 := HX.out
                  have h2 := HK.out.n
                  have h3 := HLT.out
                  have h4 := HT2.out
                  have h5 := HR.out
                  rw [take_all _ _ (by have := HY.out; omega), ← HNX.out] at h5
                  rw [wrap_succ x (by omega) (by omega)]
                  have h6 := (putAll_prefix (nextL l0 l3 p) out).length_le
                  exact ⟨x + 1, _, rfl, ⟨by omega, by omega, by omega⟩, ⟨good_putAll _ HGD.out HN.out⟩, ⟨h4⟩, ⟨h5⟩⟩
          · have b2 : ((rd_T38 l0 p).f0 == 2) = false := by rw [hk]; rfl
            have b3 : ((rd_T38 l0 p).f0 == 3) = true := by rw [hk]; rfl
            have e7 := eq_true (show (1 : Int) < ((rd_T38 l0 p).f2.length : Int) by omega)
            have HNX := AK (show nextL l0 l3 p = [rd (rd_T38 l0 p).f2 1] by
              unfold nextL; rw [if_pos hk]
              match hf : (rd_T38 l0 p).f2, he with
              | [a, b], _ => rfl)
            have HPI := AK (HPT.out _ (getD_mem (rd_T38 l0 p).f2 0 1 (by omega) (by omega))).2
            obtain ⟨ad3, e, hz0⟩ := Kd.at_int HF.out 1 (by omega) (by omega)
            subst e
            replace hz0 : ∀ o : Obj, (wr.alloc o).cell? ⟨ad3.block, ad3.off + 1, none⟩ = some (.int .i64 (rd (rd_T38 l0 p).f2 1)) := fun o => by
              have h1 := pcb (below_alloc HR.out.bel o) hz0
              rwa [show ad3.add (1 : Int).toNat = ⟨ad3.block, ad3.off + 1, none⟩ by simp [Addr.add]] at h1
            have HLE := AK HLEN.out
            clear hk he
            go_wp2_with (go_at_call 113; refine (add_calls (rd (rd_T38 l0 p).f2 1) w _ _ _ _ _ _ _ (HR.out.below (below_alloc (Below.refl _ _) _)) HPI.out (by have := HLE.out; have := HK.out.n; omega)).mono ?_; rintro e w5 ⟨rfl, hr⟩; have HR5 := AK hr; clear hr)
            go_roundg k1
            case measure => omega
            case rel =>
              have h1 := HX.out
              have h2 := HK.out.n
              have h3 := HLT.out
              have h4 := HT2.out
              have h5 : RInv w w5 w.heap.size (w.heap.size + 1) w1.heap.size #[.slice (some ad2) l0.length c0, .slice A1 l1.length c1, .slice A2 l2.length c2, .slice A3 l3.length c3] l0.length (putAll out (nextL l0 l3 p)) := by rw [HNX.out]; exact HR5.out
              rw [wrap_succ x (by omega) (by omega)]
              have h6 := (putAll_prefix (nextL l0 l3 p) out).length_le
              exact ⟨x + 1, _, rfl, ⟨by omega, by omega, by omega⟩, ⟨good_putAll _ HGD.out HN.out⟩, ⟨h4⟩, ⟨h5⟩⟩
          · have b2 : ((rd_T38 l0 p).f0 == 2) = false := by rw [hk]; rfl
            have b3 : ((rd_T38 l0 p).f0 == 3) = false := by rw [hk]; rfl
            have b4 : ((rd_T38 l0 p).f0 == 4) = true := by rw [hk]; rfl
            have HNX := AK (show nextL l0 l3 p = (l3.filter (fun x => x.f0 == p)).map (·.f1) by unfold nextL; rw [hk]; rfl)
            have q3 := (box4 HR.out.hh).2.2.2
            clear hk he
            go_wp2
            have HR1 := AK (HR.out.below (below_alloc (Below.refl _ _) (.cells #[.int .i64 (rd_T38 l0 p).f0, .string (rd_T38 l0 p).f1, .slice Af (rd_T38 l0 p).f2.length cf] 38 (0, 0))))
            clear qo q0 q3 hy0 hy1 hy2 z0 HRO
            go_loopg [74] l3.length (fun kq v74 w' => ∃ y : Int, v74 = .int .i64 y ∧ Aside0 (0 ≤ y ∧ y + kq = l3.length) ∧
              Aside0 (RInv w w' w.heap.size (w.heap.size + 1) w1.heap.size #[.slice (some ad2) l0.length c0, .slice A1 l1.length c1, .slice A2 l2.length c2, .slice A3 l3.length c3] l0.length (putAll out (((l3.take y.toNat).filter (fun x => x.f0 == p)).map (·.f1)))))
            case atStart => exact ⟨0, rfl, ⟨by omega, by omega⟩, HR1⟩
            case round =>
              clear HR1 HR
              obtain ⟨y, rfl, HY, HR⟩ := hrel
              cases gk with
              | succ k2 =>
                have c5b : decide (y < (l3.length : Int)) = true := deT (by have := HY.out; omega)
                have e6a := eq_true (show 0 ≤ y by have := HY.out; omega)
                have e6b := eq_true (show y < (l3.length : Int) by have := HY.out; omega)
                obtain ⟨ad3, e, hz0, hz1⟩ := at_T60 HI.out.r3 y (by have := HY.out; omega) (by have := HY.out; omega)
                subst e
                replace hz0 := pcb HR.out.bel hz0
                replace hz1 := pcb HR.out.bel hz1
                have HW := AK (wt_parts (HK.out.ds _ (getD_mem l3 z60 y (by have := HY.out; omega) (by have := HY.out; omega))))
                have HGY := AK (good_putAll (((l3.take y.toNat).filter (fun x => x.f0 == p)).map (·.f1)) HGD.out (fun q hq => by
                  obtain ⟨z, hz, rfl⟩ := List.mem_map.1 hq
                  exact (wt_parts (HK.out.ds z (List.mem_of_mem_take (List.mem_filter.1 hz).1))).2.2.2.2))
                have HT3 := AK (filter_take l3 p y (by have := HY.out; omega) (by have := HY.out; omega))
                by_cases hwp : (rd_T60 l3 y).f0 = p
                · have b6 : ((rd_T60 l3 y).f0 == p) = true := by rw [hwp]; exact beq_self_eq_true p
                  have HB6 := AK b6
                  have HWP := AK hwp
                  clear hwp
                  go_wp2_with (go_at_call 113; refine (add_calls (rd_T60 l3 y).f1 w _ _ _ _ _ _ _ (HR.out.below (below_alloc (Below.refl _ _) _)) HW.out.2.2.2.2 (by have := nodup_len _ _ HGY.out; have := HK.out.n; omega)).mono ?_; rintro e w5 ⟨rfl, hr⟩; have HR5 := AK hr; clear hr)
                  go_roundg k2
                  case measure => omega
                  case rel =>
                    have h1 := HY.out
                    have h2 := HK.out.w
                    have h3 := HR5.out
                    have h4 := HT3.out
                    rw [if_pos HB6.out] at h4
                    rw [wrap_succ y (by omega) (by omega)]
                    refine ⟨y + 1, rfl, ⟨by omega, by omega⟩, ⟨?_⟩⟩
                    rw [h4, putAll_append]; exact h3
                · have b6 : ((rd_T60 l3 y).f0 == p) = false := beq_eq_false_iff_ne.2 hwp
                  have HB6 := AK b6
                  have HWP := AK hwp
                  clear hwp
                  go_wp2
                  go_roundg k2
                  case measure => omega
                  case rel =>
                    have h1 := HY.out
                    have h2 := HK.out.w
                    have h4 := HT3.out
                    rw [HB6.out, if_neg (by simp), List.append_nil] at h4
                    rw [wrap_succ y (by omega) (by omega)]
                    refine ⟨y + 1, rfl, ⟨by omega, by omega⟩, ⟨?_⟩⟩
                    rw [h4]; exact HR.out.below (below_alloc (Below.refl _ _) _)
              | zero =>
                have c5b : decide (y < (l3.length : Int)) = false := deF (by have := HY.out; omega)
                go_wp2
                go_roundg k1
                case measure => omega
                case rel =>
                  have h1 := HX.out
                  have h2 := HK.out.n
                  have h3 := HLT.out
                  have h4 := HT2.out
                  have h5 := HR.out
                  rw [take_all _ _ (by have := HY.out; omega), ← HNX.out] at h5
                  rw [wrap_succ x (by omega) (by omega)]
                  have h6 := (putAll_prefix (nextL l0 l3 p) out).length_le
                  exact ⟨x + 1, _, rfl, ⟨by omega, by omega, by omega⟩, ⟨good_putAll _ HGD.out HN.out⟩, ⟨h4⟩, ⟨h5⟩⟩
        · have c4b : decide (x < (out.length : Int)) = false := deF hlt
          have HE := AK (show out = reachL l0 l1 l3 by
            have h1 := HT.out
            cases gk with
            | zero => exact h1
            | succ k => simp only [traceL] at h1; rw [if_neg hlt] at h1; exact h1)
          clear hlt
          go_wp2
          go_ret
          exact ⟨_, rfl, by rw [← HE.out]; exact HRO.out, HR.out.bel⟩
end Go.Proofs.Ytigjhfijkdlldaa.H
