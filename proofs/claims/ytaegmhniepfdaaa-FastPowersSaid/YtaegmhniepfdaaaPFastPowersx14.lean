/- The Go functions as Lean functions, each with the proof that its call comes to just that; written by a program of this session, by the words of the print. -/
import Derived.Test.YtaegmhniepfdaaaPFastPowersx0
import Derived.Test.YtaegmhniepfdaaaPFastPowersx1
import Derived.Test.YtaegmhniepfdaaaPFastPowersx4
import Derived.Test.YtaegmhniepfdaaaPFastPowersx7
import Derived.Test.YtaegmhniepfdaaaPFastPowersx13
namespace Go.Proofs.Ytaegmhniepfdaaa.PFastPowers
open Go.RowKit Go.Proofs.YtaegmhniepfdaaaW.PrintWords Go.Proofs.YtaegmhniepfdaaaW.PrintLast Go.Proofs.YtaegmhniepfdaaaW.PrintMore
attribute [local go_sem] max2_int min2_int max_two min_two max_three min_three max_four min_four   -- for this text's walks alone
set_option linter.unusedVariables false
set_option linter.unusedSimpArgs false
/-! ### fast_Power: function 19 -/
def fast_Power.l0 : Nat → Int → List Int → List Int → Int → Option (List Int × Int)
 | 0, _, _, _, _ => none
 | k + 1, x0, x1, x12, x13 => if x13 > 0 then ((fast_Mul.f k x0 x12 x1).bind fun bt509 => (if bt509.2 = 0 then (fast_Power.l0 k x0 x1 bt509.1 (wrap64 (x13 - 1))) else (some (([] : List Int), bt509.2)))) else (some (x12, 0))
def fast_Power.f (k : Nat) (a0 : Int) (l1 : List Int) (a2 : Int) : Option (List Int × Int) := if a2 < 0 then (some (([] : List Int), 2)) else ((fast_may.f k a0 (([l1] : List (List Int)))).bind fun t493 => (if t493 = 0 then ((poly_Trim.f k l1).bind fun t494 => (if a2 = 0 then (some ((([1] : List Int)), 0)) else (if (wrap64 ((t494.length : Int) - 1)) < 0 then (some (([] : List Int), 0)) else (if (wrap64 ((t494.length : Int) - 1)) = 0 then (if 0 < (t494.length : Int) then ((field_Pow.f k a0 (rd t494 0) (IntKind.u64.wrap (a2))).bind fun bt501 => (some ((([bt501.1] : List Int)), bt501.2))) else (none)) else (if a2 > (wrap64 (Int.tdiv (4095 : Int) (wrap64 ((t494.length : Int) - 1)))) then (some (([] : List Int), 4)) else (fast_Power.l0 k a0 t494 (([1] : List Int)) a2)))))) else (some (([] : List Int), t493))))
theorem fast_Power.mono_l : ∀ k, (∀ y0 y1 y2 y3, LeO (fast_Power.l0 k y0 y1 y2 y3) (fast_Power.l0 (k + 1) y0 y1 y2 y3))
 | 0 => fun _ _ _ _ r h => by simp [fast_Power.l0] at h
 | k + 1 => by
  have ih0 := fast_Power.mono_l k
  ·intro y0 y1 y2 y3
   unfold fast_Power.l0
   repeat' first
   | (with_reducible exact ih0 _ _ _ _)
   | (with_reducible exact fast_Mul.mono _ _ _ _)
   | (with_reducible exact fast_may.mono _ _ _)
   | (with_reducible exact field_Pow.mono _ _ _ _)
   | (with_reducible exact poly_Trim.mono _ _)
   | (with_reducible exact LeO.refl _)
   | (with_reducible exact LeO.none _)
   | (with_reducible refine LeO.ite ?_ ?_)
   | (with_reducible refine LeO.bind ?_ (fun _ => ?_))
   | exact ih0 _ _ _ _
   | exact fast_Mul.mono _ _ _ _
   | exact fast_may.mono _ _ _
   | exact field_Pow.mono _ _ _ _
   | exact poly_Trim.mono _ _
   | exact LeO.none _
   | refine LeO.ite ?_ ?_
   | refine LeO.bind ?_ (fun _ => ?_)
theorem fast_Power.mono : ∀ a0 a1 a2 k, LeO (fast_Power.f k a0 a1 a2) (fast_Power.f (k + 1) a0 a1 a2) := by
 intro a0 a1 a2 k
 have ih0 := fast_Power.mono_l k
 unfold fast_Power.f
 repeat' first
   | (with_reducible exact ih0 _ _ _ _)
   | (with_reducible exact fast_Mul.mono _ _ _ _)
   | (with_reducible exact fast_may.mono _ _ _)
   | (with_reducible exact field_Pow.mono _ _ _ _)
   | (with_reducible exact poly_Trim.mono _ _)
   | (with_reducible exact LeO.refl _)
   | (with_reducible exact LeO.none _)
   | (with_reducible refine LeO.ite ?_ ?_)
   | (with_reducible refine LeO.bind ?_ (fun _ => ?_))
   | exact ih0 _ _ _ _
   | exact fast_Mul.mono _ _ _ _
   | exact fast_may.mono _ _ _
   | exact field_Pow.mono _ _ _ _
   | exact poly_Trim.mono _ _
   | exact LeO.none _
   | refine LeO.ite ?_ ?_
   | refine LeO.bind ?_ (fun _ => ?_)
set_option maxHeartbeats 8000000 in
set_option maxRecDepth 100000 in
theorem fast_Power.calls (k : Nat) (a0 : Int) (P1_ : Nat → Prop) (A1 : Option Addr) (c1 : Nat) (l1 : List Int) (a2 : Int) (r1 : List Int) (r2 : Int) (w : World) (hs1 : Kd.V (Kd.int .u64) 33 w w.heap.size (fun k_ => P1_ k_) (.slice A1 l1.length c1) l1) (h : fast_Power.f k a0 l1 a2 = some (r1, r2)) :
  Calls Try.prog 19 #[.int .u8 a0, .slice A1 l1.length c1, .int .i64 a2] w fun e w' => ∃ v0_ : Value, e = .returned (.tuple #[v0_, .int .i64 r2]) ∧ Kd.R (Kd.int .u64) 33 w' w.heap.size (fun k_ => (w.heap.size ≤ k_)) v0_ r1 ∧ Below w.heap.size w w' := by
 have HO1 := A_ (show Kd.V (Kd.int .u64) 33 w w.heap.size (fun k_ => (P1_ k_ ∨ w.heap.size ≤ k_)) (.slice A1 l1.length c1) l1 from Kd.V_mono hs1 (fun k_ hk => .inl hk))
 have HB := A_ (Below.refl w.heap.size w)
 have H : (if a2 < 0 then (some (([] : List Int), 2)) else ((fast_may.f k a0 (([l1] : List (List Int)))).bind fun t493 => (if t493 = 0 then ((poly_Trim.f k l1).bind fun t494 => (if a2 = 0 then (some ((([1] : List Int)), 0)) else (if (wrap64 ((t494.length : Int) - 1)) < 0 then (some (([] : List Int), 0)) else (if (wrap64 ((t494.length : Int) - 1)) = 0 then (if 0 < (t494.length : Int) then ((field_Pow.f k a0 (rd t494 0) (IntKind.u64.wrap (a2))).bind fun bt501 => (some ((([bt501.1] : List Int)), bt501.2))) else (none)) else (if a2 > (wrap64 (Int.tdiv (4095 : Int) (wrap64 ((t494.length : Int) - 1)))) then (some (([] : List Int), 4)) else (fast_Power.l0 k a0 t494 (([1] : List Int)) a2)))))) else (some (([] : List Int), t493))))) = some (r1, r2) := h
 clear h
 by_cases c4 : a2 < 0
 ·rw [if_pos c4] at H
  have c4b0 : decide (a2 < 0) = true := decide_eq_true c4
  clear c4
  simp only [Option.some.injEq, Prod.mk.injEq] at H
  obtain ⟨rfl, rfl⟩ := H
  go_enter Try.func19, Try.ntmps19
  go_wp2
  go_ret2
  exact ⟨_, fr_, by first | exact Kd.R_nil _ _ _ _ _ | exact Kd.N_nil _ _ _ _ _ | exact Kd.V_nil _ _ _ _ _ | exact Kd.Q_nil _ _ _ _ _ | exact Kd.S_nil _ _ _ _ _, hb_⟩
 ·rw [if_neg c4] at H
  have c4b0 : decide (a2 < 0) = false := decide_eq_false c4
  clear c4
  obtain ⟨y490, hy490⟩ : ∃ y_ : List (List Int), y_ = (([l1] : List (List Int))) := ⟨_, rfl⟩
  replace H : ((fast_may.f k a0 y490).bind fun t493 => (if t493 = 0 then ((poly_Trim.f k l1).bind fun t494 => (if a2 = 0 then (some ((([1] : List Int)), 0)) else (if (wrap64 ((t494.length : Int) - 1)) < 0 then (some (([] : List Int), 0)) else (if (wrap64 ((t494.length : Int) - 1)) = 0 then (if 0 < (t494.length : Int) then ((field_Pow.f k a0 (rd t494 0) (IntKind.u64.wrap (a2))).bind fun bt501 => (some ((([bt501.1] : List Int)), bt501.2))) else (none)) else (if a2 > (wrap64 (Int.tdiv (4095 : Int) (wrap64 ((t494.length : Int) - 1)))) then (some (([] : List Int), 4)) else (fast_Power.l0 k a0 t494 (([1] : List Int)) a2)))))) else (some (([] : List Int), t493)))) = some (r1, r2) := by first | (rw [hy490]; with_reducible exact H) | (have H2_ := (Option.bind_some _ _).symm.trans H; rw [hy490]; with_reducible exact H2_) | (have H2_ := (Option.bind_some _ _).symm.trans H; with_reducible exact H2_) | with_reducible exact H | (rw [hy490]; exact H) | exact H
  have Ny490 := Aside0.mk hy490
  clear hy490
  replace H := Option.bind_eq_some_iff.mp H
  obtain ⟨t493, A50, H⟩ := H
  (try dsimp only at H)
  have A5 := Aside0.mk A50
  clear A50
  have HC6 := Aside0.mk H
  clear H
  go_enter Try.func19, Try.ntmps19
  go_upto_if 22 with (first | ((with_reducible refine gate_dst (N := 19) rfl ?_); refine Kd.N_lit (Kd.slice 33 (Kd.int .u64)) _ 22 ?hg (N' := 19) ?hd (xs := ([l1] : List (List Int))) (inner := [.slice A1 l1.length c1]) (ok := (fun k_ => (P1_ k_ ∨ w.heap.size ≤ k_))) (okp := (fun k_ => (P1_ k_ ∨ w.heap.size ≤ k_))) ?hr ?hp (fun _ hk => hk) ((show ∀ k_, w.heap.size ≤ k_ → (fun k_ => (P1_ k_ ∨ w.heap.size ≤ k_)) k_ from fun k_ hk => (.inr (Nat.le_trans (below_size hb_) hk))) _ (Nat.le_refl _)) (Below.refl _ _) (Nat.le_refl _) (by simp) ?_; (case hd => rfl); (case hg => rfl); (case hr => first | (go_simp; done) | (go_simp; rfl)); (case hp => exact (Reps.one (show Kd.FK (Kd.slice 33 (Kd.int .u64)) _ _ l1 [.slice A1 l1.length c1] from (Kd.FK_slice_mk (Kd.V_reads' (Kd.V_mono (ok' := (fun k_ => (P1_ k_ ∨ w.heap.size ≤ k_))) (HO1.out) (fun k_ hk => hk))).2.1 (Kd.V_F (Kd.V_mono (ok' := (fun k_ => (P1_ k_ ∨ w.heap.size ≤ k_))) (HO1.out) (fun k_ hk => hk))))) (Reps.none _ _))); intro v491 w7 ho8 hb hg_ hnew_; clear hg_ hnew_; (first | rw [← Ny490.out] at ho8 | (simp only [Int.reduceToNat] at ho8; rw [← Ny490.out] at ho8)); have n0_ := A_ (Kd.V_elder' (nV_ HO1) (Kd.N_base ho8) hb); have n1_ := A_ (Kd.N_lower ho8 (below_size hb_)); have n2_ := A_ (below_step hb_ hb); clear HO1 HB; have HO1 := n0_; have HO492 := n1_; have HB := n2_; clear n0_ n1_ n2_; clear hb ho8; obtain ⟨Ao9, co9, eo9⟩ := Kd.N_slice HO492.out; subst eo9) | ((with_reducible refine gate_callee (f := 35) rfl ?_); refine goesM_ (some 20) Try.func35 #[.int .u8 a0, .slice Ao9 y490.length co9] ?_; (with_reducible refine (fast_may.calls k a0 _ _ y490 t493 _ ?side1 ?side2 A5.out).mono ?_); (case side1 => repeat (first | exact (Kd.N_reads' HO492.out).2.2 | (with_reducible refine Kd.C_alloc ?_ _) | (with_reducible refine Kd.C_drewN ?_ _) | (with_reducible refine Kd.C_drew ?_))); (case side2 => exact (Kd.N_reads' HO492.out).2.1); rintro e w10 ⟨rfl, hb⟩; refine ⟨_, rfl, ?_⟩; have n0_ := A_ (Kd.V_below (nV_ HO1) hb); have n1_ := A_ (Kd.N_below (nN_ HO492) hb); have n2_ := A_ (below_step hb_ hb); clear HO1 HO492 HB; have HO1 := n0_; have HO492 := n1_; have HB := n2_; clear n0_ n1_ n2_; (try clear hb)))
  (try simp only [Act.put, List.setIfInBounds_toArray, List.set_cons_zero, List.set_cons_succ])
  have H := HC6.out
  clear HC6
  by_cases c11 : t493 = 0
  ·rw [if_pos c11] at H
   have c11b0 : (t493 == 0) = true := beq_iff_eq.mpr c11
   have c11b1 : (t493 != 0) = false := bne_eq_false_iff_eq.mpr c11
   clear c11
   (first | rw [c11b0] | rw [c11b1] | (simp only [i64_w, i32_w]; first | rw [c11b0] | rw [c11b1]) | skip)
   replace H := Option.bind_eq_some_iff.mp H
   obtain ⟨t494, A120, H⟩ := H
   (try dsimp only at H)
   have A12 := Aside0.mk A120
   clear A120
   have HC13 := Aside0.mk H
   clear H
   go_upto_if 29 with (first | ((with_reducible refine gate_callee (f := 29) rfl ?_); refine goesM_ (some 25) Try.func29 #[.slice A1 l1.length c1] ?_; (with_reducible refine (poly_Trim.calls k _ _ l1 t494 _ ?side1 ?side2 A12.out).mono ?_); (case side1 => repeat (first | exact (Kd.V_reads' HO1.out).2.2 | (with_reducible refine Kd.C_alloc ?_ _) | (with_reducible refine Kd.C_drewN ?_ _) | (with_reducible refine Kd.C_drew ?_))); (case side2 => exact (Kd.V_reads' HO1.out).2.1); rintro e w14 ⟨v495, rfl, ho0, hb⟩; refine ⟨_, rfl, ?_⟩; have n0_ := A_ (Kd.V_elder' (nV_ HO1) (Kd.R_base ho0) hb); have n1_ := A_ (Kd.N_elder' (nN_ HO492) (Kd.R_base ho0) hb); have n2_ := A_ (Kd.R_lower (Kd.R_newM (M := fun k_ => (w.heap.size ≤ k_)) ho0 (below_size hb_) (fun k_ h_ => h_)) (below_size hb_)); have n3_ := A_ (below_step hb_ hb); clear HO1 HO492 HB; have HO1 := n0_; have HO492 := n1_; have HO496 := n2_; have HB := n3_; clear n0_ n1_ n2_ n3_; (try clear hb); (try clear ho0); obtain ⟨Ao15, co15, eo15⟩ := Kd.R_slice HO496.out; subst eo15))
   (try simp only [Act.put, List.setIfInBounds_toArray, List.set_cons_zero, List.set_cons_succ])
   have H := HC13.out
   clear HC13
   by_cases c16 : a2 = 0
   ·rw [if_pos c16] at H
    have c16b0 : (a2 == 0) = true := beq_iff_eq.mpr c16
    have c16b1 : (a2 != 0) = false := bne_eq_false_iff_eq.mpr c16
    clear c16
    (first | rw [c16b0] | rw [c16b1] | (simp only [i64_w, i32_w]; first | rw [c16b0] | rw [c16b1]) | skip)
    obtain ⟨y497, hy497⟩ : ∃ y_ : List Int, y_ = (([1] : List Int)) := ⟨_, rfl⟩
    replace H : (some (y497, 0)) = some (r1, r2) := by first | (rw [hy497]; with_reducible exact H) | (have H2_ := (Option.bind_some _ _).symm.trans H; rw [hy497]; with_reducible exact H2_) | (have H2_ := (Option.bind_some _ _).symm.trans H; with_reducible exact H2_) | with_reducible exact H | (rw [hy497]; exact H) | exact H
    have Ny497 := Aside0.mk hy497
    clear hy497
    simp only [Option.some.injEq, Prod.mk.injEq] at H
    obtain ⟨rfl, rfl⟩ := H
    go_wp2_with (first | ((with_reducible refine gate_dst (N := 32) rfl ?_); refine Kd.R_lit (Kd.int .u64) _ 33 ?hg (N := 32) ?hd (xs := ([1] : List Int)) (inner := [.int .u64 1]) (ok := fun _ => True) (okp := fun _ => True) ?hr ?hp (fun _ hk => hk) trivial (Below.refl _ _) (Nat.le_refl _) (by simp) ?_; (case hd => rfl); (case hg => rfl); (case hr => first | (go_simp; done) | (go_simp; rfl)); (case hp => exact (Reps.one (show Kd.M (Kd.int .u64) _ _ _ 1 [.int .u64 1] from rfl) (Reps.none _ _))); intro v498 w17 ho18 hb hg_ hnew_; clear hg_ hnew_; (first | rw [← Ny497.out] at ho18 | (simp only [Int.reduceToNat] at ho18; rw [← Ny497.out] at ho18)); have n0_ := A_ (Kd.V_elder' (nV_ HO1) (Kd.R_base ho18) hb); have n1_ := A_ (Kd.N_elder' (nN_ HO492) (Kd.R_base ho18) hb); have n2_ := A_ (Kd.R_elder' (nR_ HO496) (Kd.R_base ho18) hb); have n3_ := A_ (Kd.R_lower (Kd.R_new' (Kd.R_newM (M := fun k_ => (w.heap.size ≤ k_)) ho18 (below_size hb_) (fun k_ h_ => h_)) (Kd.R_lt (nR_ HO496))) (below_size hb_)); have n4_ := A_ (below_step hb_ hb); clear HO1 HO492 HO496 HB; have HO1 := n0_; have HO492 := n1_; have HO496 := n2_; have HO499 := n3_; have HB := n4_; clear n0_ n1_ n2_ n3_ n4_; clear hb ho18))
    go_ret2
    exact ⟨_, fr_, by (with_reducible repeat (first | apply Kd.R_alloc | apply Kd.R_drewN | apply Kd.R_drew)); exact Kd.R_mono HO499.out (fun _ hk => hk.1.1), hb_⟩
   ·rw [if_neg c16] at H
    have c16b0 : (a2 == 0) = false := beq_eq_false_iff_ne.mpr c16
    have c16b1 : (a2 != 0) = true := bne_iff_ne.mpr c16
    (first | rw [c16b0] | rw [c16b1] | (simp only [i64_w, i32_w]; first | rw [c16b0] | rw [c16b1]) | skip)
    by_cases c19 : (wrap64 ((t494.length : Int) - 1)) < 0
    ·rw [if_pos c19] at H
     have c19b0 : decide ((wrap64 ((t494.length : Int) - 1)) < 0) = true := decide_eq_true c19
     clear c19
     simp only [Option.some.injEq, Prod.mk.injEq] at H
     obtain ⟨rfl, rfl⟩ := H
     go_wp2
     go_ret2
     exact ⟨_, fr_, by first | exact Kd.R_nil _ _ _ _ _ | exact Kd.N_nil _ _ _ _ _ | exact Kd.V_nil _ _ _ _ _ | exact Kd.Q_nil _ _ _ _ _ | exact Kd.S_nil _ _ _ _ _, hb_⟩
    ·rw [if_neg c19] at H
     have c19b0 : decide ((wrap64 ((t494.length : Int) - 1)) < 0) = false := decide_eq_false c19
     clear c19
     by_cases c20 : (wrap64 ((t494.length : Int) - 1)) = 0
     ·rw [if_pos c20] at H
      have c20b0 : ((wrap64 ((t494.length : Int) - 1)) == 0) = true := beq_iff_eq.mpr c20
      have c20b1 : ((wrap64 ((t494.length : Int) - 1)) != 0) = false := bne_eq_false_iff_eq.mpr c20
      clear c20
      by_cases c21 : 0 < (t494.length : Int)
      ·rw [if_pos c21] at H
       have c21b0 : decide (0 < (t494.length : Int)) = true := decide_eq_true c21
       have c21b1 : decide (0 < t494.length) = true := decide_eq_true (by omega)
       clear c21
       replace H := Option.bind_eq_some_iff.mp H
       obtain ⟨⟨t501, t502⟩, A220, H⟩ := H
       replace H : (some ((([t501] : List Int)), t502)) = some (r1, r2) := H
       have A22 := Aside0.mk A220
       clear A220
       obtain ⟨y503, hy503⟩ : ∃ y_ : List Int, y_ = (([t501] : List Int)) := ⟨_, rfl⟩
       replace H : (some (y503, t502)) = some (r1, r2) := by first | (rw [hy503]; with_reducible exact H) | (have H2_ := (Option.bind_some _ _).symm.trans H; rw [hy503]; with_reducible exact H2_) | (have H2_ := (Option.bind_some _ _).symm.trans H; with_reducible exact H2_) | with_reducible exact H | (rw [hy503]; exact H) | exact H
       have Ny503 := Aside0.mk hy503
       clear hy503
       simp only [Option.some.injEq, Prod.mk.injEq] at H
       obtain ⟨rfl, rfl⟩ := H
       have p500 : 0 ≤ (0 : Int) := (by omega)
       have q500 : 0 < (t494.length : Int) := of_decide_eq_true (by first | (with_reducible assumption) | assumption)
       obtain ⟨ad500, e500, hx500_0⟩ := Kd.at_int (Kd.R_reads' HO496.out).2.2 0 p500 q500
       cases e500
       have qi500 : (0 < t494.length) = True := eq_true (by omega)
       (try rw [show ((0 : Int)).toNat = 0 from rfl] at hx500_0)
       (try rw [Addr.add_zero'] at hx500_0)
       replace p500 := eq_true p500
       replace q500 := eq_true q500
       go_wp2_with (first | ((with_reducible refine gate_callee (f := 36) rfl ?_); refine goesM_ (some 46) Try.func36 #[.int .u8 a0, .int .u64 (rd t494 0), .int .u64 (IntKind.u64.wrap (a2))] ?_; (with_reducible refine (field_Pow.calls k a0 (rd t494 0) (IntKind.u64.wrap (a2)) t501 t502 _ A22.out).mono ?_); rintro e w23 ⟨rfl, hb⟩; refine ⟨_, rfl, ?_⟩; have n0_ := A_ (Kd.V_below (nV_ HO1) hb); have n1_ := A_ (Kd.N_below (nN_ HO492) hb); have n2_ := A_ (Kd.R_below (nR_ HO496) hb); have n3_ := A_ (below_step hb_ hb); clear HO1 HO492 HO496 HB; have HO1 := n0_; have HO492 := n1_; have HO496 := n2_; have HB := n3_; clear n0_ n1_ n2_ n3_; (try clear hb)) | ((with_reducible refine gate_dst (N := 50) rfl ?_); refine Kd.R_lit (Kd.int .u64) _ 33 ?hg (N := 50) ?hd (xs := ([t501] : List Int)) (inner := [.int .u64 t501]) (ok := fun _ => True) (okp := fun _ => True) ?hr ?hp (fun _ hk => hk) trivial (Below.refl _ _) (Nat.le_refl _) (by simp) ?_; (case hd => rfl); (case hg => rfl); (case hr => first | (go_simp; done) | (go_simp; rfl)); (case hp => exact (Reps.one (show Kd.M (Kd.int .u64) _ _ _ t501 [.int .u64 t501] from rfl) (Reps.none _ _))); intro v504 w24 ho25 hb hg_ hnew_; clear hg_ hnew_; (first | rw [← Ny503.out] at ho25 | (simp only [Int.reduceToNat] at ho25; rw [← Ny503.out] at ho25)); have n0_ := A_ (Kd.V_elder' (nV_ HO1) (Kd.R_base ho25) hb); have n1_ := A_ (Kd.N_elder' (nN_ HO492) (Kd.R_base ho25) hb); have n2_ := A_ (Kd.R_elder' (nR_ HO496) (Kd.R_base ho25) hb); have n3_ := A_ (Kd.R_lower (Kd.R_new' (Kd.R_newM (M := fun k_ => (w.heap.size ≤ k_)) ho25 (below_size hb_) (fun k_ h_ => h_)) (Kd.R_lt (nR_ HO496))) (below_size hb_)); have n4_ := A_ (below_step hb_ hb); clear HO1 HO492 HO496 HB; have HO1 := n0_; have HO492 := n1_; have HO496 := n2_; have HO505 := n3_; have HB := n4_; clear n0_ n1_ n2_ n3_ n4_; clear hb ho25))
       go_ret2
       exact ⟨_, fr_, by (with_reducible repeat (first | apply Kd.R_alloc | apply Kd.R_drewN | apply Kd.R_drew)); exact Kd.R_mono HO505.out (fun _ hk => hk.1.1), hb_⟩
      ·rw [if_neg c21] at H
       exact absurd H (by simp)
     ·rw [if_neg c20] at H
      have c20b0 : ((wrap64 ((t494.length : Int) - 1)) == 0) = false := beq_eq_false_iff_ne.mpr c20
      have c20b1 : ((wrap64 ((t494.length : Int) - 1)) != 0) = true := bne_iff_ne.mpr c20
      by_cases c26 : a2 > (wrap64 (Int.tdiv (4095 : Int) (wrap64 ((t494.length : Int) - 1))))
      ·rw [if_pos c26] at H
       have c26b0 : decide ((wrap64 (Int.tdiv (4095 : Int) (wrap64 ((t494.length : Int) - 1)))) < a2) = true := decide_eq_true c26
       clear c26
       simp only [Option.some.injEq, Prod.mk.injEq] at H
       obtain ⟨rfl, rfl⟩ := H
       go_wp2
       go_ret2
       exact ⟨_, fr_, by first | exact Kd.R_nil _ _ _ _ _ | exact Kd.N_nil _ _ _ _ _ | exact Kd.V_nil _ _ _ _ _ | exact Kd.Q_nil _ _ _ _ _ | exact Kd.S_nil _ _ _ _ _, hb_⟩
      ·rw [if_neg c26] at H
       have c26b0 : decide ((wrap64 (Int.tdiv (4095 : Int) (wrap64 ((t494.length : Int) - 1)))) < a2) = false := decide_eq_false c26
       clear c26
       obtain ⟨y506, hy506⟩ : ∃ y_ : List Int, y_ = (([1] : List Int)) := ⟨_, rfl⟩
       replace H : (fast_Power.l0 k a0 t494 y506 a2) = some (r1, r2) := by first | (rw [hy506]; with_reducible exact H) | (have H2_ := (Option.bind_some _ _).symm.trans H; rw [hy506]; with_reducible exact H2_) | (have H2_ := (Option.bind_some _ _).symm.trans H; with_reducible exact H2_) | with_reducible exact H | (rw [hy506]; exact H) | exact H
       have Ny506 := Aside0.mk hy506
       clear hy506
       have H' := Aside0.mk H
       clear H
       go_wp2_with (first | ((with_reducible refine gate_dst (N := 57) rfl ?_); refine Kd.R_lit (Kd.int .u64) _ 33 ?hg (N := 57) ?hd (xs := ([1] : List Int)) (inner := [.int .u64 1]) (ok := fun _ => True) (okp := fun _ => True) ?hr ?hp (fun _ hk => hk) trivial (Below.refl _ _) (Nat.le_refl _) (by simp) ?_; (case hd => rfl); (case hg => rfl); (case hr => first | (go_simp; done) | (go_simp; rfl)); (case hp => exact (Reps.one (show Kd.M (Kd.int .u64) _ _ _ 1 [.int .u64 1] from rfl) (Reps.none _ _))); intro v507 w27 ho28 hb hg_ hnew_; clear hg_ hnew_; (first | rw [← Ny506.out] at ho28 | (simp only [Int.reduceToNat] at ho28; rw [← Ny506.out] at ho28)); have n0_ := A_ (Kd.V_elder' (nV_ HO1) (Kd.R_base ho28) hb); have n1_ := A_ (Kd.N_elder' (nN_ HO492) (Kd.R_base ho28) hb); have n2_ := A_ (Kd.R_elder' (nR_ HO496) (Kd.R_base ho28) hb); have n3_ := A_ (Kd.R_lower (Kd.R_new' (Kd.R_newM (M := fun k_ => (w.heap.size ≤ k_)) ho28 (below_size hb_) (fun k_ h_ => h_)) (Kd.R_lt (nR_ HO496))) (below_size hb_)); have n4_ := A_ (below_step hb_ hb); clear HO1 HO492 HO496 HB; have HO1 := n0_; have HO492 := n1_; have HO496 := n2_; have HO508 := n3_; have HB := n4_; clear n0_ n1_ n2_ n3_ n4_; clear hb ho28))
       go_loopg [12, 13] k (fun kq v12 v13 w' => ∃ (x12_1 : List Int) (x13_1 : Int), v13 = .int .i64 x13_1 ∧ Aside0 (fast_Power.l0 kq a0 t494 x12_1 x13_1 = some (r1, r2)) ∧ Aside0 (kq ≤ k) ∧ Aside0 (Kd.R (Kd.int .u64) 33 w' w.heap.size (fun k_ => (w.heap.size ≤ k_) ∧ some k_ ≠ (v12 : Value).ownBlock) (.slice Ao15 t494.length co15) t494) ∧ Aside0 (Kd.R (Kd.int .u64) 33 w' w.heap.size (fun k_ => (w.heap.size ≤ k_) ∧ some k_ ≠ ((.slice Ao15 t494.length co15) : Value).ownBlock) v12 x12_1) ∧ Aside0 (Below w.heap.size w w'))
       case atStart => exact ⟨(y506), (a2), (fs_), H', ⟨Nat.le_refl _⟩, ⟨by (with_reducible repeat (first | apply Kd.R_alloc | apply Kd.R_drewN | apply Kd.R_drew)); exact Kd.R_mono HO496.out (fun _ hk => ⟨hk.1.1, hk.2⟩)⟩, ⟨by (with_reducible repeat (first | apply Kd.R_alloc | apply Kd.R_drewN | apply Kd.R_drew)); exact Kd.R_mono HO508.out (fun _ hk => ⟨hk.1.1, hk.2⟩)⟩, ⟨by repeat (first | (with_reducible first | exact HB.out | apply below_alloc | apply pw_below_drewN | apply below_drew1) | exact HB.out)⟩⟩
       case round =>
        clear H'
        try clear c1
        try clear c2
        try clear p2
        try clear c3
        try clear c4
        try clear c4b0
        try clear p5
        try clear q5
        try clear hx5
        try clear qi5
        try clear p6
        try clear c11
        try clear c11b0
        try clear c11b1
        try clear c16
        try clear c16b0
        try clear c16b1
        try clear c19
        try clear c19b0
        try clear c20
        try clear c20b0
        try clear c20b1
        try clear c21
        try clear c21b0
        try clear c21b1
        try clear c26
        try clear c26b0
        try clear hx500_0
        try clear p500
        try clear q500
        obtain ⟨x12_1, x13_1, rfl, HA, HK1, HO_1, HO_12, HB⟩ := hrel
        cases gk with
        | zero => exact absurd HA.out (by simp [fast_Power.l0])
        | succ k1 =>
         have H := HA.out
         clear HA
         simp only [fast_Power.l0] at H
         by_cases c29 : x13_1 > 0
         ·rw [if_pos c29] at H
          have c29b0 : decide (0 < x13_1) = true := decide_eq_true c29
          clear c29
          replace H := Option.bind_eq_some_iff.mp H
          obtain ⟨⟨t509, t510⟩, A300, H⟩ := H
          replace H : (if t510 = 0 then (fast_Power.l0 k1 a0 t494 t509 (wrap64 (x13_1 - 1))) else (some (([] : List Int), t510))) = some (r1, r2) := H
          have A30 := Aside0.mk A300
          clear A300
          have HC31 := Aside0.mk H
          clear H
          obtain ⟨Ao32, co32, eo32⟩ := Kd.R_slice HO_12.out
          subst eo32
          go_upto_if 71 with (first | ((with_reducible refine gate_callee (f := 12) rfl ?_); refine goesM_ (some 67) Try.func12 #[.int .u8 a0, .slice Ao32 x12_1.length co32, .slice Ao15 t494.length co15] ?_; (with_reducible refine (fast_Mul.calls k1 a0 _ _ x12_1 _ _ t494 t509 t510 _ ?side1 ?side2 ?side3 ?side4 A30.out).mono ?_); (case side1 => repeat (first | exact (Kd.R_reads' HO_12.out).2.2 | (with_reducible refine Kd.C_alloc ?_ _) | (with_reducible refine Kd.C_drewN ?_ _) | (with_reducible refine Kd.C_drew ?_))); (case side2 => exact (Kd.R_reads' HO_12.out).2.1); (case side3 => repeat (first | exact (Kd.R_reads' HO_1.out).2.2 | (with_reducible refine Kd.C_alloc ?_ _) | (with_reducible refine Kd.C_drewN ?_ _) | (with_reducible refine Kd.C_drew ?_))); (case side4 => exact (Kd.R_reads' HO_1.out).2.1); rintro e w33 ⟨v511, rfl, ho0, hb⟩; refine ⟨_, rfl, ?_⟩; have n0_ := A_ (Kd.R_elder' (nR_ HO_1) (Kd.R_base ho0) hb); have n1_ := A_ (Kd.R_elder' (nR_ HO_12) (Kd.R_base ho0) hb); have n2_ := A_ (Kd.R_lower (Kd.R_new' (Kd.R_new' (Kd.R_newM (M := fun k_ => (w.heap.size ≤ k_)) ho0 (below_size hb_) (fun k_ h_ => h_)) (Kd.R_lt (nR_ HO_1))) (Kd.R_lt (nR_ HO_12))) (below_size hb_)); have n3_ := A_ (below_step hb_ hb); clear HO_1 HO_12 HB; have HO_1 := n0_; have HO_12 := n1_; have HO512 := n2_; have HB := n3_; clear n0_ n1_ n2_ n3_; (try clear hb); (try clear ho0)))
          (try simp only [Act.put, List.setIfInBounds_toArray, List.set_cons_zero, List.set_cons_succ])
          have H := HC31.out
          clear HC31
          by_cases c34 : t510 = 0
          ·rw [if_pos c34] at H
           have c34b0 : (t510 == 0) = true := beq_iff_eq.mpr c34
           have c34b1 : (t510 != 0) = false := bne_eq_false_iff_eq.mpr c34
           clear c34
           (first | rw [c34b0] | rw [c34b1] | (simp only [i64_w, i32_w]; first | rw [c34b0] | rw [c34b1]) | skip)
           have H' := Aside0.mk H
           clear H
           go_wp2
           go_roundg k1
           case measure => have := HK1.out; omega
           case rel => exact ⟨(t509), (wrap64 (x13_1 - 1)), (fs_), H', ⟨by have := HK1.out; omega⟩, ⟨by (with_reducible repeat (first | apply Kd.R_alloc | apply Kd.R_drewN | apply Kd.R_drew)); exact Kd.R_mono HO_1.out (fun _ hk => ⟨hk.1.1, hk.2⟩)⟩, ⟨by (with_reducible repeat (first | apply Kd.R_alloc | apply Kd.R_drewN | apply Kd.R_drew)); exact Kd.R_mono HO512.out (fun _ hk => ⟨hk.1.1.1, hk.1.2⟩)⟩, ⟨by repeat (first | (with_reducible first | exact HB.out | apply below_alloc | apply pw_below_drewN | apply below_drew1) | exact HB.out)⟩⟩
          ·rw [if_neg c34] at H
           have c34b0 : (t510 == 0) = false := beq_eq_false_iff_ne.mpr c34
           have c34b1 : (t510 != 0) = true := bne_iff_ne.mpr c34
           (first | rw [c34b0] | rw [c34b1] | (simp only [i64_w, i32_w]; first | rw [c34b0] | rw [c34b1]) | skip)
           simp only [Option.some.injEq, Prod.mk.injEq] at H
           obtain ⟨rfl, rfl⟩ := H
           go_wp2
           go_ret2
           exact ⟨_, fr_, by first | exact Kd.R_nil _ _ _ _ _ | exact Kd.N_nil _ _ _ _ _ | exact Kd.V_nil _ _ _ _ _ | exact Kd.Q_nil _ _ _ _ _ | exact Kd.S_nil _ _ _ _ _, hb_⟩
         ·rw [if_neg c29] at H
          have c29b0 : decide (0 < x13_1) = false := decide_eq_false c29
          clear c29
          simp only [Option.some.injEq, Prod.mk.injEq] at H
          obtain ⟨rfl, rfl⟩ := H
          go_wp2
          go_ret2
          exact ⟨_, fr_, by (with_reducible repeat (first | apply Kd.R_alloc | apply Kd.R_drewN | apply Kd.R_drew)); exact Kd.R_mono HO_12.out (fun _ hk => hk.1), hb_⟩
  ·rw [if_neg c11] at H
   have c11b0 : (t493 == 0) = false := beq_eq_false_iff_ne.mpr c11
   have c11b1 : (t493 != 0) = true := bne_iff_ne.mpr c11
   (first | rw [c11b0] | rw [c11b1] | (simp only [i64_w, i32_w]; first | rw [c11b0] | rw [c11b1]) | skip)
   simp only [Option.some.injEq, Prod.mk.injEq] at H
   obtain ⟨rfl, rfl⟩ := H
   go_wp2
   go_ret2
   exact ⟨_, fr_, by first | exact Kd.R_nil _ _ _ _ _ | exact Kd.N_nil _ _ _ _ _ | exact Kd.V_nil _ _ _ _ _ | exact Kd.Q_nil _ _ _ _ _ | exact Kd.S_nil _ _ _ _ _, hb_⟩
/-! ### cr1_Sum: function 34 -/
def cr1_Sum.f (a0 : Int) (a1 : Int) (a2 : Int) : Option (Int) := if a1 ≥ (IntKind.u64.wrap (a0 - a2)) then (some (IntKind.u64.wrap (a1 - (IntKind.u64.wrap (a0 - a2))))) else (some (IntKind.u64.wrap (a1 + a2)))
set_option maxHeartbeats 8000000 in
set_option maxRecDepth 100000 in
theorem cr1_Sum.calls (a0 : Int) (a1 : Int) (a2 : Int) (r : Int) (w : World) (h : cr1_Sum.f a0 a1 a2 = some r) :
  Calls Try.prog 34 #[.int .u64 a0, .int .u64 a1, .int .u64 a2] w fun e w' => e = .returned (.int .u64 r) ∧ Drawn0 w w' := by
 have H : (if a1 ≥ (IntKind.u64.wrap (a0 - a2)) then (some (IntKind.u64.wrap (a1 - (IntKind.u64.wrap (a0 - a2))))) else (some (IntKind.u64.wrap (a1 + a2)))) = some r := h
 clear h
 by_cases c4 : a1 ≥ (IntKind.u64.wrap (a0 - a2))
 ·rw [if_pos c4] at H
  have c4b0 : decide ((IntKind.u64.wrap (a0 - a2)) ≤ a1) = true := decide_eq_true c4
  clear c4
  obtain rfl := Option.some.inj H
  go_enter Try.func34, Try.ntmps34
  go_wp2
  go_ret
  exact ⟨fs_, by repeat (first | exact Drawn0.refl _ | apply Drawn0.step)⟩
 ·rw [if_neg c4] at H
  have c4b0 : decide ((IntKind.u64.wrap (a0 - a2)) ≤ a1) = false := decide_eq_false c4
  clear c4
  obtain rfl := Option.some.inj H
  go_enter Try.func34, Try.ntmps34
  go_wp2
  go_ret
  exact ⟨fs_, by repeat (first | exact Drawn0.refl _ | apply Drawn0.step)⟩
/-! ### cr1_Times: function 21 -/
def cr1_Times.l0 : Nat → Int → Int → Int → Int → Int → Option (Int)
 | 0, _, _, _, _, _ => none
 | k + 1, x0, x1, x2, x7, x8 => if x8 ≥ 0 then ((cr1_Sum.f x0 x7 x7).bind fun t513 => (if 0 ≤ (IntKind.u64.wrap (x8)) then (if (Go.bits .and .u64 (shr .u64 x2 (IntKind.u64.wrap (x8))) 1) = 1 then ((cr1_Sum.f x0 t513 x1).bind fun t514 => (cr1_Times.l0 k x0 x1 x2 t514 (wrap64 (x8 - 1)))) else (cr1_Times.l0 k x0 x1 x2 t513 (wrap64 (x8 - 1)))) else (none))) else (some x7)
def cr1_Times.f (k : Nat) (a0 : Int) (a1 : Int) (a2 : Int) : Option (Int) := cr1_Times.l0 k a0 a1 a2 0 63
theorem cr1_Times.mono_l : ∀ k, (∀ y0 y1 y2 y3 y4, LeO (cr1_Times.l0 k y0 y1 y2 y3 y4) (cr1_Times.l0 (k + 1) y0 y1 y2 y3 y4))
 | 0 => fun _ _ _ _ _ r h => by simp [cr1_Times.l0] at h
 | k + 1 => by
  have ih0 := cr1_Times.mono_l k
  ·intro y0 y1 y2 y3 y4
   unfold cr1_Times.l0
   repeat' first
   | (with_reducible exact ih0 _ _ _ _ _)
   | (with_reducible exact LeO.refl _)
   | (with_reducible exact LeO.none _)
   | (with_reducible refine LeO.ite ?_ ?_)
   | (with_reducible refine LeO.bind ?_ (fun _ => ?_))
   | exact ih0 _ _ _ _ _
   | exact LeO.none _
   | refine LeO.ite ?_ ?_
   | refine LeO.bind ?_ (fun _ => ?_)
theorem cr1_Times.mono : ∀ a0 a1 a2 k, LeO (cr1_Times.f k a0 a1 a2) (cr1_Times.f (k + 1) a0 a1 a2) := by
 intro a0 a1 a2 k
 have ih0 := cr1_Times.mono_l k
 unfold cr1_Times.f
 repeat' first
   | (with_reducible exact ih0 _ _ _ _ _)
   | (with_reducible exact LeO.refl _)
   | (with_reducible exact LeO.none _)
   | (with_reducible refine LeO.ite ?_ ?_)
   | (with_reducible refine LeO.bind ?_ (fun _ => ?_))
   | exact ih0 _ _ _ _ _
   | exact LeO.none _
   | refine LeO.ite ?_ ?_
   | refine LeO.bind ?_ (fun _ => ?_)
set_option maxHeartbeats 8000000 in
set_option maxRecDepth 100000 in
theorem cr1_Times.calls (k : Nat) (a0 : Int) (a1 : Int) (a2 : Int) (r : Int) (w : World) (h : cr1_Times.f k a0 a1 a2 = some r) :
  Calls Try.prog 21 #[.int .u64 a0, .int .u64 a1, .int .u64 a2] w fun e w' => e = .returned (.int .u64 r) ∧ Drawn0 w w' := by
 have H : (cr1_Times.l0 k a0 a1 a2 0 63) = some r := h
 clear h
 have H' := Aside0.mk H
 clear H
 go_enter Try.func21, Try.ntmps21
 go_wp2
 go_loopg [7, 8] k (fun kq v7 v8 w' => ∃ (x7_1 : Int) (x8_1 : Int), v7 = .int .u64 x7_1 ∧ v8 = .int .i64 x8_1 ∧ Aside0 (cr1_Times.l0 kq a0 a1 a2 x7_1 x8_1 = some r) ∧ Aside0 (kq ≤ k) ∧ Drawn0 w w')
 case atStart => exact ⟨(0), (63), (fs_), (fs_), H', ⟨Nat.le_refl _⟩, by repeat (first | exact Drawn0.refl _ | apply Drawn0.step)⟩
 case round =>
  clear H'
  try clear c2
  try clear p2
  obtain ⟨x7_1, x8_1, rfl, rfl, HA, HK1, ⟨m1, rfl⟩⟩ := hrel
  cases gk with
  | zero => exact absurd HA.out (by simp [cr1_Times.l0])
  | succ k1 =>
   have H := HA.out
   clear HA
   simp only [cr1_Times.l0] at H
   by_cases c4 : x8_1 ≥ 0
   ·rw [if_pos c4] at H
    have c4b0 : decide (0 ≤ x8_1) = true := decide_eq_true c4
    clear c4
    replace H := Option.bind_eq_some_iff.mp H
    obtain ⟨t513, A50, H⟩ := H
    (try dsimp only at H)
    have A5 := Aside0.mk A50
    clear A50
    obtain ⟨ji6, hji6⟩ : ∃ j_ : Int, (IntKind.u64.wrap (x8_1)) = j_ := ⟨_, rfl⟩
    replace H : (if 0 ≤ (ji6) then (if (Go.bits .and .u64 (shr .u64 a2 (ji6)) 1) = 1 then ((cr1_Sum.f a0 t513 a1).bind fun t514 => (cr1_Times.l0 k1 a0 a1 a2 t514 (wrap64 (x8_1 - 1)))) else (cr1_Times.l0 k1 a0 a1 a2 t513 (wrap64 (x8_1 - 1)))) else (none)) = some r := by first | (rw [hji6] at H; exact H) | (simp only [hji6] at H ⊢; exact H)
    (try rw [hji6] at A5)
    by_cases c7 : 0 ≤ (ji6)
    ·rw [if_pos c7] at H
     have c7b0 := eq_true c7
     have c7b1 : decide (0 ≤ (ji6)) = true := decide_eq_true c7
     clear c7
     obtain ⟨ji8, hji8⟩ : ∃ j_ : Int, (shr .u64 a2 (ji6)) = j_ := ⟨_, rfl⟩
     replace H : (if (Go.bits .and .u64 (ji8) 1) = 1 then ((cr1_Sum.f a0 t513 a1).bind fun t514 => (cr1_Times.l0 k1 a0 a1 a2 t514 (wrap64 (x8_1 - 1)))) else (cr1_Times.l0 k1 a0 a1 a2 t513 (wrap64 (x8_1 - 1)))) = some r := by first | (rw [hji8] at H; exact H) | (simp only [hji8] at H ⊢; exact H)
     (try rw [hji8] at A5)
     have hji8_ : (a2 / 2 ^ min (ji6).toNat 64) = ji8 := hji8
     have hji8z : (ji6) ≤ 64 → (a2 / 2 ^ (ji6).toNat) = ji8 := shr_small hji8
     have HC9 := Aside0.mk H
     clear H
     go_upto_if 22 with (first | ((with_reducible refine gate_callee (f := 34) rfl ?_); refine goesM_ (some 16) Try.func34 #[.int .u64 a0, .int .u64 x7_1, .int .u64 x7_1] ?_; (with_reducible refine (cr1_Sum.calls a0 x7_1 x7_1 t513 _ A5.out).mono ?_); rintro e w' ⟨rfl, ⟨nd, rfl⟩⟩; refine ⟨_, rfl, ?_⟩))
     (try simp only [Act.put, List.setIfInBounds_toArray, List.set_cons_zero, List.set_cons_succ])
     have H := HC9.out
     clear HC9
     by_cases c10 : (Go.bits .and .u64 (ji8) 1) = 1
     ·rw [if_pos c10] at H
      have c10b0 : ((Go.bits .and .u64 (ji8) 1) == 1) = true := beq_iff_eq.mpr c10
      have c10b1 : ((Go.bits .and .u64 (ji8) 1) != 1) = false := bne_eq_false_iff_eq.mpr c10
      clear c10
      (first | rw [c10b0] | rw [c10b1] | (simp only [i64_w, i32_w]; first | rw [c10b0] | rw [c10b1]) | skip)
      replace H := Option.bind_eq_some_iff.mp H
      obtain ⟨t514, A110, H⟩ := H
      replace H : (cr1_Times.l0 k1 a0 a1 a2 t514 (wrap64 (x8_1 - 1))) = some r := H
      have A11 := Aside0.mk A110
      clear A110
      have H' := Aside0.mk H
      clear H
      go_wp2_with (first | ((with_reducible refine gate_callee (f := 34) rfl ?_); refine goesM_ (some 26) Try.func34 #[.int .u64 a0, .int .u64 t513, .int .u64 a1] ?_; (with_reducible refine (cr1_Sum.calls a0 t513 a1 t514 _ A11.out).mono ?_); rintro e w' ⟨rfl, ⟨nd, rfl⟩⟩; refine ⟨_, rfl, ?_⟩))
      go_roundg k1
      case measure => have := HK1.out; omega
      case rel => exact ⟨(t514), (wrap64 (x8_1 - 1)), (fs_), (fs_), H', ⟨by have := HK1.out; omega⟩, by repeat (first | exact Drawn0.refl _ | apply Drawn0.step)⟩
     ·rw [if_neg c10] at H
      have c10b0 : ((Go.bits .and .u64 (ji8) 1) == 1) = false := beq_eq_false_iff_ne.mpr c10
      have c10b1 : ((Go.bits .and .u64 (ji8) 1) != 1) = true := bne_iff_ne.mpr c10
      (first | rw [c10b0] | rw [c10b1] | (simp only [i64_w, i32_w]; first | rw [c10b0] | rw [c10b1]) | skip)
      have H' := Aside0.mk H
      clear H
      go_wp2
      go_roundg k1
      case measure => have := HK1.out; omega
      case rel => exact ⟨(t513), (wrap64 (x8_1 - 1)), (fs_), (fs_), H', ⟨by have := HK1.out; omega⟩, by repeat (first | exact Drawn0.refl _ | apply Drawn0.step)⟩
    ·rw [if_neg c7] at H
     exact absurd H (by simp)
   ·rw [if_neg c4] at H
    have c4b0 : decide (0 ≤ x8_1) = false := decide_eq_false c4
    clear c4
    obtain rfl := Option.some.inj H
    go_wp2
    go_ret
    exact ⟨fs_, by repeat (first | exact Drawn0.refl _ | apply Drawn0.step)⟩
/-! ### cr1_P: function 22 -/
def cr1_P.f (a0 : Int) : Option (Int) := if a0 = 1 then (some 2013265921) else (if a0 = 2 then (some 18446744069414584321) else (some 0))
set_option maxHeartbeats 8000000 in
set_option maxRecDepth 100000 in
theorem cr1_P.calls (a0 : Int) (r : Int) (w : World) (h : cr1_P.f a0 = some r) :
  Calls Try.prog 22 #[.int .u8 a0] w fun e w' => e = .returned (.int .u64 r) ∧ Drawn0 w w' := by
 have H : (if a0 = 1 then (some 2013265921) else (if a0 = 2 then (some 18446744069414584321) else (some 0))) = some r := h
 clear h
 by_cases c2 : a0 = 1
 ·rw [if_pos c2] at H
  have c2b0 : (a0 == 1) = true := beq_iff_eq.mpr c2
  have c2b1 : (a0 != 1) = false := bne_eq_false_iff_eq.mpr c2
  clear c2
  obtain rfl := Option.some.inj H
  go_enter Try.func22, Try.ntmps22
  go_wp2
  go_ret
  exact ⟨fs_, by repeat (first | exact Drawn0.refl _ | apply Drawn0.step)⟩
 ·rw [if_neg c2] at H
  have c2b0 : (a0 == 1) = false := beq_eq_false_iff_ne.mpr c2
  have c2b1 : (a0 != 1) = true := bne_iff_ne.mpr c2
  by_cases c3 : a0 = 2
  ·rw [if_pos c3] at H
   have c3b0 : (a0 == 2) = true := beq_iff_eq.mpr c3
   have c3b1 : (a0 != 2) = false := bne_eq_false_iff_eq.mpr c3
   clear c3
   obtain rfl := Option.some.inj H
   go_enter Try.func22, Try.ntmps22
   go_wp2
   go_ret
   exact ⟨fs_, by repeat (first | exact Drawn0.refl _ | apply Drawn0.step)⟩
  ·rw [if_neg c3] at H
   have c3b0 : (a0 == 2) = false := beq_eq_false_iff_ne.mpr c3
   have c3b1 : (a0 != 2) = true := bne_iff_ne.mpr c3
   obtain rfl := Option.some.inj H
   go_enter Try.func22, Try.ntmps22
   go_wp2
   go_ret
   exact ⟨fs_, by repeat (first | exact Drawn0.refl _ | apply Drawn0.step)⟩
/-! ### cr1_Copy: function 9 -/
def cr1_Copy.f (l0 : List Int) : Option (List Int) := (some (([] : List Int) : List Int)).bind fun y515 => (if y515.length + l0.length < 17592186044416 then (some (y515 ++ l0)) else (none))
set_option maxHeartbeats 8000000 in
set_option maxRecDepth 100000 in
theorem cr1_Copy.calls (A0 : Option Addr) (c0 : Nat) (l0 : List Int) (r : List Int) (w : World) (hr0 : Kd.C (Kd.int .u64) w A0 l0.length l0) (hc0 : l0.length ≤ c0) (h : cr1_Copy.f l0 = some r) :
  Calls Try.prog 9 #[.slice A0 l0.length c0] w fun e w' => ∃ v0_ : Value, e = .returned (v0_) ∧ Kd.R (Kd.int .u64) 33 w' w.heap.size (fun _ => True) v0_ r ∧ Below w.heap.size w w' := by
 have HR0 := Aside0.mk hr0
 have HC0 := Aside0.mk hc0
 clear hr0 hc0
 have HB := A_ (Below.refl w.heap.size w)
 have H : ((some (([] : List Int) : List Int)).bind fun y515 => (if y515.length + l0.length < 17592186044416 then (some (y515 ++ l0)) else (none))) = some r := h
 clear h
 obtain ⟨y515, hy515⟩ : ∃ y_ : List Int, y_ = (([] : List Int)) := ⟨_, rfl⟩
 replace H : (if y515.length + l0.length < 17592186044416 then (some (y515 ++ l0)) else (none)) = some r := by first | (rw [hy515]; with_reducible exact H) | (have H2_ := (Option.bind_some _ _).symm.trans H; rw [hy515]; with_reducible exact H2_) | (have H2_ := (Option.bind_some _ _).symm.trans H; with_reducible exact H2_) | with_reducible exact H | (rw [hy515]; exact H) | exact H
 have Ny515 := Aside0.mk hy515
 clear hy515
 by_cases c2 : y515.length + l0.length < 17592186044416
 ·rw [if_pos c2] at H
  have LMc2 := Aside0.mk c2
  clear c2
  obtain ⟨y518, hy518⟩ : ∃ y_ : List Int, y_ = (y515 ++ l0) := ⟨_, rfl⟩
  replace H : (some y518) = some r := by first | (rw [hy518]; with_reducible exact H) | (have H2_ := (Option.bind_some _ _).symm.trans H; rw [hy518]; with_reducible exact H2_) | (have H2_ := (Option.bind_some _ _).symm.trans H; with_reducible exact H2_) | with_reducible exact H | (rw [hy518]; exact H) | exact H
  have Ny518 := Aside0.mk hy518
  clear hy518
  obtain rfl := Option.some.inj H
  go_enter Try.func9, Try.ntmps9
  go_wp2_with (first | ((with_reducible refine gate_dst (N := 3) rfl ?_); refine Kd.R_lit (Kd.int .u64) _ 33 ?hg (N := 3) ?hd (xs := ([] : List Int)) (inner := []) (ok := fun _ => True) (okp := fun _ => True) ?hr ?hp (fun _ hk => hk) trivial (Below.refl _ _) (Nat.le_refl _) (by simp) ?_; (case hd => rfl); (case hg => rfl); (case hr => first | (go_simp; done) | (go_simp; rfl)); (case hp => exact (Reps.none _ _)); intro v516 w3 ho4 hb hg_ hnew_; clear hg_ hnew_; (first | rw [← Ny515.out] at ho4 | (simp only [Int.reduceToNat] at ho4; rw [← Ny515.out] at ho4)); have n0_ := A_ (Kd.R_lower ho4 (below_size hb_)); have n1_ := A_ (below_step hb_ hb); clear HB; have HO517 := n0_; have HB := n1_; clear n0_ n1_; clear hb ho4) | ((with_reducible refine gate_builtin (b := .append) (xs := #[.tmp 3, .tmp 4]) rfl ?_); at_builtin; refine Kd.R_append_rows (Kd.int .u64) (w0 := w) w.heap.size rfl (.tmp 3) (.tmp 4) 22 33 (.int .u64 0) 8 rfl Try.underlying22 info33 rfl (by decide) (by omega) v516 y515 l0 _ _ _ (fun _ => True) (fun _ => False) rfl rfl ?aO ?aR (fun _ _ h => h) (fun _ h => h.elim) ?aF ?aB ?aS ?aL ?_; (case aR => repeat (first | exact (Kd.C_below HR0.out HB.out) | (with_reducible refine Kd.C_alloc ?_ _) | (with_reducible refine Kd.C_drewN ?_ _) | (with_reducible refine Kd.C_drew ?_))); (case aB => exact hb_); (case aF => exact (fun _ _ => trivial)); (case aO => exact (nR_ HO517)); (case aS => exact (below_size hb_)); (case aL => have := LMc2.out; omega); intro v519 w5 ho hb hg hat; rw [← Ny518.out] at ho; have n0_ := A_ (hb); have n1_ := A_ (ho); clear HB HO517; have HB := n0_; have HO520 := n1_; clear n0_ n1_; clear ho hb hg hat))
  go_ret
  exact ⟨_, fr_, nR_ HO520, hb_⟩
 ·rw [if_neg c2] at H
  exact absurd H (by simp)
/-! ### cr3_Trim: function 23 -/
def cr3_Trim.l0 : Nat → List Int → Int → Option (List Int)
 | 0, _, _ => none
 | k + 1, x0, x3 => if x3 > 0 then (if 0 ≤ (wrap64 (x3 - 1)) then (if (wrap64 (x3 - 1)) < (x0.length : Int) then (if (rd x0 (wrap64 (x3 - 1))) = 0 then (cr3_Trim.l0 k x0 (wrap64 (x3 - 1))) else (if 0 ≤ x3 then (if x3 ≤ (x0.length : Int) then ((cr1_Copy.f (x0.take (x3 : Int).toNat)).bind fun t523 => (some t523)) else (none)) else (none))) else (none)) else (none)) else (if 0 ≤ x3 then (if x3 ≤ (x0.length : Int) then ((cr1_Copy.f (x0.take (x3 : Int).toNat)).bind fun t527 => (some t527)) else (none)) else (none))
def cr3_Trim.f (k : Nat) (l0 : List Int) : Option (List Int) := cr3_Trim.l0 k l0 (l0.length : Int)
theorem cr3_Trim.mono_l : ∀ k, (∀ y0 y1, LeO (cr3_Trim.l0 k y0 y1) (cr3_Trim.l0 (k + 1) y0 y1))
 | 0 => fun _ _ r h => by simp [cr3_Trim.l0] at h
 | k + 1 => by
  have ih0 := cr3_Trim.mono_l k
  ·intro y0 y1
   unfold cr3_Trim.l0
   repeat' first
   | (with_reducible exact ih0 _ _)
   | (with_reducible exact LeO.refl _)
   | (with_reducible exact LeO.none _)
   | (with_reducible refine LeO.ite ?_ ?_)
   | (with_reducible refine LeO.bind ?_ (fun _ => ?_))
   | exact ih0 _ _
   | exact LeO.none _
   | refine LeO.ite ?_ ?_
   | refine LeO.bind ?_ (fun _ => ?_)
theorem cr3_Trim.mono : ∀ a0 k, LeO (cr3_Trim.f k a0) (cr3_Trim.f (k + 1) a0) := by
 intro a0 k
 have ih0 := cr3_Trim.mono_l k
 unfold cr3_Trim.f
 repeat' first
   | (with_reducible exact ih0 _ _)
   | (with_reducible exact LeO.refl _)
   | (with_reducible exact LeO.none _)
   | (with_reducible refine LeO.ite ?_ ?_)
   | (with_reducible refine LeO.bind ?_ (fun _ => ?_))
   | exact ih0 _ _
   | exact LeO.none _
   | refine LeO.ite ?_ ?_
   | refine LeO.bind ?_ (fun _ => ?_)
set_option maxHeartbeats 8000000 in
set_option maxRecDepth 100000 in
theorem cr3_Trim.calls (k : Nat) (A0 : Option Addr) (c0 : Nat) (l0 : List Int) (r : List Int) (w : World) (hr0 : Kd.C (Kd.int .u64) w A0 l0.length l0) (hc0 : l0.length ≤ c0) (h : cr3_Trim.f k l0 = some r) :
  Calls Try.prog 23 #[.slice A0 l0.length c0] w fun e w' => ∃ v0_ : Value, e = .returned (v0_) ∧ Kd.R (Kd.int .u64) 33 w' w.heap.size (fun _ => True) v0_ r ∧ Below w.heap.size w w' := by
 have HR0 := Aside0.mk hr0
 have HC0 := Aside0.mk hc0
 clear hr0 hc0
 have HB := A_ (Below.refl w.heap.size w)
 have H : (cr3_Trim.l0 k l0 (l0.length : Int)) = some r := h
 clear h
 have H' := Aside0.mk H
 clear H
 go_enter Try.func23, Try.ntmps23
 go_wp2
 go_loopg [3] k (fun kq v3 w' => ∃ (x3_1 : Int), v3 = .int .i64 x3_1 ∧ Aside0 (cr3_Trim.l0 kq l0 x3_1 = some r) ∧ Aside0 (kq ≤ k) ∧ Aside0 (Below w.heap.size w w'))
 case atStart => exact ⟨((l0.length : Int)), (fs_), H', ⟨Nat.le_refl _⟩, ⟨by repeat (first | (with_reducible first | exact HB.out | apply below_alloc | apply pw_below_drewN | apply below_drew1) | exact HB.out)⟩⟩
 case round =>
  clear H'
  obtain ⟨x3_1, rfl, HA, HK1, HB⟩ := hrel
  cases gk with
  | zero => exact absurd HA.out (by simp [cr3_Trim.l0])
  | succ k1 =>
   have H := HA.out
   clear HA
   simp only [cr3_Trim.l0] at H
   by_cases c2 : x3_1 > 0
   ·rw [if_pos c2] at H
    have c2b0 : decide (0 < x3_1) = true := decide_eq_true c2
    clear c2
    obtain ⟨ji3, hji3⟩ : ∃ j_ : Int, (wrap64 (x3_1 - 1)) = j_ := ⟨_, rfl⟩
    replace H : (if 0 ≤ (ji3) then (if (ji3) < (l0.length : Int) then (if (rd l0 (ji3)) = 0 then (cr3_Trim.l0 k1 l0 ji3) else (if 0 ≤ x3_1 then (if x3_1 ≤ (l0.length : Int) then ((cr1_Copy.f (l0.take (x3_1 : Int).toNat)).bind fun t523 => (some t523)) else (none)) else (none))) else (none)) else (none)) = some r := by first | (rw [hji3] at H; exact H) | (simp only [hji3] at H ⊢; exact H)
    have hji3w : (IntKind.i64.wrap (x3_1 - 1)) = ji3 := (i64_w _).trans hji3
    by_cases c4 : 0 ≤ (ji3)
    ·rw [if_pos c4] at H
     have c4b0 : decide (0 ≤ (ji3)) = true := decide_eq_true c4
     clear c4
     by_cases c5 : (ji3) < (l0.length : Int)
     ·rw [if_pos c5] at H
      have c5b0 : decide ((ji3) < (l0.length : Int)) = true := decide_eq_true c5
      clear c5
      have HC6 := Aside0.mk H
      clear H
      have p521 : 0 ≤ ((ji3) : Int) := of_decide_eq_true (by first | (with_reducible assumption) | assumption)
      have q521 : (ji3) < (l0.length : Int) := of_decide_eq_true (by first | (with_reducible assumption) | assumption)
      obtain ⟨ad521, e521, hx521_0⟩ := Kd.at_int HR0.out (ji3) p521 q521
      cases e521
      replace hx521_0 := (HB.out.cell (World.block_lt_of_cell? w _ hx521_0)).trans hx521_0
      replace p521 := eq_true p521
      replace q521 := eq_true q521
      go_upto_if 15 with (fail)
      have H := HC6.out
      clear HC6
      by_cases c7 : (rd l0 (ji3)) = 0
      ·rw [if_pos c7] at H
       have c7b0 : ((rd l0 (ji3)) == 0) = true := beq_iff_eq.mpr c7
       have c7b1 : ((rd l0 (ji3)) != 0) = false := bne_eq_false_iff_eq.mpr c7
       clear c7
       (first | rw [c7b0] | rw [c7b1] | (simp only [i64_w, i32_w]; first | rw [c7b0] | rw [c7b1]) | skip)
       have H' := Aside0.mk H
       clear H
       go_wp2
       go_roundg k1
       case measure => have := HK1.out; omega
       case rel => exact ⟨(ji3), (by first | rfl | (simp; done) | (simp only [← hji3] <;> (first | rfl | simp)) | (simp [*]; done)), H', ⟨by have := HK1.out; omega⟩, ⟨by repeat (first | (with_reducible first | exact HB.out | apply below_alloc | apply pw_below_drewN | apply below_drew1) | exact HB.out)⟩⟩
      ·rw [if_neg c7] at H
       have c7b0 : ((rd l0 (ji3)) == 0) = false := beq_eq_false_iff_ne.mpr c7
       have c7b1 : ((rd l0 (ji3)) != 0) = true := bne_iff_ne.mpr c7
       (first | rw [c7b0] | rw [c7b1] | (simp only [i64_w, i32_w]; first | rw [c7b0] | rw [c7b1]) | skip)
       by_cases c8 : 0 ≤ x3_1
       ·rw [if_pos c8] at H
        have c8b0 := eq_true c8
        have c8b1 : decide (0 ≤ x3_1) = true := decide_eq_true c8
        clear c8
        by_cases c9 : x3_1 ≤ (l0.length : Int)
        ·rw [if_pos c9] at H
         have c9b0 := eq_true c9
         have c9b1 : decide (x3_1 ≤ (l0.length : Int)) = true := decide_eq_true c9
         clear c9
         replace H := Option.bind_eq_some_iff.mp H
         obtain ⟨t523, A100, H⟩ := H
         replace H : (some t523) = some r := H
         have A10 := Aside0.mk A100
         clear A100
         obtain rfl := Option.some.inj H
         obtain ⟨i011, hi011, _, hsz11, _⟩ := info_parts info33
         obtain ⟨hcut11, hA11, hC11⟩ := print_take_of (P := Try.prog) (Value.int .u64) 0 22 33 .i64 Try.underlying22 hi011 hsz11 (some ad521) c0 l0 x3_1 (of_decide_eq_true (by first | (with_reducible assumption) | assumption)) (of_decide_eq_true (by first | (with_reducible assumption) | assumption)) HC0.out
         have HR522 := A_ (Kd.C_of_reads (h1 := fun _ => rfl) (hA11 _ (Kd.reads_of_C HR0.out)))
         have HC522 := Aside0.mk hC11
         clear hA11 hC11 hi011 hsz11
         go_wp2_with (first | ((with_reducible refine gate_callee (f := 9) rfl ?_); refine goesL_ (some 21) rfl rfl Try.func9 (by kernel_rfl) rfl #[.slice (some ad521) (l0.take (x3_1 : Int).toNat).length c0] rfl (by (try simp only [List.map_toArray, List.map_cons, List.map_nil]); first | done | (rw [show (l0.take (x3_1 : Int).toNat).length = x3_1.toNat from (by rw [List.length_take]; have h_ : (x3_1 : Int) ≤ (l0.length : Int) := of_decide_eq_true (by first | (with_reducible assumption) | assumption); omega)] <;> rfl) | rfl | (simp only [List.length_drop, List.length_take]; rfl)) ?_; (with_reducible refine (cr1_Copy.calls _ _ (l0.take (x3_1 : Int).toNat) t523 _ ?side1 ?side2 A10.out).mono ?_); (case side1 => repeat (first | exact (Kd.C_below HR522.out HB.out) | (with_reducible refine Kd.C_alloc ?_ _) | (with_reducible refine Kd.C_drewN ?_ _) | (with_reducible refine Kd.C_drew ?_))); (case side2 => exact HC522.out); rintro e w12 ⟨v524, rfl, ho0, hb⟩; refine ⟨_, rfl, ?_⟩; have n0_ := A_ (Kd.R_lower ho0 (below_size hb_)); have n1_ := A_ (below_step hb_ hb); clear HB; have HO525 := n0_; have HB := n1_; clear n0_ n1_; (try clear hb); (try clear ho0)))
         go_ret
         exact ⟨_, by first | rfl | (simp [errW_none, errW_some] <;> rfl) | (simp only [← hji3]; first | rfl | (simp [errW_none, errW_some] <;> rfl)) | (simp [*, errW_none, errW_some] <;> rfl), nR_ HO525, hb_⟩
        ·rw [if_neg c9] at H
         exact absurd H (by simp)
       ·rw [if_neg c8] at H
        exact absurd H (by simp)
     ·rw [if_neg c5] at H
      exact absurd H (by simp)
    ·rw [if_neg c4] at H
     exact absurd H (by simp)
   ·rw [if_neg c2] at H
    have c2b0 : decide (0 < x3_1) = false := decide_eq_false c2
    clear c2
    by_cases c13 : 0 ≤ x3_1
    ·rw [if_pos c13] at H
     have c13b0 := eq_true c13
     have c13b1 : decide (0 ≤ x3_1) = true := decide_eq_true c13
     clear c13
     by_cases c14 : x3_1 ≤ (l0.length : Int)
     ·rw [if_pos c14] at H
      have c14b0 := eq_true c14
      have c14b1 : decide (x3_1 ≤ (l0.length : Int)) = true := decide_eq_true c14
      clear c14
      replace H := Option.bind_eq_some_iff.mp H
      obtain ⟨t527, A150, H⟩ := H
      replace H : (some t527) = some r := H
      have A15 := Aside0.mk A150
      clear A150
      obtain rfl := Option.some.inj H
      obtain ⟨i016, hi016, _, hsz16, _⟩ := info_parts info33
      obtain ⟨hcut16, hA16, hC16⟩ := print_take_of (P := Try.prog) (Value.int .u64) 0 22 33 .i64 Try.underlying22 hi016 hsz16 A0 c0 l0 x3_1 (of_decide_eq_true (by first | (with_reducible assumption) | assumption)) (of_decide_eq_true (by first | (with_reducible assumption) | assumption)) HC0.out
      have HR526 := A_ (Kd.C_of_reads (h1 := fun _ => rfl) (hA16 _ (Kd.reads_of_C HR0.out)))
      have HC526 := Aside0.mk hC16
      clear hA16 hC16 hi016 hsz16
      go_wp2_with (first | ((with_reducible refine gate_callee (f := 9) rfl ?_); refine goesL_ (some 21) rfl rfl Try.func9 (by kernel_rfl) rfl #[.slice A0 (l0.take (x3_1 : Int).toNat).length c0] rfl (by (try simp only [List.map_toArray, List.map_cons, List.map_nil]); first | done | (rw [show (l0.take (x3_1 : Int).toNat).length = x3_1.toNat from (by rw [List.length_take]; have h_ : (x3_1 : Int) ≤ (l0.length : Int) := of_decide_eq_true (by first | (with_reducible assumption) | assumption); omega)] <;> rfl) | rfl | (simp only [List.length_drop, List.length_take]; rfl)) ?_; (with_reducible refine (cr1_Copy.calls _ _ (l0.take (x3_1 : Int).toNat) t527 _ ?side1 ?side2 A15.out).mono ?_); (case side1 => repeat (first | exact (Kd.C_below HR526.out HB.out) | (with_reducible refine Kd.C_alloc ?_ _) | (with_reducible refine Kd.C_drewN ?_ _) | (with_reducible refine Kd.C_drew ?_))); (case side2 => exact HC526.out); rintro e w17 ⟨v528, rfl, ho0, hb⟩; refine ⟨_, rfl, ?_⟩; have n0_ := A_ (Kd.R_lower ho0 (below_size hb_)); have n1_ := A_ (below_step hb_ hb); clear HB; have HO529 := n0_; have HB := n1_; clear n0_ n1_; (try clear hb); (try clear ho0)))
      go_ret
      exact ⟨_, fr_, nR_ HO529, hb_⟩
     ·rw [if_neg c14] at H
      exact absurd H (by simp)
    ·rw [if_neg c13] at H
     exact absurd H (by simp)
/-! ### cr1_In: function 52 -/
def cr1_In.l0 : Nat → List Int → Int → Int → Option (Bool)
 | 0, _, _, _ => none
 | k + 1, x1, x5, x6 => if x6 < (x1.length : Int) then (if 0 ≤ x6 then (if (rd x1 x6) ≥ x5 then (some false) else (cr1_In.l0 k x1 x5 (wrap64 (x6 + 1)))) else (none)) else (some (x5 != 0))
def cr1_In.f (k : Nat) (a0 : Int) (l1 : List Int) : Option (Bool) := (cr1_P.f a0).bind fun t530 => (cr1_In.l0 k l1 t530 0)
theorem cr1_In.mono_l : ∀ k, (∀ y0 y1 y2, LeO (cr1_In.l0 k y0 y1 y2) (cr1_In.l0 (k + 1) y0 y1 y2))
 | 0 => fun _ _ _ r h => by simp [cr1_In.l0] at h
 | k + 1 => by
  have ih0 := cr1_In.mono_l k
  ·intro y0 y1 y2
   unfold cr1_In.l0
   repeat' first
   | (with_reducible exact ih0 _ _ _)
   | (with_reducible exact LeO.refl _)
   | (with_reducible exact LeO.none _)
   | (with_reducible refine LeO.ite ?_ ?_)
   | (with_reducible refine LeO.bind ?_ (fun _ => ?_))
   | exact ih0 _ _ _
   | exact LeO.none _
   | refine LeO.ite ?_ ?_
   | refine LeO.bind ?_ (fun _ => ?_)
theorem cr1_In.mono : ∀ a0 a1 k, LeO (cr1_In.f k a0 a1) (cr1_In.f (k + 1) a0 a1) := by
 intro a0 a1 k
 have ih0 := cr1_In.mono_l k
 unfold cr1_In.f
 repeat' first
   | (with_reducible exact ih0 _ _ _)
   | (with_reducible exact LeO.refl _)
   | (with_reducible exact LeO.none _)
   | (with_reducible refine LeO.ite ?_ ?_)
   | (with_reducible refine LeO.bind ?_ (fun _ => ?_))
   | exact ih0 _ _ _
   | exact LeO.none _
   | refine LeO.ite ?_ ?_
   | refine LeO.bind ?_ (fun _ => ?_)
set_option maxHeartbeats 8000000 in
set_option maxRecDepth 100000 in
theorem cr1_In.calls (k : Nat) (a0 : Int) (A1 : Option Addr) (c1 : Nat) (l1 : List Int) (r : Bool) (w : World) (hr1 : Kd.C (Kd.int .u64) w A1 l1.length l1) (hc1 : l1.length ≤ c1) (h : cr1_In.f k a0 l1 = some r) :
  Calls Try.prog 52 #[.int .u8 a0, .slice A1 l1.length c1] w fun e w' => e = .returned (.bool r) ∧ Drawn0 w w' := by
 have HR1 := Aside0.mk hr1
 have HC1 := Aside0.mk hc1
 clear hr1 hc1
 have H : ((cr1_P.f a0).bind fun t530 => (cr1_In.l0 k l1 t530 0)) = some r := h
 clear h
 replace H := Option.bind_eq_some_iff.mp H
 obtain ⟨t530, A30, H⟩ := H
 replace H : (cr1_In.l0 k l1 t530 0) = some r := H
 have A3 := Aside0.mk A30
 clear A30
 have H' := Aside0.mk H
 clear H
 go_enter Try.func52, Try.ntmps52
 go_wp2_with (first | ((with_reducible refine gate_callee (f := 22) rfl ?_); refine goesM_ (some 8) Try.func22 #[.int .u8 a0] ?_; (with_reducible refine (cr1_P.calls a0 t530 _ A3.out).mono ?_); rintro e w' ⟨rfl, ⟨nd, rfl⟩⟩; refine ⟨_, rfl, ?_⟩))
 go_loopg [6] k (fun kq v6 w' => ∃ (x6_1 : Int), v6 = .int .i64 x6_1 ∧ Aside0 (cr1_In.l0 kq l1 t530 x6_1 = some r) ∧ Aside0 (kq ≤ k) ∧ Drawn0 w w')
 case atStart => exact ⟨(0), (fs_), H', ⟨Nat.le_refl _⟩, by repeat (first | exact Drawn0.refl _ | apply Drawn0.step)⟩
 case round =>
  clear H'
  try clear c1
  try clear c2
  try clear p2
  obtain ⟨x6_1, rfl, HA, HK1, ⟨m1, rfl⟩⟩ := hrel
  cases gk with
  | zero => exact absurd HA.out (by simp [cr1_In.l0])
  | succ k1 =>
   have H := HA.out
   clear HA
   simp only [cr1_In.l0] at H
   by_cases c4 : x6_1 < (l1.length : Int)
   ·rw [if_pos c4] at H
    have c4b0 : decide (x6_1 < (l1.length : Int)) = true := decide_eq_true c4
    clear c4
    by_cases c5 : 0 ≤ x6_1
    ·rw [if_pos c5] at H
     have c5b0 : decide (0 ≤ x6_1) = true := decide_eq_true c5
     clear c5
     have HC6 := Aside0.mk H
     clear H
     have p531 : 0 ≤ (x6_1 : Int) := of_decide_eq_true (by first | (with_reducible assumption) | assumption)
     have q531 : x6_1 < (l1.length : Int) := of_decide_eq_true (by first | (with_reducible assumption) | assumption)
     obtain ⟨ad531, e531, hx531_0⟩ := Kd.at_int HR1.out x6_1 p531 q531
     cases e531
     replace p531 := eq_true p531
     replace q531 := eq_true q531
     go_upto_if 20 with (fail)
     have H := HC6.out
     clear HC6
     by_cases c7 : (rd l1 x6_1) ≥ t530
     ·rw [if_pos c7] at H
      have c7b0 : decide (t530 ≤ (rd l1 x6_1)) = true := decide_eq_true c7
      clear c7
      (first | rw [c7b0] | (simp only [i64_w, i32_w]; first | rw [c7b0]) | skip)
      obtain rfl := Option.some.inj H
      go_wp2
      go_ret
      exact ⟨fs_, by repeat (first | exact Drawn0.refl _ | apply Drawn0.step)⟩
     ·rw [if_neg c7] at H
      have c7b0 : decide (t530 ≤ (rd l1 x6_1)) = false := decide_eq_false c7
      clear c7
      (first | rw [c7b0] | (simp only [i64_w, i32_w]; first | rw [c7b0]) | skip)
      have H' := Aside0.mk H
      clear H
      go_wp2
      go_roundg k1
      case measure => have := HK1.out; omega
      case rel => exact ⟨(wrap64 (x6_1 + 1)), (fs_), H', ⟨by have := HK1.out; omega⟩, by repeat (first | exact Drawn0.refl _ | apply Drawn0.step)⟩
    ·rw [if_neg c5] at H
     exact absurd H (by simp)
   ·rw [if_neg c4] at H
    have c4b0 : decide (x6_1 < (l1.length : Int)) = false := decide_eq_false c4
    clear c4
    obtain rfl := Option.some.inj H
    go_wp2
    go_ret
    exact ⟨fs_, by repeat (first | exact Drawn0.refl _ | apply Drawn0.step)⟩
end Go.Proofs.Ytaegmhniepfdaaa.PFastPowers
