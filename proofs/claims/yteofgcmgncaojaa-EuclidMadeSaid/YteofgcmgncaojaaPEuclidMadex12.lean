/- The Go functions as Lean functions, each with the proof that its call comes to just that; written by a program of this session, by the words of the print. -/
import Derived.Test.YteofgcmgncaojaaPEuclidMadex0
import Derived.Test.YteofgcmgncaojaaPEuclidMadex1
import Derived.Test.YteofgcmgncaojaaPEuclidMadex10
import Derived.Test.YteofgcmgncaojaaPEuclidMadex11
namespace Go.Proofs.Yteofgcmgncaojaa.PEuclidMade
open Go.RowKit Go.Proofs.YteofgcmgncaojaaW.PrintWords Go.Proofs.YteofgcmgncaojaaW.PrintLast Go.Proofs.YteofgcmgncaojaaW.PrintMore
attribute [local go_sem] max2_int min2_int max_two min_two max_three min_three max_four min_four   -- for this text's walks alone
set_option linter.unusedVariables false
set_option linter.unusedSimpArgs false
/-! ### cr3_Add: function 23 -/
def cr3_Add.l0 : Nat → Int → List Int → List Int → List Int → Int → Option (List Int × Int)
 | 0, _, _, _, _, _ => none
 | k + 1, x0, x1, x2, x9, x10 => if x10 < (mx (x1.length : Int) (x2.length : Int)) then ((cr1_P.f x0).bind fun t520 => ((cr3_at.f x1 x10).bind fun t521 => ((cr3_at.f x2 x10).bind fun t522 => ((cr1_Sum.f t520 t521 t522).bind fun t523 => (if x9.length < 17592186044416 then (cr3_Add.l0 k x0 x1 x2 (x9 ++ [t523]) (wrap64 (x10 + 1))) else (none)))))) else ((cr3_Trim.f k x9).bind fun t517 => (some (t517, 0)))
def cr3_Add.f (k : Nat) (a0 : Int) (l1 : List Int) (l2 : List Int) : Option (List Int × Int) := (cr3_Bad.f k a0 l1 l2).bind fun t516 => (if t516 = 0 then (cr3_Add.l0 k a0 l1 l2 ([] : List Int) 0) else (some (([] : List Int), t516)))
theorem cr3_Add.mono_l : ∀ k, (∀ y0 y1 y2 y3 y4, LeO (cr3_Add.l0 k y0 y1 y2 y3 y4) (cr3_Add.l0 (k + 1) y0 y1 y2 y3 y4))
 | 0 => fun _ _ _ _ _ r h => by simp [cr3_Add.l0] at h
 | k + 1 => by
  have ih0 := cr3_Add.mono_l k
  ·intro y0 y1 y2 y3 y4
   unfold cr3_Add.l0
   repeat' first
   | (with_reducible exact ih0 _ _ _ _ _)
   | (with_reducible exact cr3_Bad.mono _ _ _ _)
   | (with_reducible exact cr3_Trim.mono _ _)
   | (with_reducible exact LeO.refl _)
   | (with_reducible exact LeO.none _)
   | (with_reducible refine LeO.ite ?_ ?_)
   | (with_reducible refine LeO.bind ?_ (fun _ => ?_))
   | exact ih0 _ _ _ _ _
   | exact cr3_Bad.mono _ _ _ _
   | exact cr3_Trim.mono _ _
   | exact LeO.none _
   | refine LeO.ite ?_ ?_
   | refine LeO.bind ?_ (fun _ => ?_)
theorem cr3_Add.mono : ∀ a0 a1 a2 k, LeO (cr3_Add.f k a0 a1 a2) (cr3_Add.f (k + 1) a0 a1 a2) := by
 intro a0 a1 a2 k
 have ih0 := cr3_Add.mono_l k
 unfold cr3_Add.f
 repeat' first
   | (with_reducible exact ih0 _ _ _ _ _)
   | (with_reducible exact cr3_Bad.mono _ _ _ _)
   | (with_reducible exact cr3_Trim.mono _ _)
   | (with_reducible exact LeO.refl _)
   | (with_reducible exact LeO.none _)
   | (with_reducible refine LeO.ite ?_ ?_)
   | (with_reducible refine LeO.bind ?_ (fun _ => ?_))
   | exact ih0 _ _ _ _ _
   | exact cr3_Bad.mono _ _ _ _
   | exact cr3_Trim.mono _ _
   | exact LeO.none _
   | refine LeO.ite ?_ ?_
   | refine LeO.bind ?_ (fun _ => ?_)
set_option maxHeartbeats 8000000 in
set_option maxRecDepth 100000 in
theorem cr3_Add.calls (k : Nat) (a0 : Int) (A1 : Option Addr) (c1 : Nat) (l1 : List Int) (A2 : Option Addr) (c2 : Nat) (l2 : List Int) (r1 : List Int) (r2 : Int) (w : World) (hr1 : Kd.C (Kd.int .u64) w A1 l1.length l1) (hc1 : l1.length ≤ c1) (hr2 : Kd.C (Kd.int .u64) w A2 l2.length l2) (hc2 : l2.length ≤ c2) (h : cr3_Add.f k a0 l1 l2 = some (r1, r2)) :
  Calls Try.prog 23 #[.int .u8 a0, .slice A1 l1.length c1, .slice A2 l2.length c2] w fun e w' => ∃ v0_ : Value, e = .returned (.tuple #[v0_, .int .i64 r2]) ∧ Kd.R (Kd.int .u64) 40 w' w.heap.size (fun _ => True) v0_ r1 ∧ Below w.heap.size w w' := by
 have HR1 := Aside0.mk hr1
 have HC1 := Aside0.mk hc1
 clear hr1 hc1
 have HR2 := Aside0.mk hr2
 have HC2 := Aside0.mk hc2
 clear hr2 hc2
 have HB := A_ (Below.refl w.heap.size w)
 have H : ((cr3_Bad.f k a0 l1 l2).bind fun t516 => (if t516 = 0 then (cr3_Add.l0 k a0 l1 l2 ([] : List Int) 0) else (some (([] : List Int), t516)))) = some (r1, r2) := h
 clear h
 replace H := Option.bind_eq_some_iff.mp H
 obtain ⟨t516, A40, H⟩ := H
 replace H : (if t516 = 0 then (cr3_Add.l0 k a0 l1 l2 ([] : List Int) 0) else (some (([] : List Int), t516))) = some (r1, r2) := H
 have A4 := Aside0.mk A40
 clear A40
 have HC5 := Aside0.mk H
 clear H
 go_enter Try.func23, Try.ntmps23
 go_upto_if 16 with (first | ((with_reducible refine gate_callee (f := 16) rfl ?_); refine goesM_ (some 14) Try.func16 #[.int .u8 a0, .slice A1 l1.length c1, .slice A2 l2.length c2] ?_; (with_reducible refine (cr3_Bad.calls k a0 _ _ l1 _ _ l2 t516 _ ?side1 ?side2 ?side3 ?side4 A4.out).mono ?_); (case side1 => exact nC_ HR1.out); (case side2 => exact HC1.out); (case side3 => exact nC_ HR2.out); (case side4 => exact HC2.out); rintro e w' ⟨rfl, ⟨nd, rfl⟩⟩; refine ⟨_, rfl, ?_⟩))
 (try simp only [Act.put, List.setIfInBounds_toArray, List.set_cons_zero, List.set_cons_succ])
 have H := HC5.out
 clear HC5
 by_cases c6 : t516 = 0
 ·rw [if_pos c6] at H
  have c6b0 : (t516 == 0) = true := beq_iff_eq.mpr c6
  have c6b1 : (t516 != 0) = false := bne_eq_false_iff_eq.mpr c6
  clear c6
  (first | rw [c6b0] | rw [c6b1] | (simp only [i64_w, i32_w]; first | rw [c6b0] | rw [c6b1]) | skip)
  have H' := Aside0.mk H
  clear H
  go_wp2
  go_loopg [9, 10] k (fun kq v9 v10 w' => ∃ (x9_1 : List Int) (x10_1 : Int), v10 = .int .i64 x10_1 ∧ Aside0 (cr3_Add.l0 kq a0 l1 l2 x9_1 x10_1 = some (r1, r2)) ∧ Aside0 (kq ≤ k) ∧ Aside0 (Kd.R (Kd.int .u64) 40 w' w.heap.size (fun _ => True) v9 x9_1) ∧ Aside0 (Below w.heap.size w w'))
  case atStart => exact ⟨(([] : List Int)), (0), (fs_), H', ⟨Nat.le_refl _⟩, ⟨by first | exact Kd.R_nil _ _ _ _ _ | exact Kd.N_nil _ _ _ _ _ | exact Kd.V_nil _ _ _ _ _ | exact Kd.Q_nil _ _ _ _ _ | exact Kd.S_nil _ _ _ _ _⟩, ⟨by repeat (first | (with_reducible first | exact HB.out | apply below_alloc | apply pw_below_drewN | apply below_drew1) | exact HB.out)⟩⟩
  case round =>
   clear H'
   try clear c1
   try clear c2
   try clear p2
   try clear c6
   try clear c6b0
   try clear c6b1
   obtain ⟨x9_1, x10_1, rfl, HA, HK1, HO_9, HB⟩ := hrel
   cases gk with
   | zero => exact absurd HA.out (by simp [cr3_Add.l0])
   | succ k1 =>
    have H := HA.out
    clear HA
    simp only [cr3_Add.l0] at H
    obtain ⟨ji7, hji7⟩ : ∃ j_ : Int, (mx (l1.length : Int) (l2.length : Int)) = j_ := ⟨_, rfl⟩
    replace H : (if x10_1 < (ji7) then ((cr1_P.f a0).bind fun t520 => ((cr3_at.f l1 x10_1).bind fun t521 => ((cr3_at.f l2 x10_1).bind fun t522 => ((cr1_Sum.f t520 t521 t522).bind fun t523 => (if x9_1.length < 17592186044416 then (cr3_Add.l0 k1 a0 l1 l2 (x9_1 ++ [t523]) (wrap64 (x10_1 + 1))) else (none)))))) else ((cr3_Trim.f k1 x9_1).bind fun t517 => (some (t517, 0)))) = some (r1, r2) := by first | (rw [hji7] at H; exact H) | (simp only [hji7] at H ⊢; exact H)
    (try (have hji7l : 0 ≤ ji7 := by (rw [← hji7]; unfold mx; (repeat' split) <;> omega)))
    (try (have hji7m : 0 ≤ ji7 := by omega))
    have hji7N : (if l1.length < l2.length then (l2.length : Int) else (l1.length : Int)) = ji7 := by have h_ := hji7; unfold mx at h_; simp only [Int.ofNat_lt] at h_; exact h_
    have hji7_ : (if (l1.length : Int) < (l2.length : Int) then (l2.length : Int) else (l1.length : Int)) = ji7 := hji7
    by_cases c8 : x10_1 < (ji7)
    ·rw [if_pos c8] at H
     have c8b0 : decide (x10_1 < (ji7)) = true := decide_eq_true c8
     clear c8
     replace H := Option.bind_eq_some_iff.mp H
     obtain ⟨t520, A90, H⟩ := H
     replace H : ((cr3_at.f l1 x10_1).bind fun t521 => ((cr3_at.f l2 x10_1).bind fun t522 => ((cr1_Sum.f t520 t521 t522).bind fun t523 => (if x9_1.length < 17592186044416 then (cr3_Add.l0 k1 a0 l1 l2 (x9_1 ++ [t523]) (wrap64 (x10_1 + 1))) else (none))))) = some (r1, r2) := H
     have A9 := Aside0.mk A90
     clear A90
     replace H := Option.bind_eq_some_iff.mp H
     obtain ⟨t521, A100, H⟩ := H
     replace H : ((cr3_at.f l2 x10_1).bind fun t522 => ((cr1_Sum.f t520 t521 t522).bind fun t523 => (if x9_1.length < 17592186044416 then (cr3_Add.l0 k1 a0 l1 l2 (x9_1 ++ [t523]) (wrap64 (x10_1 + 1))) else (none)))) = some (r1, r2) := H
     have A10 := Aside0.mk A100
     clear A100
     replace H := Option.bind_eq_some_iff.mp H
     obtain ⟨t522, A110, H⟩ := H
     replace H : ((cr1_Sum.f t520 t521 t522).bind fun t523 => (if x9_1.length < 17592186044416 then (cr3_Add.l0 k1 a0 l1 l2 (x9_1 ++ [t523]) (wrap64 (x10_1 + 1))) else (none))) = some (r1, r2) := H
     have A11 := Aside0.mk A110
     clear A110
     replace H := Option.bind_eq_some_iff.mp H
     obtain ⟨t523, A120, H⟩ := H
     replace H : (if x9_1.length < 17592186044416 then (cr3_Add.l0 k1 a0 l1 l2 (x9_1 ++ [t523]) (wrap64 (x10_1 + 1))) else (none)) = some (r1, r2) := H
     have A12 := Aside0.mk A120
     clear A120
     by_cases c13 : x9_1.length < 17592186044416
     ·rw [if_pos c13] at H
      have LMc13 := Aside0.mk c13
      clear c13
      obtain ⟨y524, hy524⟩ : ∃ y_ : List Int, y_ = (x9_1 ++ [t523]) := ⟨_, rfl⟩
      replace H : (cr3_Add.l0 k1 a0 l1 l2 y524 (wrap64 (x10_1 + 1))) = some (r1, r2) := by first | (rw [hy524]; with_reducible exact H) | (have H2_ := (Option.bind_some _ _).symm.trans H; rw [hy524]; with_reducible exact H2_) | (have H2_ := (Option.bind_some _ _).symm.trans H; with_reducible exact H2_) | with_reducible exact H | (rw [hy524]; exact H) | exact H
      have Ny524 := Aside0.mk hy524
      clear hy524
      have H' := Aside0.mk H
      clear H
      go_wp2_with (first | ((with_reducible refine gate_callee (f := 39) rfl ?_); refine goesM_ (some 29) Try.func39 #[.int .u8 a0] ?_; (with_reducible refine (cr1_P.calls a0 t520 _ A9.out).mono ?_); rintro e w' ⟨rfl, ⟨nd, rfl⟩⟩; refine ⟨_, rfl, ?_⟩) | ((with_reducible refine gate_callee (f := 45) rfl ?_); refine goesM_ (some 32) Try.func45 #[.slice A1 l1.length c1, .int .i64 x10_1] ?_; (with_reducible refine (cr3_at.calls _ _ l1 x10_1 t521 _ ?side1 ?side2 A10.out).mono ?_); (case side1 => repeat (first | exact (Kd.C_below HR1.out hb_) | (with_reducible refine Kd.C_alloc ?_ _) | (with_reducible refine Kd.C_drewN ?_ _) | (with_reducible refine Kd.C_drew ?_))); (case side2 => exact HC1.out); rintro e w' ⟨rfl, ⟨nd, rfl⟩⟩; refine ⟨_, rfl, ?_⟩) | ((with_reducible refine gate_callee (f := 45) rfl ?_); refine goesM_ (some 35) Try.func45 #[.slice A2 l2.length c2, .int .i64 x10_1] ?_; (with_reducible refine (cr3_at.calls _ _ l2 x10_1 t522 _ ?side1 ?side2 A11.out).mono ?_); (case side1 => repeat (first | exact (Kd.C_below HR2.out hb_) | (with_reducible refine Kd.C_alloc ?_ _) | (with_reducible refine Kd.C_drewN ?_ _) | (with_reducible refine Kd.C_drew ?_))); (case side2 => exact HC2.out); rintro e w' ⟨rfl, ⟨nd, rfl⟩⟩; refine ⟨_, rfl, ?_⟩) | ((with_reducible refine gate_callee (f := 41) rfl ?_); refine goesM_ (some 36) Try.func41 #[.int .u64 t520, .int .u64 t521, .int .u64 t522] ?_; (with_reducible refine (cr1_Sum.calls t520 t521 t522 t523 _ A12.out).mono ?_); rintro e w' ⟨rfl, ⟨nd, rfl⟩⟩; refine ⟨_, rfl, ?_⟩) | ((with_reducible refine gate_builtin (b := .append) (xs := #[.tmp 27, .tmp 37]) rfl ?_); at_builtin; refine Kd.R_append (Kd.int .u64) (w0 := w) w.heap.size rfl (.tmp 27) (.tmp 37) 22 40 (.int .u64 0) 8 rfl Try.underlying22 info40 rfl (by decide) (by omega) u9 x9_1 t523 [.int .u64 t523] (fun _ => True) (fun _ => False) rfl rfl ?aP (fun _ hk => hk.elim) ?aF ?aO ?aB ?aS ?aL ?_; (case aP => exact rfl); (case aB => exact hb_); (case aF => exact (fun _ _ => trivial)); (case aO => exact (nR_ HO_9)); (case aS => exact (below_size hb_)); (case aL => have := LMc13.out; omega); intro v525 w14 ho hb hg hat; rw [← Ny524.out] at ho; have n0_ := A_ (hb); have n1_ := A_ (ho); clear HB HO_9; have HB := n0_; have HO526 := n1_; clear n0_ n1_; clear ho hb hg hat))
      go_roundg k1
      case measure => have := HK1.out; omega
      case rel => exact ⟨(y524), (wrap64 (x10_1 + 1)), (fs_), H', ⟨by have := HK1.out; omega⟩, ⟨mR_ HO526.out⟩, ⟨by repeat (first | (with_reducible first | exact HB.out | apply below_alloc | apply pw_below_drewN | apply below_drew1) | exact HB.out)⟩⟩
     ·rw [if_neg c13] at H
      exact absurd H (by simp)
    ·rw [if_neg c8] at H
     have c8b0 : decide (x10_1 < (ji7)) = false := decide_eq_false c8
     clear c8
     replace H := Option.bind_eq_some_iff.mp H
     obtain ⟨t517, A150, H⟩ := H
     replace H : (some (t517, 0)) = some (r1, r2) := H
     have A15 := Aside0.mk A150
     clear A150
     simp only [Option.some.injEq, Prod.mk.injEq] at H
     obtain ⟨rfl, rfl⟩ := H
     obtain ⟨Ao16, co16, eo16⟩ := Kd.R_slice HO_9.out
     subst eo16
     go_wp2_with (first | ((with_reducible refine gate_callee (f := 20) rfl ?_); refine goesM_ (some 40) Try.func20 #[.slice Ao16 x9_1.length co16] ?_; (with_reducible refine (cr3_Trim.calls k1 _ _ x9_1 t517 _ ?side1 ?side2 A15.out).mono ?_); (case side1 => repeat (first | exact (Kd.R_reads' HO_9.out).2.2 | (with_reducible refine Kd.C_alloc ?_ _) | (with_reducible refine Kd.C_drewN ?_ _) | (with_reducible refine Kd.C_drew ?_))); (case side2 => exact (Kd.R_reads' HO_9.out).2.1); rintro e w17 ⟨v518, rfl, ho0, hb⟩; refine ⟨_, rfl, ?_⟩; have n0_ := A_ (Kd.R_elder' (nR_ HO_9) (Kd.R_base ho0) hb); have n1_ := A_ (Kd.R_lower (Kd.R_new' ho0 (Kd.R_lt (nR_ HO_9))) (below_size hb_)); have n2_ := A_ (below_step hb_ hb); clear HO_9 HB; have HO_9 := n0_; have HO519 := n1_; have HB := n2_; clear n0_ n1_ n2_; (try clear hb); (try clear ho0)))
     go_ret2
     exact ⟨_, by first | rfl | (simp [errW_none, errW_some] <;> rfl) | (simp only [← hji7]; first | rfl | (simp [errW_none, errW_some] <;> rfl)) | (simp [*, errW_none, errW_some] <;> rfl), by (with_reducible repeat (first | apply Kd.R_alloc | apply Kd.R_drewN | apply Kd.R_drew)); exact Kd.R_mono HO519.out (fun _ hk => trivial), hb_⟩
 ·rw [if_neg c6] at H
  have c6b0 : (t516 == 0) = false := beq_eq_false_iff_ne.mpr c6
  have c6b1 : (t516 != 0) = true := bne_iff_ne.mpr c6
  (first | rw [c6b0] | rw [c6b1] | (simp only [i64_w, i32_w]; first | rw [c6b0] | rw [c6b1]) | skip)
  simp only [Option.some.injEq, Prod.mk.injEq] at H
  obtain ⟨rfl, rfl⟩ := H
  go_wp2
  go_ret2
  exact ⟨_, fr_, by first | exact Kd.R_nil _ _ _ _ _ | exact Kd.N_nil _ _ _ _ _ | exact Kd.V_nil _ _ _ _ _ | exact Kd.Q_nil _ _ _ _ _ | exact Kd.S_nil _ _ _ _ _, hb_⟩
/-! ### conclavelaw05_EuclidMade: function 7 -/
def conclavelaw05_EuclidMade.j0 : Nat → Int → Int → List Int → List Int → List Int → Int → Bool → List Int → List Int → Option (Bool)
 | 0, _, _, _, _, _, _, _, _, _ => none
 | k + 1, x2, x7, x9, x10, x11, x12, x45, x528000, x528001 => if x45 = true then ((conclavelaw05_anchored.f k).bind fun t540 => (if t540 = true then (some (x12 != 0)) else (none))) else ((cr3_Mul.f k x7 x10 x528000).bind fun bt541 => ((cr3_Mul.f k x7 x11 x528001).bind fun bt545 => ((cr3_Add.f k x7 bt541.1 bt545.1).bind fun bt549 => ((conclavelaw05_anchored.f k).bind fun t553 => (if t553 = true then (if x12 = 0 then (if bt541.2 = 0 then (if bt545.2 = 0 then ((cr1_Same.f k bt549.1 x9).bind fun t554 => (if t554 = true then (if (x9.length : Int) ≤ x2 then (if (x10.length : Int) > 0 then (some true) else (some (decide ((x11.length : Int) > 0)))) else (none)) else (none))) else (none)) else (none)) else (none)) else (none))))))
def conclavelaw05_EuclidMade.f (k : Nat) (a0 : Int) (l1_0 : List Int) (l1_1 : List Int) (a2 : Int) : Option (Bool) := (conclavelaw05_usual.f k a0 l1_0 l1_1).bind fun bt528 => ((euclid_Partial.f k bt528.1 l1_0 l1_1 a2).bind fun bt530 => (if bt528.2 = true then (conclavelaw05_EuclidMade.j0 k a2 bt528.1 bt530.1 bt530.2.1 bt530.2.2.1 bt530.2.2.2 (decide (a2 < 0)) l1_0 l1_1) else (conclavelaw05_EuclidMade.j0 k a2 bt528.1 bt530.1 bt530.2.1 bt530.2.2.1 bt530.2.2.2 true l1_0 l1_1)))
theorem conclavelaw05_EuclidMade.mono_l : ∀ k, (∀ y0 y1 y2 y3 y4 y5 y6 y7 y8, LeO (conclavelaw05_EuclidMade.j0 k y0 y1 y2 y3 y4 y5 y6 y7 y8) (conclavelaw05_EuclidMade.j0 (k + 1) y0 y1 y2 y3 y4 y5 y6 y7 y8))
 | 0 => fun _ _ _ _ _ _ _ _ _ r h => by simp [conclavelaw05_EuclidMade.j0] at h
 | k + 1 => by
  have ih0 := conclavelaw05_EuclidMade.mono_l k
  ·intro y0 y1 y2 y3 y4 y5 y6 y7 y8
   unfold conclavelaw05_EuclidMade.j0
   repeat' first
   | (with_reducible exact ih0 _ _ _ _ _ _ _ _ _)
   | (with_reducible exact conclavelaw05_anchored.mono _)
   | (with_reducible exact conclavelaw05_usual.mono _ _ _ _)
   | (with_reducible exact cr1_Same.mono _ _ _)
   | (with_reducible exact cr3_Add.mono _ _ _ _)
   | (with_reducible exact cr3_Mul.mono _ _ _ _)
   | (with_reducible exact euclid_Partial.mono _ _ _ _ _)
   | (with_reducible exact LeO.refl _)
   | (with_reducible exact LeO.none _)
   | (with_reducible refine LeO.ite ?_ ?_)
   | (with_reducible refine LeO.bind ?_ (fun _ => ?_))
   | exact ih0 _ _ _ _ _ _ _ _ _
   | exact conclavelaw05_anchored.mono _
   | exact conclavelaw05_usual.mono _ _ _ _
   | exact cr1_Same.mono _ _ _
   | exact cr3_Add.mono _ _ _ _
   | exact cr3_Mul.mono _ _ _ _
   | exact euclid_Partial.mono _ _ _ _ _
   | exact LeO.none _
   | refine LeO.ite ?_ ?_
   | refine LeO.bind ?_ (fun _ => ?_)
theorem conclavelaw05_EuclidMade.mono : ∀ a0 a1 a2 a3 k, LeO (conclavelaw05_EuclidMade.f k a0 a1 a2 a3) (conclavelaw05_EuclidMade.f (k + 1) a0 a1 a2 a3) := by
 intro a0 a1 a2 a3 k
 have ih0 := conclavelaw05_EuclidMade.mono_l k
 unfold conclavelaw05_EuclidMade.f
 repeat' first
   | (with_reducible exact ih0 _ _ _ _ _ _ _ _ _)
   | (with_reducible exact conclavelaw05_anchored.mono _)
   | (with_reducible exact conclavelaw05_usual.mono _ _ _ _)
   | (with_reducible exact cr1_Same.mono _ _ _)
   | (with_reducible exact cr3_Add.mono _ _ _ _)
   | (with_reducible exact cr3_Mul.mono _ _ _ _)
   | (with_reducible exact euclid_Partial.mono _ _ _ _ _)
   | (with_reducible exact LeO.refl _)
   | (with_reducible exact LeO.none _)
   | (with_reducible refine LeO.ite ?_ ?_)
   | (with_reducible refine LeO.bind ?_ (fun _ => ?_))
   | exact ih0 _ _ _ _ _ _ _ _ _
   | exact conclavelaw05_anchored.mono _
   | exact conclavelaw05_usual.mono _ _ _ _
   | exact cr1_Same.mono _ _ _
   | exact cr3_Add.mono _ _ _ _
   | exact cr3_Mul.mono _ _ _ _
   | exact euclid_Partial.mono _ _ _ _ _
   | exact LeO.none _
   | refine LeO.ite ?_ ?_
   | refine LeO.bind ?_ (fun _ => ?_)
set_option maxHeartbeats 8000000 in
set_option maxRecDepth 100000 in
theorem conclavelaw05_EuclidMade.calls (k : Nat) (a0 : Int) (A1_0 : Option Addr) (c1_0 : Nat) (l1_0 : List Int) (A1_1 : Option Addr) (c1_1 : Nat) (l1_1 : List Int) (a2 : Int) (r : Bool) (w : World) (hr1_0 : Kd.C (Kd.int .u64) w A1_0 l1_0.length l1_0) (hc1_0 : l1_0.length ≤ c1_0) (hr1_1 : Kd.C (Kd.int .u64) w A1_1 l1_1.length l1_1) (hc1_1 : l1_1.length ≤ c1_1) (h : conclavelaw05_EuclidMade.f k a0 l1_0 l1_1 a2 = some r) :
  Calls Try.prog 7 #[.int .u8 a0, .agg #[.slice A1_0 l1_0.length c1_0, .slice A1_1 l1_1.length c1_1], .int .i64 a2] w fun e w' => e = .returned (.bool r) ∧ Below w.heap.size w w' := by
 have hu35 := Try.underlying35
 have HR1_0 := Aside0.mk hr1_0
 have HC1_0 := Aside0.mk hc1_0
 clear hr1_0 hc1_0
 have HR1_1 := Aside0.mk hr1_1
 have HC1_1 := Aside0.mk hc1_1
 clear hr1_1 hc1_1
 have HB := A_ (Below.refl w.heap.size w)
 have H : ((conclavelaw05_usual.f k a0 l1_0 l1_1).bind fun bt528 => ((euclid_Partial.f k bt528.1 l1_0 l1_1 a2).bind fun bt530 => (if bt528.2 = true then (conclavelaw05_EuclidMade.j0 k a2 bt528.1 bt530.1 bt530.2.1 bt530.2.2.1 bt530.2.2.2 (decide (a2 < 0)) l1_0 l1_1) else (conclavelaw05_EuclidMade.j0 k a2 bt528.1 bt530.1 bt530.2.1 bt530.2.2.1 bt530.2.2.2 true l1_0 l1_1)))) = some r := h
 clear h
 replace H := Option.bind_eq_some_iff.mp H
 obtain ⟨⟨t528, t529⟩, A40, H⟩ := H
 replace H : ((euclid_Partial.f k t528 l1_0 l1_1 a2).bind fun bt530 => (if t529 = true then (conclavelaw05_EuclidMade.j0 k a2 t528 bt530.1 bt530.2.1 bt530.2.2.1 bt530.2.2.2 (decide (a2 < 0)) l1_0 l1_1) else (conclavelaw05_EuclidMade.j0 k a2 t528 bt530.1 bt530.2.1 bt530.2.2.1 bt530.2.2.2 true l1_0 l1_1))) = some r := H
 have A4 := Aside0.mk A40
 clear A40
 replace H := Option.bind_eq_some_iff.mp H
 obtain ⟨⟨t530, t533, t536, t539⟩, A50, H⟩ := H
 replace H : (if t529 = true then (conclavelaw05_EuclidMade.j0 k a2 t528 t530 t533 t536 t539 (decide (a2 < 0)) l1_0 l1_1) else (conclavelaw05_EuclidMade.j0 k a2 t528 t530 t533 t536 t539 true l1_0 l1_1)) = some r := H
 have A5 := Aside0.mk A50
 clear A50
 have HC6 := Aside0.mk H
 clear H
 go_enter Try.func7, Try.ntmps7
 go_upto_region 3 with (first | ((with_reducible refine gate_dst (N := 4) rfl ?_); (try (refine gate_guard (by rfl) ?_; dsimp only)); refine box_event ?hg (N := 4) ?hd (cs := #[.slice A1_0 l1_0.length c1_0, .slice A1_1 l1_1.length c1_1]) (t := 35) ?hr ?_; (case hd => rfl); (case hg => rfl); (case hr => first | (go_simp; done) | (go_simp; rfl)); intro gb527 hg w7 hbox hb; have n0_ := A_ (below_step hb_ hb); have n1_ := A_ (hbox); have n2_ := A_ ((by rw [hg]; exact (below_size hb_) : w.heap.size ≤ gb527)); have n3_ := A_ ((by rw [hg]; exact (below_size hb_) : w.heap.size ≤ gb527)); clear HB; have HB := n0_; have BK527 := n1_; have GW527 := n2_; have GE527 := n3_; clear n0_ n1_ n2_ n3_; clear hb hbox hg; have hcz8_0 : w7.cell? ⟨gb527, 0, none⟩ = some (.slice A1_0 l1_0.length c1_0) := (blk_cell BK527.out 0).trans rfl; have hcz8_1 : w7.cell? ⟨gb527, 1, none⟩ = some (.slice A1_1 l1_1.length c1_1) := (blk_cell BK527.out 1).trans rfl; have hfz8_0 := blk_frozen BK527.out 0; have hfz8_1 := blk_frozen BK527.out 1) | ((with_reducible refine gate_callee (f := 15) rfl ?_); refine goesM_ (some 25) Try.func15 #[.int .u8 a0, .slice A1_0 l1_0.length c1_0, .slice A1_1 l1_1.length c1_1] ?_; (with_reducible refine (conclavelaw05_usual.calls k a0 _ _ l1_0 _ _ l1_1 t528 t529 _ ?side1 ?side2 ?side3 ?side4 A4.out).mono ?_); (case side1 => repeat (first | exact (Kd.C_below HR1_0.out HB.out) | (with_reducible refine Kd.C_alloc ?_ _) | (with_reducible refine Kd.C_drewN ?_ _) | (with_reducible refine Kd.C_drew ?_))); (case side2 => exact HC1_0.out); (case side3 => repeat (first | exact (Kd.C_below HR1_1.out HB.out) | (with_reducible refine Kd.C_alloc ?_ _) | (with_reducible refine Kd.C_drewN ?_ _) | (with_reducible refine Kd.C_drew ?_))); (case side4 => exact HC1_1.out); rintro e w' ⟨rfl, ⟨nd, rfl⟩⟩; refine ⟨_, rfl, ?_⟩) | ((with_reducible refine gate_callee (f := 21) rfl ?_); refine goesM_ (some 35) Try.func21 #[.int .u8 t528, .slice A1_0 l1_0.length c1_0, .slice A1_1 l1_1.length c1_1, .int .i64 a2] ?_; (with_reducible refine (euclid_Partial.calls k t528 (fun k_ => k_ < w.heap.size) _ _ l1_0 (fun k_ => k_ < w.heap.size) _ _ l1_1 a2 t530 t533 t536 t539 _ ?side1 ?side2 A5.out).mono ?_); (case side1 => exact Kd.V_mk HC1_0.out (Kd.F_below (Kd.C_F (Kd.heap_int .u64) HR1_0.out) hs_)); (case side2 => exact Kd.V_mk HC1_1.out (Kd.F_below (Kd.C_F (Kd.heap_int .u64) HR1_1.out) hs_)); rintro e w9 ⟨v531, v534, v537, rfl, ho0, ho1, ho2, hb⟩; refine ⟨_, rfl, ?_⟩; have n0_ := A_ (Kd.R_lower (Kd.R_mono (ok' := fun k_ => True) ho0 (fun _ hk_ => trivial)) (below_size hs_)); have n1_ := A_ (Kd.R_lower (Kd.R_mono (ok' := fun k_ => True) ho1 (fun _ hk_ => trivial)) (below_size hs_)); have n2_ := A_ (Kd.R_lower (Kd.R_mono (ok' := fun k_ => True) ho2 (fun _ hk_ => trivial)) (below_size hs_)); have n3_ := A_ (blk_below (g := gb527) (o := .cells #[.slice A1_0 l1_0.length c1_0, .slice A1_1 l1_1.length c1_1] 35 (0, 0)) (nb_ BK527) hb); have n4_ := A_ (below_step hs_ hb); clear BK527 HB; have HO532 := n0_; have HO535 := n1_; have HO538 := n2_; have BK527 := n3_; have HB := n4_; clear n0_ n1_ n2_ n3_ n4_; (try clear hb); (try clear ho0); (try clear ho1); (try clear ho2)))
 (try simp only [Act.put, List.setIfInBounds_toArray, List.set_cons_zero, List.set_cons_succ])
 go_cut [45] (fun v45 wc => ∃ (kq : Nat) (x45_5 : Bool), v45 = .bool x45_5 ∧ Aside0 (conclavelaw05_EuclidMade.j0 kq a2 t528 t530 t533 t536 t539 x45_5 l1_0 l1_1 = some r) ∧ Aside0 (kq ≤ k) ∧ Aside0 (Kd.R (Kd.int .u64) 40 wc w.heap.size (fun _ => True) v531 t530) ∧ Aside0 (Kd.R (Kd.int .u64) 40 wc w.heap.size (fun _ => True) v534 t533) ∧ Aside0 (Kd.R (Kd.int .u64) 40 wc w.heap.size (fun _ => True) v537 t536) ∧ Aside0 (wc.heap[gb527]? = some (.cells #[(.slice A1_0 l1_0.length c1_0), (.slice A1_1 l1_1.length c1_1)] 35 (0, 0))) ∧ Aside0 (Below w.heap.size w wc))
 case first =>
  have H := HC6.out
  clear HC6
  by_cases c10 : t529 = true
  ·subst c10
   have H1 : (conclavelaw05_EuclidMade.j0 k a2 t528 t530 t533 t536 t539 (decide (a2 < 0)) l1_0 l1_1) = some r := by rw [if_pos rfl] at H; exact H
   clear H
   have H := H1
   clear H1
   have H' := Aside0.mk H
   clear H
   go_wp2
   go_meet
   case rel => exact ⟨_, (decide (a2 < 0)), (fs_), H', ⟨fo_⟩, ⟨mR_ HO532.out⟩, ⟨mR_ HO535.out⟩, ⟨mR_ HO538.out⟩, ⟨mb_ BK527.out⟩, ⟨hs_⟩⟩
  ·replace c10 := Bool.eq_false_iff.mpr c10
   subst c10
   have H1 : (conclavelaw05_EuclidMade.j0 k a2 t528 t530 t533 t536 t539 true l1_0 l1_1) = some r := by rw [if_neg (show ¬ (false = true) by decide)] at H; exact H
   clear H
   have H := H1
   clear H1
   have H' := Aside0.mk H
   clear H
   go_wp2
   go_meet
   case rel => exact ⟨_, (true), (fs_), H', ⟨fo_⟩, ⟨mR_ HO532.out⟩, ⟨mR_ HO535.out⟩, ⟨mR_ HO538.out⟩, ⟨mb_ BK527.out⟩, ⟨hs_⟩⟩
 case rest =>
  clear HC6
  try clear c1
  try clear c2
  try clear p2
  try clear c7
  try clear c10
  try clear hcz8_0
  try clear hcz8_1
  try clear hfz8_0
  try clear hfz8_1
  obtain ⟨kq, x45_5, rfl, HA, HJ5, HO_9, HO_10, HO_11, BK527, HB⟩ := hcut
  cases kq with
  | zero => exact absurd HA.out (by simp [conclavelaw05_EuclidMade.j0])
  | succ kj5 =>
   have H := HA.out
   clear HA
   simp only [conclavelaw05_EuclidMade.j0] at H
   by_cases c11 : x45_5 = true
   ·subst c11
    have H1 : ((conclavelaw05_anchored.f kj5).bind fun t540 => (if t540 = true then (some (t539 != 0)) else (none))) = some r := by rw [if_pos rfl] at H; exact H
    clear H
    have H := H1
    clear H1
    replace H := Option.bind_eq_some_iff.mp H
    obtain ⟨t540, A120, H⟩ := H
    replace H : (if t540 = true then (some (t539 != 0)) else (none)) = some r := H
    have A12 := Aside0.mk A120
    clear A120
    by_cases c13 : t540 = true
    ·subst c13
     have H1 : (some (t539 != 0)) = some r := by rw [if_pos rfl] at H; exact H
     clear H
     have H := H1
     clear H1
     obtain rfl := Option.some.inj H
     go_wp2_with (first | ((with_reducible refine gate_callee (f := 17) rfl ?_); refine goesM_ (some 46) Try.func17 #[] ?_; (with_reducible refine (conclavelaw05_anchored.calls kj5  true _ A12.out).mono ?_); rintro e w14 ⟨rfl, hb⟩; refine ⟨_, rfl, ?_⟩; have n0_ := A_ (Kd.R_below (nR_ HO_9) hb); have n1_ := A_ (Kd.R_below (nR_ HO_10) hb); have n2_ := A_ (Kd.R_below (nR_ HO_11) hb); have n3_ := A_ (blk_below (g := gb527) (o := .cells #[.slice A1_0 l1_0.length c1_0, .slice A1_1 l1_1.length c1_1] 35 (0, 0)) (nb_ BK527) hb); have n4_ := A_ (below_step hs_ hb); clear HO_9 HO_10 HO_11 BK527 HB; have HO_9 := n0_; have HO_10 := n1_; have HO_11 := n2_; have BK527 := n3_; have HB := n4_; clear n0_ n1_ n2_ n3_ n4_; (try clear hb)))
     go_ret
     exact ⟨fr_, hs_⟩
    ·replace c13 := Bool.eq_false_iff.mpr c13
     subst c13
     have H1 : (none) = some r := by rw [if_neg (show ¬ (false = true) by decide)] at H; exact H
     clear H
     have H := H1
     clear H1
     exact absurd H (by simp)
   ·replace c11 := Bool.eq_false_iff.mpr c11
    subst c11
    have H1 : ((cr3_Mul.f kj5 t528 t533 l1_0).bind fun bt541 => ((cr3_Mul.f kj5 t528 t536 l1_1).bind fun bt545 => ((cr3_Add.f kj5 t528 bt541.1 bt545.1).bind fun bt549 => ((conclavelaw05_anchored.f kj5).bind fun t553 => (if t553 = true then (if t539 = 0 then (if bt541.2 = 0 then (if bt545.2 = 0 then ((cr1_Same.f kj5 bt549.1 t530).bind fun t554 => (if t554 = true then (if (t530.length : Int) ≤ a2 then (if (t533.length : Int) > 0 then (some true) else (some (decide ((t536.length : Int) > 0)))) else (none)) else (none))) else (none)) else (none)) else (none)) else (none)))))) = some r := by rw [if_neg (show ¬ (false = true) by decide)] at H; exact H
    clear H
    have H := H1
    clear H1
    replace H := Option.bind_eq_some_iff.mp H
    obtain ⟨⟨t541, t542⟩, A150, H⟩ := H
    (try dsimp only at H)
    have A15 := Aside0.mk A150
    clear A150
    replace H := Option.bind_eq_some_iff.mp H
    obtain ⟨⟨t545, t546⟩, A160, H⟩ := H
    (try dsimp only at H)
    have A16 := Aside0.mk A160
    clear A160
    replace H := Option.bind_eq_some_iff.mp H
    obtain ⟨⟨t549, t550⟩, A170, H⟩ := H
    (try dsimp only at H)
    have A17 := Aside0.mk A170
    clear A170
    replace H := Option.bind_eq_some_iff.mp H
    obtain ⟨t553, A180, H⟩ := H
    (try dsimp only at H)
    have A18 := Aside0.mk A180
    clear A180
    by_cases c19 : t553 = true
    ·subst c19
     have H1 : (if t539 = 0 then (if t542 = 0 then (if t546 = 0 then ((cr1_Same.f kj5 t549 t530).bind fun t554 => (if t554 = true then (if (t530.length : Int) ≤ a2 then (if (t533.length : Int) > 0 then (some true) else (some (decide ((t536.length : Int) > 0)))) else (none)) else (none))) else (none)) else (none)) else (none)) = some r := by rw [if_pos rfl] at H; exact H
     clear H
     have H := H1
     clear H1
     by_cases c20 : t539 = 0
     ·rw [if_pos c20] at H
      have c20b0 : (t539 == 0) = true := beq_iff_eq.mpr c20
      have c20b1 : (t539 != 0) = false := bne_eq_false_iff_eq.mpr c20
      clear c20
      by_cases c21 : t542 = 0
      ·rw [if_pos c21] at H
       have c21b0 : (t542 == 0) = true := beq_iff_eq.mpr c21
       have c21b1 : (t542 != 0) = false := bne_eq_false_iff_eq.mpr c21
       clear c21
       by_cases c22 : t546 = 0
       ·rw [if_pos c22] at H
        have c22b0 : (t546 == 0) = true := beq_iff_eq.mpr c22
        have c22b1 : (t546 != 0) = false := bne_eq_false_iff_eq.mpr c22
        clear c22
        replace H := Option.bind_eq_some_iff.mp H
        obtain ⟨t554, A230, H⟩ := H
        replace H : (if t554 = true then (if (t530.length : Int) ≤ a2 then (if (t533.length : Int) > 0 then (some true) else (some (decide ((t536.length : Int) > 0)))) else (none)) else (none)) = some r := H
        have A23 := Aside0.mk A230
        clear A230
        by_cases c24 : t554 = true
        ·subst c24
         have H1 : (if (t530.length : Int) ≤ a2 then (if (t533.length : Int) > 0 then (some true) else (some (decide ((t536.length : Int) > 0)))) else (none)) = some r := by rw [if_pos rfl] at H; exact H
         clear H
         have H := H1
         clear H1
         by_cases c25 : (t530.length : Int) ≤ a2
         ·rw [if_pos c25] at H
          have c25b0 : decide ((t530.length : Int) ≤ a2) = true := decide_eq_true c25
          clear c25
          by_cases c26 : (t533.length : Int) > 0
          ·rw [if_pos c26] at H
           have c26b0 : decide (0 < (t533.length : Int)) = true := decide_eq_true c26
           have c26b1 : decide (0 < t533.length) = true := decide_eq_true (by omega)
           clear c26
           obtain rfl := Option.some.inj H
           have hcz27_0 : wc.cell? ⟨gb527, 0, none⟩ = some (.slice A1_0 l1_0.length c1_0) := (blk_cell BK527.out 0).trans rfl
           have hcz27_1 : wc.cell? ⟨gb527, 1, none⟩ = some (.slice A1_1 l1_1.length c1_1) := (blk_cell BK527.out 1).trans rfl
           have hfz27_0 := blk_frozen BK527.out 0
           have hfz27_1 := blk_frozen BK527.out 1
           obtain ⟨Ao28, co28, eo28⟩ := Kd.R_slice HO_10.out
           subst eo28
           go_wp2_with (first | ((with_reducible refine gate_callee (f := 18) rfl ?_); refine goesM_ (some 56) Try.func18 #[.int .u8 t528, .slice Ao28 t533.length co28, .slice A1_0 l1_0.length c1_0] ?_; (with_reducible refine (cr3_Mul.calls kj5 t528 _ _ t533 _ _ l1_0 t541 t542 _ ?side1 ?side2 ?side3 ?side4 A15.out).mono ?_); (case side1 => repeat (first | exact (Kd.R_reads' HO_10.out).2.2 | (with_reducible refine Kd.C_alloc ?_ _) | (with_reducible refine Kd.C_drewN ?_ _) | (with_reducible refine Kd.C_drew ?_))); (case side2 => exact (Kd.R_reads' HO_10.out).2.1); (case side3 => repeat (first | exact (Kd.C_below HR1_0.out HB.out) | (with_reducible refine Kd.C_alloc ?_ _) | (with_reducible refine Kd.C_drewN ?_ _) | (with_reducible refine Kd.C_drew ?_))); (case side4 => exact HC1_0.out); rintro e w29 ⟨v543, rfl, ho0, hb⟩; refine ⟨_, rfl, ?_⟩; have n0_ := A_ (Kd.R_below (nR_ HO_9) hb); have n1_ := A_ (Kd.R_below (nR_ HO_10) hb); have n2_ := A_ (Kd.R_below (nR_ HO_11) hb); have n3_ := A_ (Kd.R_lower (Kd.R_mono (ok' := fun _ => True) ho0 (fun _ _ => trivial)) (below_size hs_)); have n4_ := A_ (blk_below (g := gb527) (o := .cells #[.slice A1_0 l1_0.length c1_0, .slice A1_1 l1_1.length c1_1] 35 (0, 0)) (nb_ BK527) hb); have n5_ := A_ (below_step hs_ hb); clear HO_9 HO_10 HO_11 BK527 HB; have HO_9 := n0_; have HO_10 := n1_; have HO_11 := n2_; have HO544 := n3_; have BK527 := n4_; have HB := n5_; clear n0_ n1_ n2_ n3_ n4_ n5_; (try clear hb); (try clear ho0); have hcz30_0 : w29.cell? ⟨gb527, 0, none⟩ = some (.slice A1_0 l1_0.length c1_0) := (blk_cell BK527.out 0).trans rfl; have hcz30_1 : w29.cell? ⟨gb527, 1, none⟩ = some (.slice A1_1 l1_1.length c1_1) := (blk_cell BK527.out 1).trans rfl; have hfz30_0 := blk_frozen BK527.out 0; have hfz30_1 := blk_frozen BK527.out 1; obtain ⟨Ao31, co31, eo31⟩ := Kd.R_slice HO_11.out; subst eo31) | ((with_reducible refine gate_callee (f := 18) rfl ?_); refine goesM_ (some 64) Try.func18 #[.int .u8 t528, .slice Ao31 t536.length co31, .slice A1_1 l1_1.length c1_1] ?_; (with_reducible refine (cr3_Mul.calls kj5 t528 _ _ t536 _ _ l1_1 t545 t546 _ ?side1 ?side2 ?side3 ?side4 A16.out).mono ?_); (case side1 => repeat (first | exact (Kd.R_reads' HO_11.out).2.2 | (with_reducible refine Kd.C_alloc ?_ _) | (with_reducible refine Kd.C_drewN ?_ _) | (with_reducible refine Kd.C_drew ?_))); (case side2 => exact (Kd.R_reads' HO_11.out).2.1); (case side3 => repeat (first | exact (Kd.C_below HR1_1.out HB.out) | (with_reducible refine Kd.C_alloc ?_ _) | (with_reducible refine Kd.C_drewN ?_ _) | (with_reducible refine Kd.C_drew ?_))); (case side4 => exact HC1_1.out); rintro e w32 ⟨v547, rfl, ho0, hb⟩; refine ⟨_, rfl, ?_⟩; have n0_ := A_ (Kd.R_below (nR_ HO_9) hb); have n1_ := A_ (Kd.R_below (nR_ HO_10) hb); have n2_ := A_ (Kd.R_below (nR_ HO_11) hb); have n3_ := A_ (Kd.R_below (nR_ HO544) hb); have n4_ := A_ (Kd.R_lower (Kd.R_mono (ok' := fun _ => True) ho0 (fun _ _ => trivial)) (below_size hs_)); have n5_ := A_ (blk_below (g := gb527) (o := .cells #[.slice A1_0 l1_0.length c1_0, .slice A1_1 l1_1.length c1_1] 35 (0, 0)) (nb_ BK527) hb); have n6_ := A_ (below_step hs_ hb); clear HO_9 HO_10 HO_11 HO544 BK527 HB; have HO_9 := n0_; have HO_10 := n1_; have HO_11 := n2_; have HO544 := n3_; have HO548 := n4_; have BK527 := n5_; have HB := n6_; clear n0_ n1_ n2_ n3_ n4_ n5_ n6_; (try clear hb); (try clear ho0); obtain ⟨Ao33, co33, eo33⟩ := Kd.R_slice HO544.out; subst eo33; obtain ⟨Ao34, co34, eo34⟩ := Kd.R_slice HO548.out; subst eo34) | ((with_reducible refine gate_callee (f := 23) rfl ?_); refine goesM_ (some 71) Try.func23 #[.int .u8 t528, .slice Ao33 t541.length co33, .slice Ao34 t545.length co34] ?_; (with_reducible refine (cr3_Add.calls kj5 t528 _ _ t541 _ _ t545 t549 t550 _ ?side1 ?side2 ?side3 ?side4 A17.out).mono ?_); (case side1 => repeat (first | exact (Kd.R_reads' HO544.out).2.2 | (with_reducible refine Kd.C_alloc ?_ _) | (with_reducible refine Kd.C_drewN ?_ _) | (with_reducible refine Kd.C_drew ?_))); (case side2 => exact (Kd.R_reads' HO544.out).2.1); (case side3 => repeat (first | exact (Kd.R_reads' HO548.out).2.2 | (with_reducible refine Kd.C_alloc ?_ _) | (with_reducible refine Kd.C_drewN ?_ _) | (with_reducible refine Kd.C_drew ?_))); (case side4 => exact (Kd.R_reads' HO548.out).2.1); rintro e w35 ⟨v551, rfl, ho0, hb⟩; refine ⟨_, rfl, ?_⟩; have n0_ := A_ (Kd.R_below (nR_ HO_9) hb); have n1_ := A_ (Kd.R_below (nR_ HO_10) hb); have n2_ := A_ (Kd.R_below (nR_ HO_11) hb); have n3_ := A_ (Kd.R_below (nR_ HO544) hb); have n4_ := A_ (Kd.R_below (nR_ HO548) hb); have n5_ := A_ (Kd.R_lower (Kd.R_mono (ok' := fun _ => True) ho0 (fun _ _ => trivial)) (below_size hs_)); have n6_ := A_ (blk_below (g := gb527) (o := .cells #[.slice A1_0 l1_0.length c1_0, .slice A1_1 l1_1.length c1_1] 35 (0, 0)) (nb_ BK527) hb); have n7_ := A_ (below_step hs_ hb); clear HO_9 HO_10 HO_11 HO544 HO548 BK527 HB; have HO_9 := n0_; have HO_10 := n1_; have HO_11 := n2_; have HO544 := n3_; have HO548 := n4_; have HO552 := n5_; have BK527 := n6_; have HB := n7_; clear n0_ n1_ n2_ n3_ n4_ n5_ n6_ n7_; (try clear hb); (try clear ho0)) | ((with_reducible refine gate_callee (f := 17) rfl ?_); refine goesM_ (some 74) Try.func17 #[] ?_; (with_reducible refine (conclavelaw05_anchored.calls kj5  true _ A18.out).mono ?_); rintro e w36 ⟨rfl, hb⟩; refine ⟨_, rfl, ?_⟩; have n0_ := A_ (Kd.R_below (nR_ HO_9) hb); have n1_ := A_ (Kd.R_below (nR_ HO_10) hb); have n2_ := A_ (Kd.R_below (nR_ HO_11) hb); have n3_ := A_ (Kd.R_below (nR_ HO544) hb); have n4_ := A_ (Kd.R_below (nR_ HO548) hb); have n5_ := A_ (Kd.R_below (nR_ HO552) hb); have n6_ := A_ (blk_below (g := gb527) (o := .cells #[.slice A1_0 l1_0.length c1_0, .slice A1_1 l1_1.length c1_1] 35 (0, 0)) (nb_ BK527) hb); have n7_ := A_ (below_step hs_ hb); clear HO_9 HO_10 HO_11 HO544 HO548 HO552 BK527 HB; have HO_9 := n0_; have HO_10 := n1_; have HO_11 := n2_; have HO544 := n3_; have HO548 := n4_; have HO552 := n5_; have BK527 := n6_; have HB := n7_; clear n0_ n1_ n2_ n3_ n4_ n5_ n6_ n7_; (try clear hb); obtain ⟨Ao37, co37, eo37⟩ := Kd.R_slice HO552.out; subst eo37; obtain ⟨Ao38, co38, eo38⟩ := Kd.R_slice HO_9.out; subst eo38) | (go_at_call 14; (with_reducible refine (cr1_Same.calls kj5 _ _ t549 _ _ t530 true _ ?side1 ?side2 ?side3 ?side4 A23.out).mono ?_); (case side1 => repeat (first | exact (Kd.R_reads' HO552.out).2.2 | (with_reducible refine Kd.C_alloc ?_ _) | (with_reducible refine Kd.C_drewN ?_ _) | (with_reducible refine Kd.C_drew ?_))); (case side2 => exact (Kd.R_reads' HO552.out).2.1); (case side3 => repeat (first | exact (Kd.R_reads' HO_9.out).2.2 | (with_reducible refine Kd.C_alloc ?_ _) | (with_reducible refine Kd.C_drewN ?_ _) | (with_reducible refine Kd.C_drew ?_))); (case side4 => exact (Kd.R_reads' HO_9.out).2.1); rintro e w' ⟨rfl, ⟨nd, rfl⟩⟩))
           go_ret
           exact ⟨fr_, hs_⟩
          ·rw [if_neg c26] at H
           have c26b0 : decide (0 < (t533.length : Int)) = false := decide_eq_false c26
           have c26b1 : decide (0 < t533.length) = false := decide_eq_false (by omega)
           clear c26
           obtain rfl := Option.some.inj H
           have hcz39_0 : wc.cell? ⟨gb527, 0, none⟩ = some (.slice A1_0 l1_0.length c1_0) := (blk_cell BK527.out 0).trans rfl
           have hcz39_1 : wc.cell? ⟨gb527, 1, none⟩ = some (.slice A1_1 l1_1.length c1_1) := (blk_cell BK527.out 1).trans rfl
           have hfz39_0 := blk_frozen BK527.out 0
           have hfz39_1 := blk_frozen BK527.out 1
           obtain ⟨Ao40, co40, eo40⟩ := Kd.R_slice HO_10.out
           subst eo40
           go_wp2_with (first | ((with_reducible refine gate_callee (f := 18) rfl ?_); refine goesM_ (some 56) Try.func18 #[.int .u8 t528, .slice Ao40 t533.length co40, .slice A1_0 l1_0.length c1_0] ?_; (with_reducible refine (cr3_Mul.calls kj5 t528 _ _ t533 _ _ l1_0 t541 t542 _ ?side1 ?side2 ?side3 ?side4 A15.out).mono ?_); (case side1 => repeat (first | exact (Kd.R_reads' HO_10.out).2.2 | (with_reducible refine Kd.C_alloc ?_ _) | (with_reducible refine Kd.C_drewN ?_ _) | (with_reducible refine Kd.C_drew ?_))); (case side2 => exact (Kd.R_reads' HO_10.out).2.1); (case side3 => repeat (first | exact (Kd.C_below HR1_0.out HB.out) | (with_reducible refine Kd.C_alloc ?_ _) | (with_reducible refine Kd.C_drewN ?_ _) | (with_reducible refine Kd.C_drew ?_))); (case side4 => exact HC1_0.out); rintro e w41 ⟨v543, rfl, ho0, hb⟩; refine ⟨_, rfl, ?_⟩; have n0_ := A_ (Kd.R_below (nR_ HO_9) hb); have n1_ := A_ (Kd.R_below (nR_ HO_10) hb); have n2_ := A_ (Kd.R_below (nR_ HO_11) hb); have n3_ := A_ (Kd.R_lower (Kd.R_mono (ok' := fun _ => True) ho0 (fun _ _ => trivial)) (below_size hs_)); have n4_ := A_ (blk_below (g := gb527) (o := .cells #[.slice A1_0 l1_0.length c1_0, .slice A1_1 l1_1.length c1_1] 35 (0, 0)) (nb_ BK527) hb); have n5_ := A_ (below_step hs_ hb); clear HO_9 HO_10 HO_11 BK527 HB; have HO_9 := n0_; have HO_10 := n1_; have HO_11 := n2_; have HO544 := n3_; have BK527 := n4_; have HB := n5_; clear n0_ n1_ n2_ n3_ n4_ n5_; (try clear hb); (try clear ho0); have hcz42_0 : w41.cell? ⟨gb527, 0, none⟩ = some (.slice A1_0 l1_0.length c1_0) := (blk_cell BK527.out 0).trans rfl; have hcz42_1 : w41.cell? ⟨gb527, 1, none⟩ = some (.slice A1_1 l1_1.length c1_1) := (blk_cell BK527.out 1).trans rfl; have hfz42_0 := blk_frozen BK527.out 0; have hfz42_1 := blk_frozen BK527.out 1; obtain ⟨Ao43, co43, eo43⟩ := Kd.R_slice HO_11.out; subst eo43) | ((with_reducible refine gate_callee (f := 18) rfl ?_); refine goesM_ (some 64) Try.func18 #[.int .u8 t528, .slice Ao43 t536.length co43, .slice A1_1 l1_1.length c1_1] ?_; (with_reducible refine (cr3_Mul.calls kj5 t528 _ _ t536 _ _ l1_1 t545 t546 _ ?side1 ?side2 ?side3 ?side4 A16.out).mono ?_); (case side1 => repeat (first | exact (Kd.R_reads' HO_11.out).2.2 | (with_reducible refine Kd.C_alloc ?_ _) | (with_reducible refine Kd.C_drewN ?_ _) | (with_reducible refine Kd.C_drew ?_))); (case side2 => exact (Kd.R_reads' HO_11.out).2.1); (case side3 => repeat (first | exact (Kd.C_below HR1_1.out HB.out) | (with_reducible refine Kd.C_alloc ?_ _) | (with_reducible refine Kd.C_drewN ?_ _) | (with_reducible refine Kd.C_drew ?_))); (case side4 => exact HC1_1.out); rintro e w44 ⟨v547, rfl, ho0, hb⟩; refine ⟨_, rfl, ?_⟩; have n0_ := A_ (Kd.R_below (nR_ HO_9) hb); have n1_ := A_ (Kd.R_below (nR_ HO_10) hb); have n2_ := A_ (Kd.R_below (nR_ HO_11) hb); have n3_ := A_ (Kd.R_below (nR_ HO544) hb); have n4_ := A_ (Kd.R_lower (Kd.R_mono (ok' := fun _ => True) ho0 (fun _ _ => trivial)) (below_size hs_)); have n5_ := A_ (blk_below (g := gb527) (o := .cells #[.slice A1_0 l1_0.length c1_0, .slice A1_1 l1_1.length c1_1] 35 (0, 0)) (nb_ BK527) hb); have n6_ := A_ (below_step hs_ hb); clear HO_9 HO_10 HO_11 HO544 BK527 HB; have HO_9 := n0_; have HO_10 := n1_; have HO_11 := n2_; have HO544 := n3_; have HO548 := n4_; have BK527 := n5_; have HB := n6_; clear n0_ n1_ n2_ n3_ n4_ n5_ n6_; (try clear hb); (try clear ho0); obtain ⟨Ao45, co45, eo45⟩ := Kd.R_slice HO544.out; subst eo45; obtain ⟨Ao46, co46, eo46⟩ := Kd.R_slice HO548.out; subst eo46) | ((with_reducible refine gate_callee (f := 23) rfl ?_); refine goesM_ (some 71) Try.func23 #[.int .u8 t528, .slice Ao45 t541.length co45, .slice Ao46 t545.length co46] ?_; (with_reducible refine (cr3_Add.calls kj5 t528 _ _ t541 _ _ t545 t549 t550 _ ?side1 ?side2 ?side3 ?side4 A17.out).mono ?_); (case side1 => repeat (first | exact (Kd.R_reads' HO544.out).2.2 | (with_reducible refine Kd.C_alloc ?_ _) | (with_reducible refine Kd.C_drewN ?_ _) | (with_reducible refine Kd.C_drew ?_))); (case side2 => exact (Kd.R_reads' HO544.out).2.1); (case side3 => repeat (first | exact (Kd.R_reads' HO548.out).2.2 | (with_reducible refine Kd.C_alloc ?_ _) | (with_reducible refine Kd.C_drewN ?_ _) | (with_reducible refine Kd.C_drew ?_))); (case side4 => exact (Kd.R_reads' HO548.out).2.1); rintro e w47 ⟨v551, rfl, ho0, hb⟩; refine ⟨_, rfl, ?_⟩; have n0_ := A_ (Kd.R_below (nR_ HO_9) hb); have n1_ := A_ (Kd.R_below (nR_ HO_10) hb); have n2_ := A_ (Kd.R_below (nR_ HO_11) hb); have n3_ := A_ (Kd.R_below (nR_ HO544) hb); have n4_ := A_ (Kd.R_below (nR_ HO548) hb); have n5_ := A_ (Kd.R_lower (Kd.R_mono (ok' := fun _ => True) ho0 (fun _ _ => trivial)) (below_size hs_)); have n6_ := A_ (blk_below (g := gb527) (o := .cells #[.slice A1_0 l1_0.length c1_0, .slice A1_1 l1_1.length c1_1] 35 (0, 0)) (nb_ BK527) hb); have n7_ := A_ (below_step hs_ hb); clear HO_9 HO_10 HO_11 HO544 HO548 BK527 HB; have HO_9 := n0_; have HO_10 := n1_; have HO_11 := n2_; have HO544 := n3_; have HO548 := n4_; have HO552 := n5_; have BK527 := n6_; have HB := n7_; clear n0_ n1_ n2_ n3_ n4_ n5_ n6_ n7_; (try clear hb); (try clear ho0)) | ((with_reducible refine gate_callee (f := 17) rfl ?_); refine goesM_ (some 74) Try.func17 #[] ?_; (with_reducible refine (conclavelaw05_anchored.calls kj5  true _ A18.out).mono ?_); rintro e w48 ⟨rfl, hb⟩; refine ⟨_, rfl, ?_⟩; have n0_ := A_ (Kd.R_below (nR_ HO_9) hb); have n1_ := A_ (Kd.R_below (nR_ HO_10) hb); have n2_ := A_ (Kd.R_below (nR_ HO_11) hb); have n3_ := A_ (Kd.R_below (nR_ HO544) hb); have n4_ := A_ (Kd.R_below (nR_ HO548) hb); have n5_ := A_ (Kd.R_below (nR_ HO552) hb); have n6_ := A_ (blk_below (g := gb527) (o := .cells #[.slice A1_0 l1_0.length c1_0, .slice A1_1 l1_1.length c1_1] 35 (0, 0)) (nb_ BK527) hb); have n7_ := A_ (below_step hs_ hb); clear HO_9 HO_10 HO_11 HO544 HO548 HO552 BK527 HB; have HO_9 := n0_; have HO_10 := n1_; have HO_11 := n2_; have HO544 := n3_; have HO548 := n4_; have HO552 := n5_; have BK527 := n6_; have HB := n7_; clear n0_ n1_ n2_ n3_ n4_ n5_ n6_ n7_; (try clear hb); obtain ⟨Ao49, co49, eo49⟩ := Kd.R_slice HO552.out; subst eo49; obtain ⟨Ao50, co50, eo50⟩ := Kd.R_slice HO_9.out; subst eo50) | (go_at_call 14; (with_reducible refine (cr1_Same.calls kj5 _ _ t549 _ _ t530 true _ ?side1 ?side2 ?side3 ?side4 A23.out).mono ?_); (case side1 => repeat (first | exact (Kd.R_reads' HO552.out).2.2 | (with_reducible refine Kd.C_alloc ?_ _) | (with_reducible refine Kd.C_drewN ?_ _) | (with_reducible refine Kd.C_drew ?_))); (case side2 => exact (Kd.R_reads' HO552.out).2.1); (case side3 => repeat (first | exact (Kd.R_reads' HO_9.out).2.2 | (with_reducible refine Kd.C_alloc ?_ _) | (with_reducible refine Kd.C_drewN ?_ _) | (with_reducible refine Kd.C_drew ?_))); (case side4 => exact (Kd.R_reads' HO_9.out).2.1); rintro e w' ⟨rfl, ⟨nd, rfl⟩⟩))
           go_ret
           exact ⟨fr_, hs_⟩
         ·rw [if_neg c25] at H
          exact absurd H (by simp)
        ·replace c24 := Bool.eq_false_iff.mpr c24
         subst c24
         have H1 : (none) = some r := by rw [if_neg (show ¬ (false = true) by decide)] at H; exact H
         clear H
         have H := H1
         clear H1
         exact absurd H (by simp)
       ·rw [if_neg c22] at H
        exact absurd H (by simp)
      ·rw [if_neg c21] at H
       exact absurd H (by simp)
     ·rw [if_neg c20] at H
      exact absurd H (by simp)
    ·replace c19 := Bool.eq_false_iff.mpr c19
     subst c19
     have H1 : (none) = some r := by rw [if_neg (show ¬ (false = true) by decide)] at H; exact H
     clear H
     have H := H1
     clear H1
     exact absurd H (by simp)
/-- THE ONE PURE STATEMENT of conclavelaw05_EuclidMade: yours. -/
def conclavelaw05_EuclidMade.Pure : Prop := ∀ (a0 : Int) (l1_0 : List Int) (l1_1 : List Int) (a2 : Int), (Lit.int .u8 a0).wf = true → l1_0.length ≤ maxLen → l1_0.length * 8 ≤ 140737488351232 → (∀ x ∈ l1_0, (Lit.int .u64 x).wf = true) → l1_1.length ≤ maxLen → l1_1.length * 8 ≤ 140737488351232 → (∀ x ∈ l1_1, (Lit.int .u64 x).wf = true) → (Lit.int .i64 a2).wf = true → ∃ k, conclavelaw05_EuclidMade.f k a0 l1_0 l1_1 a2 = some true
theorem conclavelaw05_EuclidMade.walk (P : conclavelaw05_EuclidMade.Pure) (a0 : Int) (a1_0 : Option Addr) (len1_0 cap1_0 : Nat) (z1_0 : List Int) (a1_1 : Option Addr) (len1_1 cap1_1 : Nat) (z1_1 : List Int) (a2 : Int) (w : World) (w0 : (Lit.int .u8 a0).wf = true) (w1_0 : (a1_0 = none ∧ len1_0 = 0 ∧ cap1_0 = 0 ∧ z1_0 = []) ∨ ∃ x, a1_0 = some x ∧ len1_0 ≤ cap1_0 ∧ cap1_0 ≤ maxLen ∧ z1_0.length = cap1_0 ∧ (∀ i, i < z1_0.length → w.cell? (x.add i) = some (.int .u64 (z1_0.getD i 0))) ∧ ∀ n ∈ z1_0, (Lit.int .u64 n).wf = true) (y1_0 : len1_0 * 8 ≤ 140737488351232) (w1_1 : (a1_1 = none ∧ len1_1 = 0 ∧ cap1_1 = 0 ∧ z1_1 = []) ∨ ∃ x, a1_1 = some x ∧ len1_1 ≤ cap1_1 ∧ cap1_1 ≤ maxLen ∧ z1_1.length = cap1_1 ∧ (∀ i, i < z1_1.length → w.cell? (x.add i) = some (.int .u64 (z1_1.getD i 0))) ∧ ∀ n ∈ z1_1, (Lit.int .u64 n).wf = true) (y1_1 : len1_1 * 8 ≤ 140737488351232) (w2 : (Lit.int .i64 a2).wf = true) :
  Calls Try.prog 7 #[.int .u8 a0, .agg #[.slice a1_0 len1_0 cap1_0, .slice a1_1 len1_1 cap1_1], .int .i64 a2] w fun e w' => e = .returned (.bool true) ∧ Below w.heap.size w w' := by
 obtain ⟨l1_0, rfl, hr1_0, hm1_0, hw1_0, hc1_0⟩ := ReadsInt.ofRowC w1_0
 obtain ⟨l1_1, rfl, hr1_1, hm1_1, hw1_1, hc1_1⟩ := ReadsInt.ofRowC w1_1
 obtain ⟨k, h⟩ := P a0 l1_0 l1_1 a2 w0 hm1_0 y1_0 hw1_0 hm1_1 y1_1 hw1_1 w2
 refine (conclavelaw05_EuclidMade.calls k a0 _ _ l1_0 _ _ l1_1 a2 true w (Kd.C_of_reads (d := (0 : Int)) (h1 := fun _ => rfl) hr1_0) hc1_0 (Kd.C_of_reads (d := (0 : Int)) (h1 := fun _ => rfl) hr1_1) hc1_1 h).mono ?_
 rintro e w' ⟨rfl, hd⟩
 exact ⟨rfl, hd⟩
end Go.Proofs.Yteofgcmgncaojaa.PEuclidMade
