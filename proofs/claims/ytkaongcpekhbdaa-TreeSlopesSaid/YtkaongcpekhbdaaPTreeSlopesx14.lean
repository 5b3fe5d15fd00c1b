/- The Go functions as Lean functions, each with the proof that its call comes to just that; written by a program of this session, by the words of the print. -/
import Derived.Test.YtkaongcpekhbdaaPTreeSlopesx0
import Derived.Test.YtkaongcpekhbdaaPTreeSlopesx3
import Derived.Test.YtkaongcpekhbdaaPTreeSlopesx11
import Derived.Test.YtkaongcpekhbdaaPTreeSlopesx12
import Derived.Test.YtkaongcpekhbdaaPTreeSlopesx13
namespace Go.Proofs.Ytkaongcpekhbdaa.PTreeSlopes
open Go.RowKit Go.Proofs.YtkaongcpekhbdaaW.PrintWords Go.Proofs.YtkaongcpekhbdaaW.PrintLast Go.Proofs.YtkaongcpekhbdaaW.PrintMore
attribute [local go_sem] max2_int min2_int max_two min_two max_three min_three max_four min_four   -- for this text's walks alone
set_option linter.unusedVariables false
set_option linter.unusedSimpArgs false
/-! ### cr3_Add: function 24 -/
def cr3_Add.l0 : Nat → Int → List Int → List Int → List Int → Int → Option (List Int × Int)
 | 0, _, _, _, _, _ => none
 | k + 1, x0, x1, x2, x9, x10 => if x10 < (mx (x1.length : Int) (x2.length : Int)) then ((cr1_P.f x0).bind fun t462 => ((cr3_at.f x1 x10).bind fun t463 => ((cr3_at.f x2 x10).bind fun t464 => ((cr1_Sum.f t462 t463 t464).bind fun t465 => (if x9.length < 17592186044416 then (cr3_Add.l0 k x0 x1 x2 (x9 ++ [t465]) (wrap64 (x10 + 1))) else (none)))))) else ((cr3_Trim.f k x9).bind fun t459 => (some (t459, 0)))
def cr3_Add.f (k : Nat) (a0 : Int) (l1 : List Int) (l2 : List Int) : Option (List Int × Int) := (cr3_Bad.f k a0 l1 l2).bind fun t458 => (if t458 = 0 then (cr3_Add.l0 k a0 l1 l2 ([] : List Int) 0) else (some (([] : List Int), t458)))
theorem cr3_Add.mono_l : ∀ k, (∀ y0 y1 y2 y3 y4, LeO (cr3_Add.l0 k y0 y1 y2 y3 y4) (cr3_Add.l0 (k + 1) y0 y1 y2 y3 y4))
 | 0 => fun _ _ _ _ _ r h => by simp [cr3_Add.l0] at h
 | k + 1 => by
  have ih0 := cr3_Add.mono_l k
  ·intro y0 y1 y2 y3 y4
   unfold cr3_Add.l0
   repeat' first
   | (with_reducible exact ih0 _ _ _ _ _)
   | (with_reducible exact cr3_Bad.mono _ _ _ _)
   | (with_reducible exact cr3_Trim.mono _ _)
   | (with_reducible exact LeO.refl _)
   | (with_reducible exact LeO.none _)
   | (with_reducible refine LeO.ite ?_ ?_)
   | (with_reducible refine LeO.bind ?_ (fun _ => ?_))
   | exact ih0 _ _ _ _ _
   | exact cr3_Bad.mono _ _ _ _
   | exact cr3_Trim.mono _ _
   | exact LeO.none _
   | refine LeO.ite ?_ ?_
   | refine LeO.bind ?_ (fun _ => ?_)
theorem cr3_Add.mono : ∀ a0 a1 a2 k, LeO (cr3_Add.f k a0 a1 a2) (cr3_Add.f (k + 1) a0 a1 a2) := by
 intro a0 a1 a2 k
 have ih0 := cr3_Add.mono_l k
 unfold cr3_Add.f
 repeat' first
   | (with_reducible exact ih0 _ _ _ _ _)
   | (with_reducible exact cr3_Bad.mono _ _ _ _)
   | (with_reducible exact cr3_Trim.mono _ _)
   | (with_reducible exact LeO.refl _)
   | (with_reducible exact LeO.none _)
   | (with_reducible refine LeO.ite ?_ ?_)
   | (with_reducible refine LeO.bind ?_ (fun _ => ?_))
   | exact ih0 _ _ _ _ _
   | exact cr3_Bad.mono _ _ _ _
   | exact cr3_Trim.mono _ _
   | exact LeO.none _
   | refine LeO.ite ?_ ?_
   | refine LeO.bind ?_ (fun _ => ?_)
set_option maxHeartbeats 8000000 in
set_option maxRecDepth 100000 in
theorem cr3_Add.calls (k : Nat) (a0 : Int) (A1 : Option Addr) (c1 : Nat) (l1 : List Int) (A2 : Option Addr) (c2 : Nat) (l2 : List Int) (r1 : List Int) (r2 : Int) (w : World) (hr1 : Kd.C (Kd.int .u64) w A1 l1.length l1) (hc1 : l1.length ≤ c1) (hr2 : Kd.C (Kd.int .u64) w A2 l2.length l2) (hc2 : l2.length ≤ c2) (h : cr3_Add.f k a0 l1 l2 = some (r1, r2)) :
  Calls Try.prog 24 #[.int .u8 a0, .slice A1 l1.length c1, .slice A2 l2.length c2] w fun e w' => ∃ v0_ : Value, e = .returned (.tuple #[v0_, .int .i64 r2]) ∧ Kd.R (Kd.int .u64) 49 w' w.heap.size (fun _ => True) v0_ r1 ∧ Below w.heap.size w w' := by
 have HR1 := Aside0.mk hr1
 have HC1 := Aside0.mk hc1
 clear hr1 hc1
 have HR2 := Aside0.mk hr2
 have HC2 := Aside0.mk hc2
 clear hr2 hc2
 have HB := A_ (Below.refl w.heap.size w)
 have H : ((cr3_Bad.f k a0 l1 l2).bind fun t458 => (if t458 = 0 then (cr3_Add.l0 k a0 l1 l2 ([] : List Int) 0) else (some (([] : List Int), t458)))) = some (r1, r2) := h
 clear h
 replace H := Option.bind_eq_some_iff.mp H
 obtain ⟨t458, A40, H⟩ := H
 replace H : (if t458 = 0 then (cr3_Add.l0 k a0 l1 l2 ([] : List Int) 0) else (some (([] : List Int), t458))) = some (r1, r2) := H
 have A4 := Aside0.mk A40
 clear A40
 have HC5 := Aside0.mk H
 clear H
 go_enter Try.func24, Try.ntmps24
 go_upto_if 16 with (first | ((with_reducible refine gate_callee (f := 22) rfl ?_); refine goesM_ (some 14) Try.func22 #[.int .u8 a0, .slice A1 l1.length c1, .slice A2 l2.length c2] ?_; (with_reducible refine (cr3_Bad.calls k a0 _ _ l1 _ _ l2 t458 _ ?side1 ?side2 ?side3 ?side4 A4.out).mono ?_); (case side1 => exact nC_ HR1.out); (case side2 => exact HC1.out); (case side3 => exact nC_ HR2.out); (case side4 => exact HC2.out); rintro e w' ⟨rfl, ⟨nd, rfl⟩⟩; refine ⟨_, rfl, ?_⟩))
 (try simp only [Act.put, List.setIfInBounds_toArray, List.set_cons_zero, List.set_cons_succ])
 have H := HC5.out
 clear HC5
 by_cases c6 : t458 = 0
 ·rw [if_pos c6] at H
  have c6b0 : (t458 == 0) = true := beq_iff_eq.mpr c6
  have c6b1 : (t458 != 0) = false := bne_eq_false_iff_eq.mpr c6
  clear c6
  (first | rw [c6b0] | rw [c6b1] | (simp only [i64_w, i32_w]; first | rw [c6b0] | rw [c6b1]) | skip)
  have H' := Aside0.mk H
  clear H
  go_wp2
  go_loopg [9, 10] k (fun kq v9 v10 w' => ∃ (x9_1 : List Int) (x10_1 : Int), v10 = .int .i64 x10_1 ∧ Aside0 (cr3_Add.l0 kq a0 l1 l2 x9_1 x10_1 = some (r1, r2)) ∧ Aside0 (kq ≤ k) ∧ Aside0 (Kd.R (Kd.int .u64) 49 w' w.heap.size (fun _ => True) v9 x9_1) ∧ Aside0 (Below w.heap.size w w'))
  case atStart => exact ⟨(([] : List Int)), (0), (fs_), H', ⟨Nat.le_refl _⟩, ⟨by first | exact Kd.R_nil _ _ _ _ _ | exact Kd.N_nil _ _ _ _ _ | exact Kd.V_nil _ _ _ _ _ | exact Kd.Q_nil _ _ _ _ _ | exact Kd.S_nil _ _ _ _ _⟩, ⟨by repeat (first | (with_reducible first | exact HB.out | apply below_alloc | apply pw_below_drewN | apply below_drew1) | exact HB.out)⟩⟩
  case round =>
   clear H'
   try clear c1
   try clear c2
   try clear p2
   try clear c6
   try clear c6b0
   try clear c6b1
   obtain ⟨x9_1, x10_1, rfl, HA, HK1, HO_9, HB⟩ := hrel
   cases gk with
   | zero => exact absurd HA.out (by simp [cr3_Add.l0])
   | succ k1 =>
    have H := HA.out
    clear HA
    simp only [cr3_Add.l0] at H
    obtain ⟨ji7, hji7⟩ : ∃ j_ : Int, (mx (l1.length : Int) (l2.length : Int)) = j_ := ⟨_, rfl⟩
    replace H : (if x10_1 < (ji7) then ((cr1_P.f a0).bind fun t462 => ((cr3_at.f l1 x10_1).bind fun t463 => ((cr3_at.f l2 x10_1).bind fun t464 => ((cr1_Sum.f t462 t463 t464).bind fun t465 => (if x9_1.length < 17592186044416 then (cr3_Add.l0 k1 a0 l1 l2 (x9_1 ++ [t465]) (wrap64 (x10_1 + 1))) else (none)))))) else ((cr3_Trim.f k1 x9_1).bind fun t459 => (some (t459, 0)))) = some (r1, r2) := by first | (rw [hji7] at H; exact H) | (simp only [hji7] at H ⊢; exact H)
    have hji7N : (if l1.length < l2.length then (l2.length : Int) else (l1.length : Int)) = ji7 := by have h_ := hji7; unfold mx at h_; simp only [Int.ofNat_lt] at h_; exact h_
    have hji7_ : (if (l1.length : Int) < (l2.length : Int) then (l2.length : Int) else (l1.length : Int)) = ji7 := hji7
    by_cases c8 : x10_1 < (ji7)
    ·rw [if_pos c8] at H
     have c8b0 : decide (x10_1 < (ji7)) = true := decide_eq_true c8
     clear c8
     replace H := Option.bind_eq_some_iff.mp H
     obtain ⟨t462, A90, H⟩ := H
     replace H : ((cr3_at.f l1 x10_1).bind fun t463 => ((cr3_at.f l2 x10_1).bind fun t464 => ((cr1_Sum.f t462 t463 t464).bind fun t465 => (if x9_1.length < 17592186044416 then (cr3_Add.l0 k1 a0 l1 l2 (x9_1 ++ [t465]) (wrap64 (x10_1 + 1))) else (none))))) = some (r1, r2) := H
     have A9 := Aside0.mk A90
     clear A90
     replace H := Option.bind_eq_some_iff.mp H
     obtain ⟨t463, A100, H⟩ := H
     replace H : ((cr3_at.f l2 x10_1).bind fun t464 => ((cr1_Sum.f t462 t463 t464).bind fun t465 => (if x9_1.length < 17592186044416 then (cr3_Add.l0 k1 a0 l1 l2 (x9_1 ++ [t465]) (wrap64 (x10_1 + 1))) else (none)))) = some (r1, r2) := H
     have A10 := Aside0.mk A100
     clear A100
     replace H := Option.bind_eq_some_iff.mp H
     obtain ⟨t464, A110, H⟩ := H
     replace H : ((cr1_Sum.f t462 t463 t464).bind fun t465 => (if x9_1.length < 17592186044416 then (cr3_Add.l0 k1 a0 l1 l2 (x9_1 ++ [t465]) (wrap64 (x10_1 + 1))) else (none))) = some (r1, r2) := H
     have A11 := Aside0.mk A110
     clear A110
     replace H := Option.bind_eq_some_iff.mp H
     obtain ⟨t465, A120, H⟩ := H
     replace H : (if x9_1.length < 17592186044416 then (cr3_Add.l0 k1 a0 l1 l2 (x9_1 ++ [t465]) (wrap64 (x10_1 + 1))) else (none)) = some (r1, r2) := H
     have A12 := Aside0.mk A120
     clear A120
     by_cases c13 : x9_1.length < 17592186044416
     ·rw [if_pos c13] at H
      have LMc13 := Aside0.mk c13
      clear c13
      obtain ⟨y466, hy466⟩ : ∃ y_ : List Int, y_ = (x9_1 ++ [t465]) := ⟨_, rfl⟩
      replace H : (cr3_Add.l0 k1 a0 l1 l2 y466 (wrap64 (x10_1 + 1))) = some (r1, r2) := by first | (rw [hy466]; with_reducible exact H) | (have H2_ := (Option.bind_some _ _).symm.trans H; rw [hy466]; with_reducible exact H2_) | (have H2_ := (Option.bind_some _ _).symm.trans H; with_reducible exact H2_) | with_reducible exact H | (rw [hy466]; exact H) | exact H
      have Ny466 := Aside0.mk hy466
      clear hy466
      have H' := Aside0.mk H
      clear H
      go_wp2_with (first | ((with_reducible refine gate_callee (f := 38) rfl ?_); refine goesM_ (some 29) Try.func38 #[.int .u8 a0] ?_; (with_reducible refine (cr1_P.calls a0 t462 _ A9.out).mono ?_); rintro e w' ⟨rfl, ⟨nd, rfl⟩⟩; refine ⟨_, rfl, ?_⟩) | ((with_reducible refine gate_callee (f := 43) rfl ?_); refine goesM_ (some 32) Try.func43 #[.slice A1 l1.length c1, .int .i64 x10_1] ?_; (with_reducible refine (cr3_at.calls _ _ l1 x10_1 t463 _ ?side1 ?side2 A10.out).mono ?_); (case side1 => repeat (first | exact (Kd.C_below HR1.out hb_) | (with_reducible refine Kd.C_alloc ?_ _) | (with_reducible refine Kd.C_drewN ?_ _) | (with_reducible refine Kd.C_drew ?_))); (case side2 => exact HC1.out); rintro e w' ⟨rfl, ⟨nd, rfl⟩⟩; refine ⟨_, rfl, ?_⟩) | ((with_reducible refine gate_callee (f := 43) rfl ?_); refine goesM_ (some 35) Try.func43 #[.slice A2 l2.length c2, .int .i64 x10_1] ?_; (with_reducible refine (cr3_at.calls _ _ l2 x10_1 t464 _ ?side1 ?side2 A11.out).mono ?_); (case side1 => repeat (first | exact (Kd.C_below HR2.out hb_) | (with_reducible refine Kd.C_alloc ?_ _) | (with_reducible refine Kd.C_drewN ?_ _) | (with_reducible refine Kd.C_drew ?_))); (case side2 => exact HC2.out); rintro e w' ⟨rfl, ⟨nd, rfl⟩⟩; refine ⟨_, rfl, ?_⟩) | ((with_reducible refine gate_callee (f := 42) rfl ?_); refine goesM_ (some 36) Try.func42 #[.int .u64 t462, .int .u64 t463, .int .u64 t464] ?_; (with_reducible refine (cr1_Sum.calls t462 t463 t464 t465 _ A12.out).mono ?_); rintro e w' ⟨rfl, ⟨nd, rfl⟩⟩; refine ⟨_, rfl, ?_⟩) | ((with_reducible refine gate_builtin (b := .append) (xs := #[.tmp 27, .tmp 37]) rfl ?_); at_builtin; refine Kd.R_append (Kd.int .u64) (w0 := w) w.heap.size rfl (.tmp 27) (.tmp 37) 22 49 (.int .u64 0) 8 rfl Try.underlying22 info49 rfl (by decide) (by omega) u9 x9_1 t465 [.int .u64 t465] (fun _ => True) (fun _ => False) rfl rfl ?aP (fun _ hk => hk.elim) ?aF ?aO ?aB ?aS ?aL ?_; (case aP => exact rfl); (case aB => exact hb_); (case aF => exact (fun _ _ => trivial)); (case aO => exact (nR_ HO_9)); (case aS => exact (below_size hb_)); (case aL => have := LMc13.out; omega); intro v467 w14 ho hb hg hat; rw [← Ny466.out] at ho; have n0_ := A_ (hb); have n1_ := A_ (ho); clear HB HO_9; have HB := n0_; have HO468 := n1_; clear n0_ n1_; clear ho hb hg hat))
      go_roundg k1
      case measure => have := HK1.out; omega
      case rel => exact ⟨(y466), (wrap64 (x10_1 + 1)), (fs_), H', ⟨by have := HK1.out; omega⟩, ⟨mR_ HO468.out⟩, ⟨by repeat (first | (with_reducible first | exact HB.out | apply below_alloc | apply pw_below_drewN | apply below_drew1) | exact HB.out)⟩⟩
     ·rw [if_neg c13] at H
      exact absurd H (by simp)
    ·rw [if_neg c8] at H
     have c8b0 : decide (x10_1 < (ji7)) = false := decide_eq_false c8
     clear c8
     replace H := Option.bind_eq_some_iff.mp H
     obtain ⟨t459, A150, H⟩ := H
     replace H : (some (t459, 0)) = some (r1, r2) := H
     have A15 := Aside0.mk A150
     clear A150
     simp only [Option.some.injEq, Prod.mk.injEq] at H
     obtain ⟨rfl, rfl⟩ := H
     obtain ⟨Ao16, co16, eo16⟩ := Kd.R_slice HO_9.out
     subst eo16
     go_wp2_with (first | ((with_reducible refine gate_callee (f := 27) rfl ?_); refine goesM_ (some 40) Try.func27 #[.slice Ao16 x9_1.length co16] ?_; (with_reducible refine (cr3_Trim.calls k1 _ _ x9_1 t459 _ ?side1 ?side2 A15.out).mono ?_); (case side1 => repeat (first | exact (Kd.R_reads' HO_9.out).2.2 | (with_reducible refine Kd.C_alloc ?_ _) | (with_reducible refine Kd.C_drewN ?_ _) | (with_reducible refine Kd.C_drew ?_))); (case side2 => exact (Kd.R_reads' HO_9.out).2.1); rintro e w17 ⟨v460, rfl, ho0, hb⟩; refine ⟨_, rfl, ?_⟩; have n0_ := A_ (Kd.R_elder' (nR_ HO_9) (Kd.R_base ho0) hb); have n1_ := A_ (Kd.R_lower (Kd.R_new' ho0 (Kd.R_lt (nR_ HO_9))) (below_size hb_)); have n2_ := A_ (below_step hb_ hb); clear HO_9 HB; have HO_9 := n0_; have HO461 := n1_; have HB := n2_; clear n0_ n1_ n2_; (try clear hb); (try clear ho0)))
     go_ret2
     exact ⟨_, by first | rfl | (simp [errW_none, errW_some] <;> rfl) | (simp only [← hji7]; first | rfl | (simp [errW_none, errW_some] <;> rfl)) | (simp [*, errW_none, errW_some] <;> rfl), by (with_reducible repeat (first | apply Kd.R_alloc | apply Kd.R_drewN | apply Kd.R_drew)); exact Kd.R_mono HO461.out (fun _ hk => trivial), hb_⟩
 ·rw [if_neg c6] at H
  have c6b0 : (t458 == 0) = false := beq_eq_false_iff_ne.mpr c6
  have c6b1 : (t458 != 0) = true := bne_iff_ne.mpr c6
  (first | rw [c6b0] | rw [c6b1] | (simp only [i64_w, i32_w]; first | rw [c6b0] | rw [c6b1]) | skip)
  simp only [Option.some.injEq, Prod.mk.injEq] at H
  obtain ⟨rfl, rfl⟩ := H
  go_wp2
  go_ret2
  exact ⟨_, fr_, by first | exact Kd.R_nil _ _ _ _ _ | exact Kd.N_nil _ _ _ _ _ | exact Kd.V_nil _ _ _ _ _ | exact Kd.Q_nil _ _ _ _ _ | exact Kd.S_nil _ _ _ _ _, hb_⟩
/-! ### conclavelaw06_TreeSlopes: function 6 -/
def conclavelaw06_TreeSlopes.j0 : Nat → List Int → List Int → Int → Bool → Option (Bool)
 | 0, _, _, _, _ => none
 | k + 1, x1, x2, x7, x37 => if x37 = true then ((tree_Slope.f k 0 ([] : List Int)).bind fun bt470 => ((conclavelaw06_anchored.f k).bind fun t474 => (if t474 = true then (some (bt470.2 == 2)) else (none)))) else ((cr3_Mul.f k x7 x1 x2).bind fun bt475 => ((tree_Slope.f k x7 bt475.1).bind fun bt479 => ((tree_Slope.f k x7 x1).bind fun bt483 => ((tree_Slope.f k x7 x2).bind fun bt487 => ((cr3_Mul.f k x7 bt483.1 x2).bind fun bt491 => ((cr3_Mul.f k x7 x1 bt487.1).bind fun bt495 => ((cr3_Add.f k x7 bt491.1 bt495.1).bind fun bt499 => ((conclavelaw06_anchored.f k).bind fun t503 => (if t503 = true then (if bt479.2 = 0 then (if bt483.2 = 0 then (if bt487.2 = 0 then ((cr1_Same.f k bt479.1 bt499.1).bind fun t504 => (some t504)) else (none)) else (none)) else (none)) else (none))))))))))
def conclavelaw06_TreeSlopes.f (k : Nat) (a0 : Int) (l1 : List Int) (l2 : List Int) : Option (Bool) := (cr3_Bad.f k a0 l1 l2).bind fun t469 => (if t469 = 0 then (conclavelaw06_TreeSlopes.j0 k l1 l2 a0 (decide ((wrap64 ((l1.length : Int) + (l2.length : Int))) > 1000))) else (conclavelaw06_TreeSlopes.j0 k l1 l2 a0 true))
theorem conclavelaw06_TreeSlopes.mono_l : ∀ k, (∀ y0 y1 y2 y3, LeO (conclavelaw06_TreeSlopes.j0 k y0 y1 y2 y3) (conclavelaw06_TreeSlopes.j0 (k + 1) y0 y1 y2 y3))
 | 0 => fun _ _ _ _ r h => by simp [conclavelaw06_TreeSlopes.j0] at h
 | k + 1 => by
  have ih0 := conclavelaw06_TreeSlopes.mono_l k
  ·intro y0 y1 y2 y3
   unfold conclavelaw06_TreeSlopes.j0
   repeat' first
   | (with_reducible exact ih0 _ _ _ _)
   | (with_reducible exact conclavelaw06_anchored.mono _)
   | (with_reducible exact cr1_Same.mono _ _ _)
   | (with_reducible exact cr3_Add.mono _ _ _ _)
   | (with_reducible exact cr3_Bad.mono _ _ _ _)
   | (with_reducible exact cr3_Mul.mono _ _ _ _)
   | (with_reducible exact tree_Slope.mono _ _ _)
   | (with_reducible exact LeO.refl _)
   | (with_reducible exact LeO.none _)
   | (with_reducible refine LeO.ite ?_ ?_)
   | (with_reducible refine LeO.bind ?_ (fun _ => ?_))
   | exact ih0 _ _ _ _
   | exact conclavelaw06_anchored.mono _
   | exact cr1_Same.mono _ _ _
   | exact cr3_Add.mono _ _ _ _
   | exact cr3_Bad.mono _ _ _ _
   | exact cr3_Mul.mono _ _ _ _
   | exact tree_Slope.mono _ _ _
   | exact LeO.none _
   | refine LeO.ite ?_ ?_
   | refine LeO.bind ?_ (fun _ => ?_)
theorem conclavelaw06_TreeSlopes.mono : ∀ a0 a1 a2 k, LeO (conclavelaw06_TreeSlopes.f k a0 a1 a2) (conclavelaw06_TreeSlopes.f (k + 1) a0 a1 a2) := by
 intro a0 a1 a2 k
 have ih0 := conclavelaw06_TreeSlopes.mono_l k
 unfold conclavelaw06_TreeSlopes.f
 repeat' first
   | (with_reducible exact ih0 _ _ _ _)
   | (with_reducible exact conclavelaw06_anchored.mono _)
   | (with_reducible exact cr1_Same.mono _ _ _)
   | (with_reducible exact cr3_Add.mono _ _ _ _)
   | (with_reducible exact cr3_Bad.mono _ _ _ _)
   | (with_reducible exact cr3_Mul.mono _ _ _ _)
   | (with_reducible exact tree_Slope.mono _ _ _)
   | (with_reducible exact LeO.refl _)
   | (with_reducible exact LeO.none _)
   | (with_reducible refine LeO.ite ?_ ?_)
   | (with_reducible refine LeO.bind ?_ (fun _ => ?_))
   | exact ih0 _ _ _ _
   | exact conclavelaw06_anchored.mono _
   | exact cr1_Same.mono _ _ _
   | exact cr3_Add.mono _ _ _ _
   | exact cr3_Bad.mono _ _ _ _
   | exact cr3_Mul.mono _ _ _ _
   | exact tree_Slope.mono _ _ _
   | exact LeO.none _
   | refine LeO.ite ?_ ?_
   | refine LeO.bind ?_ (fun _ => ?_)
set_option maxHeartbeats 8000000 in
set_option maxRecDepth 100000 in
theorem conclavelaw06_TreeSlopes.calls (k : Nat) (a0 : Int) (A1 : Option Addr) (c1 : Nat) (l1 : List Int) (A2 : Option Addr) (c2 : Nat) (l2 : List Int) (r : Bool) (w : World) (hr1 : Kd.C (Kd.int .u64) w A1 l1.length l1) (hc1 : l1.length ≤ c1) (hr2 : Kd.C (Kd.int .u64) w A2 l2.length l2) (hc2 : l2.length ≤ c2) (h : conclavelaw06_TreeSlopes.f k a0 l1 l2 = some r) :
  Calls Try.prog 6 #[.int .u8 a0, .slice A1 l1.length c1, .slice A2 l2.length c2] w fun e w' => e = .returned (.bool r) ∧ Below w.heap.size w w' := by
 have HR1 := Aside0.mk hr1
 have HC1 := Aside0.mk hc1
 clear hr1 hc1
 have HR2 := Aside0.mk hr2
 have HC2 := Aside0.mk hc2
 clear hr2 hc2
 have HB := A_ (Below.refl w.heap.size w)
 have H : ((cr3_Bad.f k a0 l1 l2).bind fun t469 => (if t469 = 0 then (conclavelaw06_TreeSlopes.j0 k l1 l2 a0 (decide ((wrap64 ((l1.length : Int) + (l2.length : Int))) > 1000))) else (conclavelaw06_TreeSlopes.j0 k l1 l2 a0 true))) = some r := h
 clear h
 have HC4 := Aside0.mk H
 clear H
 go_enter Try.func6, Try.ntmps6
 go_upto_region 2 with (fail)
 go_cut [37] (fun v37 wc => ∃ (kq : Nat) (x37_3 : Bool), v37 = .bool x37_3 ∧ Aside0 (conclavelaw06_TreeSlopes.j0 kq l1 l2 a0 x37_3 = some r) ∧ Aside0 (kq ≤ k) ∧ Aside0 (Below w.heap.size w wc))
 case first =>
  have H := HC4.out
  clear HC4
  replace H := Option.bind_eq_some_iff.mp H
  obtain ⟨t469, A50, H⟩ := H
  replace H : (if t469 = 0 then (conclavelaw06_TreeSlopes.j0 k l1 l2 a0 (decide ((wrap64 ((l1.length : Int) + (l2.length : Int))) > 1000))) else (conclavelaw06_TreeSlopes.j0 k l1 l2 a0 true)) = some r := H
  have A5 := Aside0.mk A50
  clear A50
  by_cases c6 : t469 = 0
  ·rw [if_pos c6] at H
   have c6b0 : (t469 == 0) = true := beq_iff_eq.mpr c6
   have c6b1 : (t469 != 0) = false := bne_eq_false_iff_eq.mpr c6
   clear c6
   (first | rw [c6b0] | rw [c6b1] | (simp only [i64_w, i32_w]; first | rw [c6b0] | rw [c6b1]) | skip)
   have H' := Aside0.mk H
   clear H
   go_wp2_with (first | ((with_reducible refine gate_callee (f := 22) rfl ?_); refine goesM_ (some 28) Try.func22 #[.int .u8 a0, .slice A1 l1.length c1, .slice A2 l2.length c2] ?_; (with_reducible refine (cr3_Bad.calls k a0 _ _ l1 _ _ l2 t469 _ ?side1 ?side2 ?side3 ?side4 A5.out).mono ?_); (case side1 => repeat (first | exact (Kd.C_below HR1.out HB.out) | (with_reducible refine Kd.C_alloc ?_ _) | (with_reducible refine Kd.C_drewN ?_ _) | (with_reducible refine Kd.C_drew ?_))); (case side2 => exact HC1.out); (case side3 => repeat (first | exact (Kd.C_below HR2.out HB.out) | (with_reducible refine Kd.C_alloc ?_ _) | (with_reducible refine Kd.C_drewN ?_ _) | (with_reducible refine Kd.C_drew ?_))); (case side4 => exact HC2.out); rintro e w' ⟨rfl, ⟨nd, rfl⟩⟩; refine ⟨_, rfl, ?_⟩))
   go_meet
   case rel => exact ⟨_, (decide ((wrap64 ((l1.length : Int) + (l2.length : Int))) > 1000)), (fs_), H', ⟨fo_⟩, ⟨by repeat (first | (with_reducible first | exact HB.out | apply below_alloc | apply pw_below_drewN | apply below_drew1) | exact HB.out)⟩⟩
  ·rw [if_neg c6] at H
   have c6b0 : (t469 == 0) = false := beq_eq_false_iff_ne.mpr c6
   have c6b1 : (t469 != 0) = true := bne_iff_ne.mpr c6
   (first | rw [c6b0] | rw [c6b1] | (simp only [i64_w, i32_w]; first | rw [c6b0] | rw [c6b1]) | skip)
   have H' := Aside0.mk H
   clear H
   go_wp2_with (first | ((with_reducible refine gate_callee (f := 22) rfl ?_); refine goesM_ (some 28) Try.func22 #[.int .u8 a0, .slice A1 l1.length c1, .slice A2 l2.length c2] ?_; (with_reducible refine (cr3_Bad.calls k a0 _ _ l1 _ _ l2 t469 _ ?side1 ?side2 ?side3 ?side4 A5.out).mono ?_); (case side1 => repeat (first | exact (Kd.C_below HR1.out HB.out) | (with_reducible refine Kd.C_alloc ?_ _) | (with_reducible refine Kd.C_drewN ?_ _) | (with_reducible refine Kd.C_drew ?_))); (case side2 => exact HC1.out); (case side3 => repeat (first | exact (Kd.C_below HR2.out HB.out) | (with_reducible refine Kd.C_alloc ?_ _) | (with_reducible refine Kd.C_drewN ?_ _) | (with_reducible refine Kd.C_drew ?_))); (case side4 => exact HC2.out); rintro e w' ⟨rfl, ⟨nd, rfl⟩⟩; refine ⟨_, rfl, ?_⟩))
   go_meet
   case rel => exact ⟨_, (true), (fs_), H', ⟨fo_⟩, ⟨by repeat (first | (with_reducible first | exact HB.out | apply below_alloc | apply pw_below_drewN | apply below_drew1) | exact HB.out)⟩⟩
 case rest =>
  clear HC4
  try clear c1
  try clear c2
  try clear p2
  try clear c6
  try clear c6b0
  try clear c6b1
  try clear p6
  obtain ⟨kq, x37_3, rfl, HA, HJ3, HB⟩ := hcut
  cases kq with
  | zero => exact absurd HA.out (by simp [conclavelaw06_TreeSlopes.j0])
  | succ kj3 =>
   have H := HA.out
   clear HA
   simp only [conclavelaw06_TreeSlopes.j0] at H
   by_cases c7 : x37_3 = true
   ·subst c7
    have H1 : ((tree_Slope.f kj3 0 ([] : List Int)).bind fun bt470 => ((conclavelaw06_anchored.f kj3).bind fun t474 => (if t474 = true then (some (bt470.2 == 2)) else (none)))) = some r := by rw [if_pos rfl] at H; exact H
    clear H
    have H := H1
    clear H1
    replace H := Option.bind_eq_some_iff.mp H
    obtain ⟨⟨t470, t473⟩, A80, H⟩ := H
    replace H : ((conclavelaw06_anchored.f kj3).bind fun t474 => (if t474 = true then (some (t473 == 2)) else (none))) = some r := H
    have A8 := Aside0.mk A80
    clear A80
    replace H := Option.bind_eq_some_iff.mp H
    obtain ⟨t474, A90, H⟩ := H
    replace H : (if t474 = true then (some (t473 == 2)) else (none)) = some r := H
    have A9 := Aside0.mk A90
    clear A90
    by_cases c10 : t474 = true
    ·subst c10
     have H1 : (some (t473 == 2)) = some r := by rw [if_pos rfl] at H; exact H
     clear H
     have H := H1
     clear H1
     obtain rfl := Option.some.inj H
     go_wp2_with (first | ((with_reducible refine gate_callee (f := 11) rfl ?_); refine goesM_ (some 39) Try.func11 #[.int .u8 0, .slice none 0 0] ?_; (refine (tree_Slope.calls kj3 0 (fun k_ => False) _ _ ([] : List Int) t470 t473 _ ?side1 A8.out).mono ?_); (case side1 => exact Kd.V_nil _ _ _ _ _); rintro e w11 ⟨v471, rfl, ho0, hb⟩; refine ⟨_, rfl, ?_⟩; have n0_ := A_ (Kd.R_lower (Kd.R_mono (ok' := fun k_ => True) ho0 (fun _ hk_ => trivial)) (below_size hb_)); have n1_ := A_ (below_step hb_ hb); clear HB; have HO472 := n0_; have HB := n1_; clear n0_ n1_; (try clear hb); (try clear ho0)) | ((with_reducible refine gate_callee (f := 19) rfl ?_); refine goesM_ (some 42) Try.func19 #[] ?_; (with_reducible refine (conclavelaw06_anchored.calls kj3  true _ A9.out).mono ?_); rintro e w12 ⟨rfl, hb⟩; refine ⟨_, rfl, ?_⟩; have n0_ := A_ (Kd.R_below (nR_ HO472) hb); have n1_ := A_ (below_step hb_ hb); clear HO472 HB; have HO472 := n0_; have HB := n1_; clear n0_ n1_; (try clear hb)))
     go_ret
     exact ⟨fr_, hb_⟩
    ·replace c10 := Bool.eq_false_iff.mpr c10
     subst c10
     have H1 : (none) = some r := by rw [if_neg (show ¬ (false = true) by decide)] at H; exact H
     clear H
     have H := H1
     clear H1
     exact absurd H (by simp)
   ·replace c7 := Bool.eq_false_iff.mpr c7
    subst c7
    have H1 : ((cr3_Mul.f kj3 a0 l1 l2).bind fun bt475 => ((tree_Slope.f kj3 a0 bt475.1).bind fun bt479 => ((tree_Slope.f kj3 a0 l1).bind fun bt483 => ((tree_Slope.f kj3 a0 l2).bind fun bt487 => ((cr3_Mul.f kj3 a0 bt483.1 l2).bind fun bt491 => ((cr3_Mul.f kj3 a0 l1 bt487.1).bind fun bt495 => ((cr3_Add.f kj3 a0 bt491.1 bt495.1).bind fun bt499 => ((conclavelaw06_anchored.f kj3).bind fun t503 => (if t503 = true then (if bt479.2 = 0 then (if bt483.2 = 0 then (if bt487.2 = 0 then ((cr1_Same.f kj3 bt479.1 bt499.1).bind fun t504 => (some t504)) else (none)) else (none)) else (none)) else (none)))))))))) = some r := by rw [if_neg (show ¬ (false = true) by decide)] at H; exact H
    clear H
    have H := H1
    clear H1
    replace H := Option.bind_eq_some_iff.mp H
    obtain ⟨⟨t475, t476⟩, A130, H⟩ := H
    (try dsimp only at H)
    have A13 := Aside0.mk A130
    clear A130
    replace H := Option.bind_eq_some_iff.mp H
    obtain ⟨⟨t479, t482⟩, A140, H⟩ := H
    (try dsimp only at H)
    have A14 := Aside0.mk A140
    clear A140
    replace H := Option.bind_eq_some_iff.mp H
    obtain ⟨⟨t483, t486⟩, A150, H⟩ := H
    (try dsimp only at H)
    have A15 := Aside0.mk A150
    clear A150
    replace H := Option.bind_eq_some_iff.mp H
    obtain ⟨⟨t487, t490⟩, A160, H⟩ := H
    (try dsimp only at H)
    have A16 := Aside0.mk A160
    clear A160
    replace H := Option.bind_eq_some_iff.mp H
    obtain ⟨⟨t491, t492⟩, A170, H⟩ := H
    (try dsimp only at H)
    have A17 := Aside0.mk A170
    clear A170
    replace H := Option.bind_eq_some_iff.mp H
    obtain ⟨⟨t495, t496⟩, A180, H⟩ := H
    (try dsimp only at H)
    have A18 := Aside0.mk A180
    clear A180
    replace H := Option.bind_eq_some_iff.mp H
    obtain ⟨⟨t499, t500⟩, A190, H⟩ := H
    replace H : ((conclavelaw06_anchored.f kj3).bind fun t503 => (if t503 = true then (if t482 = 0 then (if t486 = 0 then (if t490 = 0 then ((cr1_Same.f kj3 t479 t499).bind fun t504 => (some t504)) else (none)) else (none)) else (none)) else (none))) = some r := H
    have A19 := Aside0.mk A190
    clear A190
    replace H := Option.bind_eq_some_iff.mp H
    obtain ⟨t503, A200, H⟩ := H
    replace H : (if t503 = true then (if t482 = 0 then (if t486 = 0 then (if t490 = 0 then ((cr1_Same.f kj3 t479 t499).bind fun t504 => (some t504)) else (none)) else (none)) else (none)) else (none)) = some r := H
    have A20 := Aside0.mk A200
    clear A200
    by_cases c21 : t503 = true
    ·subst c21
     have H1 : (if t482 = 0 then (if t486 = 0 then (if t490 = 0 then ((cr1_Same.f kj3 t479 t499).bind fun t504 => (some t504)) else (none)) else (none)) else (none)) = some r := by rw [if_pos rfl] at H; exact H
     clear H
     have H := H1
     clear H1
     by_cases c22 : t482 = 0
     ·rw [if_pos c22] at H
      have c22b0 : (t482 == 0) = true := beq_iff_eq.mpr c22
      have c22b1 : (t482 != 0) = false := bne_eq_false_iff_eq.mpr c22
      clear c22
      by_cases c23 : t486 = 0
      ·rw [if_pos c23] at H
       have c23b0 : (t486 == 0) = true := beq_iff_eq.mpr c23
       have c23b1 : (t486 != 0) = false := bne_eq_false_iff_eq.mpr c23
       clear c23
       by_cases c24 : t490 = 0
       ·rw [if_pos c24] at H
        have c24b0 : (t490 == 0) = true := beq_iff_eq.mpr c24
        have c24b1 : (t490 != 0) = false := bne_eq_false_iff_eq.mpr c24
        clear c24
        replace H := Option.bind_eq_some_iff.mp H
        obtain ⟨t504, A250, H⟩ := H
        replace H : (some t504) = some r := H
        have A25 := Aside0.mk A250
        clear A250
        obtain rfl := Option.some.inj H
        go_wp2_with (first | ((with_reducible refine gate_callee (f := 23) rfl ?_); refine goesM_ (some 51) Try.func23 #[.int .u8 a0, .slice A1 l1.length c1, .slice A2 l2.length c2] ?_; (with_reducible refine (cr3_Mul.calls kj3 a0 _ _ l1 _ _ l2 t475 t476 _ ?side1 ?side2 ?side3 ?side4 A13.out).mono ?_); (case side1 => repeat (first | exact (Kd.C_below HR1.out HB.out) | (with_reducible refine Kd.C_alloc ?_ _) | (with_reducible refine Kd.C_drewN ?_ _) | (with_reducible refine Kd.C_drew ?_))); (case side2 => exact HC1.out); (case side3 => repeat (first | exact (Kd.C_below HR2.out HB.out) | (with_reducible refine Kd.C_alloc ?_ _) | (with_reducible refine Kd.C_drewN ?_ _) | (with_reducible refine Kd.C_drew ?_))); (case side4 => exact HC2.out); rintro e w26 ⟨v477, rfl, ho0, hb⟩; refine ⟨_, rfl, ?_⟩; have n0_ := A_ (Kd.R_lower ho0 (below_size hb_)); have n1_ := A_ (below_step hb_ hb); clear HB; have HO478 := n0_; have HB := n1_; clear n0_ n1_; (try clear hb); (try clear ho0); obtain ⟨Ao27, co27, eo27⟩ := Kd.R_slice HO478.out; subst eo27) | ((with_reducible refine gate_callee (f := 11) rfl ?_); refine goesM_ (some 57) Try.func11 #[.int .u8 a0, .slice Ao27 t475.length co27] ?_; (with_reducible refine (tree_Slope.calls kj3 a0 (fun k_ => some k_ = (.slice Ao27 t475.length co27 : Value).ownBlock) _ _ t475 t479 t482 _ ?side1 A14.out).mono ?_); (case side1 => exact Kd.R_V (Kd.R_tight rfl (HO478.out))); rintro e w28 ⟨v480, rfl, ho0, hb⟩; refine ⟨_, rfl, ?_⟩; have n0_ := A_ (Kd.R_elder' (nR_ HO478) (Kd.R_base ho0) hb); have n1_ := A_ (Kd.R_lower (Kd.R_new' (Kd.R_mono (ok' := fun k_ => True) ho0 (fun _ hk_ => trivial)) (Kd.R_lt (nR_ HO478))) (below_size hb_)); have n2_ := A_ (below_step hb_ hb); clear HO478 HB; have HO478 := n0_; have HO481 := n1_; have HB := n2_; clear n0_ n1_ n2_; (try clear hb); (try clear ho0)) | ((with_reducible refine gate_callee (f := 11) rfl ?_); refine goesM_ (some 63) Try.func11 #[.int .u8 a0, .slice A1 l1.length c1] ?_; (with_reducible refine (tree_Slope.calls kj3 a0 (fun k_ => k_ < w.heap.size) _ _ l1 t483 t486 _ ?side1 A15.out).mono ?_); (case side1 => exact Kd.V_mk HC1.out (Kd.F_below (Kd.C_F (Kd.heap_int .u64) HR1.out) hb_)); rintro e w29 ⟨v484, rfl, ho0, hb⟩; refine ⟨_, rfl, ?_⟩; have n0_ := A_ (Kd.R_elder' (nR_ HO478) (Kd.R_base ho0) hb); have n1_ := A_ (Kd.R_elder' (nR_ HO481) (Kd.R_base ho0) hb); have n2_ := A_ (Kd.R_lower (Kd.R_new' (Kd.R_new' (Kd.R_mono (ok' := fun k_ => True) ho0 (fun _ hk_ => trivial)) (Kd.R_lt (nR_ HO478))) (Kd.R_lt (nR_ HO481))) (below_size hb_)); have n3_ := A_ (below_step hb_ hb); clear HO478 HO481 HB; have HO478 := n0_; have HO481 := n1_; have HO485 := n2_; have HB := n3_; clear n0_ n1_ n2_ n3_; (try clear hb); (try clear ho0)) | ((with_reducible refine gate_callee (f := 11) rfl ?_); refine goesM_ (some 69) Try.func11 #[.int .u8 a0, .slice A2 l2.length c2] ?_; (with_reducible refine (tree_Slope.calls kj3 a0 (fun k_ => k_ < w.heap.size) _ _ l2 t487 t490 _ ?side1 A16.out).mono ?_); (case side1 => exact Kd.V_mk HC2.out (Kd.F_below (Kd.C_F (Kd.heap_int .u64) HR2.out) hb_)); rintro e w30 ⟨v488, rfl, ho0, hb⟩; refine ⟨_, rfl, ?_⟩; have n0_ := A_ (Kd.R_elder' (nR_ HO478) (Kd.R_base ho0) hb); have n1_ := A_ (Kd.R_elder' (nR_ HO481) (Kd.R_base ho0) hb); have n2_ := A_ (Kd.R_elder' (nR_ HO485) (Kd.R_base ho0) hb); have n3_ := A_ (Kd.R_lower (Kd.R_new' (Kd.R_new' (Kd.R_new' (Kd.R_mono (ok' := fun k_ => True) ho0 (fun _ hk_ => trivial)) (Kd.R_lt (nR_ HO478))) (Kd.R_lt (nR_ HO481))) (Kd.R_lt (nR_ HO485))) (below_size hb_)); have n4_ := A_ (below_step hb_ hb); clear HO478 HO481 HO485 HB; have HO478 := n0_; have HO481 := n1_; have HO485 := n2_; have HO489 := n3_; have HB := n4_; clear n0_ n1_ n2_ n3_ n4_; (try clear hb); (try clear ho0); obtain ⟨Ao31, co31, eo31⟩ := Kd.R_slice HO485.out; subst eo31) | ((with_reducible refine gate_callee (f := 23) rfl ?_); refine goesM_ (some 76) Try.func23 #[.int .u8 a0, .slice Ao31 t483.length co31, .slice A2 l2.length c2] ?_; (with_reducible refine (cr3_Mul.calls kj3 a0 _ _ t483 _ _ l2 t491 t492 _ ?side1 ?side2 ?side3 ?side4 A17.out).mono ?_); (case side1 => repeat (first | exact (Kd.R_reads' HO485.out).2.2 | (with_reducible refine Kd.C_alloc ?_ _) | (with_reducible refine Kd.C_drewN ?_ _) | (with_reducible refine Kd.C_drew ?_))); (case side2 => exact (Kd.R_reads' HO485.out).2.1); (case side3 => repeat (first | exact (Kd.C_below HR2.out HB.out) | (with_reducible refine Kd.C_alloc ?_ _) | (with_reducible refine Kd.C_drewN ?_ _) | (with_reducible refine Kd.C_drew ?_))); (case side4 => exact HC2.out); rintro e w32 ⟨v493, rfl, ho0, hb⟩; refine ⟨_, rfl, ?_⟩; have n0_ := A_ (Kd.R_elder' (nR_ HO478) (Kd.R_base ho0) hb); have n1_ := A_ (Kd.R_elder' (nR_ HO481) (Kd.R_base ho0) hb); have n2_ := A_ (Kd.R_elder' (nR_ HO485) (Kd.R_base ho0) hb); have n3_ := A_ (Kd.R_elder' (nR_ HO489) (Kd.R_base ho0) hb); have n4_ := A_ (Kd.R_lower (Kd.R_new' (Kd.R_new' (Kd.R_new' (Kd.R_new' ho0 (Kd.R_lt (nR_ HO478))) (Kd.R_lt (nR_ HO481))) (Kd.R_lt (nR_ HO485))) (Kd.R_lt (nR_ HO489))) (below_size hb_)); have n5_ := A_ (below_step hb_ hb); clear HO478 HO481 HO485 HO489 HB; have HO478 := n0_; have HO481 := n1_; have HO485 := n2_; have HO489 := n3_; have HO494 := n4_; have HB := n5_; clear n0_ n1_ n2_ n3_ n4_ n5_; (try clear hb); (try clear ho0); obtain ⟨Ao33, co33, eo33⟩ := Kd.R_slice HO489.out; subst eo33) | ((with_reducible refine gate_callee (f := 23) rfl ?_); refine goesM_ (some 83) Try.func23 #[.int .u8 a0, .slice A1 l1.length c1, .slice Ao33 t487.length co33] ?_; (with_reducible refine (cr3_Mul.calls kj3 a0 _ _ l1 _ _ t487 t495 t496 _ ?side1 ?side2 ?side3 ?side4 A18.out).mono ?_); (case side1 => repeat (first | exact (Kd.C_below HR1.out HB.out) | (with_reducible refine Kd.C_alloc ?_ _) | (with_reducible refine Kd.C_drewN ?_ _) | (with_reducible refine Kd.C_drew ?_))); (case side2 => exact HC1.out); (case side3 => repeat (first | exact (Kd.R_reads' HO489.out).2.2 | (with_reducible refine Kd.C_alloc ?_ _) | (with_reducible refine Kd.C_drewN ?_ _) | (with_reducible refine Kd.C_drew ?_))); (case side4 => exact (Kd.R_reads' HO489.out).2.1); rintro e w34 ⟨v497, rfl, ho0, hb⟩; refine ⟨_, rfl, ?_⟩; have n0_ := A_ (Kd.R_elder' (nR_ HO478) (Kd.R_base ho0) hb); have n1_ := A_ (Kd.R_elder' (nR_ HO481) (Kd.R_base ho0) hb); have n2_ := A_ (Kd.R_elder' (nR_ HO485) (Kd.R_base ho0) hb); have n3_ := A_ (Kd.R_elder' (nR_ HO489) (Kd.R_base ho0) hb); have n4_ := A_ (Kd.R_elder' (nR_ HO494) (Kd.R_base ho0) hb); have n5_ := A_ (Kd.R_lower (Kd.R_new' (Kd.R_new' (Kd.R_new' (Kd.R_new' (Kd.R_new' ho0 (Kd.R_lt (nR_ HO478))) (Kd.R_lt (nR_ HO481))) (Kd.R_lt (nR_ HO485))) (Kd.R_lt (nR_ HO489))) (Kd.R_lt (nR_ HO494))) (below_size hb_)); have n6_ := A_ (below_step hb_ hb); clear HO478 HO481 HO485 HO489 HO494 HB; have HO478 := n0_; have HO481 := n1_; have HO485 := n2_; have HO489 := n3_; have HO494 := n4_; have HO498 := n5_; have HB := n6_; clear n0_ n1_ n2_ n3_ n4_ n5_ n6_; (try clear hb); (try clear ho0); obtain ⟨Ao35, co35, eo35⟩ := Kd.R_slice HO494.out; subst eo35; obtain ⟨Ao36, co36, eo36⟩ := Kd.R_slice HO498.out; subst eo36) | ((with_reducible refine gate_callee (f := 24) rfl ?_); refine goesM_ (some 90) Try.func24 #[.int .u8 a0, .slice Ao35 t491.length co35, .slice Ao36 t495.length co36] ?_; (with_reducible refine (cr3_Add.calls kj3 a0 _ _ t491 _ _ t495 t499 t500 _ ?side1 ?side2 ?side3 ?side4 A19.out).mono ?_); (case side1 => repeat (first | exact (Kd.R_reads' HO494.out).2.2 | (with_reducible refine Kd.C_alloc ?_ _) | (with_reducible refine Kd.C_drewN ?_ _) | (with_reducible refine Kd.C_drew ?_))); (case side2 => exact (Kd.R_reads' HO494.out).2.1); (case side3 => repeat (first | exact (Kd.R_reads' HO498.out).2.2 | (with_reducible refine Kd.C_alloc ?_ _) | (with_reducible refine Kd.C_drewN ?_ _) | (with_reducible refine Kd.C_drew ?_))); (case side4 => exact (Kd.R_reads' HO498.out).2.1); rintro e w37 ⟨v501, rfl, ho0, hb⟩; refine ⟨_, rfl, ?_⟩; have n0_ := A_ (Kd.R_elder' (nR_ HO478) (Kd.R_base ho0) hb); have n1_ := A_ (Kd.R_elder' (nR_ HO481) (Kd.R_base ho0) hb); have n2_ := A_ (Kd.R_elder' (nR_ HO485) (Kd.R_base ho0) hb); have n3_ := A_ (Kd.R_elder' (nR_ HO489) (Kd.R_base ho0) hb); have n4_ := A_ (Kd.R_elder' (nR_ HO494) (Kd.R_base ho0) hb); have n5_ := A_ (Kd.R_elder' (nR_ HO498) (Kd.R_base ho0) hb); have n6_ := A_ (Kd.R_lower (Kd.R_new' (Kd.R_new' (Kd.R_new' (Kd.R_new' (Kd.R_new' (Kd.R_new' ho0 (Kd.R_lt (nR_ HO478))) (Kd.R_lt (nR_ HO481))) (Kd.R_lt (nR_ HO485))) (Kd.R_lt (nR_ HO489))) (Kd.R_lt (nR_ HO494))) (Kd.R_lt (nR_ HO498))) (below_size hb_)); have n7_ := A_ (below_step hb_ hb); clear HO478 HO481 HO485 HO489 HO494 HO498 HB; have HO478 := n0_; have HO481 := n1_; have HO485 := n2_; have HO489 := n3_; have HO494 := n4_; have HO498 := n5_; have HO502 := n6_; have HB := n7_; clear n0_ n1_ n2_ n3_ n4_ n5_ n6_ n7_; (try clear hb); (try clear ho0)) | ((with_reducible refine gate_callee (f := 19) rfl ?_); refine goesM_ (some 93) Try.func19 #[] ?_; (with_reducible refine (conclavelaw06_anchored.calls kj3  true _ A20.out).mono ?_); rintro e w38 ⟨rfl, hb⟩; refine ⟨_, rfl, ?_⟩; have n0_ := A_ (Kd.R_below (nR_ HO478) hb); have n1_ := A_ (Kd.R_below (nR_ HO481) hb); have n2_ := A_ (Kd.R_below (nR_ HO485) hb); have n3_ := A_ (Kd.R_below (nR_ HO489) hb); have n4_ := A_ (Kd.R_below (nR_ HO494) hb); have n5_ := A_ (Kd.R_below (nR_ HO498) hb); have n6_ := A_ (Kd.R_below (nR_ HO502) hb); have n7_ := A_ (below_step hb_ hb); clear HO478 HO481 HO485 HO489 HO494 HO498 HO502 HB; have HO478 := n0_; have HO481 := n1_; have HO485 := n2_; have HO489 := n3_; have HO494 := n4_; have HO498 := n5_; have HO502 := n6_; have HB := n7_; clear n0_ n1_ n2_ n3_ n4_ n5_ n6_ n7_; (try clear hb); obtain ⟨Ao39, co39, eo39⟩ := Kd.R_slice HO481.out; subst eo39; obtain ⟨Ao40, co40, eo40⟩ := Kd.R_slice HO502.out; subst eo40) | (go_at_call 14; (with_reducible refine (cr1_Same.calls kj3 _ _ t479 _ _ t499 t504 _ ?side1 ?side2 ?side3 ?side4 A25.out).mono ?_); (case side1 => repeat (first | exact (Kd.R_reads' HO481.out).2.2 | (with_reducible refine Kd.C_alloc ?_ _) | (with_reducible refine Kd.C_drewN ?_ _) | (with_reducible refine Kd.C_drew ?_))); (case side2 => exact (Kd.R_reads' HO481.out).2.1); (case side3 => repeat (first | exact (Kd.R_reads' HO502.out).2.2 | (with_reducible refine Kd.C_alloc ?_ _) | (with_reducible refine Kd.C_drewN ?_ _) | (with_reducible refine Kd.C_drew ?_))); (case side4 => exact (Kd.R_reads' HO502.out).2.1); rintro e w' ⟨rfl, ⟨nd, rfl⟩⟩))
        go_ret
        exact ⟨fr_, hb_⟩
       ·rw [if_neg c24] at H
        exact absurd H (by simp)
      ·rw [if_neg c23] at H
       exact absurd H (by simp)
     ·rw [if_neg c22] at H
      exact absurd H (by simp)
    ·replace c21 := Bool.eq_false_iff.mpr c21
     subst c21
     have H1 : (none) = some r := by rw [if_neg (show ¬ (false = true) by decide)] at H; exact H
     clear H
     have H := H1
     clear H1
     exact absurd H (by simp)
/-- THE ONE PURE STATEMENT of conclavelaw06_TreeSlopes: yours. -/
def conclavelaw06_TreeSlopes.Pure : Prop := ∀ (a0 : Int) (l1 : List Int) (l2 : List Int), (Lit.int .u8 a0).wf = true → l1.length ≤ maxLen → l1.length * 8 ≤ 140737488351232 → (∀ x ∈ l1, (Lit.int .u64 x).wf = true) → l2.length ≤ maxLen → l2.length * 8 ≤ 140737488351232 → (∀ x ∈ l2, (Lit.int .u64 x).wf = true) → ∃ k, conclavelaw06_TreeSlopes.f k a0 l1 l2 = some true
theorem conclavelaw06_TreeSlopes.walk (P : conclavelaw06_TreeSlopes.Pure) (a0 : Int) (a1 : Option Addr) (len1 cap1 : Nat) (z1 : List Int) (a2 : Option Addr) (len2 cap2 : Nat) (z2 : List Int) (w : World) (w0 : (Lit.int .u8 a0).wf = true) (w1 : (a1 = none ∧ len1 = 0 ∧ cap1 = 0 ∧ z1 = []) ∨ ∃ x, a1 = some x ∧ len1 ≤ cap1 ∧ cap1 ≤ maxLen ∧ z1.length = cap1 ∧ (∀ i, i < z1.length → w.cell? (x.add i) = some (.int .u64 (z1.getD i 0))) ∧ ∀ n ∈ z1, (Lit.int .u64 n).wf = true) (y1 : len1 * 8 ≤ 140737488351232) (w2 : (a2 = none ∧ len2 = 0 ∧ cap2 = 0 ∧ z2 = []) ∨ ∃ x, a2 = some x ∧ len2 ≤ cap2 ∧ cap2 ≤ maxLen ∧ z2.length = cap2 ∧ (∀ i, i < z2.length → w.cell? (x.add i) = some (.int .u64 (z2.getD i 0))) ∧ ∀ n ∈ z2, (Lit.int .u64 n).wf = true) (y2 : len2 * 8 ≤ 140737488351232) :
  Calls Try.prog 6 #[.int .u8 a0, .slice a1 len1 cap1, .slice a2 len2 cap2] w fun e w' => e = .returned (.bool true) ∧ Below w.heap.size w w' := by
 obtain ⟨l1, rfl, hr1, hm1, hw1, hc1⟩ := ReadsInt.ofRowC w1
 obtain ⟨l2, rfl, hr2, hm2, hw2, hc2⟩ := ReadsInt.ofRowC w2
 obtain ⟨k, h⟩ := P a0 l1 l2 w0 hm1 y1 hw1 hm2 y2 hw2
 refine (conclavelaw06_TreeSlopes.calls k a0 _ _ l1 _ _ l2 true w (Kd.C_of_reads (d := (0 : Int)) (h1 := fun _ => rfl) hr1) hc1 (Kd.C_of_reads (d := (0 : Int)) (h1 := fun _ => rfl) hr2) hc2 h).mono ?_
 rintro e w' ⟨rfl, hd⟩
 exact ⟨rfl, hd⟩
end Go.Proofs.Ytkaongcpekhbdaa.PTreeSlopes
