/- The Go functions as Lean functions, each with the proof that its call comes to just that; written by a program of this session, by the words of the print. -/
import Derived.Test.YtbjanbbjjnoecaaPPolyDividesx0
import Derived.Test.YtbjanbbjjnoecaaPPolyDividesx9
namespace Go.Proofs.Ytbjanbbjjnoecaa.PPolyDivides
open Go.RowKit Go.Proofs.YtbjanbbjjnoecaaW.PrintWords Go.Proofs.YtbjanbbjjnoecaaW.PrintLast Go.Proofs.YtbjanbbjjnoecaaW.PrintMore
attribute [local go_sem] max2_int min2_int max_two min_two max_three min_three max_four min_four   -- for this text's walks alone
set_option linter.unusedVariables false
set_option linter.unusedSimpArgs false
/-! ### cr3_at: function 39 -/
def cr3_at.f (l0 : List Int) (a1 : Int) : Option (Int) := if a1 < 0 then (some 0) else (if a1 ≥ (l0.length : Int) then (some 0) else (if 0 ≤ a1 then (if a1 < (l0.length : Int) then (some (rd l0 a1)) else (none)) else (none)))
set_option maxHeartbeats 8000000 in
set_option maxRecDepth 100000 in
theorem cr3_at.calls (A0 : Option Addr) (c0 : Nat) (l0 : List Int) (a1 : Int) (r : Int) (w : World) (hr0 : Kd.C (Kd.int .u64) w A0 l0.length l0) (hc0 : l0.length ≤ c0) (h : cr3_at.f l0 a1 = some r) :
  Calls Try.prog 39 #[.slice A0 l0.length c0, .int .i64 a1] w fun e w' => e = .returned (.int .u64 r) ∧ Drawn0 w w' := by
 have HR0 := Aside0.mk hr0
 have HC0 := Aside0.mk hc0
 clear hr0 hc0
 have H : (if a1 < 0 then (some 0) else (if a1 ≥ (l0.length : Int) then (some 0) else (if 0 ≤ a1 then (if a1 < (l0.length : Int) then (some (rd l0 a1)) else (none)) else (none)))) = some r := h
 clear h
 by_cases c3 : a1 < 0
 ·rw [if_pos c3] at H
  have c3b0 : decide (a1 < 0) = true := decide_eq_true c3
  clear c3
  obtain rfl := Option.some.inj H
  go_enter Try.func39, Try.ntmps39
  go_wp2
  go_ret
  exact ⟨fs_, by repeat (first | exact Drawn0.refl _ | apply Drawn0.step)⟩
 ·rw [if_neg c3] at H
  have c3b0 : decide (a1 < 0) = false := decide_eq_false c3
  clear c3
  by_cases c4 : a1 ≥ (l0.length : Int)
  ·rw [if_pos c4] at H
   have c4b0 : decide ((l0.length : Int) ≤ a1) = true := decide_eq_true c4
   clear c4
   obtain rfl := Option.some.inj H
   go_enter Try.func39, Try.ntmps39
   go_wp2
   go_ret
   exact ⟨fs_, by repeat (first | exact Drawn0.refl _ | apply Drawn0.step)⟩
  ·rw [if_neg c4] at H
   have c4b0 : decide ((l0.length : Int) ≤ a1) = false := decide_eq_false c4
   clear c4
   by_cases c5 : 0 ≤ a1
   ·rw [if_pos c5] at H
    have c5b0 : decide (0 ≤ a1) = true := decide_eq_true c5
    clear c5
    by_cases c6 : a1 < (l0.length : Int)
    ·rw [if_pos c6] at H
     have c6b0 : decide (a1 < (l0.length : Int)) = true := decide_eq_true c6
     clear c6
     obtain rfl := Option.some.inj H
     have p313 : 0 ≤ (a1 : Int) := of_decide_eq_true (by first | (with_reducible assumption) | assumption)
     have q313 : a1 < (l0.length : Int) := of_decide_eq_true (by first | (with_reducible assumption) | assumption)
     obtain ⟨ad313, e313, hx313_0⟩ := Kd.at_int HR0.out a1 p313 q313
     cases e313
     replace p313 := eq_true p313
     replace q313 := eq_true q313
     go_enter Try.func39, Try.ntmps39
     go_wp2
     go_ret
     exact ⟨fs_, by repeat (first | exact Drawn0.refl _ | apply Drawn0.step)⟩
    ·rw [if_neg c6] at H
     exact absurd H (by simp)
   ·rw [if_neg c5] at H
    exact absurd H (by simp)
/-! ### cr3_Add: function 15 -/
def cr3_Add.l0 : Nat → Int → List Int → List Int → List Int → Int → Option (List Int × Int)
 | 0, _, _, _, _, _ => none
 | k + 1, x0, x1, x2, x9, x10 => if x10 < (mx (x1.length : Int) (x2.length : Int)) then ((cr1_P.f x0).bind fun t318 => ((cr3_at.f x1 x10).bind fun t319 => ((cr3_at.f x2 x10).bind fun t320 => ((cr1_Sum.f t318 t319 t320).bind fun t321 => (if x9.length < 17592186044416 then (cr3_Add.l0 k x0 x1 x2 (x9 ++ [t321]) (wrap64 (x10 + 1))) else (none)))))) else ((cr3_Trim.f k x9).bind fun t315 => (some (t315, 0)))
def cr3_Add.f (k : Nat) (a0 : Int) (l1 : List Int) (l2 : List Int) : Option (List Int × Int) := (cr3_Bad.f k a0 l1 l2).bind fun t314 => (if t314 = 0 then (cr3_Add.l0 k a0 l1 l2 ([] : List Int) 0) else (some (([] : List Int), t314)))
theorem cr3_Add.mono_l : ∀ k, (∀ y0 y1 y2 y3 y4, LeO (cr3_Add.l0 k y0 y1 y2 y3 y4) (cr3_Add.l0 (k + 1) y0 y1 y2 y3 y4))
 | 0 => fun _ _ _ _ _ r h => by simp [cr3_Add.l0] at h
 | k + 1 => by
  have ih0 := cr3_Add.mono_l k
  ·intro y0 y1 y2 y3 y4
   unfold cr3_Add.l0
   repeat' first
   | (with_reducible exact ih0 _ _ _ _ _)
   | (with_reducible exact cr3_Bad.mono _ _ _ _)
   | (with_reducible exact cr3_Trim.mono _ _)
   | (with_reducible exact LeO.refl _)
   | (with_reducible exact LeO.none _)
   | (with_reducible refine LeO.ite ?_ ?_)
   | (with_reducible refine LeO.bind ?_ (fun _ => ?_))
   | exact ih0 _ _ _ _ _
   | exact cr3_Bad.mono _ _ _ _
   | exact cr3_Trim.mono _ _
   | exact LeO.none _
   | refine LeO.ite ?_ ?_
   | refine LeO.bind ?_ (fun _ => ?_)
theorem cr3_Add.mono : ∀ a0 a1 a2 k, LeO (cr3_Add.f k a0 a1 a2) (cr3_Add.f (k + 1) a0 a1 a2) := by
 intro a0 a1 a2 k
 have ih0 := cr3_Add.mono_l k
 unfold cr3_Add.f
 repeat' first
   | (with_reducible exact ih0 _ _ _ _ _)
   | (with_reducible exact cr3_Bad.mono _ _ _ _)
   | (with_reducible exact cr3_Trim.mono _ _)
   | (with_reducible exact LeO.refl _)
   | (with_reducible exact LeO.none _)
   | (with_reducible refine LeO.ite ?_ ?_)
   | (with_reducible refine LeO.bind ?_ (fun _ => ?_))
   | exact ih0 _ _ _ _ _
   | exact cr3_Bad.mono _ _ _ _
   | exact cr3_Trim.mono _ _
   | exact LeO.none _
   | refine LeO.ite ?_ ?_
   | refine LeO.bind ?_ (fun _ => ?_)
set_option maxHeartbeats 8000000 in
set_option maxRecDepth 100000 in
theorem cr3_Add.calls (k : Nat) (a0 : Int) (A1 : Option Addr) (c1 : Nat) (l1 : List Int) (A2 : Option Addr) (c2 : Nat) (l2 : List Int) (r1 : List Int) (r2 : Int) (w : World) (hr1 : Kd.C (Kd.int .u64) w A1 l1.length l1) (hc1 : l1.length ≤ c1) (hr2 : Kd.C (Kd.int .u64) w A2 l2.length l2) (hc2 : l2.length ≤ c2) (h : cr3_Add.f k a0 l1 l2 = some (r1, r2)) :
  Calls Try.prog 15 #[.int .u8 a0, .slice A1 l1.length c1, .slice A2 l2.length c2] w fun e w' => ∃ v0_ : Value, e = .returned (.tuple #[v0_, .int .i64 r2]) ∧ Kd.R (Kd.int .u64) 34 w' w.heap.size (fun _ => True) v0_ r1 ∧ Below w.heap.size w w' := by
 have HR1 := Aside0.mk hr1
 have HC1 := Aside0.mk hc1
 clear hr1 hc1
 have HR2 := Aside0.mk hr2
 have HC2 := Aside0.mk hc2
 clear hr2 hc2
 have HB := A_ (Below.refl w.heap.size w)
 have H : ((cr3_Bad.f k a0 l1 l2).bind fun t314 => (if t314 = 0 then (cr3_Add.l0 k a0 l1 l2 ([] : List Int) 0) else (some (([] : List Int), t314)))) = some (r1, r2) := h
 clear h
 replace H := Option.bind_eq_some_iff.mp H
 obtain ⟨t314, A40, H⟩ := H
 replace H : (if t314 = 0 then (cr3_Add.l0 k a0 l1 l2 ([] : List Int) 0) else (some (([] : List Int), t314))) = some (r1, r2) := H
 have A4 := Aside0.mk A40
 clear A40
 have HC5 := Aside0.mk H
 clear H
 go_enter Try.func15, Try.ntmps15
 go_upto_if 16 with (first | ((with_reducible refine gate_callee (f := 25) rfl ?_); refine goesM_ (some 14) Try.func25 #[.int .u8 a0, .slice A1 l1.length c1, .slice A2 l2.length c2] ?_; (with_reducible refine (cr3_Bad.calls k a0 _ _ l1 _ _ l2 t314 _ ?side1 ?side2 ?side3 ?side4 A4.out).mono ?_); (case side1 => exact nC_ HR1.out); (case side2 => exact HC1.out); (case side3 => exact nC_ HR2.out); (case side4 => exact HC2.out); rintro e w' ⟨rfl, ⟨nd, rfl⟩⟩; refine ⟨_, rfl, ?_⟩))
 (try simp only [Act.put, List.setIfInBounds_toArray, List.set_cons_zero, List.set_cons_succ])
 have H := HC5.out
 clear HC5
 by_cases c6 : t314 = 0
 ·rw [if_pos c6] at H
  have c6b0 : (t314 == 0) = true := beq_iff_eq.mpr c6
  have c6b1 : (t314 != 0) = false := bne_eq_false_iff_eq.mpr c6
  clear c6
  (first | rw [c6b0] | rw [c6b1] | (simp only [i64_w, i32_w]; first | rw [c6b0] | rw [c6b1]) | skip)
  have H' := Aside0.mk H
  clear H
  go_wp2
  go_loopg [9, 10] k (fun kq v9 v10 w' => ∃ (x9_1 : List Int) (x10_1 : Int), v10 = .int .i64 x10_1 ∧ Aside0 (cr3_Add.l0 kq a0 l1 l2 x9_1 x10_1 = some (r1, r2)) ∧ Aside0 (kq ≤ k) ∧ Aside0 (Kd.R (Kd.int .u64) 34 w' w.heap.size (fun _ => True) v9 x9_1) ∧ Aside0 (Below w.heap.size w w'))
  case atStart => exact ⟨(([] : List Int)), (0), (fs_), H', ⟨Nat.le_refl _⟩, ⟨by first | exact Kd.R_nil _ _ _ _ _ | exact Kd.N_nil _ _ _ _ _ | exact Kd.V_nil _ _ _ _ _ | exact Kd.Q_nil _ _ _ _ _ | exact Kd.S_nil _ _ _ _ _⟩, ⟨by repeat (first | (with_reducible first | exact HB.out | apply below_alloc | apply pw_below_drewN | apply below_drew1) | exact HB.out)⟩⟩
  case round =>
   clear H'
   try clear c1
   try clear c2
   try clear p2
   try clear c6
   try clear c6b0
   try clear c6b1
   obtain ⟨x9_1, x10_1, rfl, HA, HK1, HO_9, HB⟩ := hrel
   cases gk with
   | zero => exact absurd HA.out (by simp [cr3_Add.l0])
   | succ k1 =>
    have H := HA.out
    clear HA
    simp only [cr3_Add.l0] at H
    obtain ⟨ji7, hji7⟩ : ∃ j_ : Int, (mx (l1.length : Int) (l2.length : Int)) = j_ := ⟨_, rfl⟩
    replace H : (if x10_1 < (ji7) then ((cr1_P.f a0).bind fun t318 => ((cr3_at.f l1 x10_1).bind fun t319 => ((cr3_at.f l2 x10_1).bind fun t320 => ((cr1_Sum.f t318 t319 t320).bind fun t321 => (if x9_1.length < 17592186044416 then (cr3_Add.l0 k1 a0 l1 l2 (x9_1 ++ [t321]) (wrap64 (x10_1 + 1))) else (none)))))) else ((cr3_Trim.f k1 x9_1).bind fun t315 => (some (t315, 0)))) = some (r1, r2) := by first | (rw [hji7] at H; exact H) | (simp only [hji7] at H ⊢; exact H)
    have hji7N : (if l1.length < l2.length then (l2.length : Int) else (l1.length : Int)) = ji7 := by have h_ := hji7; unfold mx at h_; simp only [Int.ofNat_lt] at h_; exact h_
    have hji7_ : (if (l1.length : Int) < (l2.length : Int) then (l2.length : Int) else (l1.length : Int)) = ji7 := hji7
    by_cases c8 : x10_1 < (ji7)
    ·rw [if_pos c8] at H
     have c8b0 : decide (x10_1 < (ji7)) = true := decide_eq_true c8
     clear c8
     replace H := Option.bind_eq_some_iff.mp H
     obtain ⟨t318, A90, H⟩ := H
     replace H : ((cr3_at.f l1 x10_1).bind fun t319 => ((cr3_at.f l2 x10_1).bind fun t320 => ((cr1_Sum.f t318 t319 t320).bind fun t321 => (if x9_1.length < 17592186044416 then (cr3_Add.l0 k1 a0 l1 l2 (x9_1 ++ [t321]) (wrap64 (x10_1 + 1))) else (none))))) = some (r1, r2) := H
     have A9 := Aside0.mk A90
     clear A90
     replace H := Option.bind_eq_some_iff.mp H
     obtain ⟨t319, A100, H⟩ := H
     replace H : ((cr3_at.f l2 x10_1).bind fun t320 => ((cr1_Sum.f t318 t319 t320).bind fun t321 => (if x9_1.length < 17592186044416 then (cr3_Add.l0 k1 a0 l1 l2 (x9_1 ++ [t321]) (wrap64 (x10_1 + 1))) else (none)))) = some (r1, r2) := H
     have A10 := Aside0.mk A100
     clear A100
     replace H := Option.bind_eq_some_iff.mp H
     obtain ⟨t320, A110, H⟩ := H
     replace H : ((cr1_Sum.f t318 t319 t320).bind fun t321 => (if x9_1.length < 17592186044416 then (cr3_Add.l0 k1 a0 l1 l2 (x9_1 ++ [t321]) (wrap64 (x10_1 + 1))) else (none))) = some (r1, r2) := H
     have A11 := Aside0.mk A110
     clear A110
     replace H := Option.bind_eq_some_iff.mp H
     obtain ⟨t321, A120, H⟩ := H
     replace H : (if x9_1.length < 17592186044416 then (cr3_Add.l0 k1 a0 l1 l2 (x9_1 ++ [t321]) (wrap64 (x10_1 + 1))) else (none)) = some (r1, r2) := H
     have A12 := Aside0.mk A120
     clear A120
     by_cases c13 : x9_1.length < 17592186044416
     ·rw [if_pos c13] at H
      have LMc13 := Aside0.mk c13
      clear c13
      obtain ⟨y322, hy322⟩ : ∃ y_ : List Int, y_ = (x9_1 ++ [t321]) := ⟨_, rfl⟩
      replace H : (cr3_Add.l0 k1 a0 l1 l2 y322 (wrap64 (x10_1 + 1))) = some (r1, r2) := by first | (rw [hy322]; with_reducible exact H) | (have H2_ := (Option.bind_some _ _).symm.trans H; rw [hy322]; with_reducible exact H2_) | (have H2_ := (Option.bind_some _ _).symm.trans H; with_reducible exact H2_) | with_reducible exact H | (rw [hy322]; exact H) | exact H
      have Ny322 := Aside0.mk hy322
      clear hy322
      have H' := Aside0.mk H
      clear H
      go_wp2_with (first | ((with_reducible refine gate_callee (f := 27) rfl ?_); refine goesM_ (some 29) Try.func27 #[.int .u8 a0] ?_; (with_reducible refine (cr1_P.calls a0 t318 _ A9.out).mono ?_); rintro e w' ⟨rfl, ⟨nd, rfl⟩⟩; refine ⟨_, rfl, ?_⟩) | ((with_reducible refine gate_callee (f := 39) rfl ?_); refine goesM_ (some 32) Try.func39 #[.slice A1 l1.length c1, .int .i64 x10_1] ?_; (with_reducible refine (cr3_at.calls _ _ l1 x10_1 t319 _ ?side1 ?side2 A10.out).mono ?_); (case side1 => repeat (first | exact (Kd.C_below HR1.out hb_) | (with_reducible refine Kd.C_alloc ?_ _) | (with_reducible refine Kd.C_drewN ?_ _) | (with_reducible refine Kd.C_drew ?_))); (case side2 => exact HC1.out); rintro e w' ⟨rfl, ⟨nd, rfl⟩⟩; refine ⟨_, rfl, ?_⟩) | ((with_reducible refine gate_callee (f := 39) rfl ?_); refine goesM_ (some 35) Try.func39 #[.slice A2 l2.length c2, .int .i64 x10_1] ?_; (with_reducible refine (cr3_at.calls _ _ l2 x10_1 t320 _ ?side1 ?side2 A11.out).mono ?_); (case side1 => repeat (first | exact (Kd.C_below HR2.out hb_) | (with_reducible refine Kd.C_alloc ?_ _) | (with_reducible refine Kd.C_drewN ?_ _) | (with_reducible refine Kd.C_drew ?_))); (case side2 => exact HC2.out); rintro e w' ⟨rfl, ⟨nd, rfl⟩⟩; refine ⟨_, rfl, ?_⟩) | ((with_reducible refine gate_callee (f := 28) rfl ?_); refine goesM_ (some 36) Try.func28 #[.int .u64 t318, .int .u64 t319, .int .u64 t320] ?_; (with_reducible refine (cr1_Sum.calls t318 t319 t320 t321 _ A12.out).mono ?_); rintro e w' ⟨rfl, ⟨nd, rfl⟩⟩; refine ⟨_, rfl, ?_⟩) | ((with_reducible refine gate_builtin (b := .append) (xs := #[.tmp 27, .tmp 37]) rfl ?_); at_builtin; refine Kd.R_append (Kd.int .u64) (w0 := w) w.heap.size rfl (.tmp 27) (.tmp 37) 22 34 (.int .u64 0) 8 rfl Try.underlying22 info34 rfl (by decide) (by omega) u9 x9_1 t321 [.int .u64 t321] (fun _ => True) (fun _ => False) rfl rfl ?aP (fun _ hk => hk.elim) ?aF ?aO ?aB ?aS ?aL ?_; (case aP => exact rfl); (case aB => exact hb_); (case aF => exact (fun _ _ => trivial)); (case aO => exact (nR_ HO_9)); (case aS => exact (below_size hb_)); (case aL => have := LMc13.out; omega); intro v323 w14 ho hb hg hat; rw [← Ny322.out] at ho; have n0_ := A_ (hb); have n1_ := A_ (ho); clear HB HO_9; have HB := n0_; have HO324 := n1_; clear n0_ n1_; clear ho hb hg hat))
      go_roundg k1
      case measure => have := HK1.out; omega
      case rel => exact ⟨(y322), (wrap64 (x10_1 + 1)), (fs_), H', ⟨by have := HK1.out; omega⟩, ⟨mR_ HO324.out⟩, ⟨by repeat (first | (with_reducible first | exact HB.out | apply below_alloc | apply pw_below_drewN | apply below_drew1) | exact HB.out)⟩⟩
     ·rw [if_neg c13] at H
      exact absurd H (by simp)
    ·rw [if_neg c8] at H
     have c8b0 : decide (x10_1 < (ji7)) = false := decide_eq_false c8
     clear c8
     replace H := Option.bind_eq_some_iff.mp H
     obtain ⟨t315, A150, H⟩ := H
     replace H : (some (t315, 0)) = some (r1, r2) := H
     have A15 := Aside0.mk A150
     clear A150
     simp only [Option.some.injEq, Prod.mk.injEq] at H
     obtain ⟨rfl, rfl⟩ := H
     obtain ⟨Ao16, co16, eo16⟩ := Kd.R_slice HO_9.out
     subst eo16
     go_wp2_with (first | ((with_reducible refine gate_callee (f := 12) rfl ?_); refine goesM_ (some 40) Try.func12 #[.slice Ao16 x9_1.length co16] ?_; (with_reducible refine (cr3_Trim.calls k1 _ _ x9_1 t315 _ ?side1 ?side2 A15.out).mono ?_); (case side1 => repeat (first | exact (Kd.R_reads' HO_9.out).2.2 | (with_reducible refine Kd.C_alloc ?_ _) | (with_reducible refine Kd.C_drewN ?_ _) | (with_reducible refine Kd.C_drew ?_))); (case side2 => exact (Kd.R_reads' HO_9.out).2.1); rintro e w17 ⟨v316, rfl, ho0, hb⟩; refine ⟨_, rfl, ?_⟩; have n0_ := A_ (Kd.R_elder' (nR_ HO_9) (Kd.R_base ho0) hb); have n1_ := A_ (Kd.R_lower (Kd.R_new' ho0 (Kd.R_lt (nR_ HO_9))) (below_size hb_)); have n2_ := A_ (below_step hb_ hb); clear HO_9 HB; have HO_9 := n0_; have HO317 := n1_; have HB := n2_; clear n0_ n1_ n2_; (try clear hb); (try clear ho0)))
     go_ret2
     exact ⟨_, by first | rfl | (simp [errW_none, errW_some] <;> rfl) | (simp only [← hji7]; first | rfl | (simp [errW_none, errW_some] <;> rfl)) | (simp [*, errW_none, errW_some] <;> rfl), by (with_reducible repeat (first | apply Kd.R_alloc | apply Kd.R_drewN | apply Kd.R_drew)); exact Kd.R_mono HO317.out (fun _ hk => trivial), hb_⟩
 ·rw [if_neg c6] at H
  have c6b0 : (t314 == 0) = false := beq_eq_false_iff_ne.mpr c6
  have c6b1 : (t314 != 0) = true := bne_iff_ne.mpr c6
  (first | rw [c6b0] | rw [c6b1] | (simp only [i64_w, i32_w]; first | rw [c6b0] | rw [c6b1]) | skip)
  simp only [Option.some.injEq, Prod.mk.injEq] at H
  obtain ⟨rfl, rfl⟩ := H
  go_wp2
  go_ret2
  exact ⟨_, fr_, by first | exact Kd.R_nil _ _ _ _ _ | exact Kd.N_nil _ _ _ _ _ | exact Kd.V_nil _ _ _ _ _ | exact Kd.Q_nil _ _ _ _ _ | exact Kd.S_nil _ _ _ _ _, hb_⟩
end Go.Proofs.Ytbjanbbjjnoecaa.PPolyDivides
