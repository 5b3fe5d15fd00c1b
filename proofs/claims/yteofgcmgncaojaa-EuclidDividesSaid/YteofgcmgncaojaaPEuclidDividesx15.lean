/- The Go functions as Lean functions, each with the proof that its call comes to just that; written by a program of this session, by the words of the print. -/
import Derived.Test.YteofgcmgncaojaaPEuclidDividesx0
import Derived.Test.YteofgcmgncaojaaPEuclidDividesx5
import Derived.Test.YteofgcmgncaojaaPEuclidDividesx6
import Derived.Test.YteofgcmgncaojaaPEuclidDividesx7
import Derived.Test.YteofgcmgncaojaaPEuclidDividesx8
import Derived.Test.YteofgcmgncaojaaPEuclidDividesx9
import Derived.Test.YteofgcmgncaojaaPEuclidDividesx13
import Derived.Test.YteofgcmgncaojaaPEuclidDividesx14
namespace Go.Proofs.Yteofgcmgncaojaa.PEuclidDivides
open Go.RowKit Go.Proofs.YteofgcmgncaojaaW.PrintWords Go.Proofs.YteofgcmgncaojaaW.PrintLast Go.Proofs.YteofgcmgncaojaaW.PrintMore
attribute [local go_sem] max2_int min2_int max_two min_two max_three min_three max_four min_four   -- for this text's walks alone
set_option linter.unusedVariables false
set_option linter.unusedSimpArgs false
/-! ### cr5_Modulo: function 13 -/
def cr5_Modulo.f (k : Nat) (a0 : Int) (l1 : List Int) (l2 : List Int) : Option (List Int × Bool × Int) := (cr5_bad.f k a0 l1 l2).bind fun t597 => (if t597 = 0 then ((cr3_Trim.f k l2).bind fun t598 => (if (t598.length : Int) = 0 then (some (([] : List Int), false, 5)) else (if (t598.length : Int) = 1 then (some (([] : List Int), true, 0)) else ((cr3_DivMod.f k a0 l1 t598).bind fun bt601 => ((cr5_GCD.f k a0 bt601.2.1 t598).bind fun bt608 => (if (bt608.1.length : Int) = 1 then ((cr5_Partial.f k a0 t598 bt601.2.1 1).bind fun bt612 => ((cr1_P.f a0).bind fun t622 => (if 0 < (bt612.1.length : Int) then ((cr1_Turned.f k t622 (rd bt612.1 0)).bind fun t624 => ((cr3_Scale.f k a0 t624 bt612.2.2.1).bind fun bt625 => ((cr3_DivMod.f k a0 bt625.1 t598).bind fun bt629 => (some (bt629.2.1, true, 0))))) else (none)))) else (some (([] : List Int), false, 0)))))))) else (some (([] : List Int), false, t597)))
theorem cr5_Modulo.mono : ∀ a0 a1 a2 k, LeO (cr5_Modulo.f k a0 a1 a2) (cr5_Modulo.f (k + 1) a0 a1 a2) := by
 intro a0 a1 a2 k
 unfold cr5_Modulo.f
 repeat' first
   | (with_reducible exact cr1_Turned.mono _ _ _)
   | (with_reducible exact cr3_DivMod.mono _ _ _ _)
   | (with_reducible exact cr3_Scale.mono _ _ _ _)
   | (with_reducible exact cr3_Trim.mono _ _)
   | (with_reducible exact cr5_GCD.mono _ _ _ _)
   | (with_reducible exact cr5_Partial.mono _ _ _ _ _)
   | (with_reducible exact cr5_bad.mono _ _ _ _)
   | (with_reducible exact LeO.refl _)
   | (with_reducible exact LeO.none _)
   | (with_reducible refine LeO.ite ?_ ?_)
   | (with_reducible refine LeO.bind ?_ (fun _ => ?_))
   | exact cr1_Turned.mono _ _ _
   | exact cr3_DivMod.mono _ _ _ _
   | exact cr3_Scale.mono _ _ _ _
   | exact cr3_Trim.mono _ _
   | exact cr5_GCD.mono _ _ _ _
   | exact cr5_Partial.mono _ _ _ _ _
   | exact cr5_bad.mono _ _ _ _
   | exact LeO.none _
   | refine LeO.ite ?_ ?_
   | refine LeO.bind ?_ (fun _ => ?_)
def cr5_Modulo.T14 : Bool × List (List Nat × List Nat) := (true, [([], []), ([], []), ([1], [1]), ([], []), ([3], [3]), ([4], [4]), ([2, 5, 2], [2, 5]), ([], []), ([0, 6, 7, 6], [0, 6, 7]), ([8], [8]), ([9], [9]), ([9], [9]), ([10, 8, 0, 1, 2, 3, 4, 5, 6, 7, 8, 9, 10], [7, 10])])
def cr5_Modulo.B14 : List Nat := [0, 0, 2, 0, 8, 24, 62, 0, 255, 511, 1023, 1023, 2047]
theorem cr5_Modulo.tab14 : rtab .any (opsOf Try.f13 14) = cr5_Modulo.T14 := by kernel_rfl
theorem cr5_Modulo.bits14 : waitsOk cr5_Modulo.T14.2 cr5_Modulo.B14 = true := by kernel_rfl
set_option maxHeartbeats 8000000 in
set_option maxRecDepth 100000 in
theorem cr5_Modulo.calls (k : Nat) (a0 : Int) (A1 : Option Addr) (c1 : Nat) (l1 : List Int) (A2 : Option Addr) (c2 : Nat) (l2 : List Int) (r1 : List Int) (r2 : Bool) (r3 : Int) (w : World) (hr1 : Kd.C (Kd.int .u64) w A1 l1.length l1) (hc1 : l1.length ≤ c1) (hr2 : Kd.C (Kd.int .u64) w A2 l2.length l2) (hc2 : l2.length ≤ c2) (h : cr5_Modulo.f k a0 l1 l2 = some (r1, r2, r3)) :
  Calls Try.prog 13 #[.int .u8 a0, .slice A1 l1.length c1, .slice A2 l2.length c2] w fun e w' => ∃ v0_ : Value, e = .returned (.tuple #[v0_, .bool r2, .int .i64 r3]) ∧ Kd.R (Kd.int .u64) 40 w' w.heap.size (fun _ => True) v0_ r1 ∧ Below w.heap.size w w' := by
 have HR1 := Aside0.mk hr1
 have HC1 := Aside0.mk hc1
 clear hr1 hc1
 have HR2 := Aside0.mk hr2
 have HC2 := Aside0.mk hc2
 clear hr2 hc2
 have HB := A_ (Below.refl w.heap.size w)
 have H : ((cr5_bad.f k a0 l1 l2).bind fun t597 => (if t597 = 0 then ((cr3_Trim.f k l2).bind fun t598 => (if (t598.length : Int) = 0 then (some (([] : List Int), false, 5)) else (if (t598.length : Int) = 1 then (some (([] : List Int), true, 0)) else ((cr3_DivMod.f k a0 l1 t598).bind fun bt601 => ((cr5_GCD.f k a0 bt601.2.1 t598).bind fun bt608 => (if (bt608.1.length : Int) = 1 then ((cr5_Partial.f k a0 t598 bt601.2.1 1).bind fun bt612 => ((cr1_P.f a0).bind fun t622 => (if 0 < (bt612.1.length : Int) then ((cr1_Turned.f k t622 (rd bt612.1 0)).bind fun t624 => ((cr3_Scale.f k a0 t624 bt612.2.2.1).bind fun bt625 => ((cr3_DivMod.f k a0 bt625.1 t598).bind fun bt629 => (some (bt629.2.1, true, 0))))) else (none)))) else (some (([] : List Int), false, 0)))))))) else (some (([] : List Int), false, t597)))) = some (r1, r2, r3) := h
 clear h
 replace H := Option.bind_eq_some_iff.mp H
 obtain ⟨t597, A40, H⟩ := H
 (try dsimp only at H)
 have A4 := Aside0.mk A40
 clear A40
 by_cases c5 : t597 = 0
 ·rw [if_pos c5] at H
  have c5b0 : (t597 == 0) = true := beq_iff_eq.mpr c5
  have c5b1 : (t597 != 0) = false := bne_eq_false_iff_eq.mpr c5
  clear c5
  replace H := Option.bind_eq_some_iff.mp H
  obtain ⟨t598, A60, H⟩ := H
  (try dsimp only at H)
  have A6 := Aside0.mk A60
  clear A60
  by_cases c7 : (t598.length : Int) = 0
  ·rw [if_pos c7] at H
   have c7b0 : ((t598.length : Int) == 0) = true := beq_iff_eq.mpr c7
   have c7b1 : ((t598.length : Int) != 0) = false := bne_eq_false_iff_eq.mpr c7
   clear c7
   simp only [Option.some.injEq, Prod.mk.injEq] at H
   obtain ⟨rfl, rfl, rfl⟩ := H
   go_enter Try.func13, Try.ntmps13
   go_wp2_with (first | ((with_reducible refine gate_callee (f := 31) rfl ?_); refine goesM_ (some 19) Try.func31 #[.int .u8 a0, .slice A1 l1.length c1, .slice A2 l2.length c2] ?_; (with_reducible refine (cr5_bad.calls k a0 _ _ l1 _ _ l2 t597 _ ?side1 ?side2 ?side3 ?side4 A4.out).mono ?_); (case side1 => exact nC_ HR1.out); (case side2 => exact HC1.out); (case side3 => exact nC_ HR2.out); (case side4 => exact HC2.out); rintro e w' ⟨rfl, ⟨nd, rfl⟩⟩; refine ⟨_, rfl, ?_⟩) | ((with_reducible refine gate_callee (f := 20) rfl ?_); refine goesM_ (some 24) Try.func20 #[.slice A2 l2.length c2] ?_; (with_reducible refine (cr3_Trim.calls k _ _ l2 t598 _ ?side1 ?side2 A6.out).mono ?_); (case side1 => exact nC_ HR2.out); (case side2 => exact HC2.out); rintro e w8 ⟨v599, rfl, ho0, hb⟩; refine ⟨_, rfl, ?_⟩; have n0_ := A_ (Kd.R_lower (Kd.R_mono (ok' := fun _ => True) ho0 (fun _ _ => trivial)) (below_size hb_)); have n1_ := A_ (below_step hb_ hb); clear HB; have HO600 := n0_; have HB := n1_; clear n0_ n1_; (try clear hb); (try clear ho0); obtain ⟨Ao9, co9, eo9⟩ := Kd.R_slice HO600.out; subst eo9))
   go_ret3
   exact ⟨_, fr_, by first | exact Kd.R_nil _ _ _ _ _ | exact Kd.N_nil _ _ _ _ _ | exact Kd.V_nil _ _ _ _ _ | exact Kd.Q_nil _ _ _ _ _ | exact Kd.S_nil _ _ _ _ _, hb_⟩
  ·rw [if_neg c7] at H
   have c7b0 : ((t598.length : Int) == 0) = false := beq_eq_false_iff_ne.mpr c7
   have c7b1 : ((t598.length : Int) != 0) = true := bne_iff_ne.mpr c7
   have c7b2 : ¬ (t598 = []) := fun h_ => c7 (by rw [h_]; rfl)
   by_cases c10 : (t598.length : Int) = 1
   ·rw [if_pos c10] at H
    have c10b0 : ((t598.length : Int) == 1) = true := beq_iff_eq.mpr c10
    have c10b1 : ((t598.length : Int) != 1) = false := bne_eq_false_iff_eq.mpr c10
    clear c10
    simp only [Option.some.injEq, Prod.mk.injEq] at H
    obtain ⟨rfl, rfl, rfl⟩ := H
    go_enter Try.func13, Try.ntmps13
    go_wp2_with (first | ((with_reducible refine gate_callee (f := 31) rfl ?_); refine goesM_ (some 19) Try.func31 #[.int .u8 a0, .slice A1 l1.length c1, .slice A2 l2.length c2] ?_; (with_reducible refine (cr5_bad.calls k a0 _ _ l1 _ _ l2 t597 _ ?side1 ?side2 ?side3 ?side4 A4.out).mono ?_); (case side1 => exact nC_ HR1.out); (case side2 => exact HC1.out); (case side3 => exact nC_ HR2.out); (case side4 => exact HC2.out); rintro e w' ⟨rfl, ⟨nd, rfl⟩⟩; refine ⟨_, rfl, ?_⟩) | ((with_reducible refine gate_callee (f := 20) rfl ?_); refine goesM_ (some 24) Try.func20 #[.slice A2 l2.length c2] ?_; (with_reducible refine (cr3_Trim.calls k _ _ l2 t598 _ ?side1 ?side2 A6.out).mono ?_); (case side1 => exact nC_ HR2.out); (case side2 => exact HC2.out); rintro e w11 ⟨v599, rfl, ho0, hb⟩; refine ⟨_, rfl, ?_⟩; have n0_ := A_ (Kd.R_lower (Kd.R_mono (ok' := fun _ => True) ho0 (fun _ _ => trivial)) (below_size hb_)); have n1_ := A_ (below_step hb_ hb); clear HB; have HO600 := n0_; have HB := n1_; clear n0_ n1_; (try clear hb); (try clear ho0); obtain ⟨Ao12, co12, eo12⟩ := Kd.R_slice HO600.out; subst eo12))
    go_ret3
    exact ⟨_, fr_, by first | exact Kd.R_nil _ _ _ _ _ | exact Kd.N_nil _ _ _ _ _ | exact Kd.V_nil _ _ _ _ _ | exact Kd.Q_nil _ _ _ _ _ | exact Kd.S_nil _ _ _ _ _, hb_⟩
   ·rw [if_neg c10] at H
    have c10b0 : ((t598.length : Int) == 1) = false := beq_eq_false_iff_ne.mpr c10
    have c10b1 : ((t598.length : Int) != 1) = true := bne_iff_ne.mpr c10
    replace H := Option.bind_eq_some_iff.mp H
    obtain ⟨⟨t601, t602, t603⟩, A130, H⟩ := H
    (try dsimp only at H)
    have A13 := Aside0.mk A130
    clear A130
    replace H := Option.bind_eq_some_iff.mp H
    obtain ⟨⟨t608, t609⟩, A140, H⟩ := H
    (try dsimp only at H)
    have A14 := Aside0.mk A140
    clear A140
    by_cases c15 : (t608.length : Int) = 1
    ·rw [if_pos c15] at H
     have c15b0 : ((t608.length : Int) == 1) = true := beq_iff_eq.mpr c15
     have c15b1 : ((t608.length : Int) != 1) = false := bne_eq_false_iff_eq.mpr c15
     clear c15
     replace H := Option.bind_eq_some_iff.mp H
     obtain ⟨⟨t612, t613, t614, t615⟩, A160, H⟩ := H
     replace H : ((cr1_P.f a0).bind fun t622 => (if 0 < (t612.length : Int) then ((cr1_Turned.f k t622 (rd t612 0)).bind fun t624 => ((cr3_Scale.f k a0 t624 t614).bind fun bt625 => ((cr3_DivMod.f k a0 bt625.1 t598).bind fun bt629 => (some (bt629.2.1, true, 0))))) else (none))) = some (r1, r2, r3) := H
     have A16 := Aside0.mk A160
     clear A160
     replace H := Option.bind_eq_some_iff.mp H
     obtain ⟨t622, A170, H⟩ := H
     replace H : (if 0 < (t612.length : Int) then ((cr1_Turned.f k t622 (rd t612 0)).bind fun t624 => ((cr3_Scale.f k a0 t624 t614).bind fun bt625 => ((cr3_DivMod.f k a0 bt625.1 t598).bind fun bt629 => (some (bt629.2.1, true, 0))))) else (none)) = some (r1, r2, r3) := H
     have A17 := Aside0.mk A170
     clear A170
     by_cases c18 : 0 < (t612.length : Int)
     ·rw [if_pos c18] at H
      have c18b0 : decide (0 < (t612.length : Int)) = true := decide_eq_true c18
      have c18b1 : decide (0 < t612.length) = true := decide_eq_true (by omega)
      clear c18
      replace H := Option.bind_eq_some_iff.mp H
      obtain ⟨t624, A190, H⟩ := H
      replace H : ((cr3_Scale.f k a0 t624 t614).bind fun bt625 => ((cr3_DivMod.f k a0 bt625.1 t598).bind fun bt629 => (some (bt629.2.1, true, 0)))) = some (r1, r2, r3) := H
      have A19 := Aside0.mk A190
      clear A190
      replace H := Option.bind_eq_some_iff.mp H
      obtain ⟨⟨t625, t626⟩, A200, H⟩ := H
      replace H : ((cr3_DivMod.f k a0 t625 t598).bind fun bt629 => (some (bt629.2.1, true, 0))) = some (r1, r2, r3) := H
      have A20 := Aside0.mk A200
      clear A200
      replace H := Option.bind_eq_some_iff.mp H
      obtain ⟨⟨t629, t630, t631⟩, A210, H⟩ := H
      replace H : (some (t630, true, 0)) = some (r1, r2, r3) := H
      have A21 := Aside0.mk A210
      clear A210
      simp only [Option.some.injEq, Prod.mk.injEq] at H
      obtain ⟨rfl, rfl, rfl⟩ := H
      go_enter Try.func13, Try.ntmps13
      try go_wp2_with (first | ((with_reducible refine gate_callee (f := 31) rfl ?_); refine goesM_ (some 19) Try.func31 #[.int .u8 a0, .slice A1 l1.length c1, .slice A2 l2.length c2] ?_; (with_reducible refine (cr5_bad.calls k a0 _ _ l1 _ _ l2 t597 _ ?side1 ?side2 ?side3 ?side4 A4.out).mono ?_); (case side1 => exact nC_ HR1.out); (case side2 => exact HC1.out); (case side3 => exact nC_ HR2.out); (case side4 => exact HC2.out); rintro e w' ⟨rfl, ⟨nd, rfl⟩⟩; refine ⟨_, rfl, ?_⟩) | ((with_reducible refine gate_callee (f := 20) rfl ?_); refine goesM_ (some 24) Try.func20 #[.slice A2 l2.length c2] ?_; (with_reducible refine (cr3_Trim.calls k _ _ l2 t598 _ ?side1 ?side2 A6.out).mono ?_); (case side1 => exact nC_ HR2.out); (case side2 => exact HC2.out); rintro e w22 ⟨v599, rfl, ho0, hb⟩; refine ⟨_, rfl, ?_⟩; have n0_ := A_ (Kd.R_lower (Kd.R_mono (ok' := fun _ => True) ho0 (fun _ _ => trivial)) (below_size hb_)); have n1_ := A_ (below_step hb_ hb); clear HB; have HO600 := n0_; have HB := n1_; clear n0_ n1_; (try clear hb); (try clear ho0); obtain ⟨Ao23, co23, eo23⟩ := Kd.R_slice HO600.out; subst eo23) | ((with_reducible refine gate_callee (f := 19) rfl ?_); refine goesM_ (some 35) Try.func19 #[.int .u8 a0, .slice A1 l1.length c1, .slice Ao23 t598.length co23] ?_; (with_reducible refine (cr3_DivMod.calls k a0 _ _ l1 _ _ t598 t601 t602 t603 _ ?side1 ?side2 ?side3 ?side4 A13.out).mono ?_); (case side1 => repeat (first | exact (Kd.C_below HR1.out HB.out) | (with_reducible refine Kd.C_alloc ?_ _) | (with_reducible refine Kd.C_drewN ?_ _) | (with_reducible refine Kd.C_drew ?_))); (case side2 => exact HC1.out); (case side3 => repeat (first | exact (Kd.R_reads' HO600.out).2.2 | (with_reducible refine Kd.C_alloc ?_ _) | (with_reducible refine Kd.C_drewN ?_ _) | (with_reducible refine Kd.C_drew ?_))); (case side4 => exact (Kd.R_reads' HO600.out).2.1); rintro e w24 ⟨v604, v606, rfl, ho0, ho1, hb⟩; refine ⟨_, rfl, ?_⟩; have n0_ := A_ (Kd.R_below (nR_ HO600) hb); have n1_ := A_ (Kd.R_lower (Kd.R_mono (ok' := fun _ => True) ho0 (fun _ _ => trivial)) (below_size hb_)); have n2_ := A_ (Kd.R_lower (Kd.R_mono (ok' := fun _ => True) ho1 (fun _ _ => trivial)) (below_size hb_)); have n3_ := A_ (below_step hb_ hb); clear HO600 HB; have HO600 := n0_; have HO605 := n1_; have HO607 := n2_; have HB := n3_; clear n0_ n1_ n2_ n3_; (try clear hb); (try clear ho0); (try clear ho1); obtain ⟨Ao25, co25, eo25⟩ := Kd.R_slice HO607.out; subst eo25) | ((with_reducible refine gate_callee (f := 11) rfl ?_); refine goesM_ (some 43) Try.func11 #[.int .u8 a0, .slice Ao25 t602.length co25, .slice Ao23 t598.length co23] ?_; (with_reducible refine (cr5_GCD.calls k a0 _ _ t602 _ _ t598 t608 t609 _ ?side1 ?side2 ?side3 ?side4 A14.out).mono ?_); (case side1 => repeat (first | exact (Kd.R_reads' HO607.out).2.2 | (with_reducible refine Kd.C_alloc ?_ _) | (with_reducible refine Kd.C_drewN ?_ _) | (with_reducible refine Kd.C_drew ?_))); (case side2 => exact (Kd.R_reads' HO607.out).2.1); (case side3 => repeat (first | exact (Kd.R_reads' HO600.out).2.2 | (with_reducible refine Kd.C_alloc ?_ _) | (with_reducible refine Kd.C_drewN ?_ _) | (with_reducible refine Kd.C_drew ?_))); (case side4 => exact (Kd.R_reads' HO600.out).2.1); rintro e w26 ⟨v610, rfl, ho0, hb⟩; refine ⟨_, rfl, ?_⟩; have n0_ := A_ (Kd.R_below (nR_ HO600) hb); have n1_ := A_ (Kd.R_below (nR_ HO605) hb); have n2_ := A_ (Kd.R_below (nR_ HO607) hb); have n3_ := A_ (Kd.R_lower (Kd.R_mono (ok' := fun _ => True) ho0 (fun _ _ => trivial)) (below_size hb_)); have n4_ := A_ (below_step hb_ hb); clear HO600 HO605 HO607 HB; have HO600 := n0_; have HO605 := n1_; have HO607 := n2_; have HO611 := n3_; have HB := n4_; clear n0_ n1_ n2_ n3_ n4_; (try clear hb); (try clear ho0); obtain ⟨Ao27, co27, eo27⟩ := Kd.R_slice HO611.out; subst eo27) | ((with_reducible refine gate_callee (f := 22) rfl ?_); refine goesM_ (some 53) Try.func22 #[.int .u8 a0, .slice Ao23 t598.length co23, .slice Ao25 t602.length co25, .int .i64 1] ?_; (with_reducible refine (cr5_Partial.calls k a0 _ _ t598 _ _ t602 1 t612 t613 t614 t615 _ ?side1 ?side2 ?side3 ?side4 A16.out).mono ?_); (case side1 => repeat (first | exact (Kd.R_reads' HO600.out).2.2 | (with_reducible refine Kd.C_alloc ?_ _) | (with_reducible refine Kd.C_drewN ?_ _) | (with_reducible refine Kd.C_drew ?_))); (case side2 => exact (Kd.R_reads' HO600.out).2.1); (case side3 => repeat (first | exact (Kd.R_reads' HO607.out).2.2 | (with_reducible refine Kd.C_alloc ?_ _) | (with_reducible refine Kd.C_drewN ?_ _) | (with_reducible refine Kd.C_drew ?_))); (case side4 => exact (Kd.R_reads' HO607.out).2.1); rintro e w28 ⟨v616, v618, v620, rfl, ho0, ho1, ho2, hb⟩; refine ⟨_, rfl, ?_⟩; have n0_ := A_ (Kd.R_below (nR_ HO600) hb); have n1_ := A_ (Kd.R_below (nR_ HO605) hb); have n2_ := A_ (Kd.R_below (nR_ HO607) hb); have n3_ := A_ (Kd.R_below (nR_ HO611) hb); have n4_ := A_ (Kd.R_lower (Kd.R_mono (ok' := fun _ => True) ho0 (fun _ _ => trivial)) (below_size hb_)); have n5_ := A_ (Kd.R_lower (Kd.R_mono (ok' := fun _ => True) ho1 (fun _ _ => trivial)) (below_size hb_)); have n6_ := A_ (Kd.R_lower (Kd.R_mono (ok' := fun _ => True) ho2 (fun _ _ => trivial)) (below_size hb_)); have n7_ := A_ (below_step hb_ hb); clear HO600 HO605 HO607 HO611 HB; have HO600 := n0_; have HO605 := n1_; have HO607 := n2_; have HO611 := n3_; have HO617 := n4_; have HO619 := n5_; have HO621 := n6_; have HB := n7_; clear n0_ n1_ n2_ n3_ n4_ n5_ n6_ n7_; (try clear hb); (try clear ho0); (try clear ho1); (try clear ho2)))
      have n0_ := A_ (Kd.R_drew HO600.out)
      have n1_ := A_ (Kd.R_drew HO605.out)
      have n2_ := A_ (Kd.R_drew HO607.out)
      have n3_ := A_ (Kd.R_drew HO611.out)
      have n4_ := A_ (Kd.R_drew HO617.out)
      have n5_ := A_ (Kd.R_drew HO619.out)
      have n6_ := A_ (Kd.R_drew HO621.out)
      have n7_ := A_ (below_drew1 HB.out)
      clear HO600
      clear HO605
      clear HO607
      clear HO611
      clear HO617
      clear HO619
      clear HO621
      clear HB
      have HO600 := n0_
      have HO605 := n1_
      have HO607 := n2_
      have HO611 := n3_
      have HO617 := n4_
      have HO619 := n5_
      have HO621 := n6_
      have HB := n7_
      clear n0_ n1_ n2_ n3_ n4_ n5_ n6_ n7_
      obtain ⟨Ao30, co30, eo30⟩ := Kd.R_slice HO617.out
      (first | subst eo30 | (injection eo30 with f1_ f2_ f3_; have f4_ := f1_.symm; have f5_ := f3_.symm; clear f1_ f2_ f3_; subst f4_; subst f5_))
      have p623 : 0 ≤ (0 : Int) := (by omega)
      have q623 : 0 < (t612.length : Int) := of_decide_eq_true (by first | (with_reducible assumption) | assumption)
      obtain ⟨ad623, e623, hx623_0⟩ := Kd.at_int (Kd.R_reads' HO617.out).2.2 0 p623 q623
      cases e623
      have qi623 : (0 < t612.length) = True := eq_true (by omega)
      (try rw [show ((0 : Int)).toNat = 0 from rfl] at hx623_0)
      (try rw [Addr.add_zero'] at hx623_0)
      replace p623 := eq_true p623
      replace q623 := eq_true q623
      refine start_ (n := 13) (S := fun w' => w'.cell? ad623 = some (.int .u64 (rd t612 0))) (ds := []) #[false, false, false, false, false, false, false, false, false, false, false, false, false] (by kernel_rfl) rfl rfl (hx623_0) (fun hHeld => ?_); refine with_tabW cr5_Modulo.tab14 cr5_Modulo.bits14 (fun HT_ HW_ => ?_)
      generalize w28.drew = w29 at HO600 HO605 HO607 HO611 HO617 HO619 HO621 HB hx623_0 hHeld ⊢
      refine pure_ (i := 0) (N := some 59) (v := ?_) (a' := ?_) #[true, false, false, false, false, false, false, false, false, false, false, false, false] rfl rfl (any_of HT_.out (by kernel_rfl)) (fun _ _ _ h => h) (Or.inl ⟨by rfl, ?_⟩) ?_ ?_
      rotate_left
      ·intro w'
       go_simp
       with_reducible rfl
      rotate_left
      ·simp only [Act.put, List.setIfInBounds_toArray, List.set_cons_zero, List.set_cons_succ, i64_w, i32_w]
       rfl
      refine pure_ (i := 1) (N := some 60) (v := ?_) (a' := ?_) #[true, true, false, false, false, false, false, false, false, false, false, false, false] rfl rfl (any_of HT_.out (by kernel_rfl)) (fun _ _ _ h => h) (Or.inl ⟨by rfl, ?_⟩) ?_ ?_
      rotate_left
      ·intro w'
       go_simp
       with_reducible rfl
      rotate_left
      ·simp only [Act.put, List.setIfInBounds_toArray, List.set_cons_zero, List.set_cons_succ, i64_w, i32_w]
       rfl
      refine pure_ (i := 3) (N := some 62) (v := ?_) (a' := ?_) #[true, true, false, true, false, false, false, false, false, false, false, false, false] rfl rfl (any_of HT_.out (by kernel_rfl)) (fun _ _ _ h => h) (Or.inl ⟨by rfl, ?_⟩) ?_ ?_
      rotate_left
      ·intro w'
       go_simp
       with_reducible rfl
      rotate_left
      ·simp only [Act.put, List.setIfInBounds_toArray, List.set_cons_zero, List.set_cons_succ, i64_w, i32_w]
       rfl
      refine pure_ (i := 4) (N := some 63) (v := ?_) (a' := ?_) #[true, true, false, true, true, false, false, false, false, false, false, false, false] rfl rfl (any_of HT_.out (by kernel_rfl)) (fun _ _ _ h => h) (Or.inl ⟨by rfl, ?_⟩) ?_ ?_
      rotate_left
      ·intro w'
       go_simp
       with_reducible rfl
      rotate_left
      ·simp only [Act.put, List.setIfInBounds_toArray, List.set_cons_zero, List.set_cons_succ, i64_w, i32_w]
       rfl
      refine pure_ (i := 7) (N := some 66) (v := ?_) (a' := ?_) #[true, true, false, true, true, false, false, true, false, false, false, false, false] rfl rfl (any_of HT_.out (by kernel_rfl)) (fun _ _ _ h => h) (Or.inl ⟨by rfl, ?_⟩) ?_ ?_
      rotate_left
      ·intro w'
       go_simp
       with_reducible rfl
      rotate_left
      ·simp only [Act.put, List.setIfInBounds_toArray, List.set_cons_zero, List.set_cons_succ, i64_w, i32_w]
       rfl
      refine take_ (i := 5) (N := some 64) (v := ?_) (a' := ?_) #[true, true, false, true, true, true, false, true, false, false, false, false, false] rfl rfl (take_ofW HT_.out HW_.out (by kernel_rfl)) (fun _ _ _ h => h) (Or.inl ⟨by rfl, ?_⟩) hHeld ?_ ?_
      rotate_left
      ·intro w' s0
       go_simp
       with_reducible rfl
      rotate_left
      ·simp only [Act.put, List.setIfInBounds_toArray, List.set_cons_zero, List.set_cons_succ, i64_w, i32_w]
       rfl
      refine one_ (i := 2) (N := some 61) #[true, true, true, true, true, true, false, true, false, false, false, false, false] rfl rfl (one_of HT_.out (by kernel_rfl)) (by decide) (fun K hK => ?_)
      refine goes_ Try.func39 (by kernel_rfl) rfl #[.int .u8 a0] (by rfl) rfl rfl (by (try simp only [List.map_toArray, List.map_cons, List.map_nil]); first | done | rfl | (simp only [List.length_drop, List.length_take]; rfl)) ?_
      with_reducible refine (cr1_P.calls a0 t622 _ A17.out).mono ?_
      rintro e w' ⟨rfl, ⟨nd, rfl⟩⟩
      refine ⟨_, rfl, ?_⟩
      refine hK.out _ _ (hHeld) (fun hHeld => ?_)
      clear hK K
      refine norm_ (a' := ?_) ?_ ?_
      rotate_left
      ·show Act.put _ (some 61) _ = _
       simp only [Act.put, List.setIfInBounds_toArray, List.set_cons_zero, List.set_cons_succ, i64_w, i32_w]
       rfl
      refine one_ (i := 6) (N := some 65) #[true, true, true, true, true, true, true, true, false, false, false, false, false] rfl rfl (one_of HT_.out (by kernel_rfl)) (by decide) (fun K hK => ?_)
      refine goes_ Try.func38 (by kernel_rfl) rfl #[.int .u64 t622, .int .u64 (rd t612 0)] (by rfl) rfl rfl (by (try simp only [List.map_toArray, List.map_cons, List.map_nil]); first | done | rfl | (simp only [List.length_drop, List.length_take]; rfl)) ?_
      with_reducible refine (cr1_Turned.calls k t622 (rd t612 0) t624 _ A19.out).mono ?_
      rintro e w' ⟨rfl, ⟨nd, rfl⟩⟩
      refine ⟨_, rfl, ?_⟩
      obtain ⟨Ao31, co31, eo31⟩ := Kd.R_slice HO621.out
      (first | subst eo31 | (injection eo31 with f1_ f2_ f3_; have f4_ := f1_.symm; have f5_ := f3_.symm; clear f1_ f2_ f3_; subst f4_; subst f5_))
      refine hK.out _ _ (hHeld) (fun hHeld => ?_)
      clear hK K
      refine norm_ (a' := ?_) ?_ ?_
      rotate_left
      ·show Act.put _ (some 65) _ = _
       simp only [Act.put, List.setIfInBounds_toArray, List.set_cons_zero, List.set_cons_succ, i64_w, i32_w]
       rfl
      refine one_ (i := 8) (N := some 67) #[true, true, true, true, true, true, true, true, true, false, false, false, false] rfl rfl (one_of HT_.out (by kernel_rfl)) (by decide) (fun K hK => ?_)
      refine goes_ Try.func37 (by kernel_rfl) rfl #[.int .u8 a0, .int .u64 t624, .slice Ao31 t614.length co31] (by rfl) rfl rfl (by (try simp only [List.map_toArray, List.map_cons, List.map_nil]); first | done | rfl | (simp only [List.length_drop, List.length_take]; rfl)) ?_
      with_reducible refine (cr3_Scale.calls k a0 t624 _ _ t614 t625 t626 _ ?side1 ?side2 A20.out).mono ?_
      (case side1 => repeat (first | exact (Kd.R_reads' HO621.out).2.2 | (with_reducible refine Kd.C_alloc ?_ _) | (with_reducible refine Kd.C_drewN ?_ _) | (with_reducible refine Kd.C_drew ?_)))
      (case side2 => exact (Kd.R_reads' HO621.out).2.1)
      rintro e w32 ⟨v627, rfl, ho0, hb⟩
      have HS0_ := (hb.cell (World.block_lt_of_cell? _ _ (hHeld))).trans (hHeld)
      refine ⟨_, rfl, ?_⟩
      have n0_ := A_ (Kd.R_below (nR_ HO600) hb)
      have n1_ := A_ (Kd.R_below (nR_ HO605) hb)
      have n2_ := A_ (Kd.R_below (nR_ HO607) hb)
      have n3_ := A_ (Kd.R_below (nR_ HO611) hb)
      have n4_ := A_ (Kd.R_below (nR_ HO617) hb)
      have n5_ := A_ (Kd.R_below (nR_ HO619) hb)
      have n6_ := A_ (Kd.R_below (nR_ HO621) hb)
      have n7_ := A_ (Kd.R_lower (Kd.R_mono (ok' := fun _ => True) ho0 (fun _ _ => trivial)) (below_size hb_))
      have n8_ := A_ (below_step hb_ hb)
      clear HO600
      clear HO605
      clear HO607
      clear HO611
      clear HO617
      clear HO619
      clear HO621
      clear HB
      have HO600 := n0_
      have HO605 := n1_
      have HO607 := n2_
      have HO611 := n3_
      have HO617 := n4_
      have HO619 := n5_
      have HO621 := n6_
      have HO628 := n7_
      have HB := n8_
      clear n0_ n1_ n2_ n3_ n4_ n5_ n6_ n7_ n8_
      (try clear hb)
      (try clear hb2)
      (try clear hk)
      (try clear hi)
      (try clear ho0)
      refine hK.out _ _ (HS0_) (fun hHeld => ?_)
      clear hK K
      refine norm_ (a' := ?_) ?_ ?_
      rotate_left
      ·show Act.put _ (some 67) _ = _
       simp only [Act.put, List.setIfInBounds_toArray, List.set_cons_zero, List.set_cons_succ, i64_w, i32_w]
       rfl
      refine pure_ (i := 9) (N := some 58) (v := ?_) (a' := ?_) #[true, true, true, true, true, true, true, true, true, true, false, false, false] rfl rfl (any_of HT_.out (by kernel_rfl)) (fun _ _ _ h => h) (Or.inl ⟨by rfl, ?_⟩) ?_ ?_
      rotate_left
      ·intro w'
       go_simp
       with_reducible rfl
      rotate_left
      ·simp only [Act.put, List.setIfInBounds_toArray, List.set_cons_zero, List.set_cons_succ, i64_w, i32_w]
       rfl
      refine pure_ (i := 10) (N := some 68) (v := ?_) (a' := ?_) #[true, true, true, true, true, true, true, true, true, true, true, false, false] rfl rfl (any_of HT_.out (by kernel_rfl)) (fun _ _ _ h => h) (Or.inl ⟨by rfl, ?_⟩) ?_ ?_
      rotate_left
      ·intro w'
       go_simp
       with_reducible rfl
      rotate_left
      ·simp only [Act.put, List.setIfInBounds_toArray, List.set_cons_zero, List.set_cons_succ, i64_w, i32_w]
       rfl
      refine pure_ (i := 11) (N := some 69) (v := ?_) (a' := ?_) #[true, true, true, true, true, true, true, true, true, true, true, true, false] rfl rfl (any_of HT_.out (by kernel_rfl)) (fun _ _ _ h => h) (Or.inl ⟨by rfl, ?_⟩) ?_ ?_
      rotate_left
      ·intro w'
       go_simp
       with_reducible rfl
      rotate_left
      ·simp only [Act.put, List.setIfInBounds_toArray, List.set_cons_zero, List.set_cons_succ, i64_w, i32_w]
       rfl
      refine pure_ (i := 12) (N := some 14) (v := ?_) (a' := ?_) #[true, true, true, true, true, true, true, true, true, true, true, true, true] rfl rfl (any_of HT_.out (by kernel_rfl)) (fun _ _ _ h => h) (Or.inl ⟨by rfl, ?_⟩) ?_ ?_
      rotate_left
      ·intro w'
       go_simp
       with_reducible rfl
      rotate_left
      ·simp only [Act.put, List.setIfInBounds_toArray, List.set_cons_zero, List.set_cons_succ, i64_w, i32_w]
       rfl
      refine done_ (done_of HT_.out (by kernel_rfl)) ?_
      obtain ⟨Ao33, co33, eo33⟩ := Kd.R_slice HO628.out
      subst eo33
      try go_wp2_with (first | ((with_reducible refine gate_callee (f := 19) rfl ?_); refine goesM_ (some 74) Try.func19 #[.int .u8 a0, .slice Ao33 t625.length co33, .slice Ao23 t598.length co23] ?_; (with_reducible refine (cr3_DivMod.calls k a0 _ _ t625 _ _ t598 t629 t630 t631 _ ?side1 ?side2 ?side3 ?side4 A21.out).mono ?_); (case side1 => repeat (first | exact (Kd.R_reads' HO628.out).2.2 | (with_reducible refine Kd.C_alloc ?_ _) | (with_reducible refine Kd.C_drewN ?_ _) | (with_reducible refine Kd.C_drew ?_))); (case side2 => exact (Kd.R_reads' HO628.out).2.1); (case side3 => repeat (first | exact (Kd.R_reads' HO600.out).2.2 | (with_reducible refine Kd.C_alloc ?_ _) | (with_reducible refine Kd.C_drewN ?_ _) | (with_reducible refine Kd.C_drew ?_))); (case side4 => exact (Kd.R_reads' HO600.out).2.1); rintro e w34 ⟨v632, v634, rfl, ho0, ho1, hb⟩; refine ⟨_, rfl, ?_⟩; have n0_ := A_ (Kd.R_below (nR_ HO600) hb); have n1_ := A_ (Kd.R_below (nR_ HO605) hb); have n2_ := A_ (Kd.R_below (nR_ HO607) hb); have n3_ := A_ (Kd.R_below (nR_ HO611) hb); have n4_ := A_ (Kd.R_below (nR_ HO617) hb); have n5_ := A_ (Kd.R_below (nR_ HO619) hb); have n6_ := A_ (Kd.R_below (nR_ HO621) hb); have n7_ := A_ (Kd.R_below (nR_ HO628) hb); have n8_ := A_ (Kd.R_lower (Kd.R_mono (ok' := fun _ => True) ho0 (fun _ _ => trivial)) (below_size hb_)); have n9_ := A_ (Kd.R_lower (Kd.R_mono (ok' := fun _ => True) ho1 (fun _ _ => trivial)) (below_size hb_)); have n10_ := A_ (below_step hb_ hb); clear HO600 HO605 HO607 HO611 HO617 HO619 HO621 HO628 HB; have HO600 := n0_; have HO605 := n1_; have HO607 := n2_; have HO611 := n3_; have HO617 := n4_; have HO619 := n5_; have HO621 := n6_; have HO628 := n7_; have HO633 := n8_; have HO635 := n9_; have HB := n10_; clear n0_ n1_ n2_ n3_ n4_ n5_ n6_ n7_ n8_ n9_ n10_; (try clear hb); (try clear ho0); (try clear ho1)))
      go_ret3
      exact ⟨_, fr_, nR_ HO635, hb_⟩
     ·rw [if_neg c18] at H
      exact absurd H (by simp)
    ·rw [if_neg c15] at H
     have c15b0 : ((t608.length : Int) == 1) = false := beq_eq_false_iff_ne.mpr c15
     have c15b1 : ((t608.length : Int) != 1) = true := bne_iff_ne.mpr c15
     simp only [Option.some.injEq, Prod.mk.injEq] at H
     obtain ⟨rfl, rfl, rfl⟩ := H
     go_enter Try.func13, Try.ntmps13
     go_wp2_with (first | ((with_reducible refine gate_callee (f := 31) rfl ?_); refine goesM_ (some 19) Try.func31 #[.int .u8 a0, .slice A1 l1.length c1, .slice A2 l2.length c2] ?_; (with_reducible refine (cr5_bad.calls k a0 _ _ l1 _ _ l2 t597 _ ?side1 ?side2 ?side3 ?side4 A4.out).mono ?_); (case side1 => exact nC_ HR1.out); (case side2 => exact HC1.out); (case side3 => exact nC_ HR2.out); (case side4 => exact HC2.out); rintro e w' ⟨rfl, ⟨nd, rfl⟩⟩; refine ⟨_, rfl, ?_⟩) | ((with_reducible refine gate_callee (f := 20) rfl ?_); refine goesM_ (some 24) Try.func20 #[.slice A2 l2.length c2] ?_; (with_reducible refine (cr3_Trim.calls k _ _ l2 t598 _ ?side1 ?side2 A6.out).mono ?_); (case side1 => exact nC_ HR2.out); (case side2 => exact HC2.out); rintro e w35 ⟨v599, rfl, ho0, hb⟩; refine ⟨_, rfl, ?_⟩; have n0_ := A_ (Kd.R_lower (Kd.R_mono (ok' := fun _ => True) ho0 (fun _ _ => trivial)) (below_size hb_)); have n1_ := A_ (below_step hb_ hb); clear HB; have HO600 := n0_; have HB := n1_; clear n0_ n1_; (try clear hb); (try clear ho0); obtain ⟨Ao36, co36, eo36⟩ := Kd.R_slice HO600.out; subst eo36) | ((with_reducible refine gate_callee (f := 19) rfl ?_); refine goesM_ (some 35) Try.func19 #[.int .u8 a0, .slice A1 l1.length c1, .slice Ao36 t598.length co36] ?_; (with_reducible refine (cr3_DivMod.calls k a0 _ _ l1 _ _ t598 t601 t602 t603 _ ?side1 ?side2 ?side3 ?side4 A13.out).mono ?_); (case side1 => repeat (first | exact (Kd.C_below HR1.out HB.out) | (with_reducible refine Kd.C_alloc ?_ _) | (with_reducible refine Kd.C_drewN ?_ _) | (with_reducible refine Kd.C_drew ?_))); (case side2 => exact HC1.out); (case side3 => repeat (first | exact (Kd.R_reads' HO600.out).2.2 | (with_reducible refine Kd.C_alloc ?_ _) | (with_reducible refine Kd.C_drewN ?_ _) | (with_reducible refine Kd.C_drew ?_))); (case side4 => exact (Kd.R_reads' HO600.out).2.1); rintro e w37 ⟨v604, v606, rfl, ho0, ho1, hb⟩; refine ⟨_, rfl, ?_⟩; have n0_ := A_ (Kd.R_below (nR_ HO600) hb); have n1_ := A_ (Kd.R_lower (Kd.R_mono (ok' := fun _ => True) ho0 (fun _ _ => trivial)) (below_size hb_)); have n2_ := A_ (Kd.R_lower (Kd.R_mono (ok' := fun _ => True) ho1 (fun _ _ => trivial)) (below_size hb_)); have n3_ := A_ (below_step hb_ hb); clear HO600 HB; have HO600 := n0_; have HO605 := n1_; have HO607 := n2_; have HB := n3_; clear n0_ n1_ n2_ n3_; (try clear hb); (try clear ho0); (try clear ho1); obtain ⟨Ao38, co38, eo38⟩ := Kd.R_slice HO607.out; subst eo38) | ((with_reducible refine gate_callee (f := 11) rfl ?_); refine goesM_ (some 43) Try.func11 #[.int .u8 a0, .slice Ao38 t602.length co38, .slice Ao36 t598.length co36] ?_; (with_reducible refine (cr5_GCD.calls k a0 _ _ t602 _ _ t598 t608 t609 _ ?side1 ?side2 ?side3 ?side4 A14.out).mono ?_); (case side1 => repeat (first | exact (Kd.R_reads' HO607.out).2.2 | (with_reducible refine Kd.C_alloc ?_ _) | (with_reducible refine Kd.C_drewN ?_ _) | (with_reducible refine Kd.C_drew ?_))); (case side2 => exact (Kd.R_reads' HO607.out).2.1); (case side3 => repeat (first | exact (Kd.R_reads' HO600.out).2.2 | (with_reducible refine Kd.C_alloc ?_ _) | (with_reducible refine Kd.C_drewN ?_ _) | (with_reducible refine Kd.C_drew ?_))); (case side4 => exact (Kd.R_reads' HO600.out).2.1); rintro e w39 ⟨v610, rfl, ho0, hb⟩; refine ⟨_, rfl, ?_⟩; have n0_ := A_ (Kd.R_below (nR_ HO600) hb); have n1_ := A_ (Kd.R_below (nR_ HO605) hb); have n2_ := A_ (Kd.R_below (nR_ HO607) hb); have n3_ := A_ (Kd.R_lower (Kd.R_mono (ok' := fun _ => True) ho0 (fun _ _ => trivial)) (below_size hb_)); have n4_ := A_ (below_step hb_ hb); clear HO600 HO605 HO607 HB; have HO600 := n0_; have HO605 := n1_; have HO607 := n2_; have HO611 := n3_; have HB := n4_; clear n0_ n1_ n2_ n3_ n4_; (try clear hb); (try clear ho0); obtain ⟨Ao40, co40, eo40⟩ := Kd.R_slice HO611.out; subst eo40))
     go_ret3
     exact ⟨_, fr_, by first | exact Kd.R_nil _ _ _ _ _ | exact Kd.N_nil _ _ _ _ _ | exact Kd.V_nil _ _ _ _ _ | exact Kd.Q_nil _ _ _ _ _ | exact Kd.S_nil _ _ _ _ _, hb_⟩
 ·rw [if_neg c5] at H
  have c5b0 : (t597 == 0) = false := beq_eq_false_iff_ne.mpr c5
  have c5b1 : (t597 != 0) = true := bne_iff_ne.mpr c5
  simp only [Option.some.injEq, Prod.mk.injEq] at H
  obtain ⟨rfl, rfl, rfl⟩ := H
  go_enter Try.func13, Try.ntmps13
  go_wp2_with (first | ((with_reducible refine gate_callee (f := 31) rfl ?_); refine goesM_ (some 19) Try.func31 #[.int .u8 a0, .slice A1 l1.length c1, .slice A2 l2.length c2] ?_; (with_reducible refine (cr5_bad.calls k a0 _ _ l1 _ _ l2 t597 _ ?side1 ?side2 ?side3 ?side4 A4.out).mono ?_); (case side1 => exact nC_ HR1.out); (case side2 => exact HC1.out); (case side3 => exact nC_ HR2.out); (case side4 => exact HC2.out); rintro e w' ⟨rfl, ⟨nd, rfl⟩⟩; refine ⟨_, rfl, ?_⟩))
  go_ret3
  exact ⟨_, fr_, by first | exact Kd.R_nil _ _ _ _ _ | exact Kd.N_nil _ _ _ _ _ | exact Kd.V_nil _ _ _ _ _ | exact Kd.Q_nil _ _ _ _ _ | exact Kd.S_nil _ _ _ _ _, hb_⟩
/-! ### cr1_Same: function 14 -/
def cr1_Same.l0 : Nat → List Int → List Int → Int → Option (Bool)
 | 0, _, _, _ => none
 | k + 1, x0, x1, x5 => if x5 < (x0.length : Int) then (if 0 ≤ x5 then (if x5 < (x1.length : Int) then (if (rd x0 x5) = (rd x1 x5) then (cr1_Same.l0 k x0 x1 (wrap64 (x5 + 1))) else (some false)) else (none)) else (none)) else (some true)
def cr1_Same.f (k : Nat) (l0 : List Int) (l1 : List Int) : Option (Bool) := if (l0.length : Int) = (l1.length : Int) then (cr1_Same.l0 k l0 l1 0) else (some false)
theorem cr1_Same.mono_l : ∀ k, (∀ y0 y1 y2, LeO (cr1_Same.l0 k y0 y1 y2) (cr1_Same.l0 (k + 1) y0 y1 y2))
 | 0 => fun _ _ _ r h => by simp [cr1_Same.l0] at h
 | k + 1 => by
  have ih0 := cr1_Same.mono_l k
  ·intro y0 y1 y2
   unfold cr1_Same.l0
   repeat' first
   | (with_reducible exact ih0 _ _ _)
   | (with_reducible exact LeO.refl _)
   | (with_reducible exact LeO.none _)
   | (with_reducible refine LeO.ite ?_ ?_)
   | (with_reducible refine LeO.bind ?_ (fun _ => ?_))
   | exact ih0 _ _ _
   | exact LeO.none _
   | refine LeO.ite ?_ ?_
   | refine LeO.bind ?_ (fun _ => ?_)
theorem cr1_Same.mono : ∀ a0 a1 k, LeO (cr1_Same.f k a0 a1) (cr1_Same.f (k + 1) a0 a1) := by
 intro a0 a1 k
 have ih0 := cr1_Same.mono_l k
 unfold cr1_Same.f
 repeat' first
   | (with_reducible exact ih0 _ _ _)
   | (with_reducible exact LeO.refl _)
   | (with_reducible exact LeO.none _)
   | (with_reducible refine LeO.ite ?_ ?_)
   | (with_reducible refine LeO.bind ?_ (fun _ => ?_))
   | exact ih0 _ _ _
   | exact LeO.none _
   | refine LeO.ite ?_ ?_
   | refine LeO.bind ?_ (fun _ => ?_)
set_option maxHeartbeats 8000000 in
set_option maxRecDepth 100000 in
theorem cr1_Same.calls (k : Nat) (A0 : Option Addr) (c0 : Nat) (l0 : List Int) (A1 : Option Addr) (c1 : Nat) (l1 : List Int) (r : Bool) (w : World) (hr0 : Kd.C (Kd.int .u64) w A0 l0.length l0) (hc0 : l0.length ≤ c0) (hr1 : Kd.C (Kd.int .u64) w A1 l1.length l1) (hc1 : l1.length ≤ c1) (h : cr1_Same.f k l0 l1 = some r) :
  Calls Try.prog 14 #[.slice A0 l0.length c0, .slice A1 l1.length c1] w fun e w' => e = .returned (.bool r) ∧ Drawn0 w w' := by
 have HR0 := Aside0.mk hr0
 have HC0 := Aside0.mk hc0
 clear hr0 hc0
 have HR1 := Aside0.mk hr1
 have HC1 := Aside0.mk hc1
 clear hr1 hc1
 have H : (if (l0.length : Int) = (l1.length : Int) then (cr1_Same.l0 k l0 l1 0) else (some false)) = some r := h
 clear h
 by_cases c3 : (l0.length : Int) = (l1.length : Int)
 ·rw [if_pos c3] at H
  have c3b0 : ((l0.length : Int) == (l1.length : Int)) = true := beq_iff_eq.mpr c3
  have c3b1 : ((l0.length : Int) != (l1.length : Int)) = false := bne_eq_false_iff_eq.mpr c3
  have c3b2 : (l0.length == l1.length) = true := by first | simpa using c3 | (simp at c3 ⊢; omega)
  clear c3
  have H' := Aside0.mk H
  clear H
  go_enter Try.func14, Try.ntmps14
  go_wp2
  repeat (go_quiet (fail); try go_wp2)
  go_loopg [5] k (fun kq v5 w' => ∃ (x5_1 : Int), v5 = .int .i64 x5_1 ∧ Aside0 (cr1_Same.l0 kq l0 l1 x5_1 = some r) ∧ Aside0 (kq ≤ k) ∧ Drawn0 w w')
  case atStart => exact ⟨(0), (fs_), H', ⟨Nat.le_refl _⟩, by repeat (first | exact Drawn0.refl _ | apply Drawn0.step)⟩
  case round =>
   clear H'
   try clear c1
   try clear p2
   try clear c3
   try clear c3b0
   try clear c3b1
   try clear c3b2
   obtain ⟨x5_1, rfl, HA, HK1, ⟨m1, rfl⟩⟩ := hrel
   cases gk with
   | zero => exact absurd HA.out (by simp [cr1_Same.l0])
   | succ k1 =>
    have H := HA.out
    clear HA
    simp only [cr1_Same.l0] at H
    by_cases c4 : x5_1 < (l0.length : Int)
    ·rw [if_pos c4] at H
     have c4b0 : decide (x5_1 < (l0.length : Int)) = true := decide_eq_true c4
     clear c4
     by_cases c5 : 0 ≤ x5_1
     ·rw [if_pos c5] at H
      have c5b0 : decide (0 ≤ x5_1) = true := decide_eq_true c5
      clear c5
      by_cases c6 : x5_1 < (l1.length : Int)
      ·rw [if_pos c6] at H
       have c6b0 : decide (x5_1 < (l1.length : Int)) = true := decide_eq_true c6
       clear c6
       by_cases c7 : (rd l0 x5_1) = (rd l1 x5_1)
       ·rw [if_pos c7] at H
        have c7b0 : ((rd l0 x5_1) == (rd l1 x5_1)) = true := beq_iff_eq.mpr c7
        have c7b1 : ((rd l0 x5_1) != (rd l1 x5_1)) = false := bne_eq_false_iff_eq.mpr c7
        clear c7
        have H' := Aside0.mk H
        clear H
        have p636 : 0 ≤ (x5_1 : Int) := of_decide_eq_true (by first | (with_reducible assumption) | assumption)
        have q636 : x5_1 < (l0.length : Int) := of_decide_eq_true (by first | (with_reducible assumption) | assumption)
        obtain ⟨ad636, e636, hx636_0⟩ := Kd.at_int HR0.out x5_1 p636 q636
        cases e636
        replace p636 := eq_true p636
        replace q636 := eq_true q636
        have p637 : 0 ≤ (x5_1 : Int) := of_decide_eq_true (by first | (with_reducible assumption) | assumption)
        have q637 : x5_1 < (l1.length : Int) := of_decide_eq_true (by first | (with_reducible assumption) | assumption)
        obtain ⟨ad637, e637, hx637_0⟩ := Kd.at_int HR1.out x5_1 p637 q637
        cases e637
        replace p637 := eq_true p637
        replace q637 := eq_true q637
        go_wp2
        repeat (go_quiet (fail); try go_wp2)
        go_roundg k1
        case measure => have := HK1.out; omega
        case rel => exact ⟨(wrap64 (x5_1 + 1)), (fs_), H', ⟨by have := HK1.out; omega⟩, by repeat (first | exact Drawn0.refl _ | apply Drawn0.step)⟩
       ·rw [if_neg c7] at H
        have c7b0 : ((rd l0 x5_1) == (rd l1 x5_1)) = false := beq_eq_false_iff_ne.mpr c7
        have c7b1 : ((rd l0 x5_1) != (rd l1 x5_1)) = true := bne_iff_ne.mpr c7
        obtain rfl := Option.some.inj H
        have p636 : 0 ≤ (x5_1 : Int) := of_decide_eq_true (by first | (with_reducible assumption) | assumption)
        have q636 : x5_1 < (l0.length : Int) := of_decide_eq_true (by first | (with_reducible assumption) | assumption)
        obtain ⟨ad636, e636, hx636_0⟩ := Kd.at_int HR0.out x5_1 p636 q636
        cases e636
        replace p636 := eq_true p636
        replace q636 := eq_true q636
        have p637 : 0 ≤ (x5_1 : Int) := of_decide_eq_true (by first | (with_reducible assumption) | assumption)
        have q637 : x5_1 < (l1.length : Int) := of_decide_eq_true (by first | (with_reducible assumption) | assumption)
        obtain ⟨ad637, e637, hx637_0⟩ := Kd.at_int HR1.out x5_1 p637 q637
        cases e637
        replace p637 := eq_true p637
        replace q637 := eq_true q637
        go_wp2
        repeat (go_quiet (fail); try go_wp2)
        go_ret
        exact ⟨fs_, by repeat (first | exact Drawn0.refl _ | apply Drawn0.step)⟩
      ·rw [if_neg c6] at H
       exact absurd H (by simp)
     ·rw [if_neg c5] at H
      exact absurd H (by simp)
    ·rw [if_neg c4] at H
     have c4b0 : decide (x5_1 < (l0.length : Int)) = false := decide_eq_false c4
     clear c4
     obtain rfl := Option.some.inj H
     go_wp2
     repeat (go_quiet (fail); try go_wp2)
     go_ret
     exact ⟨fs_, by repeat (first | exact Drawn0.refl _ | apply Drawn0.step)⟩
 ·rw [if_neg c3] at H
  have c3b0 : ((l0.length : Int) == (l1.length : Int)) = false := beq_eq_false_iff_ne.mpr c3
  have c3b1 : ((l0.length : Int) != (l1.length : Int)) = true := bne_iff_ne.mpr c3
  have c3b2 : (l0.length == l1.length) = false := by first | simpa using c3 | (simp at c3 ⊢; omega)
  obtain rfl := Option.some.inj H
  go_enter Try.func14, Try.ntmps14
  go_wp2
  repeat (go_quiet (fail); try go_wp2)
  go_ret
  exact ⟨fs_, by repeat (first | exact Drawn0.refl _ | apply Drawn0.step)⟩
/-! ### conclavelaw05_EuclidDivides: function 3 -/
def conclavelaw05_EuclidDivides.f (k : Nat) (a0 : Int) (l1 : List Int) (l2 : List Int) : Option (Bool) := (euclid_GCD.f k a0 l1 l2).bind fun bt638 => ((cr5_GCD.f k a0 l1 l2).bind fun bt642 => ((euclid_Modulo.f k a0 l1 l2).bind fun bt646 => ((cr5_Modulo.f k a0 l1 l2).bind fun bt651 => ((cr1_Same.f k bt638.1 bt642.1).bind fun t656 => (if t656 = true then (if bt638.2 = bt642.2 then ((cr1_Same.f k bt646.1 bt651.1).bind fun t657 => (if t657 = true then (if bt646.2.1 = true then (if bt651.2.1 = true then (some (bt646.2.2 == bt651.2.2)) else (none)) else (if bt651.2.1 = true then (none) else (some (bt646.2.2 == bt651.2.2)))) else (none))) else (none)) else (none))))))
theorem conclavelaw05_EuclidDivides.mono : ∀ a0 a1 a2 k, LeO (conclavelaw05_EuclidDivides.f k a0 a1 a2) (conclavelaw05_EuclidDivides.f (k + 1) a0 a1 a2) := by
 intro a0 a1 a2 k
 unfold conclavelaw05_EuclidDivides.f
 repeat' first
   | (with_reducible exact cr1_Same.mono _ _ _)
   | (with_reducible exact cr5_GCD.mono _ _ _ _)
   | (with_reducible exact cr5_Modulo.mono _ _ _ _)
   | (with_reducible exact euclid_GCD.mono _ _ _ _)
   | (with_reducible exact euclid_Modulo.mono _ _ _ _)
   | (with_reducible exact LeO.refl _)
   | (with_reducible exact LeO.none _)
   | (with_reducible refine LeO.ite ?_ ?_)
   | (with_reducible refine LeO.bind ?_ (fun _ => ?_))
   | exact cr1_Same.mono _ _ _
   | exact cr5_GCD.mono _ _ _ _
   | exact cr5_Modulo.mono _ _ _ _
   | exact euclid_GCD.mono _ _ _ _
   | exact euclid_Modulo.mono _ _ _ _
   | exact LeO.none _
   | refine LeO.ite ?_ ?_
   | refine LeO.bind ?_ (fun _ => ?_)
set_option maxHeartbeats 8000000 in
set_option maxRecDepth 100000 in
theorem conclavelaw05_EuclidDivides.calls (k : Nat) (a0 : Int) (A1 : Option Addr) (c1 : Nat) (l1 : List Int) (A2 : Option Addr) (c2 : Nat) (l2 : List Int) (r : Bool) (w : World) (hr1 : Kd.C (Kd.int .u64) w A1 l1.length l1) (hc1 : l1.length ≤ c1) (hr2 : Kd.C (Kd.int .u64) w A2 l2.length l2) (hc2 : l2.length ≤ c2) (h : conclavelaw05_EuclidDivides.f k a0 l1 l2 = some r) :
  Calls Try.prog 3 #[.int .u8 a0, .slice A1 l1.length c1, .slice A2 l2.length c2] w fun e w' => e = .returned (.bool r) ∧ Below w.heap.size w w' := by
 have HR1 := Aside0.mk hr1
 have HC1 := Aside0.mk hc1
 clear hr1 hc1
 have HR2 := Aside0.mk hr2
 have HC2 := Aside0.mk hc2
 clear hr2 hc2
 have HB := A_ (Below.refl w.heap.size w)
 have H : ((euclid_GCD.f k a0 l1 l2).bind fun bt638 => ((cr5_GCD.f k a0 l1 l2).bind fun bt642 => ((euclid_Modulo.f k a0 l1 l2).bind fun bt646 => ((cr5_Modulo.f k a0 l1 l2).bind fun bt651 => ((cr1_Same.f k bt638.1 bt642.1).bind fun t656 => (if t656 = true then (if bt638.2 = bt642.2 then ((cr1_Same.f k bt646.1 bt651.1).bind fun t657 => (if t657 = true then (if bt646.2.1 = true then (if bt651.2.1 = true then (some (bt646.2.2 == bt651.2.2)) else (none)) else (if bt651.2.1 = true then (none) else (some (bt646.2.2 == bt651.2.2)))) else (none))) else (none)) else (none))))))) = some r := h
 clear h
 replace H := Option.bind_eq_some_iff.mp H
 obtain ⟨⟨t638, t641⟩, A40, H⟩ := H
 (try dsimp only at H)
 have A4 := Aside0.mk A40
 clear A40
 replace H := Option.bind_eq_some_iff.mp H
 obtain ⟨⟨t642, t643⟩, A50, H⟩ := H
 (try dsimp only at H)
 have A5 := Aside0.mk A50
 clear A50
 replace H := Option.bind_eq_some_iff.mp H
 obtain ⟨⟨t646, t649, t650⟩, A60, H⟩ := H
 (try dsimp only at H)
 have A6 := Aside0.mk A60
 clear A60
 replace H := Option.bind_eq_some_iff.mp H
 obtain ⟨⟨t651, t652, t653⟩, A70, H⟩ := H
 (try dsimp only at H)
 have A7 := Aside0.mk A70
 clear A70
 replace H := Option.bind_eq_some_iff.mp H
 obtain ⟨t656, A80, H⟩ := H
 replace H : (if t656 = true then (if t641 = t643 then ((cr1_Same.f k t646 t651).bind fun t657 => (if t657 = true then (if t649 = true then (if t652 = true then (some (t650 == t653)) else (none)) else (if t652 = true then (none) else (some (t650 == t653)))) else (none))) else (none)) else (none)) = some r := H
 have A8 := Aside0.mk A80
 clear A80
 by_cases c9 : t656 = true
 ·subst c9
  have H1 : (if t641 = t643 then ((cr1_Same.f k t646 t651).bind fun t657 => (if t657 = true then (if t649 = true then (if t652 = true then (some (t650 == t653)) else (none)) else (if t652 = true then (none) else (some (t650 == t653)))) else (none))) else (none)) = some r := by rw [if_pos rfl] at H; exact H
  clear H
  have H := H1
  clear H1
  by_cases c10 : t641 = t643
  ·rw [if_pos c10] at H
   have c10b0 : (t641 == t643) = true := beq_iff_eq.mpr c10
   have c10b1 : (t641 != t643) = false := bne_eq_false_iff_eq.mpr c10
   clear c10
   replace H := Option.bind_eq_some_iff.mp H
   obtain ⟨t657, A110, H⟩ := H
   replace H : (if t657 = true then (if t649 = true then (if t652 = true then (some (t650 == t653)) else (none)) else (if t652 = true then (none) else (some (t650 == t653)))) else (none)) = some r := H
   have A11 := Aside0.mk A110
   clear A110
   by_cases c12 : t657 = true
   ·subst c12
    have H1 : (if t649 = true then (if t652 = true then (some (t650 == t653)) else (none)) else (if t652 = true then (none) else (some (t650 == t653)))) = some r := by rw [if_pos rfl] at H; exact H
    clear H
    have H := H1
    clear H1
    by_cases c13 : t649 = true
    ·subst c13
     have H1 : (if t652 = true then (some (t650 == t653)) else (none)) = some r := by rw [if_pos rfl] at H; exact H
     clear H
     have H := H1
     clear H1
     by_cases c14 : t652 = true
     ·subst c14
      have H1 : (some (t650 == t653)) = some r := by rw [if_pos rfl] at H; exact H
      clear H
      have H := H1
      clear H1
      obtain rfl := Option.some.inj H
      go_enter Try.func3, Try.ntmps3
      go_wp2_with (first | ((with_reducible refine gate_callee (f := 10) rfl ?_); refine goesM_ (some 23) Try.func10 #[.int .u8 a0, .slice A1 l1.length c1, .slice A2 l2.length c2] ?_; (with_reducible refine (euclid_GCD.calls k a0 (fun k_ => k_ < w.heap.size) _ _ l1 (fun k_ => k_ < w.heap.size) _ _ l2 t638 t641 _ ?side1 ?side2 A4.out).mono ?_); (case side1 => exact Kd.V_mk HC1.out (Kd.F_below (Kd.C_F (Kd.heap_int .u64) HR1.out) hb_)); (case side2 => exact Kd.V_mk HC2.out (Kd.F_below (Kd.C_F (Kd.heap_int .u64) HR2.out) hb_)); rintro e w15 ⟨v639, rfl, ho0, hb⟩; refine ⟨_, rfl, ?_⟩; have n0_ := A_ (Kd.R_lower (Kd.R_mono (ok' := fun k_ => True) ho0 (fun _ hk_ => trivial)) (below_size hb_)); have n1_ := A_ (below_step hb_ hb); clear HB; have HO640 := n0_; have HB := n1_; clear n0_ n1_; (try clear hb); (try clear ho0)) | ((with_reducible refine gate_callee (f := 11) rfl ?_); refine goesM_ (some 30) Try.func11 #[.int .u8 a0, .slice A1 l1.length c1, .slice A2 l2.length c2] ?_; (with_reducible refine (cr5_GCD.calls k a0 _ _ l1 _ _ l2 t642 t643 _ ?side1 ?side2 ?side3 ?side4 A5.out).mono ?_); (case side1 => repeat (first | exact (Kd.C_below HR1.out HB.out) | (with_reducible refine Kd.C_alloc ?_ _) | (with_reducible refine Kd.C_drewN ?_ _) | (with_reducible refine Kd.C_drew ?_))); (case side2 => exact HC1.out); (case side3 => repeat (first | exact (Kd.C_below HR2.out HB.out) | (with_reducible refine Kd.C_alloc ?_ _) | (with_reducible refine Kd.C_drewN ?_ _) | (with_reducible refine Kd.C_drew ?_))); (case side4 => exact HC2.out); rintro e w16 ⟨v644, rfl, ho0, hb⟩; refine ⟨_, rfl, ?_⟩; have n0_ := A_ (Kd.R_below (nR_ HO640) hb); have n1_ := A_ (Kd.R_lower (Kd.R_mono (ok' := fun _ => True) ho0 (fun _ _ => trivial)) (below_size hb_)); have n2_ := A_ (below_step hb_ hb); clear HO640 HB; have HO640 := n0_; have HO645 := n1_; have HB := n2_; clear n0_ n1_ n2_; (try clear hb); (try clear ho0)) | ((with_reducible refine gate_callee (f := 12) rfl ?_); refine goesM_ (some 37) Try.func12 #[.int .u8 a0, .slice A1 l1.length c1, .slice A2 l2.length c2] ?_; (with_reducible refine (euclid_Modulo.calls k a0 (fun k_ => k_ < w.heap.size) _ _ l1 (fun k_ => k_ < w.heap.size) _ _ l2 t646 true t650 _ ?side1 ?side2 A6.out).mono ?_); (case side1 => exact Kd.V_mk HC1.out (Kd.F_below (Kd.C_F (Kd.heap_int .u64) HR1.out) hb_)); (case side2 => exact Kd.V_mk HC2.out (Kd.F_below (Kd.C_F (Kd.heap_int .u64) HR2.out) hb_)); rintro e w17 ⟨v647, rfl, ho0, hb⟩; refine ⟨_, rfl, ?_⟩; have n0_ := A_ (Kd.R_below (nR_ HO640) hb); have n1_ := A_ (Kd.R_below (nR_ HO645) hb); have n2_ := A_ (Kd.R_lower (Kd.R_mono (ok' := fun k_ => True) ho0 (fun _ hk_ => trivial)) (below_size hb_)); have n3_ := A_ (below_step hb_ hb); clear HO640 HO645 HB; have HO640 := n0_; have HO645 := n1_; have HO648 := n2_; have HB := n3_; clear n0_ n1_ n2_ n3_; (try clear hb); (try clear ho0)) | ((with_reducible refine gate_callee (f := 13) rfl ?_); refine goesM_ (some 45) Try.func13 #[.int .u8 a0, .slice A1 l1.length c1, .slice A2 l2.length c2] ?_; (with_reducible refine (cr5_Modulo.calls k a0 _ _ l1 _ _ l2 t651 true t653 _ ?side1 ?side2 ?side3 ?side4 A7.out).mono ?_); (case side1 => repeat (first | exact (Kd.C_below HR1.out HB.out) | (with_reducible refine Kd.C_alloc ?_ _) | (with_reducible refine Kd.C_drewN ?_ _) | (with_reducible refine Kd.C_drew ?_))); (case side2 => exact HC1.out); (case side3 => repeat (first | exact (Kd.C_below HR2.out HB.out) | (with_reducible refine Kd.C_alloc ?_ _) | (with_reducible refine Kd.C_drewN ?_ _) | (with_reducible refine Kd.C_drew ?_))); (case side4 => exact HC2.out); rintro e w18 ⟨v654, rfl, ho0, hb⟩; refine ⟨_, rfl, ?_⟩; have n0_ := A_ (Kd.R_below (nR_ HO640) hb); have n1_ := A_ (Kd.R_below (nR_ HO645) hb); have n2_ := A_ (Kd.R_below (nR_ HO648) hb); have n3_ := A_ (Kd.R_lower (Kd.R_mono (ok' := fun _ => True) ho0 (fun _ _ => trivial)) (below_size hb_)); have n4_ := A_ (below_step hb_ hb); clear HO640 HO645 HO648 HB; have HO640 := n0_; have HO645 := n1_; have HO648 := n2_; have HO655 := n3_; have HB := n4_; clear n0_ n1_ n2_ n3_ n4_; (try clear hb); (try clear ho0); obtain ⟨Ao19, co19, eo19⟩ := Kd.R_slice HO640.out; subst eo19; obtain ⟨Ao20, co20, eo20⟩ := Kd.R_slice HO645.out; subst eo20) | ((with_reducible refine gate_callee (f := 14) rfl ?_); refine goesM_ (some 51) Try.func14 #[.slice Ao19 t638.length co19, .slice Ao20 t642.length co20] ?_; (with_reducible refine (cr1_Same.calls k _ _ t638 _ _ t642 true _ ?side1 ?side2 ?side3 ?side4 A8.out).mono ?_); (case side1 => repeat (first | exact (Kd.R_reads' HO640.out).2.2 | (with_reducible refine Kd.C_alloc ?_ _) | (with_reducible refine Kd.C_drewN ?_ _) | (with_reducible refine Kd.C_drew ?_))); (case side2 => exact (Kd.R_reads' HO640.out).2.1); (case side3 => repeat (first | exact (Kd.R_reads' HO645.out).2.2 | (with_reducible refine Kd.C_alloc ?_ _) | (with_reducible refine Kd.C_drewN ?_ _) | (with_reducible refine Kd.C_drew ?_))); (case side4 => exact (Kd.R_reads' HO645.out).2.1); rintro e w' ⟨rfl, ⟨nd, rfl⟩⟩; refine ⟨_, rfl, ?_⟩; obtain ⟨Ao21, co21, eo21⟩ := Kd.R_slice HO648.out; subst eo21; obtain ⟨Ao22, co22, eo22⟩ := Kd.R_slice HO655.out; subst eo22) | (go_at_call 14; (with_reducible refine (cr1_Same.calls k _ _ t646 _ _ t651 true _ ?side1 ?side2 ?side3 ?side4 A11.out).mono ?_); (case side1 => repeat (first | exact (Kd.R_reads' HO648.out).2.2 | (with_reducible refine Kd.C_alloc ?_ _) | (with_reducible refine Kd.C_drewN ?_ _) | (with_reducible refine Kd.C_drew ?_))); (case side2 => exact (Kd.R_reads' HO648.out).2.1); (case side3 => repeat (first | exact (Kd.R_reads' HO655.out).2.2 | (with_reducible refine Kd.C_alloc ?_ _) | (with_reducible refine Kd.C_drewN ?_ _) | (with_reducible refine Kd.C_drew ?_))); (case side4 => exact (Kd.R_reads' HO655.out).2.1); rintro e w' ⟨rfl, ⟨nd, rfl⟩⟩))
      go_ret
      exact ⟨fr_, hb_⟩
     ·replace c14 := Bool.eq_false_iff.mpr c14
      subst c14
      have H1 : (none) = some r := by rw [if_neg (show ¬ (false = true) by decide)] at H; exact H
      clear H
      have H := H1
      clear H1
      exact absurd H (by simp)
    ·replace c13 := Bool.eq_false_iff.mpr c13
     subst c13
     have H1 : (if t652 = true then (none) else (some (t650 == t653))) = some r := by rw [if_neg (show ¬ (false = true) by decide)] at H; exact H
     clear H
     have H := H1
     clear H1
     by_cases c23 : t652 = true
     ·subst c23
      have H1 : (none) = some r := by rw [if_pos rfl] at H; exact H
      clear H
      have H := H1
      clear H1
      exact absurd H (by simp)
     ·replace c23 := Bool.eq_false_iff.mpr c23
      subst c23
      have H1 : (some (t650 == t653)) = some r := by rw [if_neg (show ¬ (false = true) by decide)] at H; exact H
      clear H
      have H := H1
      clear H1
      obtain rfl := Option.some.inj H
      go_enter Try.func3, Try.ntmps3
      go_wp2_with (first | ((with_reducible refine gate_callee (f := 10) rfl ?_); refine goesM_ (some 23) Try.func10 #[.int .u8 a0, .slice A1 l1.length c1, .slice A2 l2.length c2] ?_; (with_reducible refine (euclid_GCD.calls k a0 (fun k_ => k_ < w.heap.size) _ _ l1 (fun k_ => k_ < w.heap.size) _ _ l2 t638 t641 _ ?side1 ?side2 A4.out).mono ?_); (case side1 => exact Kd.V_mk HC1.out (Kd.F_below (Kd.C_F (Kd.heap_int .u64) HR1.out) hb_)); (case side2 => exact Kd.V_mk HC2.out (Kd.F_below (Kd.C_F (Kd.heap_int .u64) HR2.out) hb_)); rintro e w24 ⟨v639, rfl, ho0, hb⟩; refine ⟨_, rfl, ?_⟩; have n0_ := A_ (Kd.R_lower (Kd.R_mono (ok' := fun k_ => True) ho0 (fun _ hk_ => trivial)) (below_size hb_)); have n1_ := A_ (below_step hb_ hb); clear HB; have HO640 := n0_; have HB := n1_; clear n0_ n1_; (try clear hb); (try clear ho0)) | ((with_reducible refine gate_callee (f := 11) rfl ?_); refine goesM_ (some 30) Try.func11 #[.int .u8 a0, .slice A1 l1.length c1, .slice A2 l2.length c2] ?_; (with_reducible refine (cr5_GCD.calls k a0 _ _ l1 _ _ l2 t642 t643 _ ?side1 ?side2 ?side3 ?side4 A5.out).mono ?_); (case side1 => repeat (first | exact (Kd.C_below HR1.out HB.out) | (with_reducible refine Kd.C_alloc ?_ _) | (with_reducible refine Kd.C_drewN ?_ _) | (with_reducible refine Kd.C_drew ?_))); (case side2 => exact HC1.out); (case side3 => repeat (first | exact (Kd.C_below HR2.out HB.out) | (with_reducible refine Kd.C_alloc ?_ _) | (with_reducible refine Kd.C_drewN ?_ _) | (with_reducible refine Kd.C_drew ?_))); (case side4 => exact HC2.out); rintro e w25 ⟨v644, rfl, ho0, hb⟩; refine ⟨_, rfl, ?_⟩; have n0_ := A_ (Kd.R_below (nR_ HO640) hb); have n1_ := A_ (Kd.R_lower (Kd.R_mono (ok' := fun _ => True) ho0 (fun _ _ => trivial)) (below_size hb_)); have n2_ := A_ (below_step hb_ hb); clear HO640 HB; have HO640 := n0_; have HO645 := n1_; have HB := n2_; clear n0_ n1_ n2_; (try clear hb); (try clear ho0)) | ((with_reducible refine gate_callee (f := 12) rfl ?_); refine goesM_ (some 37) Try.func12 #[.int .u8 a0, .slice A1 l1.length c1, .slice A2 l2.length c2] ?_; (with_reducible refine (euclid_Modulo.calls k a0 (fun k_ => k_ < w.heap.size) _ _ l1 (fun k_ => k_ < w.heap.size) _ _ l2 t646 false t650 _ ?side1 ?side2 A6.out).mono ?_); (case side1 => exact Kd.V_mk HC1.out (Kd.F_below (Kd.C_F (Kd.heap_int .u64) HR1.out) hb_)); (case side2 => exact Kd.V_mk HC2.out (Kd.F_below (Kd.C_F (Kd.heap_int .u64) HR2.out) hb_)); rintro e w26 ⟨v647, rfl, ho0, hb⟩; refine ⟨_, rfl, ?_⟩; have n0_ := A_ (Kd.R_below (nR_ HO640) hb); have n1_ := A_ (Kd.R_below (nR_ HO645) hb); have n2_ := A_ (Kd.R_lower (Kd.R_mono (ok' := fun k_ => True) ho0 (fun _ hk_ => trivial)) (below_size hb_)); have n3_ := A_ (below_step hb_ hb); clear HO640 HO645 HB; have HO640 := n0_; have HO645 := n1_; have HO648 := n2_; have HB := n3_; clear n0_ n1_ n2_ n3_; (try clear hb); (try clear ho0)) | ((with_reducible refine gate_callee (f := 13) rfl ?_); refine goesM_ (some 45) Try.func13 #[.int .u8 a0, .slice A1 l1.length c1, .slice A2 l2.length c2] ?_; (with_reducible refine (cr5_Modulo.calls k a0 _ _ l1 _ _ l2 t651 false t653 _ ?side1 ?side2 ?side3 ?side4 A7.out).mono ?_); (case side1 => repeat (first | exact (Kd.C_below HR1.out HB.out) | (with_reducible refine Kd.C_alloc ?_ _) | (with_reducible refine Kd.C_drewN ?_ _) | (with_reducible refine Kd.C_drew ?_))); (case side2 => exact HC1.out); (case side3 => repeat (first | exact (Kd.C_below HR2.out HB.out) | (with_reducible refine Kd.C_alloc ?_ _) | (with_reducible refine Kd.C_drewN ?_ _) | (with_reducible refine Kd.C_drew ?_))); (case side4 => exact HC2.out); rintro e w27 ⟨v654, rfl, ho0, hb⟩; refine ⟨_, rfl, ?_⟩; have n0_ := A_ (Kd.R_below (nR_ HO640) hb); have n1_ := A_ (Kd.R_below (nR_ HO645) hb); have n2_ := A_ (Kd.R_below (nR_ HO648) hb); have n3_ := A_ (Kd.R_lower (Kd.R_mono (ok' := fun _ => True) ho0 (fun _ _ => trivial)) (below_size hb_)); have n4_ := A_ (below_step hb_ hb); clear HO640 HO645 HO648 HB; have HO640 := n0_; have HO645 := n1_; have HO648 := n2_; have HO655 := n3_; have HB := n4_; clear n0_ n1_ n2_ n3_ n4_; (try clear hb); (try clear ho0); obtain ⟨Ao28, co28, eo28⟩ := Kd.R_slice HO640.out; subst eo28; obtain ⟨Ao29, co29, eo29⟩ := Kd.R_slice HO645.out; subst eo29) | ((with_reducible refine gate_callee (f := 14) rfl ?_); refine goesM_ (some 51) Try.func14 #[.slice Ao28 t638.length co28, .slice Ao29 t642.length co29] ?_; (with_reducible refine (cr1_Same.calls k _ _ t638 _ _ t642 true _ ?side1 ?side2 ?side3 ?side4 A8.out).mono ?_); (case side1 => repeat (first | exact (Kd.R_reads' HO640.out).2.2 | (with_reducible refine Kd.C_alloc ?_ _) | (with_reducible refine Kd.C_drewN ?_ _) | (with_reducible refine Kd.C_drew ?_))); (case side2 => exact (Kd.R_reads' HO640.out).2.1); (case side3 => repeat (first | exact (Kd.R_reads' HO645.out).2.2 | (with_reducible refine Kd.C_alloc ?_ _) | (with_reducible refine Kd.C_drewN ?_ _) | (with_reducible refine Kd.C_drew ?_))); (case side4 => exact (Kd.R_reads' HO645.out).2.1); rintro e w' ⟨rfl, ⟨nd, rfl⟩⟩; refine ⟨_, rfl, ?_⟩; obtain ⟨Ao30, co30, eo30⟩ := Kd.R_slice HO648.out; subst eo30; obtain ⟨Ao31, co31, eo31⟩ := Kd.R_slice HO655.out; subst eo31) | (go_at_call 14; (with_reducible refine (cr1_Same.calls k _ _ t646 _ _ t651 true _ ?side1 ?side2 ?side3 ?side4 A11.out).mono ?_); (case side1 => repeat (first | exact (Kd.R_reads' HO648.out).2.2 | (with_reducible refine Kd.C_alloc ?_ _) | (with_reducible refine Kd.C_drewN ?_ _) | (with_reducible refine Kd.C_drew ?_))); (case side2 => exact (Kd.R_reads' HO648.out).2.1); (case side3 => repeat (first | exact (Kd.R_reads' HO655.out).2.2 | (with_reducible refine Kd.C_alloc ?_ _) | (with_reducible refine Kd.C_drewN ?_ _) | (with_reducible refine Kd.C_drew ?_))); (case side4 => exact (Kd.R_reads' HO655.out).2.1); rintro e w' ⟨rfl, ⟨nd, rfl⟩⟩))
      go_ret
      exact ⟨fr_, hb_⟩
   ·replace c12 := Bool.eq_false_iff.mpr c12
    subst c12
    have H1 : (none) = some r := by rw [if_neg (show ¬ (false = true) by decide)] at H; exact H
    clear H
    have H := H1
    clear H1
    exact absurd H (by simp)
  ·rw [if_neg c10] at H
   exact absurd H (by simp)
 ·replace c9 := Bool.eq_false_iff.mpr c9
  subst c9
  have H1 : (none) = some r := by rw [if_neg (show ¬ (false = true) by decide)] at H; exact H
  clear H
  have H := H1
  clear H1
  exact absurd H (by simp)
/-- THE ONE PURE STATEMENT of conclavelaw05_EuclidDivides: yours. -/
def conclavelaw05_EuclidDivides.Pure : Prop := ∀ (a0 : Int) (l1 : List Int) (l2 : List Int), (Lit.int .u8 a0).wf = true → l1.length ≤ maxLen → l1.length * 8 ≤ 140737488351232 → (∀ x ∈ l1, (Lit.int .u64 x).wf = true) → l2.length ≤ maxLen → l2.length * 8 ≤ 140737488351232 → (∀ x ∈ l2, (Lit.int .u64 x).wf = true) → ∃ k, conclavelaw05_EuclidDivides.f k a0 l1 l2 = some true
theorem conclavelaw05_EuclidDivides.walk (P : conclavelaw05_EuclidDivides.Pure) (a0 : Int) (a1 : Option Addr) (len1 cap1 : Nat) (z1 : List Int) (a2 : Option Addr) (len2 cap2 : Nat) (z2 : List Int) (w : World) (w0 : (Lit.int .u8 a0).wf = true) (w1 : (a1 = none ∧ len1 = 0 ∧ cap1 = 0 ∧ z1 = []) ∨ ∃ x, a1 = some x ∧ len1 ≤ cap1 ∧ cap1 ≤ maxLen ∧ z1.length = cap1 ∧ (∀ i, i < z1.length → w.cell? (x.add i) = some (.int .u64 (z1.getD i 0))) ∧ ∀ n ∈ z1, (Lit.int .u64 n).wf = true) (y1 : len1 * 8 ≤ 140737488351232) (w2 : (a2 = none ∧ len2 = 0 ∧ cap2 = 0 ∧ z2 = []) ∨ ∃ x, a2 = some x ∧ len2 ≤ cap2 ∧ cap2 ≤ maxLen ∧ z2.length = cap2 ∧ (∀ i, i < z2.length → w.cell? (x.add i) = some (.int .u64 (z2.getD i 0))) ∧ ∀ n ∈ z2, (Lit.int .u64 n).wf = true) (y2 : len2 * 8 ≤ 140737488351232) :
  Calls Try.prog 3 #[.int .u8 a0, .slice a1 len1 cap1, .slice a2 len2 cap2] w fun e w' => e = .returned (.bool true) ∧ Below w.heap.size w w' := by
 obtain ⟨l1, rfl, hr1, hm1, hw1, hc1⟩ := ReadsInt.ofRowC w1
 obtain ⟨l2, rfl, hr2, hm2, hw2, hc2⟩ := ReadsInt.ofRowC w2
 obtain ⟨k, h⟩ := P a0 l1 l2 w0 hm1 y1 hw1 hm2 y2 hw2
 refine (conclavelaw05_EuclidDivides.calls k a0 _ _ l1 _ _ l2 true w (Kd.C_of_reads (d := (0 : Int)) (h1 := fun _ => rfl) hr1) hc1 (Kd.C_of_reads (d := (0 : Int)) (h1 := fun _ => rfl) hr2) hc2 h).mono ?_
 rintro e w' ⟨rfl, hd⟩
 exact ⟨rfl, hd⟩
end Go.Proofs.Yteofgcmgncaojaa.PEuclidDivides
