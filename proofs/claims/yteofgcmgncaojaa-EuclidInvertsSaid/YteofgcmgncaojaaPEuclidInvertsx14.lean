/- The Go functions as Lean functions, each with the proof that its call comes to just that; written by a program of this session, by the words of the print. -/
import Derived.Test.YteofgcmgncaojaaPEuclidInvertsx0
import Derived.Test.YteofgcmgncaojaaPEuclidInvertsx5
import Derived.Test.YteofgcmgncaojaaPEuclidInvertsx9
import Derived.Test.YteofgcmgncaojaaPEuclidInvertsx10
import Derived.Test.YteofgcmgncaojaaPEuclidInvertsx11
import Derived.Test.YteofgcmgncaojaaPEuclidInvertsx13
namespace Go.Proofs.Yteofgcmgncaojaa.PEuclidInverts
open Go.RowKit Go.Proofs.YteofgcmgncaojaaW.PrintWords Go.Proofs.YteofgcmgncaojaaW.PrintLast Go.Proofs.YteofgcmgncaojaaW.PrintMore
attribute [local go_sem] max2_int min2_int max_two min_two max_three min_three max_four min_four   -- for this text's walks alone
set_option linter.unusedVariables false
set_option linter.unusedSimpArgs false
/-! ### conclavelaw05_EuclidInverts: function 5 -/
def conclavelaw05_EuclidInverts.j0 : Nat → List Int → List Int → Int → List Int → Bool → Int → Bool → Option (Bool)
 | 0, _, _, _, _, _, _, _ => none
 | k + 1, x1, x2, x7, x9, x10, x11, x44 => if x44 = true then ((conclavelaw05_anchored.f k).bind fun t543 => (if t543 = true then (some (x11 != 0)) else (none))) else (if x11 = 0 then (if x10 = true then ((cr3_Mul.f k x7 x9 x1).bind fun bt549 => ((cr3_DivMod.f k x7 bt549.1 x2).bind fun bt553 => ((cr3_DivMod.f k x7 (([1] : List Int)) x2).bind fun bt563 => ((conclavelaw05_anchored.f k).bind fun t570 => (if t570 = true then (if bt549.2 = 0 then ((cr1_Same.f k bt553.2.1 bt563.2.1).bind fun t571 => (if t571 = true then ((cr3_Trim.f k x2).bind fun t572 => (some (decide ((x9.length : Int) < (t572.length : Int))))) else (none))) else (none)) else (none)))))) else ((euclid_GCD.f k x7 x1 x2).bind fun bt544 => ((conclavelaw05_anchored.f k).bind fun t548 => (if t548 = true then (if bt544.2 = 0 then (if (bt544.1.length : Int) > 1 then (some ((x9.length : Int) == 0)) else (none)) else (none)) else (none))))) else (none))
def conclavelaw05_EuclidInverts.f (k : Nat) (a0 : Int) (l1 : List Int) (l2 : List Int) : Option (Bool) := (conclavelaw05_usual.f k a0 l1 l2).bind fun bt533 => ((euclid_Modulo.f k bt533.1 l1 l2).bind fun bt535 => (if bt533.2 = true then ((cr3_Trim.f k l2).bind fun t540 => (conclavelaw05_EuclidInverts.j0 k l1 l2 bt533.1 bt535.1 bt535.2.1 bt535.2.2 ((t540.length : Int) == 0))) else (conclavelaw05_EuclidInverts.j0 k l1 l2 bt533.1 bt535.1 bt535.2.1 bt535.2.2 true)))
theorem conclavelaw05_EuclidInverts.mono_l : ∀ k, (∀ y0 y1 y2 y3 y4 y5 y6, LeO (conclavelaw05_EuclidInverts.j0 k y0 y1 y2 y3 y4 y5 y6) (conclavelaw05_EuclidInverts.j0 (k + 1) y0 y1 y2 y3 y4 y5 y6))
 | 0 => fun _ _ _ _ _ _ _ r h => by simp [conclavelaw05_EuclidInverts.j0] at h
 | k + 1 => by
  have ih0 := conclavelaw05_EuclidInverts.mono_l k
  ·intro y0 y1 y2 y3 y4 y5 y6
   unfold conclavelaw05_EuclidInverts.j0
   repeat' first
   | (with_reducible exact ih0 _ _ _ _ _ _ _)
   | (with_reducible exact conclavelaw05_anchored.mono _)
   | (with_reducible exact conclavelaw05_usual.mono _ _ _ _)
   | (with_reducible exact cr1_Same.mono _ _ _)
   | (with_reducible exact cr3_DivMod.mono _ _ _ _)
   | (with_reducible exact cr3_Mul.mono _ _ _ _)
   | (with_reducible exact cr3_Trim.mono _ _)
   | (with_reducible exact euclid_GCD.mono _ _ _ _)
   | (with_reducible exact euclid_Modulo.mono _ _ _ _)
   | (with_reducible exact LeO.refl _)
   | (with_reducible exact LeO.none _)
   | (with_reducible refine LeO.ite ?_ ?_)
   | (with_reducible refine LeO.bind ?_ (fun _ => ?_))
   | exact ih0 _ _ _ _ _ _ _
   | exact conclavelaw05_anchored.mono _
   | exact conclavelaw05_usual.mono _ _ _ _
   | exact cr1_Same.mono _ _ _
   | exact cr3_DivMod.mono _ _ _ _
   | exact cr3_Mul.mono _ _ _ _
   | exact cr3_Trim.mono _ _
   | exact euclid_GCD.mono _ _ _ _
   | exact euclid_Modulo.mono _ _ _ _
   | exact LeO.none _
   | refine LeO.ite ?_ ?_
   | refine LeO.bind ?_ (fun _ => ?_)
theorem conclavelaw05_EuclidInverts.mono : ∀ a0 a1 a2 k, LeO (conclavelaw05_EuclidInverts.f k a0 a1 a2) (conclavelaw05_EuclidInverts.f (k + 1) a0 a1 a2) := by
 intro a0 a1 a2 k
 have ih0 := conclavelaw05_EuclidInverts.mono_l k
 unfold conclavelaw05_EuclidInverts.f
 repeat' first
   | (with_reducible exact ih0 _ _ _ _ _ _ _)
   | (with_reducible exact conclavelaw05_anchored.mono _)
   | (with_reducible exact conclavelaw05_usual.mono _ _ _ _)
   | (with_reducible exact cr1_Same.mono _ _ _)
   | (with_reducible exact cr3_DivMod.mono _ _ _ _)
   | (with_reducible exact cr3_Mul.mono _ _ _ _)
   | (with_reducible exact cr3_Trim.mono _ _)
   | (with_reducible exact euclid_GCD.mono _ _ _ _)
   | (with_reducible exact euclid_Modulo.mono _ _ _ _)
   | (with_reducible exact LeO.refl _)
   | (with_reducible exact LeO.none _)
   | (with_reducible refine LeO.ite ?_ ?_)
   | (with_reducible refine LeO.bind ?_ (fun _ => ?_))
   | exact ih0 _ _ _ _ _ _ _
   | exact conclavelaw05_anchored.mono _
   | exact conclavelaw05_usual.mono _ _ _ _
   | exact cr1_Same.mono _ _ _
   | exact cr3_DivMod.mono _ _ _ _
   | exact cr3_Mul.mono _ _ _ _
   | exact cr3_Trim.mono _ _
   | exact euclid_GCD.mono _ _ _ _
   | exact euclid_Modulo.mono _ _ _ _
   | exact LeO.none _
   | refine LeO.ite ?_ ?_
   | refine LeO.bind ?_ (fun _ => ?_)
set_option maxHeartbeats 8000000 in
set_option maxRecDepth 100000 in
theorem conclavelaw05_EuclidInverts.calls (k : Nat) (a0 : Int) (A1 : Option Addr) (c1 : Nat) (l1 : List Int) (A2 : Option Addr) (c2 : Nat) (l2 : List Int) (r : Bool) (w : World) (hr1 : Kd.C (Kd.int .u64) w A1 l1.length l1) (hc1 : l1.length ≤ c1) (hr2 : Kd.C (Kd.int .u64) w A2 l2.length l2) (hc2 : l2.length ≤ c2) (h : conclavelaw05_EuclidInverts.f k a0 l1 l2 = some r) :
  Calls Try.prog 5 #[.int .u8 a0, .slice A1 l1.length c1, .slice A2 l2.length c2] w fun e w' => e = .returned (.bool r) ∧ Below w.heap.size w w' := by
 have HR1 := Aside0.mk hr1
 have HC1 := Aside0.mk hc1
 clear hr1 hc1
 have HR2 := Aside0.mk hr2
 have HC2 := Aside0.mk hc2
 clear hr2 hc2
 have HB := A_ (Below.refl w.heap.size w)
 have H : ((conclavelaw05_usual.f k a0 l1 l2).bind fun bt533 => ((euclid_Modulo.f k bt533.1 l1 l2).bind fun bt535 => (if bt533.2 = true then ((cr3_Trim.f k l2).bind fun t540 => (conclavelaw05_EuclidInverts.j0 k l1 l2 bt533.1 bt535.1 bt535.2.1 bt535.2.2 ((t540.length : Int) == 0))) else (conclavelaw05_EuclidInverts.j0 k l1 l2 bt533.1 bt535.1 bt535.2.1 bt535.2.2 true)))) = some r := h
 clear h
 replace H := Option.bind_eq_some_iff.mp H
 obtain ⟨⟨t533, t534⟩, A40, H⟩ := H
 (try dsimp only at H)
 have A4 := Aside0.mk A40
 clear A40
 replace H := Option.bind_eq_some_iff.mp H
 obtain ⟨⟨t535, t538, t539⟩, A50, H⟩ := H
 replace H : (if t534 = true then ((cr3_Trim.f k l2).bind fun t540 => (conclavelaw05_EuclidInverts.j0 k l1 l2 t533 t535 t538 t539 ((t540.length : Int) == 0))) else (conclavelaw05_EuclidInverts.j0 k l1 l2 t533 t535 t538 t539 true)) = some r := H
 have A5 := Aside0.mk A50
 clear A50
 have HC6 := Aside0.mk H
 clear H
 go_enter Try.func5, Try.ntmps5
 go_upto_region 3 with (first | ((with_reducible refine gate_callee (f := 15) rfl ?_); refine goesM_ (some 26) Try.func15 #[.int .u8 a0, .slice A1 l1.length c1, .slice A2 l2.length c2] ?_; (with_reducible refine (conclavelaw05_usual.calls k a0 _ _ l1 _ _ l2 t533 t534 _ ?side1 ?side2 ?side3 ?side4 A4.out).mono ?_); (case side1 => exact nC_ HR1.out); (case side2 => exact HC1.out); (case side3 => exact nC_ HR2.out); (case side4 => exact HC2.out); rintro e w' ⟨rfl, ⟨nd, rfl⟩⟩; refine ⟨_, rfl, ?_⟩) | ((with_reducible refine gate_callee (f := 12) rfl ?_); refine goesM_ (some 33) Try.func12 #[.int .u8 t533, .slice A1 l1.length c1, .slice A2 l2.length c2] ?_; (with_reducible refine (euclid_Modulo.calls k t533 (fun k_ => k_ < w.heap.size) _ _ l1 (fun k_ => k_ < w.heap.size) _ _ l2 t535 t538 t539 _ ?side1 ?side2 A5.out).mono ?_); (case side1 => exact Kd.V_mk HC1.out (Kd.F_below (Kd.C_F (Kd.heap_int .u64) HR1.out) hb_)); (case side2 => exact Kd.V_mk HC2.out (Kd.F_below (Kd.C_F (Kd.heap_int .u64) HR2.out) hb_)); rintro e w7 ⟨v536, rfl, ho0, hb⟩; refine ⟨_, rfl, ?_⟩; have n0_ := A_ (Kd.R_lower (Kd.R_mono (ok' := fun k_ => True) ho0 (fun _ hk_ => trivial)) (below_size hb_)); have n1_ := A_ (below_step hb_ hb); clear HB; have HO537 := n0_; have HB := n1_; clear n0_ n1_; (try clear hb); (try clear ho0)))
 (try simp only [Act.put, List.setIfInBounds_toArray, List.set_cons_zero, List.set_cons_succ])
 go_cut [44] (fun v44 wc => ∃ (kq : Nat) (x44_5 : Bool), v44 = .bool x44_5 ∧ Aside0 (conclavelaw05_EuclidInverts.j0 kq l1 l2 t533 t535 t538 t539 x44_5 = some r) ∧ Aside0 (kq ≤ k) ∧ Aside0 (Kd.R (Kd.int .u64) 40 wc w.heap.size (fun _ => True) v536 t535) ∧ Aside0 (Below w.heap.size w wc))
 case first =>
  have H := HC6.out
  clear HC6
  by_cases c8 : t534 = true
  ·subst c8
   have H1 : ((cr3_Trim.f k l2).bind fun t540 => (conclavelaw05_EuclidInverts.j0 k l1 l2 t533 t535 t538 t539 ((t540.length : Int) == 0))) = some r := by rw [if_pos rfl] at H; exact H
   clear H
   have H := H1
   clear H1
   replace H := Option.bind_eq_some_iff.mp H
   obtain ⟨t540, A90, H⟩ := H
   replace H : (conclavelaw05_EuclidInverts.j0 k l1 l2 t533 t535 t538 t539 ((t540.length : Int) == 0)) = some r := H
   have A9 := Aside0.mk A90
   clear A90
   have H' := Aside0.mk H
   clear H
   go_wp2_with (first | (go_at_call 20; (with_reducible refine (cr3_Trim.calls k _ _ l2 t540 _ ?side1 ?side2 A9.out).mono ?_); (case side1 => repeat (first | exact (Kd.C_below HR2.out HB.out) | (with_reducible refine Kd.C_alloc ?_ _) | (with_reducible refine Kd.C_drewN ?_ _) | (with_reducible refine Kd.C_drew ?_))); (case side2 => exact HC2.out); rintro e w10 ⟨v541, rfl, ho0, hb⟩; have n0_ := A_ (Kd.R_below (nR_ HO537) hb); have n1_ := A_ (Kd.R_lower (Kd.R_mono (ok' := fun _ => True) ho0 (fun _ _ => trivial)) (below_size hb_)); have n2_ := A_ (below_step hb_ hb); clear HO537 HB; have HO537 := n0_; have HO542 := n1_; have HB := n2_; clear n0_ n1_ n2_; (try clear hb); (try clear hb2); (try clear hk); (try clear hi); (try clear ho0); obtain ⟨Ao11, co11, eo11⟩ := Kd.R_slice HO542.out; subst eo11))
   go_meet
   case rel => exact ⟨_, (((t540.length : Int) == 0)), (fs_), H', ⟨fo_⟩, ⟨mR_ HO537.out⟩, ⟨by repeat (first | (with_reducible first | exact HB.out | apply below_alloc | apply pw_below_drewN | apply below_drew1) | exact HB.out)⟩⟩
  ·replace c8 := Bool.eq_false_iff.mpr c8
   subst c8
   have H1 : (conclavelaw05_EuclidInverts.j0 k l1 l2 t533 t535 t538 t539 true) = some r := by rw [if_neg (show ¬ (false = true) by decide)] at H; exact H
   clear H
   have H := H1
   clear H1
   have H' := Aside0.mk H
   clear H
   go_wp2
   go_meet
   case rel => exact ⟨_, (true), (fs_), H', ⟨fo_⟩, ⟨mR_ HO537.out⟩, ⟨by repeat (first | (with_reducible first | exact HB.out | apply below_alloc | apply pw_below_drewN | apply below_drew1) | exact HB.out)⟩⟩
 case rest =>
  clear HC6
  try clear c1
  try clear c2
  try clear p2
  try clear c5
  try clear c8
  obtain ⟨kq, x44_5, rfl, HA, HJ5, HO_9, HB⟩ := hcut
  cases kq with
  | zero => exact absurd HA.out (by simp [conclavelaw05_EuclidInverts.j0])
  | succ kj5 =>
   have H := HA.out
   clear HA
   simp only [conclavelaw05_EuclidInverts.j0] at H
   by_cases c12 : x44_5 = true
   ·subst c12
    have H1 : ((conclavelaw05_anchored.f kj5).bind fun t543 => (if t543 = true then (some (t539 != 0)) else (none))) = some r := by rw [if_pos rfl] at H; exact H
    clear H
    have H := H1
    clear H1
    replace H := Option.bind_eq_some_iff.mp H
    obtain ⟨t543, A130, H⟩ := H
    replace H : (if t543 = true then (some (t539 != 0)) else (none)) = some r := H
    have A13 := Aside0.mk A130
    clear A130
    by_cases c14 : t543 = true
    ·subst c14
     have H1 : (some (t539 != 0)) = some r := by rw [if_pos rfl] at H; exact H
     clear H
     have H := H1
     clear H1
     obtain rfl := Option.some.inj H
     go_wp2_with (first | ((with_reducible refine gate_callee (f := 17) rfl ?_); refine goesM_ (some 45) Try.func17 #[] ?_; (with_reducible refine (conclavelaw05_anchored.calls kj5  true _ A13.out).mono ?_); rintro e w15 ⟨rfl, hb⟩; refine ⟨_, rfl, ?_⟩; have n0_ := A_ (Kd.R_below (nR_ HO_9) hb); have n1_ := A_ (below_step hb_ hb); clear HO_9 HB; have HO_9 := n0_; have HB := n1_; clear n0_ n1_; (try clear hb)))
     go_ret
     exact ⟨fr_, hb_⟩
    ·replace c14 := Bool.eq_false_iff.mpr c14
     subst c14
     have H1 : (none) = some r := by rw [if_neg (show ¬ (false = true) by decide)] at H; exact H
     clear H
     have H := H1
     clear H1
     exact absurd H (by simp)
   ·replace c12 := Bool.eq_false_iff.mpr c12
    subst c12
    have H1 : (if t539 = 0 then (if t538 = true then ((cr3_Mul.f kj5 t533 t535 l1).bind fun bt549 => ((cr3_DivMod.f kj5 t533 bt549.1 l2).bind fun bt553 => ((cr3_DivMod.f kj5 t533 (([1] : List Int)) l2).bind fun bt563 => ((conclavelaw05_anchored.f kj5).bind fun t570 => (if t570 = true then (if bt549.2 = 0 then ((cr1_Same.f kj5 bt553.2.1 bt563.2.1).bind fun t571 => (if t571 = true then ((cr3_Trim.f kj5 l2).bind fun t572 => (some (decide ((t535.length : Int) < (t572.length : Int))))) else (none))) else (none)) else (none)))))) else ((euclid_GCD.f kj5 t533 l1 l2).bind fun bt544 => ((conclavelaw05_anchored.f kj5).bind fun t548 => (if t548 = true then (if bt544.2 = 0 then (if (bt544.1.length : Int) > 1 then (some ((t535.length : Int) == 0)) else (none)) else (none)) else (none))))) else (none)) = some r := by rw [if_neg (show ¬ (false = true) by decide)] at H; exact H
    clear H
    have H := H1
    clear H1
    by_cases c16 : t539 = 0
    ·rw [if_pos c16] at H
     have c16b0 : (t539 == 0) = true := beq_iff_eq.mpr c16
     have c16b1 : (t539 != 0) = false := bne_eq_false_iff_eq.mpr c16
     clear c16
     by_cases c17 : t538 = true
     ·subst c17
      have H1 : ((cr3_Mul.f kj5 t533 t535 l1).bind fun bt549 => ((cr3_DivMod.f kj5 t533 bt549.1 l2).bind fun bt553 => ((cr3_DivMod.f kj5 t533 (([1] : List Int)) l2).bind fun bt563 => ((conclavelaw05_anchored.f kj5).bind fun t570 => (if t570 = true then (if bt549.2 = 0 then ((cr1_Same.f kj5 bt553.2.1 bt563.2.1).bind fun t571 => (if t571 = true then ((cr3_Trim.f kj5 l2).bind fun t572 => (some (decide ((t535.length : Int) < (t572.length : Int))))) else (none))) else (none)) else (none)))))) = some r := by rw [if_pos rfl] at H; exact H
      clear H
      have H := H1
      clear H1
      replace H := Option.bind_eq_some_iff.mp H
      obtain ⟨⟨t549, t550⟩, A180, H⟩ := H
      (try dsimp only at H)
      have A18 := Aside0.mk A180
      clear A180
      replace H := Option.bind_eq_some_iff.mp H
      obtain ⟨⟨t553, t554, t555⟩, A190, H⟩ := H
      (try dsimp only at H)
      have A19 := Aside0.mk A190
      clear A190
      obtain ⟨y560, hy560⟩ : ∃ y_ : List Int, y_ = (([1] : List Int)) := ⟨_, rfl⟩
      replace H : ((cr3_DivMod.f kj5 t533 y560 l2).bind fun bt563 => ((conclavelaw05_anchored.f kj5).bind fun t570 => (if t570 = true then (if t550 = 0 then ((cr1_Same.f kj5 t554 bt563.2.1).bind fun t571 => (if t571 = true then ((cr3_Trim.f kj5 l2).bind fun t572 => (some (decide ((t535.length : Int) < (t572.length : Int))))) else (none))) else (none)) else (none)))) = some r := by first | (rw [hy560]; with_reducible exact H) | (have H2_ := (Option.bind_some _ _).symm.trans H; rw [hy560]; with_reducible exact H2_) | (have H2_ := (Option.bind_some _ _).symm.trans H; with_reducible exact H2_) | with_reducible exact H | (rw [hy560]; exact H) | exact H
      have Ny560 := Aside0.mk hy560
      clear hy560
      replace H := Option.bind_eq_some_iff.mp H
      obtain ⟨⟨t563, t564, t565⟩, A200, H⟩ := H
      (try dsimp only at H)
      have A20 := Aside0.mk A200
      clear A200
      replace H := Option.bind_eq_some_iff.mp H
      obtain ⟨t570, A210, H⟩ := H
      replace H : (if t570 = true then (if t550 = 0 then ((cr1_Same.f kj5 t554 t564).bind fun t571 => (if t571 = true then ((cr3_Trim.f kj5 l2).bind fun t572 => (some (decide ((t535.length : Int) < (t572.length : Int))))) else (none))) else (none)) else (none)) = some r := H
      have A21 := Aside0.mk A210
      clear A210
      by_cases c22 : t570 = true
      ·subst c22
       have H1 : (if t550 = 0 then ((cr1_Same.f kj5 t554 t564).bind fun t571 => (if t571 = true then ((cr3_Trim.f kj5 l2).bind fun t572 => (some (decide ((t535.length : Int) < (t572.length : Int))))) else (none))) else (none)) = some r := by rw [if_pos rfl] at H; exact H
       clear H
       have H := H1
       clear H1
       by_cases c23 : t550 = 0
       ·rw [if_pos c23] at H
        have c23b0 : (t550 == 0) = true := beq_iff_eq.mpr c23
        have c23b1 : (t550 != 0) = false := bne_eq_false_iff_eq.mpr c23
        clear c23
        replace H := Option.bind_eq_some_iff.mp H
        obtain ⟨t571, A240, H⟩ := H
        replace H : (if t571 = true then ((cr3_Trim.f kj5 l2).bind fun t572 => (some (decide ((t535.length : Int) < (t572.length : Int))))) else (none)) = some r := H
        have A24 := Aside0.mk A240
        clear A240
        by_cases c25 : t571 = true
        ·subst c25
         have H1 : ((cr3_Trim.f kj5 l2).bind fun t572 => (some (decide ((t535.length : Int) < (t572.length : Int))))) = some r := by rw [if_pos rfl] at H; exact H
         clear H
         have H := H1
         clear H1
         replace H := Option.bind_eq_some_iff.mp H
         obtain ⟨t572, A260, H⟩ := H
         replace H : (some (decide ((t535.length : Int) < (t572.length : Int)))) = some r := H
         have A26 := Aside0.mk A260
         clear A260
         obtain rfl := Option.some.inj H
         obtain ⟨Ao27, co27, eo27⟩ := Kd.R_slice HO_9.out
         subst eo27
         go_wp2_with (first | ((with_reducible refine gate_callee (f := 18) rfl ?_); refine goesM_ (some 80) Try.func18 #[.int .u8 t533, .slice Ao27 t535.length co27, .slice A1 l1.length c1] ?_; (with_reducible refine (cr3_Mul.calls kj5 t533 _ _ t535 _ _ l1 t549 t550 _ ?side1 ?side2 ?side3 ?side4 A18.out).mono ?_); (case side1 => repeat (first | exact (Kd.R_reads' HO_9.out).2.2 | (with_reducible refine Kd.C_alloc ?_ _) | (with_reducible refine Kd.C_drewN ?_ _) | (with_reducible refine Kd.C_drew ?_))); (case side2 => exact (Kd.R_reads' HO_9.out).2.1); (case side3 => repeat (first | exact (Kd.C_below HR1.out HB.out) | (with_reducible refine Kd.C_alloc ?_ _) | (with_reducible refine Kd.C_drewN ?_ _) | (with_reducible refine Kd.C_drew ?_))); (case side4 => exact HC1.out); rintro e w28 ⟨v551, rfl, ho0, hb⟩; refine ⟨_, rfl, ?_⟩; have n0_ := A_ (Kd.R_below (nR_ HO_9) hb); have n1_ := A_ (Kd.R_lower (Kd.R_mono (ok' := fun _ => True) ho0 (fun _ _ => trivial)) (below_size hb_)); have n2_ := A_ (below_step hb_ hb); clear HO_9 HB; have HO_9 := n0_; have HO552 := n1_; have HB := n2_; clear n0_ n1_ n2_; (try clear hb); (try clear ho0); obtain ⟨Ao29, co29, eo29⟩ := Kd.R_slice HO552.out; subst eo29) | ((with_reducible refine gate_callee (f := 19) rfl ?_); refine goesM_ (some 87) Try.func19 #[.int .u8 t533, .slice Ao29 t549.length co29, .slice A2 l2.length c2] ?_; (with_reducible refine (cr3_DivMod.calls kj5 t533 _ _ t549 _ _ l2 t553 t554 t555 _ ?side1 ?side2 ?side3 ?side4 A19.out).mono ?_); (case side1 => repeat (first | exact (Kd.R_reads' HO552.out).2.2 | (with_reducible refine Kd.C_alloc ?_ _) | (with_reducible refine Kd.C_drewN ?_ _) | (with_reducible refine Kd.C_drew ?_))); (case side2 => exact (Kd.R_reads' HO552.out).2.1); (case side3 => repeat (first | exact (Kd.C_below HR2.out HB.out) | (with_reducible refine Kd.C_alloc ?_ _) | (with_reducible refine Kd.C_drewN ?_ _) | (with_reducible refine Kd.C_drew ?_))); (case side4 => exact HC2.out); rintro e w30 ⟨v556, v558, rfl, ho0, ho1, hb⟩; refine ⟨_, rfl, ?_⟩; have n0_ := A_ (Kd.R_below (nR_ HO_9) hb); have n1_ := A_ (Kd.R_below (nR_ HO552) hb); have n2_ := A_ (Kd.R_lower (Kd.R_mono (ok' := fun _ => True) ho0 (fun _ _ => trivial)) (below_size hb_)); have n3_ := A_ (Kd.R_lower (Kd.R_mono (ok' := fun _ => True) ho1 (fun _ _ => trivial)) (below_size hb_)); have n4_ := A_ (below_step hb_ hb); clear HO_9 HO552 HB; have HO_9 := n0_; have HO552 := n1_; have HO557 := n2_; have HO559 := n3_; have HB := n4_; clear n0_ n1_ n2_ n3_ n4_; (try clear hb); (try clear ho0); (try clear ho1)) | ((with_reducible refine gate_dst (N := 93) rfl ?_); (try (refine gate_guard (by rfl) ?_; dsimp only)); refine Kd.R_lit (Kd.int .u64) _ 40 ?hg (N := 93) ?hd (xs := ([1] : List Int)) (inner := [.int .u64 1]) (ok := fun _ => True) (okp := fun _ => True) ?hr ?hp (fun _ hk => hk) trivial (Below.refl _ _) (Nat.le_refl _) (by simp) ?_; (case hd => rfl); (case hg => rfl); (case hr => first | (go_simp; done) | (go_simp; rfl)); (case hp => exact (Reps.one (show Kd.M (Kd.int .u64) _ _ _ 1 [.int .u64 1] from rfl) (Reps.none _ _))); intro v561 w31 ho32 hb hg_ hnew_; clear hg_ hnew_; (first | rw [← Ny560.out] at ho32 | (simp only [Int.reduceToNat] at ho32; rw [← Ny560.out] at ho32)); have n0_ := A_ (Kd.R_below (nR_ HO_9) hb); have n1_ := A_ (Kd.R_below (nR_ HO552) hb); have n2_ := A_ (Kd.R_below (nR_ HO557) hb); have n3_ := A_ (Kd.R_below (nR_ HO559) hb); have n4_ := A_ (Kd.R_lower (Kd.R_mono (ok' := fun _ => True) ho32 (fun _ _ => trivial)) (below_size hb_)); have n5_ := A_ (below_step hb_ hb); clear HO_9 HO552 HO557 HO559 HB; have HO_9 := n0_; have HO552 := n1_; have HO557 := n2_; have HO559 := n3_; have HO562 := n4_; have HB := n5_; clear n0_ n1_ n2_ n3_ n4_ n5_; clear hb ho32; obtain ⟨Ao33, co33, eo33⟩ := Kd.R_slice HO562.out; subst eo33) | ((with_reducible refine gate_callee (f := 19) rfl ?_); refine goesM_ (some 95) Try.func19 #[.int .u8 t533, .slice Ao33 y560.length co33, .slice A2 l2.length c2] ?_; (with_reducible refine (cr3_DivMod.calls kj5 t533 _ _ y560 _ _ l2 t563 t564 t565 _ ?side1 ?side2 ?side3 ?side4 A20.out).mono ?_); (case side1 => repeat (first | exact (Kd.R_reads' HO562.out).2.2 | (with_reducible refine Kd.C_alloc ?_ _) | (with_reducible refine Kd.C_drewN ?_ _) | (with_reducible refine Kd.C_drew ?_))); (case side2 => exact (Kd.R_reads' HO562.out).2.1); (case side3 => repeat (first | exact (Kd.C_below HR2.out HB.out) | (with_reducible refine Kd.C_alloc ?_ _) | (with_reducible refine Kd.C_drewN ?_ _) | (with_reducible refine Kd.C_drew ?_))); (case side4 => exact HC2.out); rintro e w34 ⟨v566, v568, rfl, ho0, ho1, hb⟩; refine ⟨_, rfl, ?_⟩; have n0_ := A_ (Kd.R_below (nR_ HO_9) hb); have n1_ := A_ (Kd.R_below (nR_ HO552) hb); have n2_ := A_ (Kd.R_below (nR_ HO557) hb); have n3_ := A_ (Kd.R_below (nR_ HO559) hb); have n4_ := A_ (Kd.R_below (nR_ HO562) hb); have n5_ := A_ (Kd.R_lower (Kd.R_mono (ok' := fun _ => True) ho0 (fun _ _ => trivial)) (below_size hb_)); have n6_ := A_ (Kd.R_lower (Kd.R_mono (ok' := fun _ => True) ho1 (fun _ _ => trivial)) (below_size hb_)); have n7_ := A_ (below_step hb_ hb); clear HO_9 HO552 HO557 HO559 HO562 HB; have HO_9 := n0_; have HO552 := n1_; have HO557 := n2_; have HO559 := n3_; have HO562 := n4_; have HO567 := n5_; have HO569 := n6_; have HB := n7_; clear n0_ n1_ n2_ n3_ n4_ n5_ n6_ n7_; (try clear hb); (try clear ho0); (try clear ho1)) | ((with_reducible refine gate_callee (f := 17) rfl ?_); refine goesM_ (some 99) Try.func17 #[] ?_; (with_reducible refine (conclavelaw05_anchored.calls kj5  true _ A21.out).mono ?_); rintro e w35 ⟨rfl, hb⟩; refine ⟨_, rfl, ?_⟩; have n0_ := A_ (Kd.R_below (nR_ HO_9) hb); have n1_ := A_ (Kd.R_below (nR_ HO552) hb); have n2_ := A_ (Kd.R_below (nR_ HO557) hb); have n3_ := A_ (Kd.R_below (nR_ HO559) hb); have n4_ := A_ (Kd.R_below (nR_ HO562) hb); have n5_ := A_ (Kd.R_below (nR_ HO567) hb); have n6_ := A_ (Kd.R_below (nR_ HO569) hb); have n7_ := A_ (below_step hb_ hb); clear HO_9 HO552 HO557 HO559 HO562 HO567 HO569 HB; have HO_9 := n0_; have HO552 := n1_; have HO557 := n2_; have HO559 := n3_; have HO562 := n4_; have HO567 := n5_; have HO569 := n6_; have HB := n7_; clear n0_ n1_ n2_ n3_ n4_ n5_ n6_ n7_; (try clear hb); obtain ⟨Ao36, co36, eo36⟩ := Kd.R_slice HO559.out; subst eo36; obtain ⟨Ao37, co37, eo37⟩ := Kd.R_slice HO569.out; subst eo37) | (go_at_call 14; (with_reducible refine (cr1_Same.calls kj5 _ _ t554 _ _ t564 true _ ?side1 ?side2 ?side3 ?side4 A24.out).mono ?_); (case side1 => repeat (first | exact (Kd.R_reads' HO559.out).2.2 | (with_reducible refine Kd.C_alloc ?_ _) | (with_reducible refine Kd.C_drewN ?_ _) | (with_reducible refine Kd.C_drew ?_))); (case side2 => exact (Kd.R_reads' HO559.out).2.1); (case side3 => repeat (first | exact (Kd.R_reads' HO569.out).2.2 | (with_reducible refine Kd.C_alloc ?_ _) | (with_reducible refine Kd.C_drewN ?_ _) | (with_reducible refine Kd.C_drew ?_))); (case side4 => exact (Kd.R_reads' HO569.out).2.1); rintro e w' ⟨rfl, ⟨nd, rfl⟩⟩) | (go_at_call 20; (with_reducible refine (cr3_Trim.calls kj5 _ _ l2 t572 _ ?side1 ?side2 A26.out).mono ?_); (case side1 => repeat (first | exact (Kd.C_below HR2.out hb_) | (with_reducible refine Kd.C_alloc ?_ _) | (with_reducible refine Kd.C_drewN ?_ _) | (with_reducible refine Kd.C_drew ?_))); (case side2 => exact HC2.out); rintro e w38 ⟨v573, rfl, ho0, hb⟩; have n0_ := A_ (Kd.R_below (nR_ HO_9) hb); have n1_ := A_ (Kd.R_below (nR_ HO552) hb); have n2_ := A_ (Kd.R_below (nR_ HO557) hb); have n3_ := A_ (Kd.R_below (nR_ HO559) hb); have n4_ := A_ (Kd.R_below (nR_ HO562) hb); have n5_ := A_ (Kd.R_below (nR_ HO567) hb); have n6_ := A_ (Kd.R_below (nR_ HO569) hb); have n7_ := A_ (Kd.R_lower (Kd.R_mono (ok' := fun _ => True) ho0 (fun _ _ => trivial)) (below_size hb_)); have n8_ := A_ (below_step hb_ hb); clear HO_9 HO552 HO557 HO559 HO562 HO567 HO569 HB; have HO_9 := n0_; have HO552 := n1_; have HO557 := n2_; have HO559 := n3_; have HO562 := n4_; have HO567 := n5_; have HO569 := n6_; have HO574 := n7_; have HB := n8_; clear n0_ n1_ n2_ n3_ n4_ n5_ n6_ n7_ n8_; (try clear hb); (try clear ho0); obtain ⟨Ao39, co39, eo39⟩ := Kd.R_slice HO574.out; subst eo39))
         go_ret
         exact ⟨fr_, hb_⟩
        ·replace c25 := Bool.eq_false_iff.mpr c25
         subst c25
         have H1 : (none) = some r := by rw [if_neg (show ¬ (false = true) by decide)] at H; exact H
         clear H
         have H := H1
         clear H1
         exact absurd H (by simp)
       ·rw [if_neg c23] at H
        exact absurd H (by simp)
      ·replace c22 := Bool.eq_false_iff.mpr c22
       subst c22
       have H1 : (none) = some r := by rw [if_neg (show ¬ (false = true) by decide)] at H; exact H
       clear H
       have H := H1
       clear H1
       exact absurd H (by simp)
     ·replace c17 := Bool.eq_false_iff.mpr c17
      subst c17
      have H1 : ((euclid_GCD.f kj5 t533 l1 l2).bind fun bt544 => ((conclavelaw05_anchored.f kj5).bind fun t548 => (if t548 = true then (if bt544.2 = 0 then (if (bt544.1.length : Int) > 1 then (some ((t535.length : Int) == 0)) else (none)) else (none)) else (none)))) = some r := by rw [if_neg (show ¬ (false = true) by decide)] at H; exact H
      clear H
      have H := H1
      clear H1
      replace H := Option.bind_eq_some_iff.mp H
      obtain ⟨⟨t544, t547⟩, A400, H⟩ := H
      replace H : ((conclavelaw05_anchored.f kj5).bind fun t548 => (if t548 = true then (if t547 = 0 then (if (t544.length : Int) > 1 then (some ((t535.length : Int) == 0)) else (none)) else (none)) else (none))) = some r := H
      have A40 := Aside0.mk A400
      clear A400
      replace H := Option.bind_eq_some_iff.mp H
      obtain ⟨t548, A410, H⟩ := H
      replace H : (if t548 = true then (if t547 = 0 then (if (t544.length : Int) > 1 then (some ((t535.length : Int) == 0)) else (none)) else (none)) else (none)) = some r := H
      have A41 := Aside0.mk A410
      clear A410
      by_cases c42 : t548 = true
      ·subst c42
       have H1 : (if t547 = 0 then (if (t544.length : Int) > 1 then (some ((t535.length : Int) == 0)) else (none)) else (none)) = some r := by rw [if_pos rfl] at H; exact H
       clear H
       have H := H1
       clear H1
       by_cases c43 : t547 = 0
       ·rw [if_pos c43] at H
        have c43b0 : (t547 == 0) = true := beq_iff_eq.mpr c43
        have c43b1 : (t547 != 0) = false := bne_eq_false_iff_eq.mpr c43
        clear c43
        by_cases c44 : (t544.length : Int) > 1
        ·rw [if_pos c44] at H
         have c44b0 : decide (1 < (t544.length : Int)) = true := decide_eq_true c44
         have c44b1 : decide (1 < t544.length) = true := decide_eq_true (by omega)
         clear c44
         obtain rfl := Option.some.inj H
         go_wp2_with (first | ((with_reducible refine gate_callee (f := 10) rfl ?_); refine goesM_ (some 58) Try.func10 #[.int .u8 t533, .slice A1 l1.length c1, .slice A2 l2.length c2] ?_; (with_reducible refine (euclid_GCD.calls kj5 t533 (fun k_ => k_ < w.heap.size) _ _ l1 (fun k_ => k_ < w.heap.size) _ _ l2 t544 t547 _ ?side1 ?side2 A40.out).mono ?_); (case side1 => exact Kd.V_mk HC1.out (Kd.F_below (Kd.C_F (Kd.heap_int .u64) HR1.out) hb_)); (case side2 => exact Kd.V_mk HC2.out (Kd.F_below (Kd.C_F (Kd.heap_int .u64) HR2.out) hb_)); rintro e w45 ⟨v545, rfl, ho0, hb⟩; refine ⟨_, rfl, ?_⟩; have n0_ := A_ (Kd.R_below (nR_ HO_9) hb); have n1_ := A_ (Kd.R_lower (Kd.R_mono (ok' := fun k_ => True) ho0 (fun _ hk_ => trivial)) (below_size hb_)); have n2_ := A_ (below_step hb_ hb); clear HO_9 HB; have HO_9 := n0_; have HO546 := n1_; have HB := n2_; clear n0_ n1_ n2_; (try clear hb); (try clear ho0)) | ((with_reducible refine gate_callee (f := 17) rfl ?_); refine goesM_ (some 61) Try.func17 #[] ?_; (with_reducible refine (conclavelaw05_anchored.calls kj5  true _ A41.out).mono ?_); rintro e w46 ⟨rfl, hb⟩; refine ⟨_, rfl, ?_⟩; have n0_ := A_ (Kd.R_below (nR_ HO_9) hb); have n1_ := A_ (Kd.R_below (nR_ HO546) hb); have n2_ := A_ (below_step hb_ hb); clear HO_9 HO546 HB; have HO_9 := n0_; have HO546 := n1_; have HB := n2_; clear n0_ n1_ n2_; (try clear hb); obtain ⟨Ao47, co47, eo47⟩ := Kd.R_slice HO546.out; subst eo47; obtain ⟨Ao48, co48, eo48⟩ := Kd.R_slice HO_9.out; subst eo48))
         go_ret
         exact ⟨fr_, hb_⟩
        ·rw [if_neg c44] at H
         exact absurd H (by simp)
       ·rw [if_neg c43] at H
        exact absurd H (by simp)
      ·replace c42 := Bool.eq_false_iff.mpr c42
       subst c42
       have H1 : (none) = some r := by rw [if_neg (show ¬ (false = true) by decide)] at H; exact H
       clear H
       have H := H1
       clear H1
       exact absurd H (by simp)
    ·rw [if_neg c16] at H
     exact absurd H (by simp)
/-- THE ONE PURE STATEMENT of conclavelaw05_EuclidInverts: yours. -/
def conclavelaw05_EuclidInverts.Pure : Prop := ∀ (a0 : Int) (l1 : List Int) (l2 : List Int), (Lit.int .u8 a0).wf = true → l1.length ≤ maxLen → l1.length * 8 ≤ 140737488351232 → (∀ x ∈ l1, (Lit.int .u64 x).wf = true) → l2.length ≤ maxLen → l2.length * 8 ≤ 140737488351232 → (∀ x ∈ l2, (Lit.int .u64 x).wf = true) → ∃ k, conclavelaw05_EuclidInverts.f k a0 l1 l2 = some true
theorem conclavelaw05_EuclidInverts.walk (P : conclavelaw05_EuclidInverts.Pure) (a0 : Int) (a1 : Option Addr) (len1 cap1 : Nat) (z1 : List Int) (a2 : Option Addr) (len2 cap2 : Nat) (z2 : List Int) (w : World) (w0 : (Lit.int .u8 a0).wf = true) (w1 : (a1 = none ∧ len1 = 0 ∧ cap1 = 0 ∧ z1 = []) ∨ ∃ x, a1 = some x ∧ len1 ≤ cap1 ∧ cap1 ≤ maxLen ∧ z1.length = cap1 ∧ (∀ i, i < z1.length → w.cell? (x.add i) = some (.int .u64 (z1.getD i 0))) ∧ ∀ n ∈ z1, (Lit.int .u64 n).wf = true) (y1 : len1 * 8 ≤ 140737488351232) (w2 : (a2 = none ∧ len2 = 0 ∧ cap2 = 0 ∧ z2 = []) ∨ ∃ x, a2 = some x ∧ len2 ≤ cap2 ∧ cap2 ≤ maxLen ∧ z2.length = cap2 ∧ (∀ i, i < z2.length → w.cell? (x.add i) = some (.int .u64 (z2.getD i 0))) ∧ ∀ n ∈ z2, (Lit.int .u64 n).wf = true) (y2 : len2 * 8 ≤ 140737488351232) :
  Calls Try.prog 5 #[.int .u8 a0, .slice a1 len1 cap1, .slice a2 len2 cap2] w fun e w' => e = .returned (.bool true) ∧ Below w.heap.size w w' := by
 obtain ⟨l1, rfl, hr1, hm1, hw1, hc1⟩ := ReadsInt.ofRowC w1
 obtain ⟨l2, rfl, hr2, hm2, hw2, hc2⟩ := ReadsInt.ofRowC w2
 obtain ⟨k, h⟩ := P a0 l1 l2 w0 hm1 y1 hw1 hm2 y2 hw2
 refine (conclavelaw05_EuclidInverts.calls k a0 _ _ l1 _ _ l2 true w (Kd.C_of_reads (d := (0 : Int)) (h1 := fun _ => rfl) hr1) hc1 (Kd.C_of_reads (d := (0 : Int)) (h1 := fun _ => rfl) hr2) hc2 h).mono ?_
 rintro e w' ⟨rfl, hd⟩
 exact ⟨rfl, hd⟩
end Go.Proofs.Yteofgcmgncaojaa.PEuclidInverts
