/- The Go functions as Lean functions, each with the proof that its call comes to just that; written by a program of this session, by the words of the print. -/
import Derived.Test.YteofgcmgncaojaaPEuclidInvertsx0
import Derived.Test.YteofgcmgncaojaaPEuclidInvertsx5
import Derived.Test.YteofgcmgncaojaaPEuclidInvertsx9
namespace Go.Proofs.Yteofgcmgncaojaa.PEuclidInverts
open Go.RowKit Go.Proofs.YteofgcmgncaojaaW.PrintWords Go.Proofs.YteofgcmgncaojaaW.PrintLast Go.Proofs.YteofgcmgncaojaaW.PrintMore
attribute [local go_sem] max2_int min2_int max_two min_two max_three min_three max_four min_four   -- for this text's walks alone
set_option linter.unusedVariables false
set_option linter.unusedSimpArgs false
/-! ### conclavelaw05_anchored: function 17 -/
def conclavelaw05_anchored.f (k : Nat)  : Option (Bool) := (euclid_GCD.f k 1 (([2013265920, 0, 1] : List Int)) (([2, 2] : List Int))).bind fun bt439 => ((euclid_Modulo.f k 1 (([2] : List Int)) (([0, 1] : List Int))).bind fun bt449 => (if bt439.2 = 0 then (if bt449.2.2 = 0 then (if bt449.2.1 = true then ((cr1_Same.f k bt439.1 (([1, 1] : List Int))).bind fun t457 => (if t457 = true then ((cr1_Same.f k bt449.1 (([1006632961] : List Int))).bind fun t461 => (some t461)) else (none))) else (none)) else (none)) else (none)))
theorem conclavelaw05_anchored.mono : ∀ k, LeO (conclavelaw05_anchored.f k ) (conclavelaw05_anchored.f (k + 1) ) := by
 intro  k
 unfold conclavelaw05_anchored.f
 repeat' first
   | (with_reducible exact cr1_Same.mono _ _ _)
   | (with_reducible exact euclid_GCD.mono _ _ _ _)
   | (with_reducible exact euclid_Modulo.mono _ _ _ _)
   | (with_reducible exact LeO.refl _)
   | (with_reducible exact LeO.none _)
   | (with_reducible refine LeO.ite ?_ ?_)
   | (with_reducible refine LeO.bind ?_ (fun _ => ?_))
   | exact cr1_Same.mono _ _ _
   | exact euclid_GCD.mono _ _ _ _
   | exact euclid_Modulo.mono _ _ _ _
   | exact LeO.none _
   | refine LeO.ite ?_ ?_
   | refine LeO.bind ?_ (fun _ => ?_)
set_option maxHeartbeats 8000000 in
set_option maxRecDepth 100000 in
theorem conclavelaw05_anchored.calls (k : Nat)  (r : Bool) (w : World) (h : conclavelaw05_anchored.f k  = some r) :
  Calls Try.prog 17 #[] w fun e w' => e = .returned (.bool r) ∧ Below w.heap.size w w' := by
 have HB := A_ (Below.refl w.heap.size w)
 have H : ((euclid_GCD.f k 1 (([2013265920, 0, 1] : List Int)) (([2, 2] : List Int))).bind fun bt439 => ((euclid_Modulo.f k 1 (([2] : List Int)) (([0, 1] : List Int))).bind fun bt449 => (if bt439.2 = 0 then (if bt449.2.2 = 0 then (if bt449.2.1 = true then ((cr1_Same.f k bt439.1 (([1, 1] : List Int))).bind fun t457 => (if t457 = true then ((cr1_Same.f k bt449.1 (([1006632961] : List Int))).bind fun t461 => (some t461)) else (none))) else (none)) else (none)) else (none)))) = some r := h
 clear h
 obtain ⟨y433, hy433⟩ : ∃ y_ : List Int, y_ = (([2013265920, 0, 1] : List Int)) := ⟨_, rfl⟩
 replace H : ((euclid_GCD.f k 1 y433 (([2, 2] : List Int))).bind fun bt439 => ((euclid_Modulo.f k 1 (([2] : List Int)) (([0, 1] : List Int))).bind fun bt449 => (if bt439.2 = 0 then (if bt449.2.2 = 0 then (if bt449.2.1 = true then ((cr1_Same.f k bt439.1 (([1, 1] : List Int))).bind fun t457 => (if t457 = true then ((cr1_Same.f k bt449.1 (([1006632961] : List Int))).bind fun t461 => (some t461)) else (none))) else (none)) else (none)) else (none)))) = some r := by first | (rw [hy433]; with_reducible exact H) | (have H2_ := (Option.bind_some _ _).symm.trans H; rw [hy433]; with_reducible exact H2_) | (have H2_ := (Option.bind_some _ _).symm.trans H; with_reducible exact H2_) | with_reducible exact H | (rw [hy433]; exact H) | exact H
 have Ny433 := Aside0.mk hy433
 clear hy433
 obtain ⟨y436, hy436⟩ : ∃ y_ : List Int, y_ = (([2, 2] : List Int)) := ⟨_, rfl⟩
 replace H : ((euclid_GCD.f k 1 y433 y436).bind fun bt439 => ((euclid_Modulo.f k 1 (([2] : List Int)) (([0, 1] : List Int))).bind fun bt449 => (if bt439.2 = 0 then (if bt449.2.2 = 0 then (if bt449.2.1 = true then ((cr1_Same.f k bt439.1 (([1, 1] : List Int))).bind fun t457 => (if t457 = true then ((cr1_Same.f k bt449.1 (([1006632961] : List Int))).bind fun t461 => (some t461)) else (none))) else (none)) else (none)) else (none)))) = some r := by first | (rw [hy436]; with_reducible exact H) | (have H2_ := (Option.bind_some _ _).symm.trans H; rw [hy436]; with_reducible exact H2_) | (have H2_ := (Option.bind_some _ _).symm.trans H; with_reducible exact H2_) | with_reducible exact H | (rw [hy436]; exact H) | exact H
 have Ny436 := Aside0.mk hy436
 clear hy436
 replace H := Option.bind_eq_some_iff.mp H
 obtain ⟨⟨t439, t442⟩, A10, H⟩ := H
 (try dsimp only at H)
 have A1 := Aside0.mk A10
 clear A10
 obtain ⟨y443, hy443⟩ : ∃ y_ : List Int, y_ = (([2] : List Int)) := ⟨_, rfl⟩
 replace H : ((euclid_Modulo.f k 1 y443 (([0, 1] : List Int))).bind fun bt449 => (if t442 = 0 then (if bt449.2.2 = 0 then (if bt449.2.1 = true then ((cr1_Same.f k t439 (([1, 1] : List Int))).bind fun t457 => (if t457 = true then ((cr1_Same.f k bt449.1 (([1006632961] : List Int))).bind fun t461 => (some t461)) else (none))) else (none)) else (none)) else (none))) = some r := by first | (rw [hy443]; with_reducible exact H) | (have H2_ := (Option.bind_some _ _).symm.trans H; rw [hy443]; with_reducible exact H2_) | (have H2_ := (Option.bind_some _ _).symm.trans H; with_reducible exact H2_) | with_reducible exact H | (rw [hy443]; exact H) | exact H
 have Ny443 := Aside0.mk hy443
 clear hy443
 obtain ⟨y446, hy446⟩ : ∃ y_ : List Int, y_ = (([0, 1] : List Int)) := ⟨_, rfl⟩
 replace H : ((euclid_Modulo.f k 1 y443 y446).bind fun bt449 => (if t442 = 0 then (if bt449.2.2 = 0 then (if bt449.2.1 = true then ((cr1_Same.f k t439 (([1, 1] : List Int))).bind fun t457 => (if t457 = true then ((cr1_Same.f k bt449.1 (([1006632961] : List Int))).bind fun t461 => (some t461)) else (none))) else (none)) else (none)) else (none))) = some r := by first | (rw [hy446]; with_reducible exact H) | (have H2_ := (Option.bind_some _ _).symm.trans H; rw [hy446]; with_reducible exact H2_) | (have H2_ := (Option.bind_some _ _).symm.trans H; with_reducible exact H2_) | with_reducible exact H | (rw [hy446]; exact H) | exact H
 have Ny446 := Aside0.mk hy446
 clear hy446
 replace H := Option.bind_eq_some_iff.mp H
 obtain ⟨⟨t449, t452, t453⟩, A20, H⟩ := H
 replace H : (if t442 = 0 then (if t453 = 0 then (if t452 = true then ((cr1_Same.f k t439 (([1, 1] : List Int))).bind fun t457 => (if t457 = true then ((cr1_Same.f k t449 (([1006632961] : List Int))).bind fun t461 => (some t461)) else (none))) else (none)) else (none)) else (none)) = some r := H
 have A2 := Aside0.mk A20
 clear A20
 by_cases c3 : t442 = 0
 ·rw [if_pos c3] at H
  have c3b0 : (t442 == 0) = true := beq_iff_eq.mpr c3
  have c3b1 : (t442 != 0) = false := bne_eq_false_iff_eq.mpr c3
  clear c3
  by_cases c4 : t453 = 0
  ·rw [if_pos c4] at H
   have c4b0 : (t453 == 0) = true := beq_iff_eq.mpr c4
   have c4b1 : (t453 != 0) = false := bne_eq_false_iff_eq.mpr c4
   clear c4
   by_cases c5 : t452 = true
   ·subst c5
    have H1 : ((cr1_Same.f k t439 (([1, 1] : List Int))).bind fun t457 => (if t457 = true then ((cr1_Same.f k t449 (([1006632961] : List Int))).bind fun t461 => (some t461)) else (none))) = some r := by rw [if_pos rfl] at H; exact H
    clear H
    have H := H1
    clear H1
    obtain ⟨y454, hy454⟩ : ∃ y_ : List Int, y_ = (([1, 1] : List Int)) := ⟨_, rfl⟩
    replace H : ((cr1_Same.f k t439 y454).bind fun t457 => (if t457 = true then ((cr1_Same.f k t449 (([1006632961] : List Int))).bind fun t461 => (some t461)) else (none))) = some r := by first | (rw [hy454]; with_reducible exact H) | (have H2_ := (Option.bind_some _ _).symm.trans H; rw [hy454]; with_reducible exact H2_) | (have H2_ := (Option.bind_some _ _).symm.trans H; with_reducible exact H2_) | with_reducible exact H | (rw [hy454]; exact H) | exact H
    have Ny454 := Aside0.mk hy454
    clear hy454
    replace H := Option.bind_eq_some_iff.mp H
    obtain ⟨t457, A60, H⟩ := H
    replace H : (if t457 = true then ((cr1_Same.f k t449 (([1006632961] : List Int))).bind fun t461 => (some t461)) else (none)) = some r := H
    have A6 := Aside0.mk A60
    clear A60
    by_cases c7 : t457 = true
    ·subst c7
     have H1 : ((cr1_Same.f k t449 (([1006632961] : List Int))).bind fun t461 => (some t461)) = some r := by rw [if_pos rfl] at H; exact H
     clear H
     have H := H1
     clear H1
     obtain ⟨y458, hy458⟩ : ∃ y_ : List Int, y_ = (([1006632961] : List Int)) := ⟨_, rfl⟩
     replace H : ((cr1_Same.f k t449 y458).bind fun t461 => (some t461)) = some r := by first | (rw [hy458]; with_reducible exact H) | (have H2_ := (Option.bind_some _ _).symm.trans H; rw [hy458]; with_reducible exact H2_) | (have H2_ := (Option.bind_some _ _).symm.trans H; with_reducible exact H2_) | with_reducible exact H | (rw [hy458]; exact H) | exact H
     have Ny458 := Aside0.mk hy458
     clear hy458
     replace H := Option.bind_eq_some_iff.mp H
     obtain ⟨t461, A80, H⟩ := H
     replace H : (some t461) = some r := H
     have A8 := Aside0.mk A80
     clear A80
     obtain rfl := Option.some.inj H
     go_enter Try.func17, Try.ntmps17
     go_wp2_with (first | ((with_reducible refine gate_dst (N := 7) rfl ?_); (try (refine gate_guard (by rfl) ?_; dsimp only)); refine Kd.R_lit (Kd.int .u64) _ 40 ?hg (N := 7) ?hd (xs := ([2013265920, 0, 1] : List Int)) (inner := [.int .u64 2013265920, .int .u64 0, .int .u64 1]) (ok := fun _ => True) (okp := fun _ => True) ?hr ?hp (fun _ hk => hk) trivial (Below.refl _ _) (Nat.le_refl _) (by simp) ?_; (case hd => rfl); (case hg => rfl); (case hr => first | (go_simp; done) | (go_simp; rfl)); (case hp => exact (Reps.one (show Kd.M (Kd.int .u64) _ _ _ 2013265920 [.int .u64 2013265920] from rfl) (Reps.one (show Kd.M (Kd.int .u64) _ _ _ 0 [.int .u64 0] from rfl) (Reps.one (show Kd.M (Kd.int .u64) _ _ _ 1 [.int .u64 1] from rfl) (Reps.none _ _))))); intro v434 w9 ho10 hb hg_ hnew_; clear hg_ hnew_; (first | rw [← Ny433.out] at ho10 | (simp only [Int.reduceToNat] at ho10; rw [← Ny433.out] at ho10)); have n0_ := A_ (Kd.R_lower (Kd.R_mono (ok' := fun _ => True) ho10 (fun _ _ => trivial)) (below_size hb_)); have n1_ := A_ (below_step hb_ hb); clear HB; have HO435 := n0_; have HB := n1_; clear n0_ n1_; clear hb ho10) | ((with_reducible refine gate_dst (N := 8) rfl ?_); (try (refine gate_guard (by rfl) ?_; dsimp only)); refine Kd.R_lit (Kd.int .u64) _ 40 ?hg (N := 8) ?hd (xs := ([2, 2] : List Int)) (inner := [.int .u64 2, .int .u64 2]) (ok := fun _ => True) (okp := fun _ => True) ?hr ?hp (fun _ hk => hk) trivial (Below.refl _ _) (Nat.le_refl _) (by simp) ?_; (case hd => rfl); (case hg => rfl); (case hr => first | (go_simp; done) | (go_simp; rfl)); (case hp => exact (Reps.one (show Kd.M (Kd.int .u64) _ _ _ 2 [.int .u64 2] from rfl) (Reps.one (show Kd.M (Kd.int .u64) _ _ _ 2 [.int .u64 2] from rfl) (Reps.none _ _)))); intro v437 w11 ho12 hb hg_ hnew_; clear hg_ hnew_; (first | rw [← Ny436.out] at ho12 | (simp only [Int.reduceToNat] at ho12; rw [← Ny436.out] at ho12)); have n0_ := A_ (Kd.R_below (nR_ HO435) hb); have n1_ := A_ (Kd.R_lower (Kd.R_mono (ok' := fun _ => True) ho12 (fun _ _ => trivial)) (below_size hb_)); have n2_ := A_ (below_step hb_ hb); clear HO435 HB; have HO435 := n0_; have HO438 := n1_; have HB := n2_; clear n0_ n1_ n2_; clear hb ho12; obtain ⟨Ao13, co13, eo13⟩ := Kd.R_slice HO435.out; subst eo13; obtain ⟨Ao14, co14, eo14⟩ := Kd.R_slice HO438.out; subst eo14) | ((with_reducible refine gate_callee (f := 10) rfl ?_); refine goesM_ (some 9) Try.func10 #[.int .u8 1, .slice Ao13 y433.length co13, .slice Ao14 y436.length co14] ?_; (with_reducible refine (euclid_GCD.calls k 1 (fun k_ => some k_ = (.slice Ao13 y433.length co13 : Value).ownBlock) _ _ y433 (fun k_ => some k_ = (.slice Ao14 y436.length co14 : Value).ownBlock) _ _ y436 t439 t442 _ ?side1 ?side2 A1.out).mono ?_); (case side1 => exact Kd.R_V (Kd.R_tight rfl (HO435.out))); (case side2 => exact Kd.R_V (Kd.R_tight rfl (HO438.out))); rintro e w15 ⟨v440, rfl, ho0, hb⟩; refine ⟨_, rfl, ?_⟩; have n0_ := A_ (Kd.R_below (nR_ HO435) hb); have n1_ := A_ (Kd.R_below (nR_ HO438) hb); have n2_ := A_ (Kd.R_lower (Kd.R_mono (ok' := fun k_ => True) ho0 (fun _ hk_ => trivial)) (below_size hb_)); have n3_ := A_ (below_step hb_ hb); clear HO435 HO438 HB; have HO435 := n0_; have HO438 := n1_; have HO441 := n2_; have HB := n3_; clear n0_ n1_ n2_ n3_; (try clear hb); (try clear ho0)) | ((with_reducible refine gate_dst (N := 13) rfl ?_); (try (refine gate_guard (by rfl) ?_; dsimp only)); refine Kd.R_lit (Kd.int .u64) _ 40 ?hg (N := 13) ?hd (xs := ([2] : List Int)) (inner := [.int .u64 2]) (ok := fun _ => True) (okp := fun _ => True) ?hr ?hp (fun _ hk => hk) trivial (Below.refl _ _) (Nat.le_refl _) (by simp) ?_; (case hd => rfl); (case hg => rfl); (case hr => first | (go_simp; done) | (go_simp; rfl)); (case hp => exact (Reps.one (show Kd.M (Kd.int .u64) _ _ _ 2 [.int .u64 2] from rfl) (Reps.none _ _))); intro v444 w16 ho17 hb hg_ hnew_; clear hg_ hnew_; (first | rw [← Ny443.out] at ho17 | (simp only [Int.reduceToNat] at ho17; rw [← Ny443.out] at ho17)); have n0_ := A_ (Kd.R_below (nR_ HO435) hb); have n1_ := A_ (Kd.R_below (nR_ HO438) hb); have n2_ := A_ (Kd.R_below (nR_ HO441) hb); have n3_ := A_ (Kd.R_lower (Kd.R_mono (ok' := fun _ => True) ho17 (fun _ _ => trivial)) (below_size hb_)); have n4_ := A_ (below_step hb_ hb); clear HO435 HO438 HO441 HB; have HO435 := n0_; have HO438 := n1_; have HO441 := n2_; have HO445 := n3_; have HB := n4_; clear n0_ n1_ n2_ n3_ n4_; clear hb ho17) | ((with_reducible refine gate_dst (N := 14) rfl ?_); (try (refine gate_guard (by rfl) ?_; dsimp only)); refine Kd.R_lit (Kd.int .u64) _ 40 ?hg (N := 14) ?hd (xs := ([0, 1] : List Int)) (inner := [.int .u64 0, .int .u64 1]) (ok := fun _ => True) (okp := fun _ => True) ?hr ?hp (fun _ hk => hk) trivial (Below.refl _ _) (Nat.le_refl _) (by simp) ?_; (case hd => rfl); (case hg => rfl); (case hr => first | (go_simp; done) | (go_simp; rfl)); (case hp => exact (Reps.one (show Kd.M (Kd.int .u64) _ _ _ 0 [.int .u64 0] from rfl) (Reps.one (show Kd.M (Kd.int .u64) _ _ _ 1 [.int .u64 1] from rfl) (Reps.none _ _)))); intro v447 w18 ho19 hb hg_ hnew_; clear hg_ hnew_; (first | rw [← Ny446.out] at ho19 | (simp only [Int.reduceToNat] at ho19; rw [← Ny446.out] at ho19)); have n0_ := A_ (Kd.R_below (nR_ HO435) hb); have n1_ := A_ (Kd.R_below (nR_ HO438) hb); have n2_ := A_ (Kd.R_below (nR_ HO441) hb); have n3_ := A_ (Kd.R_below (nR_ HO445) hb); have n4_ := A_ (Kd.R_lower (Kd.R_mono (ok' := fun _ => True) ho19 (fun _ _ => trivial)) (below_size hb_)); have n5_ := A_ (below_step hb_ hb); clear HO435 HO438 HO441 HO445 HB; have HO435 := n0_; have HO438 := n1_; have HO441 := n2_; have HO445 := n3_; have HO448 := n4_; have HB := n5_; clear n0_ n1_ n2_ n3_ n4_ n5_; clear hb ho19; obtain ⟨Ao20, co20, eo20⟩ := Kd.R_slice HO445.out; subst eo20; obtain ⟨Ao21, co21, eo21⟩ := Kd.R_slice HO448.out; subst eo21) | ((with_reducible refine gate_callee (f := 12) rfl ?_); refine goesM_ (some 15) Try.func12 #[.int .u8 1, .slice Ao20 y443.length co20, .slice Ao21 y446.length co21] ?_; (with_reducible refine (euclid_Modulo.calls k 1 (fun k_ => some k_ = (.slice Ao20 y443.length co20 : Value).ownBlock) _ _ y443 (fun k_ => some k_ = (.slice Ao21 y446.length co21 : Value).ownBlock) _ _ y446 t449 true t453 _ ?side1 ?side2 A2.out).mono ?_); (case side1 => exact Kd.R_V (Kd.R_tight rfl (HO445.out))); (case side2 => exact Kd.R_V (Kd.R_tight rfl (HO448.out))); rintro e w22 ⟨v450, rfl, ho0, hb⟩; refine ⟨_, rfl, ?_⟩; have n0_ := A_ (Kd.R_below (nR_ HO435) hb); have n1_ := A_ (Kd.R_below (nR_ HO438) hb); have n2_ := A_ (Kd.R_below (nR_ HO441) hb); have n3_ := A_ (Kd.R_below (nR_ HO445) hb); have n4_ := A_ (Kd.R_below (nR_ HO448) hb); have n5_ := A_ (Kd.R_lower (Kd.R_mono (ok' := fun k_ => True) ho0 (fun _ hk_ => trivial)) (below_size hb_)); have n6_ := A_ (below_step hb_ hb); clear HO435 HO438 HO441 HO445 HO448 HB; have HO435 := n0_; have HO438 := n1_; have HO441 := n2_; have HO445 := n3_; have HO448 := n4_; have HO451 := n5_; have HB := n6_; clear n0_ n1_ n2_ n3_ n4_ n5_ n6_; (try clear hb); (try clear ho0)) | ((with_reducible refine gate_dst (N := 30) rfl ?_); (try (refine gate_guard (by rfl) ?_; dsimp only)); refine Kd.R_lit (Kd.int .u64) _ 40 ?hg (N := 30) ?hd (xs := ([1, 1] : List Int)) (inner := [.int .u64 1, .int .u64 1]) (ok := fun _ => True) (okp := fun _ => True) ?hr ?hp (fun _ hk => hk) trivial (Below.refl _ _) (Nat.le_refl _) (by simp) ?_; (case hd => rfl); (case hg => rfl); (case hr => first | (go_simp; done) | (go_simp; rfl)); (case hp => exact (Reps.one (show Kd.M (Kd.int .u64) _ _ _ 1 [.int .u64 1] from rfl) (Reps.one (show Kd.M (Kd.int .u64) _ _ _ 1 [.int .u64 1] from rfl) (Reps.none _ _)))); intro v455 w23 ho24 hb hg_ hnew_; clear hg_ hnew_; (first | rw [← Ny454.out] at ho24 | (simp only [Int.reduceToNat] at ho24; rw [← Ny454.out] at ho24)); have n0_ := A_ (Kd.R_below (nR_ HO435) hb); have n1_ := A_ (Kd.R_below (nR_ HO438) hb); have n2_ := A_ (Kd.R_below (nR_ HO441) hb); have n3_ := A_ (Kd.R_below (nR_ HO445) hb); have n4_ := A_ (Kd.R_below (nR_ HO448) hb); have n5_ := A_ (Kd.R_below (nR_ HO451) hb); have n6_ := A_ (Kd.R_lower (Kd.R_mono (ok' := fun _ => True) ho24 (fun _ _ => trivial)) (below_size hb_)); have n7_ := A_ (below_step hb_ hb); clear HO435 HO438 HO441 HO445 HO448 HO451 HB; have HO435 := n0_; have HO438 := n1_; have HO441 := n2_; have HO445 := n3_; have HO448 := n4_; have HO451 := n5_; have HO456 := n6_; have HB := n7_; clear n0_ n1_ n2_ n3_ n4_ n5_ n6_ n7_; clear hb ho24; obtain ⟨Ao25, co25, eo25⟩ := Kd.R_slice HO441.out; subst eo25; obtain ⟨Ao26, co26, eo26⟩ := Kd.R_slice HO456.out; subst eo26) | (go_at_call 14; (with_reducible refine (cr1_Same.calls k _ _ t439 _ _ y454 true _ ?side1 ?side2 ?side3 ?side4 A6.out).mono ?_); (case side1 => repeat (first | exact (Kd.R_reads' HO441.out).2.2 | (with_reducible refine Kd.C_alloc ?_ _) | (with_reducible refine Kd.C_drewN ?_ _) | (with_reducible refine Kd.C_drew ?_))); (case side2 => exact (Kd.R_reads' HO441.out).2.1); (case side3 => repeat (first | exact (Kd.R_reads' HO456.out).2.2 | (with_reducible refine Kd.C_alloc ?_ _) | (with_reducible refine Kd.C_drewN ?_ _) | (with_reducible refine Kd.C_drew ?_))); (case side4 => exact (Kd.R_reads' HO456.out).2.1); rintro e w' ⟨rfl, ⟨nd, rfl⟩⟩) | ((with_reducible refine gate_dst (N := 35) rfl ?_); (try (refine gate_guard (by rfl) ?_; dsimp only)); refine Kd.R_lit (Kd.int .u64) _ 40 ?hg (N := 35) ?hd (xs := ([1006632961] : List Int)) (inner := [.int .u64 1006632961]) (ok := fun _ => True) (okp := fun _ => True) ?hr ?hp (fun _ hk => hk) trivial (Below.refl _ _) (Nat.le_refl _) (by simp) ?_; (case hd => rfl); (case hg => rfl); (case hr => first | (go_simp; done) | (go_simp; rfl)); (case hp => exact (Reps.one (show Kd.M (Kd.int .u64) _ _ _ 1006632961 [.int .u64 1006632961] from rfl) (Reps.none _ _))); intro v459 w27 ho28 hb hg_ hnew_; clear hg_ hnew_; (first | rw [← Ny458.out] at ho28 | (simp only [Int.reduceToNat] at ho28; rw [← Ny458.out] at ho28)); have n0_ := A_ (Kd.R_below (nR_ HO435) hb); have n1_ := A_ (Kd.R_below (nR_ HO438) hb); have n2_ := A_ (Kd.R_below (nR_ HO441) hb); have n3_ := A_ (Kd.R_below (nR_ HO445) hb); have n4_ := A_ (Kd.R_below (nR_ HO448) hb); have n5_ := A_ (Kd.R_below (nR_ HO451) hb); have n6_ := A_ (Kd.R_below (nR_ HO456) hb); have n7_ := A_ (Kd.R_lower (Kd.R_mono (ok' := fun _ => True) ho28 (fun _ _ => trivial)) (below_size hb_)); have n8_ := A_ (below_step hb_ hb); clear HO435 HO438 HO441 HO445 HO448 HO451 HO456 HB; have HO435 := n0_; have HO438 := n1_; have HO441 := n2_; have HO445 := n3_; have HO448 := n4_; have HO451 := n5_; have HO456 := n6_; have HO460 := n7_; have HB := n8_; clear n0_ n1_ n2_ n3_ n4_ n5_ n6_ n7_ n8_; clear hb ho28; obtain ⟨Ao29, co29, eo29⟩ := Kd.R_slice HO451.out; subst eo29; obtain ⟨Ao30, co30, eo30⟩ := Kd.R_slice HO460.out; subst eo30) | (go_at_call 14; (with_reducible refine (cr1_Same.calls k _ _ t449 _ _ y458 t461 _ ?side1 ?side2 ?side3 ?side4 A8.out).mono ?_); (case side1 => repeat (first | exact (Kd.R_reads' HO451.out).2.2 | (with_reducible refine Kd.C_alloc ?_ _) | (with_reducible refine Kd.C_drewN ?_ _) | (with_reducible refine Kd.C_drew ?_))); (case side2 => exact (Kd.R_reads' HO451.out).2.1); (case side3 => repeat (first | exact (Kd.R_reads' HO460.out).2.2 | (with_reducible refine Kd.C_alloc ?_ _) | (with_reducible refine Kd.C_drewN ?_ _) | (with_reducible refine Kd.C_drew ?_))); (case side4 => exact (Kd.R_reads' HO460.out).2.1); rintro e w' ⟨rfl, ⟨nd, rfl⟩⟩))
     go_ret
     exact ⟨fr_, hb_⟩
    ·replace c7 := Bool.eq_false_iff.mpr c7
     subst c7
     have H1 : (none) = some r := by rw [if_neg (show ¬ (false = true) by decide)] at H; exact H
     clear H
     have H := H1
     clear H1
     exact absurd H (by simp)
   ·replace c5 := Bool.eq_false_iff.mpr c5
    subst c5
    have H1 : (none) = some r := by rw [if_neg (show ¬ (false = true) by decide)] at H; exact H
    clear H
    have H := H1
    clear H1
    exact absurd H (by simp)
  ·rw [if_neg c4] at H
   exact absurd H (by simp)
 ·rw [if_neg c3] at H
  exact absurd H (by simp)
/-! ### cr1_Copy: function 44 -/
def cr1_Copy.f (l0 : List Int) : Option (List Int) := (some (([] : List Int) : List Int)).bind fun y462 => (if y462.length + l0.length < 17592186044416 then (some (y462 ++ l0)) else (none))
set_option maxHeartbeats 8000000 in
set_option maxRecDepth 100000 in
theorem cr1_Copy.calls (A0 : Option Addr) (c0 : Nat) (l0 : List Int) (r : List Int) (w : World) (hr0 : Kd.C (Kd.int .u64) w A0 l0.length l0) (hc0 : l0.length ≤ c0) (h : cr1_Copy.f l0 = some r) :
  Calls Try.prog 44 #[.slice A0 l0.length c0] w fun e w' => ∃ v0_ : Value, e = .returned (v0_) ∧ Kd.R (Kd.int .u64) 40 w' w.heap.size (fun _ => True) v0_ r ∧ Below w.heap.size w w' := by
 have HR0 := Aside0.mk hr0
 have HC0 := Aside0.mk hc0
 clear hr0 hc0
 have HB := A_ (Below.refl w.heap.size w)
 have H : ((some (([] : List Int) : List Int)).bind fun y462 => (if y462.length + l0.length < 17592186044416 then (some (y462 ++ l0)) else (none))) = some r := h
 clear h
 obtain ⟨y462, hy462⟩ : ∃ y_ : List Int, y_ = (([] : List Int)) := ⟨_, rfl⟩
 replace H : (if y462.length + l0.length < 17592186044416 then (some (y462 ++ l0)) else (none)) = some r := by first | (rw [hy462]; with_reducible exact H) | (have H2_ := (Option.bind_some _ _).symm.trans H; rw [hy462]; with_reducible exact H2_) | (have H2_ := (Option.bind_some _ _).symm.trans H; with_reducible exact H2_) | with_reducible exact H | (rw [hy462]; exact H) | exact H
 have Ny462 := Aside0.mk hy462
 clear hy462
 by_cases c2 : y462.length + l0.length < 17592186044416
 ·rw [if_pos c2] at H
  have LMc2 := Aside0.mk c2
  clear c2
  obtain ⟨y465, hy465⟩ : ∃ y_ : List Int, y_ = (y462 ++ l0) := ⟨_, rfl⟩
  replace H : (some y465) = some r := by first | (rw [hy465]; with_reducible exact H) | (have H2_ := (Option.bind_some _ _).symm.trans H; rw [hy465]; with_reducible exact H2_) | (have H2_ := (Option.bind_some _ _).symm.trans H; with_reducible exact H2_) | with_reducible exact H | (rw [hy465]; exact H) | exact H
  have Ny465 := Aside0.mk hy465
  clear hy465
  obtain rfl := Option.some.inj H
  go_enter Try.func44, Try.ntmps44
  go_wp2_with (first | ((with_reducible refine gate_dst (N := 3) rfl ?_); refine Kd.R_lit (Kd.int .u64) _ 40 ?hg (N := 3) ?hd (xs := ([] : List Int)) (inner := []) (ok := fun _ => True) (okp := fun _ => True) ?hr ?hp (fun _ hk => hk) trivial (Below.refl _ _) (Nat.le_refl _) (by simp) ?_; (case hd => rfl); (case hg => rfl); (case hr => first | (go_simp; done) | (go_simp; rfl)); (case hp => exact (Reps.none _ _)); intro v463 w3 ho4 hb hg_ hnew_; clear hg_ hnew_; (first | rw [← Ny462.out] at ho4 | (simp only [Int.reduceToNat] at ho4; rw [← Ny462.out] at ho4)); have n0_ := A_ (Kd.R_lower ho4 (below_size hb_)); have n1_ := A_ (below_step hb_ hb); clear HB; have HO464 := n0_; have HB := n1_; clear n0_ n1_; clear hb ho4) | ((with_reducible refine gate_builtin (b := .append) (xs := #[.tmp 3, .tmp 4]) rfl ?_); at_builtin; refine Kd.R_append_rows (Kd.int .u64) (w0 := w) w.heap.size rfl (.tmp 3) (.tmp 4) 22 40 (.int .u64 0) 8 rfl Try.underlying22 info40 rfl (by decide) (by omega) v463 y462 l0 _ _ _ (fun _ => True) (fun _ => False) rfl rfl ?aO ?aR (fun _ _ h => h) (fun _ h => h.elim) ?aF ?aB ?aS ?aL ?_; (case aR => repeat (first | exact (Kd.C_below HR0.out HB.out) | (with_reducible refine Kd.C_alloc ?_ _) | (with_reducible refine Kd.C_drewN ?_ _) | (with_reducible refine Kd.C_drew ?_))); (case aB => exact hb_); (case aF => exact (fun _ _ => trivial)); (case aO => exact (nR_ HO464)); (case aS => exact (below_size hb_)); (case aL => have := LMc2.out; omega); intro v466 w5 ho hb hg hat; rw [← Ny465.out] at ho; have n0_ := A_ (hb); have n1_ := A_ (ho); clear HB HO464; have HB := n0_; have HO467 := n1_; clear n0_ n1_; clear ho hb hg hat))
  go_ret
  exact ⟨_, fr_, nR_ HO467, hb_⟩
 ·rw [if_neg c2] at H
  exact absurd H (by simp)
/-! ### cr3_Trim: function 20 -/
def cr3_Trim.l0 : Nat → List Int → Int → Option (List Int)
 | 0, _, _ => none
 | k + 1, x0, x3 => if x3 > 0 then (if 0 ≤ (wrap64 (x3 - 1)) then (if (wrap64 (x3 - 1)) < (x0.length : Int) then (if (rd x0 (wrap64 (x3 - 1))) = 0 then (cr3_Trim.l0 k x0 (wrap64 (x3 - 1))) else (if 0 ≤ x3 then (if x3 ≤ (x0.length : Int) then ((cr1_Copy.f (x0.take (x3 : Int).toNat)).bind fun t470 => (some t470)) else (none)) else (none))) else (none)) else (none)) else (if 0 ≤ x3 then (if x3 ≤ (x0.length : Int) then ((cr1_Copy.f (x0.take (x3 : Int).toNat)).bind fun t474 => (some t474)) else (none)) else (none))
def cr3_Trim.f (k : Nat) (l0 : List Int) : Option (List Int) := cr3_Trim.l0 k l0 (l0.length : Int)
theorem cr3_Trim.mono_l : ∀ k, (∀ y0 y1, LeO (cr3_Trim.l0 k y0 y1) (cr3_Trim.l0 (k + 1) y0 y1))
 | 0 => fun _ _ r h => by simp [cr3_Trim.l0] at h
 | k + 1 => by
  have ih0 := cr3_Trim.mono_l k
  ·intro y0 y1
   unfold cr3_Trim.l0
   repeat' first
   | (with_reducible exact ih0 _ _)
   | (with_reducible exact LeO.refl _)
   | (with_reducible exact LeO.none _)
   | (with_reducible refine LeO.ite ?_ ?_)
   | (with_reducible refine LeO.bind ?_ (fun _ => ?_))
   | exact ih0 _ _
   | exact LeO.none _
   | refine LeO.ite ?_ ?_
   | refine LeO.bind ?_ (fun _ => ?_)
theorem cr3_Trim.mono : ∀ a0 k, LeO (cr3_Trim.f k a0) (cr3_Trim.f (k + 1) a0) := by
 intro a0 k
 have ih0 := cr3_Trim.mono_l k
 unfold cr3_Trim.f
 repeat' first
   | (with_reducible exact ih0 _ _)
   | (with_reducible exact LeO.refl _)
   | (with_reducible exact LeO.none _)
   | (with_reducible refine LeO.ite ?_ ?_)
   | (with_reducible refine LeO.bind ?_ (fun _ => ?_))
   | exact ih0 _ _
   | exact LeO.none _
   | refine LeO.ite ?_ ?_
   | refine LeO.bind ?_ (fun _ => ?_)
set_option maxHeartbeats 8000000 in
set_option maxRecDepth 100000 in
theorem cr3_Trim.calls (k : Nat) (A0 : Option Addr) (c0 : Nat) (l0 : List Int) (r : List Int) (w : World) (hr0 : Kd.C (Kd.int .u64) w A0 l0.length l0) (hc0 : l0.length ≤ c0) (h : cr3_Trim.f k l0 = some r) :
  Calls Try.prog 20 #[.slice A0 l0.length c0] w fun e w' => ∃ v0_ : Value, e = .returned (v0_) ∧ Kd.R (Kd.int .u64) 40 w' w.heap.size (fun _ => True) v0_ r ∧ Below w.heap.size w w' := by
 have HR0 := Aside0.mk hr0
 have HC0 := Aside0.mk hc0
 clear hr0 hc0
 have HB := A_ (Below.refl w.heap.size w)
 have H : (cr3_Trim.l0 k l0 (l0.length : Int)) = some r := h
 clear h
 have H' := Aside0.mk H
 clear H
 go_enter Try.func20, Try.ntmps20
 go_wp2
 go_loopg [3] k (fun kq v3 w' => ∃ (x3_1 : Int), v3 = .int .i64 x3_1 ∧ Aside0 (cr3_Trim.l0 kq l0 x3_1 = some r) ∧ Aside0 (kq ≤ k) ∧ Aside0 (Below w.heap.size w w'))
 case atStart => exact ⟨((l0.length : Int)), (fs_), H', ⟨Nat.le_refl _⟩, ⟨by repeat (first | (with_reducible first | exact HB.out | apply below_alloc | apply pw_below_drewN | apply below_drew1) | exact HB.out)⟩⟩
 case round =>
  clear H'
  obtain ⟨x3_1, rfl, HA, HK1, HB⟩ := hrel
  cases gk with
  | zero => exact absurd HA.out (by simp [cr3_Trim.l0])
  | succ k1 =>
   have H := HA.out
   clear HA
   simp only [cr3_Trim.l0] at H
   by_cases c2 : x3_1 > 0
   ·rw [if_pos c2] at H
    have c2b0 : decide (0 < x3_1) = true := decide_eq_true c2
    clear c2
    obtain ⟨ji3, hji3⟩ : ∃ j_ : Int, (wrap64 (x3_1 - 1)) = j_ := ⟨_, rfl⟩
    replace H : (if 0 ≤ (ji3) then (if (ji3) < (l0.length : Int) then (if (rd l0 (ji3)) = 0 then (cr3_Trim.l0 k1 l0 ji3) else (if 0 ≤ x3_1 then (if x3_1 ≤ (l0.length : Int) then ((cr1_Copy.f (l0.take (x3_1 : Int).toNat)).bind fun t470 => (some t470)) else (none)) else (none))) else (none)) else (none)) = some r := by first | (rw [hji3] at H; exact H) | (simp only [hji3] at H ⊢; exact H)
    have hji3w : (IntKind.i64.wrap (x3_1 - 1)) = ji3 := (i64_w _).trans hji3
    by_cases c4 : 0 ≤ (ji3)
    ·rw [if_pos c4] at H
     have c4b0 : decide (0 ≤ (ji3)) = true := decide_eq_true c4
     clear c4
     by_cases c5 : (ji3) < (l0.length : Int)
     ·rw [if_pos c5] at H
      have c5b0 : decide ((ji3) < (l0.length : Int)) = true := decide_eq_true c5
      clear c5
      have HC6 := Aside0.mk H
      clear H
      have p468 : 0 ≤ ((ji3) : Int) := of_decide_eq_true (by first | (with_reducible assumption) | assumption)
      have q468 : (ji3) < (l0.length : Int) := of_decide_eq_true (by first | (with_reducible assumption) | assumption)
      obtain ⟨ad468, e468, hx468_0⟩ := Kd.at_int HR0.out (ji3) p468 q468
      cases e468
      replace hx468_0 := (HB.out.cell (World.block_lt_of_cell? w _ hx468_0)).trans hx468_0
      replace p468 := eq_true p468
      replace q468 := eq_true q468
      go_upto_if 15 with (fail)
      have H := HC6.out
      clear HC6
      by_cases c7 : (rd l0 (ji3)) = 0
      ·rw [if_pos c7] at H
       have c7b0 : ((rd l0 (ji3)) == 0) = true := beq_iff_eq.mpr c7
       have c7b1 : ((rd l0 (ji3)) != 0) = false := bne_eq_false_iff_eq.mpr c7
       clear c7
       (first | rw [c7b0] | rw [c7b1] | (simp only [i64_w, i32_w]; first | rw [c7b0] | rw [c7b1]) | skip)
       have H' := Aside0.mk H
       clear H
       go_wp2
       go_roundg k1
       case measure => have := HK1.out; omega
       case rel => exact ⟨(ji3), (by first | rfl | (simp; done) | (simp only [← hji3] <;> (first | rfl | simp)) | (simp [*]; done)), H', ⟨by have := HK1.out; omega⟩, ⟨by repeat (first | (with_reducible first | exact HB.out | apply below_alloc | apply pw_below_drewN | apply below_drew1) | exact HB.out)⟩⟩
      ·rw [if_neg c7] at H
       have c7b0 : ((rd l0 (ji3)) == 0) = false := beq_eq_false_iff_ne.mpr c7
       have c7b1 : ((rd l0 (ji3)) != 0) = true := bne_iff_ne.mpr c7
       (first | rw [c7b0] | rw [c7b1] | (simp only [i64_w, i32_w]; first | rw [c7b0] | rw [c7b1]) | skip)
       by_cases c8 : 0 ≤ x3_1
       ·rw [if_pos c8] at H
        have c8b0 := eq_true c8
        have c8b1 : decide (0 ≤ x3_1) = true := decide_eq_true c8
        clear c8
        by_cases c9 : x3_1 ≤ (l0.length : Int)
        ·rw [if_pos c9] at H
         have c9b0 := eq_true c9
         have c9b1 : decide (x3_1 ≤ (l0.length : Int)) = true := decide_eq_true c9
         clear c9
         replace H := Option.bind_eq_some_iff.mp H
         obtain ⟨t470, A100, H⟩ := H
         replace H : (some t470) = some r := H
         have A10 := Aside0.mk A100
         clear A100
         obtain rfl := Option.some.inj H
         obtain ⟨i011, hi011, _, hsz11, _⟩ := info_parts info40
         obtain ⟨hcut11, hA11, hC11⟩ := print_take_of (P := Try.prog) (Value.int .u64) 0 22 40 .i64 Try.underlying22 hi011 hsz11 (some ad468) c0 l0 x3_1 (of_decide_eq_true (by first | (with_reducible assumption) | assumption)) (of_decide_eq_true (by first | (with_reducible assumption) | assumption)) HC0.out
         have HR469 := A_ (Kd.C_of_reads (h1 := fun _ => rfl) (hA11 _ (Kd.reads_of_C HR0.out)))
         have HC469 := Aside0.mk hC11
         clear hA11 hC11 hi011 hsz11
         go_wp2_with (first | ((with_reducible refine gate_callee (f := 44) rfl ?_); refine goesL_ (some 21) rfl rfl Try.func44 (by kernel_rfl) rfl #[.slice (some ad468) (l0.take (x3_1 : Int).toNat).length c0] rfl (by (try simp only [List.map_toArray, List.map_cons, List.map_nil]); first | done | (rw [show (l0.take (x3_1 : Int).toNat).length = x3_1.toNat from (by rw [List.length_take]; have h_ : (x3_1 : Int) ≤ (l0.length : Int) := of_decide_eq_true (by first | (with_reducible assumption) | assumption); omega)] <;> rfl) | rfl | (simp only [List.length_drop, List.length_take]; rfl)) ?_; (with_reducible refine (cr1_Copy.calls _ _ (l0.take (x3_1 : Int).toNat) t470 _ ?side1 ?side2 A10.out).mono ?_); (case side1 => repeat (first | exact (Kd.C_below HR469.out HB.out) | (with_reducible refine Kd.C_alloc ?_ _) | (with_reducible refine Kd.C_drewN ?_ _) | (with_reducible refine Kd.C_drew ?_))); (case side2 => exact HC469.out); rintro e w12 ⟨v471, rfl, ho0, hb⟩; refine ⟨_, rfl, ?_⟩; have n0_ := A_ (Kd.R_lower ho0 (below_size hb_)); have n1_ := A_ (below_step hb_ hb); clear HB; have HO472 := n0_; have HB := n1_; clear n0_ n1_; (try clear hb); (try clear ho0)))
         go_ret
         exact ⟨_, by first | rfl | (simp [errW_none, errW_some] <;> rfl) | (simp only [← hji3]; first | rfl | (simp [errW_none, errW_some] <;> rfl)) | (simp [*, errW_none, errW_some] <;> rfl), nR_ HO472, hb_⟩
        ·rw [if_neg c9] at H
         exact absurd H (by simp)
       ·rw [if_neg c8] at H
        exact absurd H (by simp)
     ·rw [if_neg c5] at H
      exact absurd H (by simp)
    ·rw [if_neg c4] at H
     exact absurd H (by simp)
   ·rw [if_neg c2] at H
    have c2b0 : decide (0 < x3_1) = false := decide_eq_false c2
    clear c2
    by_cases c13 : 0 ≤ x3_1
    ·rw [if_pos c13] at H
     have c13b0 := eq_true c13
     have c13b1 : decide (0 ≤ x3_1) = true := decide_eq_true c13
     clear c13
     by_cases c14 : x3_1 ≤ (l0.length : Int)
     ·rw [if_pos c14] at H
      have c14b0 := eq_true c14
      have c14b1 : decide (x3_1 ≤ (l0.length : Int)) = true := decide_eq_true c14
      clear c14
      replace H := Option.bind_eq_some_iff.mp H
      obtain ⟨t474, A150, H⟩ := H
      replace H : (some t474) = some r := H
      have A15 := Aside0.mk A150
      clear A150
      obtain rfl := Option.some.inj H
      obtain ⟨i016, hi016, _, hsz16, _⟩ := info_parts info40
      obtain ⟨hcut16, hA16, hC16⟩ := print_take_of (P := Try.prog) (Value.int .u64) 0 22 40 .i64 Try.underlying22 hi016 hsz16 A0 c0 l0 x3_1 (of_decide_eq_true (by first | (with_reducible assumption) | assumption)) (of_decide_eq_true (by first | (with_reducible assumption) | assumption)) HC0.out
      have HR473 := A_ (Kd.C_of_reads (h1 := fun _ => rfl) (hA16 _ (Kd.reads_of_C HR0.out)))
      have HC473 := Aside0.mk hC16
      clear hA16 hC16 hi016 hsz16
      go_wp2_with (first | ((with_reducible refine gate_callee (f := 44) rfl ?_); refine goesL_ (some 21) rfl rfl Try.func44 (by kernel_rfl) rfl #[.slice A0 (l0.take (x3_1 : Int).toNat).length c0] rfl (by (try simp only [List.map_toArray, List.map_cons, List.map_nil]); first | done | (rw [show (l0.take (x3_1 : Int).toNat).length = x3_1.toNat from (by rw [List.length_take]; have h_ : (x3_1 : Int) ≤ (l0.length : Int) := of_decide_eq_true (by first | (with_reducible assumption) | assumption); omega)] <;> rfl) | rfl | (simp only [List.length_drop, List.length_take]; rfl)) ?_; (with_reducible refine (cr1_Copy.calls _ _ (l0.take (x3_1 : Int).toNat) t474 _ ?side1 ?side2 A15.out).mono ?_); (case side1 => repeat (first | exact (Kd.C_below HR473.out HB.out) | (with_reducible refine Kd.C_alloc ?_ _) | (with_reducible refine Kd.C_drewN ?_ _) | (with_reducible refine Kd.C_drew ?_))); (case side2 => exact HC473.out); rintro e w17 ⟨v475, rfl, ho0, hb⟩; refine ⟨_, rfl, ?_⟩; have n0_ := A_ (Kd.R_lower ho0 (below_size hb_)); have n1_ := A_ (below_step hb_ hb); clear HB; have HO476 := n0_; have HB := n1_; clear n0_ n1_; (try clear hb); (try clear ho0)))
      go_ret
      exact ⟨_, fr_, nR_ HO476, hb_⟩
     ·rw [if_neg c14] at H
      exact absurd H (by simp)
    ·rw [if_neg c13] at H
     exact absurd H (by simp)
/-! ### cr1_Sum: function 41 -/
def cr1_Sum.f (a0 : Int) (a1 : Int) (a2 : Int) : Option (Int) := if a1 ≥ (IntKind.u64.wrap (a0 - a2)) then (some (IntKind.u64.wrap (a1 - (IntKind.u64.wrap (a0 - a2))))) else (some (IntKind.u64.wrap (a1 + a2)))
set_option maxHeartbeats 8000000 in
set_option maxRecDepth 100000 in
theorem cr1_Sum.calls (a0 : Int) (a1 : Int) (a2 : Int) (r : Int) (w : World) (h : cr1_Sum.f a0 a1 a2 = some r) :
  Calls Try.prog 41 #[.int .u64 a0, .int .u64 a1, .int .u64 a2] w fun e w' => e = .returned (.int .u64 r) ∧ Drawn0 w w' := by
 have H : (if a1 ≥ (IntKind.u64.wrap (a0 - a2)) then (some (IntKind.u64.wrap (a1 - (IntKind.u64.wrap (a0 - a2))))) else (some (IntKind.u64.wrap (a1 + a2)))) = some r := h
 clear h
 by_cases c4 : a1 ≥ (IntKind.u64.wrap (a0 - a2))
 ·rw [if_pos c4] at H
  have c4b0 : decide ((IntKind.u64.wrap (a0 - a2)) ≤ a1) = true := decide_eq_true c4
  clear c4
  obtain rfl := Option.some.inj H
  go_enter Try.func41, Try.ntmps41
  go_wp2
  go_ret
  exact ⟨fs_, by repeat (first | exact Drawn0.refl _ | apply Drawn0.step)⟩
 ·rw [if_neg c4] at H
  have c4b0 : decide ((IntKind.u64.wrap (a0 - a2)) ≤ a1) = false := decide_eq_false c4
  clear c4
  obtain rfl := Option.some.inj H
  go_enter Try.func41, Try.ntmps41
  go_wp2
  go_ret
  exact ⟨fs_, by repeat (first | exact Drawn0.refl _ | apply Drawn0.step)⟩
/-! ### cr1_Times: function 42 -/
def cr1_Times.l0 : Nat → Int → Int → Int → Int → Int → Option (Int)
 | 0, _, _, _, _, _ => none
 | k + 1, x0, x1, x2, x7, x8 => if x8 ≥ 0 then ((cr1_Sum.f x0 x7 x7).bind fun t477 => (if 0 ≤ (IntKind.u64.wrap (x8)) then (if (Go.bits .and .u64 (shr .u64 x2 (IntKind.u64.wrap (x8))) 1) = 1 then ((cr1_Sum.f x0 t477 x1).bind fun t478 => (cr1_Times.l0 k x0 x1 x2 t478 (wrap64 (x8 - 1)))) else (cr1_Times.l0 k x0 x1 x2 t477 (wrap64 (x8 - 1)))) else (none))) else (some x7)
def cr1_Times.f (k : Nat) (a0 : Int) (a1 : Int) (a2 : Int) : Option (Int) := cr1_Times.l0 k a0 a1 a2 0 63
theorem cr1_Times.mono_l : ∀ k, (∀ y0 y1 y2 y3 y4, LeO (cr1_Times.l0 k y0 y1 y2 y3 y4) (cr1_Times.l0 (k + 1) y0 y1 y2 y3 y4))
 | 0 => fun _ _ _ _ _ r h => by simp [cr1_Times.l0] at h
 | k + 1 => by
  have ih0 := cr1_Times.mono_l k
  ·intro y0 y1 y2 y3 y4
   unfold cr1_Times.l0
   repeat' first
   | (with_reducible exact ih0 _ _ _ _ _)
   | (with_reducible exact LeO.refl _)
   | (with_reducible exact LeO.none _)
   | (with_reducible refine LeO.ite ?_ ?_)
   | (with_reducible refine LeO.bind ?_ (fun _ => ?_))
   | exact ih0 _ _ _ _ _
   | exact LeO.none _
   | refine LeO.ite ?_ ?_
   | refine LeO.bind ?_ (fun _ => ?_)
theorem cr1_Times.mono : ∀ a0 a1 a2 k, LeO (cr1_Times.f k a0 a1 a2) (cr1_Times.f (k + 1) a0 a1 a2) := by
 intro a0 a1 a2 k
 have ih0 := cr1_Times.mono_l k
 unfold cr1_Times.f
 repeat' first
   | (with_reducible exact ih0 _ _ _ _ _)
   | (with_reducible exact LeO.refl _)
   | (with_reducible exact LeO.none _)
   | (with_reducible refine LeO.ite ?_ ?_)
   | (with_reducible refine LeO.bind ?_ (fun _ => ?_))
   | exact ih0 _ _ _ _ _
   | exact LeO.none _
   | refine LeO.ite ?_ ?_
   | refine LeO.bind ?_ (fun _ => ?_)
set_option maxHeartbeats 8000000 in
set_option maxRecDepth 100000 in
theorem cr1_Times.calls (k : Nat) (a0 : Int) (a1 : Int) (a2 : Int) (r : Int) (w : World) (h : cr1_Times.f k a0 a1 a2 = some r) :
  Calls Try.prog 42 #[.int .u64 a0, .int .u64 a1, .int .u64 a2] w fun e w' => e = .returned (.int .u64 r) ∧ Drawn0 w w' := by
 have H : (cr1_Times.l0 k a0 a1 a2 0 63) = some r := h
 clear h
 have H' := Aside0.mk H
 clear H
 go_enter Try.func42, Try.ntmps42
 go_wp2
 go_loopg [7, 8] k (fun kq v7 v8 w' => ∃ (x7_1 : Int) (x8_1 : Int), v7 = .int .u64 x7_1 ∧ v8 = .int .i64 x8_1 ∧ Aside0 (cr1_Times.l0 kq a0 a1 a2 x7_1 x8_1 = some r) ∧ Aside0 (kq ≤ k) ∧ Drawn0 w w')
 case atStart => exact ⟨(0), (63), (fs_), (fs_), H', ⟨Nat.le_refl _⟩, by repeat (first | exact Drawn0.refl _ | apply Drawn0.step)⟩
 case round =>
  clear H'
  try clear p2
  obtain ⟨x7_1, x8_1, rfl, rfl, HA, HK1, ⟨m1, rfl⟩⟩ := hrel
  cases gk with
  | zero => exact absurd HA.out (by simp [cr1_Times.l0])
  | succ k1 =>
   have H := HA.out
   clear HA
   simp only [cr1_Times.l0] at H
   by_cases c4 : x8_1 ≥ 0
   ·rw [if_pos c4] at H
    have c4b0 : decide (0 ≤ x8_1) = true := decide_eq_true c4
    clear c4
    replace H := Option.bind_eq_some_iff.mp H
    obtain ⟨t477, A50, H⟩ := H
    (try dsimp only at H)
    have A5 := Aside0.mk A50
    clear A50
    obtain ⟨ji6, hji6⟩ : ∃ j_ : Int, (IntKind.u64.wrap (x8_1)) = j_ := ⟨_, rfl⟩
    replace H : (if 0 ≤ (ji6) then (if (Go.bits .and .u64 (shr .u64 a2 (ji6)) 1) = 1 then ((cr1_Sum.f a0 t477 a1).bind fun t478 => (cr1_Times.l0 k1 a0 a1 a2 t478 (wrap64 (x8_1 - 1)))) else (cr1_Times.l0 k1 a0 a1 a2 t477 (wrap64 (x8_1 - 1)))) else (none)) = some r := by first | (rw [hji6] at H; exact H) | (simp only [hji6] at H ⊢; exact H)
    (try rw [hji6] at A5)
    by_cases c7 : 0 ≤ (ji6)
    ·rw [if_pos c7] at H
     have c7b0 := eq_true c7
     have c7b1 : decide (0 ≤ (ji6)) = true := decide_eq_true c7
     clear c7
     obtain ⟨ji8, hji8⟩ : ∃ j_ : Int, (shr .u64 a2 (ji6)) = j_ := ⟨_, rfl⟩
     replace H : (if (Go.bits .and .u64 (ji8) 1) = 1 then ((cr1_Sum.f a0 t477 a1).bind fun t478 => (cr1_Times.l0 k1 a0 a1 a2 t478 (wrap64 (x8_1 - 1)))) else (cr1_Times.l0 k1 a0 a1 a2 t477 (wrap64 (x8_1 - 1)))) = some r := by first | (rw [hji8] at H; exact H) | (simp only [hji8] at H ⊢; exact H)
     (try rw [hji8] at A5)
     have hji8_ : (a2 / 2 ^ min (ji6).toNat 64) = ji8 := hji8
     have hji8z : (ji6) ≤ 64 → (a2 / 2 ^ (ji6).toNat) = ji8 := shr_small hji8
     have HC9 := Aside0.mk H
     clear H
     go_upto_if 22 with (first | ((with_reducible refine gate_callee (f := 41) rfl ?_); refine goesM_ (some 16) Try.func41 #[.int .u64 a0, .int .u64 x7_1, .int .u64 x7_1] ?_; (with_reducible refine (cr1_Sum.calls a0 x7_1 x7_1 t477 _ A5.out).mono ?_); rintro e w' ⟨rfl, ⟨nd, rfl⟩⟩; refine ⟨_, rfl, ?_⟩))
     (try simp only [Act.put, List.setIfInBounds_toArray, List.set_cons_zero, List.set_cons_succ])
     have H := HC9.out
     clear HC9
     by_cases c10 : (Go.bits .and .u64 (ji8) 1) = 1
     ·rw [if_pos c10] at H
      have c10b0 : ((Go.bits .and .u64 (ji8) 1) == 1) = true := beq_iff_eq.mpr c10
      have c10b1 : ((Go.bits .and .u64 (ji8) 1) != 1) = false := bne_eq_false_iff_eq.mpr c10
      clear c10
      (first | rw [c10b0] | rw [c10b1] | (simp only [i64_w, i32_w]; first | rw [c10b0] | rw [c10b1]) | skip)
      replace H := Option.bind_eq_some_iff.mp H
      obtain ⟨t478, A110, H⟩ := H
      replace H : (cr1_Times.l0 k1 a0 a1 a2 t478 (wrap64 (x8_1 - 1))) = some r := H
      have A11 := Aside0.mk A110
      clear A110
      have H' := Aside0.mk H
      clear H
      go_wp2_with (first | ((with_reducible refine gate_callee (f := 41) rfl ?_); refine goesM_ (some 26) Try.func41 #[.int .u64 a0, .int .u64 t477, .int .u64 a1] ?_; (with_reducible refine (cr1_Sum.calls a0 t477 a1 t478 _ A11.out).mono ?_); rintro e w' ⟨rfl, ⟨nd, rfl⟩⟩; refine ⟨_, rfl, ?_⟩))
      go_roundg k1
      case measure => have := HK1.out; omega
      case rel => exact ⟨(t478), (wrap64 (x8_1 - 1)), (fs_), (fs_), H', ⟨by have := HK1.out; omega⟩, by repeat (first | exact Drawn0.refl _ | apply Drawn0.step)⟩
     ·rw [if_neg c10] at H
      have c10b0 : ((Go.bits .and .u64 (ji8) 1) == 1) = false := beq_eq_false_iff_ne.mpr c10
      have c10b1 : ((Go.bits .and .u64 (ji8) 1) != 1) = true := bne_iff_ne.mpr c10
      (first | rw [c10b0] | rw [c10b1] | (simp only [i64_w, i32_w]; first | rw [c10b0] | rw [c10b1]) | skip)
      have H' := Aside0.mk H
      clear H
      go_wp2
      go_roundg k1
      case measure => have := HK1.out; omega
      case rel => exact ⟨(t477), (wrap64 (x8_1 - 1)), (fs_), (fs_), H', ⟨by have := HK1.out; omega⟩, by repeat (first | exact Drawn0.refl _ | apply Drawn0.step)⟩
    ·rw [if_neg c7] at H
     exact absurd H (by simp)
   ·rw [if_neg c4] at H
    have c4b0 : decide (0 ≤ x8_1) = false := decide_eq_false c4
    clear c4
    obtain rfl := Option.some.inj H
    go_wp2
    go_ret
    exact ⟨fs_, by repeat (first | exact Drawn0.refl _ | apply Drawn0.step)⟩
end Go.Proofs.Yteofgcmgncaojaa.PEuclidInverts
