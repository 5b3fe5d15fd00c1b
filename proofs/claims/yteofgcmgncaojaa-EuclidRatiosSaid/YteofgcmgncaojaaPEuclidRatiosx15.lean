/- The Go functions as Lean functions, each with the proof that its call comes to just that; written by a program of this session, by the words of the print. -/
import Derived.Test.YteofgcmgncaojaaPEuclidRatiosx0
import Derived.Test.YteofgcmgncaojaaPEuclidRatiosx1
import Derived.Test.YteofgcmgncaojaaPEuclidRatiosx9
import Derived.Test.YteofgcmgncaojaaPEuclidRatiosx10
import Derived.Test.YteofgcmgncaojaaPEuclidRatiosx11
import Derived.Test.YteofgcmgncaojaaPEuclidRatiosx12
import Derived.Test.YteofgcmgncaojaaPEuclidRatiosx13
import Derived.Test.YteofgcmgncaojaaPEuclidRatiosx14
namespace Go.Proofs.Yteofgcmgncaojaa.PEuclidRatios
open Go.RowKit Go.Proofs.YteofgcmgncaojaaW.PrintWords Go.Proofs.YteofgcmgncaojaaW.PrintLast Go.Proofs.YteofgcmgncaojaaW.PrintMore
attribute [local go_sem] max2_int min2_int max_two min_two max_three min_three max_four min_four   -- for this text's walks alone
set_option linter.unusedVariables false
set_option linter.unusedSimpArgs false
/-! ### cr3_Scale: function 37 -/
def cr3_Scale.f (k : Nat) (a0 : Int) (a1 : Int) (l2 : List Int) : Option (List Int × Int) := (cr1_In.f k a0 (([a1] : List Int))).bind fun t623 => (if t623 = true then ((cr3_Mul.f k a0 (([a1] : List Int)) l2).bind fun bt627 => (some (bt627.1, bt627.2))) else (some (([] : List Int), 2)))
theorem cr3_Scale.mono : ∀ a0 a1 a2 k, LeO (cr3_Scale.f k a0 a1 a2) (cr3_Scale.f (k + 1) a0 a1 a2) := by
 intro a0 a1 a2 k
 unfold cr3_Scale.f
 repeat' first
   | (with_reducible exact cr1_In.mono _ _ _)
   | (with_reducible exact cr3_Mul.mono _ _ _ _)
   | (with_reducible exact LeO.refl _)
   | (with_reducible exact LeO.none _)
   | (with_reducible refine LeO.ite ?_ ?_)
   | (with_reducible refine LeO.bind ?_ (fun _ => ?_))
   | exact cr1_In.mono _ _ _
   | exact cr3_Mul.mono _ _ _ _
   | exact LeO.none _
   | refine LeO.ite ?_ ?_
   | refine LeO.bind ?_ (fun _ => ?_)
set_option maxHeartbeats 8000000 in
set_option maxRecDepth 100000 in
theorem cr3_Scale.calls (k : Nat) (a0 : Int) (a1 : Int) (A2 : Option Addr) (c2 : Nat) (l2 : List Int) (r1 : List Int) (r2 : Int) (w : World) (hr2 : Kd.C (Kd.int .u64) w A2 l2.length l2) (hc2 : l2.length ≤ c2) (h : cr3_Scale.f k a0 a1 l2 = some (r1, r2)) :
  Calls Try.prog 37 #[.int .u8 a0, .int .u64 a1, .slice A2 l2.length c2] w fun e w' => ∃ v0_ : Value, e = .returned (.tuple #[v0_, .int .i64 r2]) ∧ Kd.R (Kd.int .u64) 40 w' w.heap.size (fun _ => True) v0_ r1 ∧ Below w.heap.size w w' := by
 have HR2 := Aside0.mk hr2
 have HC2 := Aside0.mk hc2
 clear hr2 hc2
 have HB := A_ (Below.refl w.heap.size w)
 have H : ((cr1_In.f k a0 (([a1] : List Int))).bind fun t623 => (if t623 = true then ((cr3_Mul.f k a0 (([a1] : List Int)) l2).bind fun bt627 => (some (bt627.1, bt627.2))) else (some (([] : List Int), 2)))) = some (r1, r2) := h
 clear h
 obtain ⟨y620, hy620⟩ : ∃ y_ : List Int, y_ = (([a1] : List Int)) := ⟨_, rfl⟩
 replace H : ((cr1_In.f k a0 y620).bind fun t623 => (if t623 = true then ((cr3_Mul.f k a0 (([a1] : List Int)) l2).bind fun bt627 => (some (bt627.1, bt627.2))) else (some (([] : List Int), 2)))) = some (r1, r2) := by first | (rw [hy620]; with_reducible exact H) | (have H2_ := (Option.bind_some _ _).symm.trans H; rw [hy620]; with_reducible exact H2_) | (have H2_ := (Option.bind_some _ _).symm.trans H; with_reducible exact H2_) | with_reducible exact H | (rw [hy620]; exact H) | exact H
 have Ny620 := Aside0.mk hy620
 clear hy620
 replace H := Option.bind_eq_some_iff.mp H
 obtain ⟨t623, A40, H⟩ := H
 replace H : (if t623 = true then ((cr3_Mul.f k a0 (([a1] : List Int)) l2).bind fun bt627 => (some (bt627.1, bt627.2))) else (some (([] : List Int), 2))) = some (r1, r2) := H
 have A4 := Aside0.mk A40
 clear A40
 have HC5 := Aside0.mk H
 clear H
 go_enter Try.func37, Try.ntmps37
 go_upto_if 12 with (first | ((with_reducible refine gate_dst (N := 10) rfl ?_); refine Kd.R_lit (Kd.int .u64) _ 40 ?hg (N := 10) ?hd (xs := ([a1] : List Int)) (inner := [.int .u64 a1]) (ok := fun _ => True) (okp := fun _ => True) ?hr ?hp (fun _ hk => hk) trivial (Below.refl _ _) (Nat.le_refl _) (by simp) ?_; (case hd => rfl); (case hg => rfl); (case hr => first | (go_simp; done) | (go_simp; rfl)); (case hp => exact (Reps.one (show Kd.M (Kd.int .u64) _ _ _ a1 [.int .u64 a1] from rfl) (Reps.none _ _))); intro v621 w6 ho7 hb hg_ hnew_; clear hg_ hnew_; (first | rw [← Ny620.out] at ho7 | (simp only [Int.reduceToNat] at ho7; rw [← Ny620.out] at ho7)); have n0_ := A_ (Kd.R_lower ho7 (below_size hb_)); have n1_ := A_ (below_step hb_ hb); clear HB; have HO622 := n0_; have HB := n1_; clear n0_ n1_; clear hb ho7; obtain ⟨Ao8, co8, eo8⟩ := Kd.R_slice HO622.out; subst eo8) | ((with_reducible refine gate_callee (f := 40) rfl ?_); refine goesM_ (some 11) Try.func40 #[.int .u8 a0, .slice Ao8 y620.length co8] ?_; (with_reducible refine (cr1_In.calls k a0 _ _ y620 t623 _ ?side1 ?side2 A4.out).mono ?_); (case side1 => repeat (first | exact (Kd.R_reads' HO622.out).2.2 | (with_reducible refine Kd.C_alloc ?_ _) | (with_reducible refine Kd.C_drewN ?_ _) | (with_reducible refine Kd.C_drew ?_))); (case side2 => exact (Kd.R_reads' HO622.out).2.1); rintro e w' ⟨rfl, ⟨nd, rfl⟩⟩; refine ⟨_, rfl, ?_⟩))
 (try simp only [Act.put, List.setIfInBounds_toArray, List.set_cons_zero, List.set_cons_succ])
 have H := HC5.out
 clear HC5
 by_cases c9 : t623 = true
 ·subst c9
  have H1 : ((cr3_Mul.f k a0 (([a1] : List Int)) l2).bind fun bt627 => (some (bt627.1, bt627.2))) = some (r1, r2) := by rw [if_pos rfl] at H; exact H
  clear H
  have H := H1
  clear H1
  obtain ⟨y624, hy624⟩ : ∃ y_ : List Int, y_ = (([a1] : List Int)) := ⟨_, rfl⟩
  replace H : ((cr3_Mul.f k a0 y624 l2).bind fun bt627 => (some (bt627.1, bt627.2))) = some (r1, r2) := by first | (rw [hy624]; with_reducible exact H) | (have H2_ := (Option.bind_some _ _).symm.trans H; rw [hy624]; with_reducible exact H2_) | (have H2_ := (Option.bind_some _ _).symm.trans H; with_reducible exact H2_) | with_reducible exact H | (rw [hy624]; exact H) | exact H
  have Ny624 := Aside0.mk hy624
  clear hy624
  replace H := Option.bind_eq_some_iff.mp H
  obtain ⟨⟨t627, t628⟩, A100, H⟩ := H
  replace H : (some (t627, t628)) = some (r1, r2) := H
  have A10 := Aside0.mk A100
  clear A100
  simp only [Option.some.injEq, Prod.mk.injEq] at H
  obtain ⟨rfl, rfl⟩ := H
  go_wp2_with (first | ((with_reducible refine gate_dst (N := 15) rfl ?_); refine Kd.R_lit (Kd.int .u64) _ 40 ?hg (N := 15) ?hd (xs := ([a1] : List Int)) (inner := [.int .u64 a1]) (ok := fun _ => True) (okp := fun _ => True) ?hr ?hp (fun _ hk => hk) trivial (Below.refl _ _) (Nat.le_refl _) (by simp) ?_; (case hd => rfl); (case hg => rfl); (case hr => first | (go_simp; done) | (go_simp; rfl)); (case hp => exact (Reps.one (show Kd.M (Kd.int .u64) _ _ _ a1 [.int .u64 a1] from rfl) (Reps.none _ _))); intro v625 w11 ho12 hb hg_ hnew_; clear hg_ hnew_; (first | rw [← Ny624.out] at ho12 | (simp only [Int.reduceToNat] at ho12; rw [← Ny624.out] at ho12)); have n0_ := A_ (Kd.R_elder' (nR_ HO622) (Kd.R_base ho12) hb); have n1_ := A_ (Kd.R_lower (Kd.R_new' ho12 (Kd.R_lt (nR_ HO622))) (below_size hb_)); have n2_ := A_ (below_step hb_ hb); clear HO622 HB; have HO622 := n0_; have HO626 := n1_; have HB := n2_; clear n0_ n1_ n2_; clear hb ho12; obtain ⟨Ao13, co13, eo13⟩ := Kd.R_slice HO626.out; subst eo13) | ((with_reducible refine gate_callee (f := 18) rfl ?_); refine goesM_ (some 17) Try.func18 #[.int .u8 a0, .slice Ao13 y624.length co13, .slice A2 l2.length c2] ?_; (with_reducible refine (cr3_Mul.calls k a0 _ _ y624 _ _ l2 t627 t628 _ ?side1 ?side2 ?side3 ?side4 A10.out).mono ?_); (case side1 => repeat (first | exact (Kd.R_reads' HO626.out).2.2 | (with_reducible refine Kd.C_alloc ?_ _) | (with_reducible refine Kd.C_drewN ?_ _) | (with_reducible refine Kd.C_drew ?_))); (case side2 => exact (Kd.R_reads' HO626.out).2.1); (case side3 => repeat (first | exact (Kd.C_below HR2.out HB.out) | (with_reducible refine Kd.C_alloc ?_ _) | (with_reducible refine Kd.C_drewN ?_ _) | (with_reducible refine Kd.C_drew ?_))); (case side4 => exact HC2.out); rintro e w14 ⟨v629, rfl, ho0, hb⟩; refine ⟨_, rfl, ?_⟩; have n0_ := A_ (Kd.R_elder' (nR_ HO622) (Kd.R_base ho0) hb); have n1_ := A_ (Kd.R_elder' (nR_ HO626) (Kd.R_base ho0) hb); have n2_ := A_ (Kd.R_lower (Kd.R_new' (Kd.R_new' ho0 (Kd.R_lt (nR_ HO622))) (Kd.R_lt (nR_ HO626))) (below_size hb_)); have n3_ := A_ (below_step hb_ hb); clear HO622 HO626 HB; have HO622 := n0_; have HO626 := n1_; have HO630 := n2_; have HB := n3_; clear n0_ n1_ n2_ n3_; (try clear hb); (try clear ho0)))
  go_ret2
  exact ⟨_, fr_, by (with_reducible repeat (first | apply Kd.R_alloc | apply Kd.R_drewN | apply Kd.R_drew)); exact Kd.R_mono HO630.out (fun _ hk => trivial), hb_⟩
 ·replace c9 := Bool.eq_false_iff.mpr c9
  subst c9
  have H1 : (some (([] : List Int), 2)) = some (r1, r2) := by rw [if_neg (show ¬ (false = true) by decide)] at H; exact H
  clear H
  have H := H1
  clear H1
  simp only [Option.some.injEq, Prod.mk.injEq] at H
  obtain ⟨rfl, rfl⟩ := H
  go_wp2
  go_ret2
  exact ⟨_, fr_, by first | exact Kd.R_nil _ _ _ _ _ | exact Kd.N_nil _ _ _ _ _ | exact Kd.V_nil _ _ _ _ _ | exact Kd.Q_nil _ _ _ _ _ | exact Kd.S_nil _ _ _ _ _, hb_⟩
/-! ### cr5_monic: function 32 -/
def cr5_monic.f (k : Nat) (a0 : Int) (l1 : List Int) : Option (List Int) := if (l1.length : Int) = 0 then (some ([] : List Int)) else ((cr1_P.f a0).bind fun t631 => (if 0 ≤ (wrap64 ((l1.length : Int) - 1)) then (if (wrap64 ((l1.length : Int) - 1)) < (l1.length : Int) then ((cr1_Turned.f k t631 (rd l1 (wrap64 ((l1.length : Int) - 1)))).bind fun t633 => ((cr3_Scale.f k a0 t633 l1).bind fun bt634 => (some bt634.1))) else (none)) else (none)))
theorem cr5_monic.mono : ∀ a0 a1 k, LeO (cr5_monic.f k a0 a1) (cr5_monic.f (k + 1) a0 a1) := by
 intro a0 a1 k
 unfold cr5_monic.f
 repeat' first
   | (with_reducible exact cr1_Turned.mono _ _ _)
   | (with_reducible exact cr3_Scale.mono _ _ _ _)
   | (with_reducible exact LeO.refl _)
   | (with_reducible exact LeO.none _)
   | (with_reducible refine LeO.ite ?_ ?_)
   | (with_reducible refine LeO.bind ?_ (fun _ => ?_))
   | exact cr1_Turned.mono _ _ _
   | exact cr3_Scale.mono _ _ _ _
   | exact LeO.none _
   | refine LeO.ite ?_ ?_
   | refine LeO.bind ?_ (fun _ => ?_)
def cr5_monic.T3 : Bool × List (List Nat × List Nat) := (true, [([], []), ([], []), ([1], [1]), ([], []), ([], []), ([4], [4]), ([5], [5]), ([3, 6], [3, 6]), ([7], [7]), ([2, 8, 2], [2, 8]), ([], []), ([0, 9, 10, 9], [0, 9, 10]), ([11], [11]), ([12], [12]), ([12], [12]), ([13, 11, 0, 1, 2, 3, 4, 5, 6, 7, 8, 9, 10, 11, 12, 13], [13]), ([14, 15, 0, 1, 2, 3, 4, 5, 6, 7, 8, 9, 10, 11, 12, 13, 14, 15], [14])])
def cr5_monic.B3 : List Nat := [0, 0, 2, 0, 0, 16, 48, 120, 248, 510, 0, 2047, 4095, 8191, 8191, 16383, 65535]
theorem cr5_monic.tab3 : rtab .any (opsOf Try.f32 3) = cr5_monic.T3 := by kernel_rfl
theorem cr5_monic.bits3 : waitsOk cr5_monic.T3.2 cr5_monic.B3 = true := by kernel_rfl
set_option maxHeartbeats 8000000 in
set_option maxRecDepth 100000 in
theorem cr5_monic.calls (k : Nat) (a0 : Int) (A1 : Option Addr) (c1 : Nat) (l1 : List Int) (r : List Int) (w : World) (hr1 : Kd.C (Kd.int .u64) w A1 l1.length l1) (hc1 : l1.length ≤ c1) (h : cr5_monic.f k a0 l1 = some r) :
  Calls Try.prog 32 #[.int .u8 a0, .slice A1 l1.length c1] w fun e w' => ∃ v0_ : Value, e = .returned (v0_) ∧ Kd.R (Kd.int .u64) 40 w' w.heap.size (fun _ => True) v0_ r ∧ Below w.heap.size w w' := by
 have HR1 := Aside0.mk hr1
 have HC1 := Aside0.mk hc1
 clear hr1 hc1
 have HB := A_ (Below.refl w.heap.size w)
 have H : (if (l1.length : Int) = 0 then (some ([] : List Int)) else ((cr1_P.f a0).bind fun t631 => (if 0 ≤ (wrap64 ((l1.length : Int) - 1)) then (if (wrap64 ((l1.length : Int) - 1)) < (l1.length : Int) then ((cr1_Turned.f k t631 (rd l1 (wrap64 ((l1.length : Int) - 1)))).bind fun t633 => ((cr3_Scale.f k a0 t633 l1).bind fun bt634 => (some bt634.1))) else (none)) else (none)))) = some r := h
 clear h
 by_cases c3 : (l1.length : Int) = 0
 ·rw [if_pos c3] at H
  have c3b0 : ((l1.length : Int) == 0) = true := beq_iff_eq.mpr c3
  have c3b1 : ((l1.length : Int) != 0) = false := bne_eq_false_iff_eq.mpr c3
  clear c3
  obtain rfl := Option.some.inj H
  go_enter Try.func32, Try.ntmps32
  go_wp2
  go_ret
  exact ⟨_, fr_, by first | exact Kd.R_nil _ _ _ _ _ | exact Kd.N_nil _ _ _ _ _ | exact Kd.V_nil _ _ _ _ _ | exact Kd.Q_nil _ _ _ _ _ | exact Kd.S_nil _ _ _ _ _, hb_⟩
 ·rw [if_neg c3] at H
  have c3b0 : ((l1.length : Int) == 0) = false := beq_eq_false_iff_ne.mpr c3
  have c3b1 : ((l1.length : Int) != 0) = true := bne_iff_ne.mpr c3
  have c3b2 : ¬ (l1 = []) := fun h_ => c3 (by rw [h_]; rfl)
  replace H := Option.bind_eq_some_iff.mp H
  obtain ⟨t631, A40, H⟩ := H
  replace H : (if 0 ≤ (wrap64 ((l1.length : Int) - 1)) then (if (wrap64 ((l1.length : Int) - 1)) < (l1.length : Int) then ((cr1_Turned.f k t631 (rd l1 (wrap64 ((l1.length : Int) - 1)))).bind fun t633 => ((cr3_Scale.f k a0 t633 l1).bind fun bt634 => (some bt634.1))) else (none)) else (none)) = some r := H
  have A4 := Aside0.mk A40
  clear A40
  obtain ⟨ji5, hji5⟩ : ∃ j_ : Int, (wrap64 ((l1.length : Int) - 1)) = j_ := ⟨_, rfl⟩
  replace H : (if 0 ≤ (ji5) then (if (ji5) < (l1.length : Int) then ((cr1_Turned.f k t631 (rd l1 (ji5))).bind fun t633 => ((cr3_Scale.f k a0 t633 l1).bind fun bt634 => (some bt634.1))) else (none)) else (none)) = some r := by first | (rw [hji5] at H; exact H) | (simp only [hji5] at H ⊢; exact H)
  (try rw [hji5] at A4)
  have hji5w : (IntKind.i64.wrap ((l1.length : Int) - 1)) = ji5 := (i64_w _).trans hji5
  by_cases c6 : 0 ≤ (ji5)
  ·rw [if_pos c6] at H
   have c6b0 : decide (0 ≤ (ji5)) = true := decide_eq_true c6
   clear c6
   by_cases c7 : (ji5) < (l1.length : Int)
   ·rw [if_pos c7] at H
    have c7b0 : decide ((ji5) < (l1.length : Int)) = true := decide_eq_true c7
    clear c7
    replace H := Option.bind_eq_some_iff.mp H
    obtain ⟨t633, A80, H⟩ := H
    replace H : ((cr3_Scale.f k a0 t633 l1).bind fun bt634 => (some bt634.1)) = some r := H
    have A8 := Aside0.mk A80
    clear A80
    replace H := Option.bind_eq_some_iff.mp H
    obtain ⟨⟨t634, t635⟩, A90, H⟩ := H
    replace H : (some t634) = some r := H
    have A9 := Aside0.mk A90
    clear A90
    obtain rfl := Option.some.inj H
    go_enter Try.func32, Try.ntmps32
    try go_wp2
    have n0_ := A_ (below_drew1 HB.out)
    clear HB
    have HB := n0_
    clear n0_
    have p632 : 0 ≤ ((ji5) : Int) := of_decide_eq_true (by first | (with_reducible assumption) | assumption)
    have q632 : (ji5) < (l1.length : Int) := of_decide_eq_true (by first | (with_reducible assumption) | assumption)
    obtain ⟨ad632, e632, hx632_0⟩ := Kd.at_int HR1.out (ji5) p632 q632
    have hw632_0 := hx632_0
    cases e632
    replace hx632_0 := (HB.out.cell (World.block_lt_of_cell? w _ hx632_0)).trans hx632_0
    replace p632 := eq_true p632
    replace q632 := eq_true q632
    refine start_ (n := 17) (S := fun w' => w'.cell? (ad632.add ((ji5)).toNat) = some (.int .u64 (rd l1 (ji5)))) (ds := []) #[false, false, false, false, false, false, false, false, false, false, false, false, false, false, false, false, false] (by kernel_rfl) rfl rfl (((HB.out.cell (World.block_lt_of_cell? w _ hw632_0)).trans hw632_0)) (fun hHeld => ?_); refine with_tabW cr5_monic.tab3 cr5_monic.bits3 (fun HT_ HW_ => ?_)
    generalize w.drew = w10 at HB hx632_0 hHeld ⊢
    refine pure_ (i := 0) (N := some 11) (v := ?_) (a' := ?_) #[true, false, false, false, false, false, false, false, false, false, false, false, false, false, false, false, false] rfl rfl (any_of HT_.out (by kernel_rfl)) (fun _ _ _ h => h) (Or.inl ⟨by rfl, ?_⟩) ?_ ?_
    rotate_left
    ·intro w'
     go_simp
     with_reducible rfl
    rotate_left
    ·simp only [Act.put, List.setIfInBounds_toArray, List.set_cons_zero, List.set_cons_succ, i64_w, i32_w]
     rfl
    refine pure_ (i := 1) (N := some 12) (v := ?_) (a' := ?_) #[true, true, false, false, false, false, false, false, false, false, false, false, false, false, false, false, false] rfl rfl (any_of HT_.out (by kernel_rfl)) (fun _ _ _ h => h) (Or.inl ⟨by rfl, ?_⟩) ?_ ?_
    rotate_left
    ·intro w'
     go_simp
     with_reducible rfl
    rotate_left
    ·simp only [Act.put, List.setIfInBounds_toArray, List.set_cons_zero, List.set_cons_succ, i64_w, i32_w]
     rfl
    refine pure_ (i := 3) (N := some 14) (v := ?_) (a' := ?_) #[true, true, false, true, false, false, false, false, false, false, false, false, false, false, false, false, false] rfl rfl (any_of HT_.out (by kernel_rfl)) (fun _ _ _ h => h) (Or.inl ⟨by rfl, ?_⟩) ?_ ?_
    rotate_left
    ·intro w'
     go_simp
     with_reducible rfl
    rotate_left
    ·simp only [Act.put, List.setIfInBounds_toArray, List.set_cons_zero, List.set_cons_succ, i64_w, i32_w]
     rfl
    refine pure_ (i := 4) (N := some 15) (v := ?_) (a' := ?_) #[true, true, false, true, true, false, false, false, false, false, false, false, false, false, false, false, false] rfl rfl (any_of HT_.out (by kernel_rfl)) (fun _ _ _ h => h) (Or.inl ⟨by rfl, ?_⟩) ?_ ?_
    rotate_left
    ·intro w'
     go_simp
     with_reducible rfl
    rotate_left
    ·simp only [Act.put, List.setIfInBounds_toArray, List.set_cons_zero, List.set_cons_succ, i64_w, i32_w]
     rfl
    refine pure_ (i := 5) (N := some 16) (v := ?_) (a' := ?_) #[true, true, false, true, true, true, false, false, false, false, false, false, false, false, false, false, false] rfl rfl (any_of HT_.out (by kernel_rfl)) (fun _ _ _ h => h) (Or.inl ⟨by rfl, ?_⟩) ?_ ?_
    rotate_left
    ·intro w'
     go_simp
     with_reducible rfl
    rotate_left
    ·simp only [Act.put, List.setIfInBounds_toArray, List.set_cons_zero, List.set_cons_succ, i64_w, i32_w]
     rfl
    refine pure_ (i := 6) (N := some 17) (v := ?_) (a' := ?_) #[true, true, false, true, true, true, true, false, false, false, false, false, false, false, false, false, false] rfl rfl (any_of HT_.out (by kernel_rfl)) (fun _ _ _ h => h) (Or.inl ⟨by rfl, ?_⟩) ?_ ?_
    rotate_left
    ·intro w'
     go_simp
     with_reducible rfl
    rotate_left
    ·simp only [Act.put, List.setIfInBounds_toArray, List.set_cons_zero, List.set_cons_succ, i64_w, i32_w]
     rfl
    refine pure_ (i := 7) (N := some 18) (v := ?_) (a' := ?_) #[true, true, false, true, true, true, true, true, false, false, false, false, false, false, false, false, false] rfl rfl (any_of HT_.out (by kernel_rfl)) (fun _ _ _ h => h) (Or.inl ⟨by rfl, ?_⟩) ?_ ?_
    rotate_left
    ·intro w'
     go_simp
     with_reducible rfl
    rotate_left
    ·simp only [Act.put, List.setIfInBounds_toArray, List.set_cons_zero, List.set_cons_succ, i64_w, i32_w]
     rfl
    refine pure_ (i := 10) (N := some 21) (v := ?_) (a' := ?_) #[true, true, false, true, true, true, true, true, false, false, true, false, false, false, false, false, false] rfl rfl (any_of HT_.out (by kernel_rfl)) (fun _ _ _ h => h) (Or.inl ⟨by rfl, ?_⟩) ?_ ?_
    rotate_left
    ·intro w'
     go_simp
     with_reducible rfl
    rotate_left
    ·simp only [Act.put, List.setIfInBounds_toArray, List.set_cons_zero, List.set_cons_succ, i64_w, i32_w]
     rfl
    refine take_ (i := 8) (N := some 19) (v := ?_) (a' := ?_) #[true, true, false, true, true, true, true, true, true, false, true, false, false, false, false, false, false] rfl rfl (take_ofW HT_.out HW_.out (by kernel_rfl)) (fun _ _ _ h => h) (Or.inl ⟨by rfl, ?_⟩) hHeld ?_ ?_
    rotate_left
    ·intro w' s0
     go_simp
     with_reducible rfl
    rotate_left
    ·simp only [Act.put, List.setIfInBounds_toArray, List.set_cons_zero, List.set_cons_succ, i64_w, i32_w]
     rfl
    refine one_ (i := 2) (N := some 13) #[true, true, true, true, true, true, true, true, true, false, true, false, false, false, false, false, false] rfl rfl (one_of HT_.out (by kernel_rfl)) (by decide) (fun K hK => ?_)
    refine goes_ Try.func39 (by kernel_rfl) rfl #[.int .u8 a0] (by rfl) rfl rfl (by (try simp only [List.map_toArray, List.map_cons, List.map_nil]); first | done | rfl | (simp only [List.length_drop, List.length_take]; rfl)) ?_
    with_reducible refine (cr1_P.calls a0 t631 _ A4.out).mono ?_
    rintro e w' ⟨rfl, ⟨nd, rfl⟩⟩
    refine ⟨_, rfl, ?_⟩
    refine hK.out _ _ (((HB.out.cell (World.block_lt_of_cell? w _ hw632_0)).trans hw632_0)) (fun hHeld => ?_)
    clear hK K
    refine norm_ (a' := ?_) ?_ ?_
    rotate_left
    ·show Act.put _ (some 13) _ = _
     simp only [Act.put, List.setIfInBounds_toArray, List.set_cons_zero, List.set_cons_succ, i64_w, i32_w]
     rfl
    refine one_ (i := 9) (N := some 20) #[true, true, true, true, true, true, true, true, true, true, true, false, false, false, false, false, false] rfl rfl (one_of HT_.out (by kernel_rfl)) (by decide) (fun K hK => ?_)
    refine goes_ Try.func38 (by kernel_rfl) rfl #[.int .u64 t631, .int .u64 (rd l1 (ji5))] (by rfl) rfl rfl (by (try simp only [List.map_toArray, List.map_cons, List.map_nil]); first | done | (simp only [hji5]; rfl) | rfl | (simp only [List.length_drop, List.length_take]; rfl)) ?_
    with_reducible refine (cr1_Turned.calls k t631 (rd l1 (ji5)) t633 _ A8.out).mono ?_
    rintro e w' ⟨rfl, ⟨nd, rfl⟩⟩
    refine ⟨_, rfl, ?_⟩
    refine hK.out _ _ (((HB.out.cell (World.block_lt_of_cell? w _ hw632_0)).trans hw632_0)) (fun hHeld => ?_)
    clear hK K
    refine norm_ (a' := ?_) ?_ ?_
    rotate_left
    ·show Act.put _ (some 20) _ = _
     simp only [Act.put, List.setIfInBounds_toArray, List.set_cons_zero, List.set_cons_succ, i64_w, i32_w]
     rfl
    refine one_ (i := 11) (N := some 22) #[true, true, true, true, true, true, true, true, true, true, true, true, false, false, false, false, false] rfl rfl (one_of HT_.out (by kernel_rfl)) (by decide) (fun K hK => ?_)
    refine goes_ Try.func37 (by kernel_rfl) rfl #[.int .u8 a0, .int .u64 t633, .slice (some ad632) l1.length c1] (by rfl) rfl rfl (by (try simp only [List.map_toArray, List.map_cons, List.map_nil]); first | done | rfl | (simp only [List.length_drop, List.length_take]; rfl)) ?_
    with_reducible refine (cr3_Scale.calls k a0 t633 _ _ l1 t634 t635 _ ?side1 ?side2 A9.out).mono ?_
    (case side1 => repeat (first | exact (Kd.C_below HR1.out hb_) | (with_reducible refine Kd.C_alloc ?_ _) | (with_reducible refine Kd.C_drewN ?_ _) | (with_reducible refine Kd.C_drew ?_)))
    (case side2 => exact HC1.out)
    rintro e w11 ⟨v636, rfl, ho0, hb⟩
    refine ⟨_, rfl, ?_⟩
    have n0_ := A_ (Kd.R_lower (Kd.R_mono (ok' := fun _ => True) ho0 (fun _ _ => trivial)) (below_size hb_))
    have n1_ := A_ (below_step hb_ hb)
    clear HB
    have HO637 := n0_
    have HB := n1_
    clear n0_ n1_
    (try clear hb)
    (try clear hb2)
    (try clear hk)
    (try clear hi)
    (try clear ho0)
    refine hK.out _ _ (((HB.out.cell (World.block_lt_of_cell? w _ hw632_0)).trans hw632_0)) (fun hHeld => ?_)
    clear hK K
    refine norm_ (a' := ?_) ?_ ?_
    rotate_left
    ·show Act.put _ (some 22) _ = _
     simp only [Act.put, List.setIfInBounds_toArray, List.set_cons_zero, List.set_cons_succ, i64_w, i32_w]
     rfl
    refine pure_ (i := 12) (N := some 10) (v := ?_) (a' := ?_) #[true, true, true, true, true, true, true, true, true, true, true, true, true, false, false, false, false] rfl rfl (any_of HT_.out (by kernel_rfl)) (fun _ _ _ h => h) (Or.inl ⟨by rfl, ?_⟩) ?_ ?_
    rotate_left
    ·intro w'
     go_simp
     with_reducible rfl
    rotate_left
    ·simp only [Act.put, List.setIfInBounds_toArray, List.set_cons_zero, List.set_cons_succ, i64_w, i32_w]
     rfl
    refine pure_ (i := 13) (N := some 23) (v := ?_) (a' := ?_) #[true, true, true, true, true, true, true, true, true, true, true, true, true, true, false, false, false] rfl rfl (any_of HT_.out (by kernel_rfl)) (fun _ _ _ h => h) (Or.inl ⟨by rfl, ?_⟩) ?_ ?_
    rotate_left
    ·intro w'
     go_simp
     with_reducible rfl
    rotate_left
    ·simp only [Act.put, List.setIfInBounds_toArray, List.set_cons_zero, List.set_cons_succ, i64_w, i32_w]
     rfl
    refine pure_ (i := 14) (N := some 24) (v := ?_) (a' := ?_) #[true, true, true, true, true, true, true, true, true, true, true, true, true, true, true, false, false] rfl rfl (any_of HT_.out (by kernel_rfl)) (fun _ _ _ h => h) (Or.inl ⟨by rfl, ?_⟩) ?_ ?_
    rotate_left
    ·intro w'
     go_simp
     with_reducible rfl
    rotate_left
    ·simp only [Act.put, List.setIfInBounds_toArray, List.set_cons_zero, List.set_cons_succ, i64_w, i32_w]
     rfl
    refine pure_ (i := 15) (N := some 5) (v := ?_) (a' := ?_) #[true, true, true, true, true, true, true, true, true, true, true, true, true, true, true, true, false] rfl rfl (any_of HT_.out (by kernel_rfl)) (fun _ _ _ h => h) (Or.inl ⟨by rfl, ?_⟩) ?_ ?_
    rotate_left
    ·intro w'
     go_simp
     with_reducible rfl
    rotate_left
    ·simp only [Act.put, List.setIfInBounds_toArray, List.set_cons_zero, List.set_cons_succ, i64_w, i32_w]
     rfl
    refine pure_ (i := 16) (N := some 6) (v := ?_) (a' := ?_) #[true, true, true, true, true, true, true, true, true, true, true, true, true, true, true, true, true] rfl rfl (any_of HT_.out (by kernel_rfl)) (fun _ _ _ h => h) (Or.inl ⟨by rfl, ?_⟩) ?_ ?_
    rotate_left
    ·intro w'
     go_simp
     with_reducible rfl
    rotate_left
    ·simp only [Act.put, List.setIfInBounds_toArray, List.set_cons_zero, List.set_cons_succ, i64_w, i32_w]
     rfl
    refine done_ (done_of HT_.out (by kernel_rfl)) ?_
    try go_wp2
    go_ret
    exact ⟨_, by first | rfl | (simp [errW_none, errW_some] <;> rfl) | (simp only [← hji5]; first | rfl | (simp [errW_none, errW_some] <;> rfl)) | (simp [*, errW_none, errW_some] <;> rfl), nR_ HO637, hb_⟩
   ·rw [if_neg c7] at H
    exact absurd H (by simp)
  ·rw [if_neg c6] at H
   exact absurd H (by simp)
/-! ### cr5_Ratio: function 25 -/
def cr5_Ratio.j0 : Nat → Int → List Int → List Int → Int → Bool → Option (List Int × List Int × Bool × Int)
 | 0, _, _, _, _, _ => none
 | k + 1, x0, x1, x2, x3, x30 => if x30 = true then (some (([] : List Int), ([] : List Int), false, 2)) else ((cr5_bad.f k x0 x1 x2).bind fun t639 => (if t639 = 0 then ((cr3_Trim.f k x2).bind fun t640 => (if (t640.length : Int) = 0 then (some (([] : List Int), ([] : List Int), false, 5)) else ((cr5_Partial.f k x0 x2 x1 x3).bind fun bt643 => (if (bt643.2.2.1.length : Int) = 0 then (some (([] : List Int), ([] : List Int), false, 0)) else ((cr3_DivMod.f k x0 bt643.1 bt643.2.2.1).bind fun bt653 => (if (bt653.2.1.length : Int) > 0 then (some (([] : List Int), ([] : List Int), false, 0)) else ((cr5_monic.f k x0 bt643.2.2.1).bind fun t660 => (some (bt653.1, t660, true, 0))))))))) else (some (([] : List Int), ([] : List Int), false, t639))))
def cr5_Ratio.f (k : Nat) (a0 : Int) (l1 : List Int) (l2 : List Int) (a3 : Int) : Option (List Int × List Int × Bool × Int) := (cr5_bad.f k a0 l1 l2).bind fun t638 => (if t638 = 2 then (cr5_Ratio.j0 k a0 l1 l2 a3 true) else (cr5_Ratio.j0 k a0 l1 l2 a3 (decide (a3 < 0))))
theorem cr5_Ratio.mono_l : ∀ k, (∀ y0 y1 y2 y3 y4, LeO (cr5_Ratio.j0 k y0 y1 y2 y3 y4) (cr5_Ratio.j0 (k + 1) y0 y1 y2 y3 y4))
 | 0 => fun _ _ _ _ _ r h => by simp [cr5_Ratio.j0] at h
 | k + 1 => by
  have ih0 := cr5_Ratio.mono_l k
  ·intro y0 y1 y2 y3 y4
   unfold cr5_Ratio.j0
   repeat' first
   | (with_reducible exact ih0 _ _ _ _ _)
   | (with_reducible exact cr3_DivMod.mono _ _ _ _)
   | (with_reducible exact cr3_Trim.mono _ _)
   | (with_reducible exact cr5_Partial.mono _ _ _ _ _)
   | (with_reducible exact cr5_bad.mono _ _ _ _)
   | (with_reducible exact cr5_monic.mono _ _ _)
   | (with_reducible exact LeO.refl _)
   | (with_reducible exact LeO.none _)
   | (with_reducible refine LeO.ite ?_ ?_)
   | (with_reducible refine LeO.bind ?_ (fun _ => ?_))
   | exact ih0 _ _ _ _ _
   | exact cr3_DivMod.mono _ _ _ _
   | exact cr3_Trim.mono _ _
   | exact cr5_Partial.mono _ _ _ _ _
   | exact cr5_bad.mono _ _ _ _
   | exact cr5_monic.mono _ _ _
   | exact LeO.none _
   | refine LeO.ite ?_ ?_
   | refine LeO.bind ?_ (fun _ => ?_)
theorem cr5_Ratio.mono : ∀ a0 a1 a2 a3 k, LeO (cr5_Ratio.f k a0 a1 a2 a3) (cr5_Ratio.f (k + 1) a0 a1 a2 a3) := by
 intro a0 a1 a2 a3 k
 have ih0 := cr5_Ratio.mono_l k
 unfold cr5_Ratio.f
 repeat' first
   | (with_reducible exact ih0 _ _ _ _ _)
   | (with_reducible exact cr3_DivMod.mono _ _ _ _)
   | (with_reducible exact cr3_Trim.mono _ _)
   | (with_reducible exact cr5_Partial.mono _ _ _ _ _)
   | (with_reducible exact cr5_bad.mono _ _ _ _)
   | (with_reducible exact cr5_monic.mono _ _ _)
   | (with_reducible exact LeO.refl _)
   | (with_reducible exact LeO.none _)
   | (with_reducible refine LeO.ite ?_ ?_)
   | (with_reducible refine LeO.bind ?_ (fun _ => ?_))
   | exact ih0 _ _ _ _ _
   | exact cr3_DivMod.mono _ _ _ _
   | exact cr3_Trim.mono _ _
   | exact cr5_Partial.mono _ _ _ _ _
   | exact cr5_bad.mono _ _ _ _
   | exact cr5_monic.mono _ _ _
   | exact LeO.none _
   | refine LeO.ite ?_ ?_
   | refine LeO.bind ?_ (fun _ => ?_)
set_option maxHeartbeats 8000000 in
set_option maxRecDepth 100000 in
theorem cr5_Ratio.calls (k : Nat) (a0 : Int) (A1 : Option Addr) (c1 : Nat) (l1 : List Int) (A2 : Option Addr) (c2 : Nat) (l2 : List Int) (a3 : Int) (r1 : List Int) (r2 : List Int) (r3 : Bool) (r4 : Int) (w : World) (hr1 : Kd.C (Kd.int .u64) w A1 l1.length l1) (hc1 : l1.length ≤ c1) (hr2 : Kd.C (Kd.int .u64) w A2 l2.length l2) (hc2 : l2.length ≤ c2) (h : cr5_Ratio.f k a0 l1 l2 a3 = some (r1, r2, r3, r4)) :
  Calls Try.prog 25 #[.int .u8 a0, .slice A1 l1.length c1, .slice A2 l2.length c2, .int .i64 a3] w fun e w' => ∃ v0_ v1_ : Value, e = .returned (.tuple #[v0_, v1_, .bool r3, .int .i64 r4]) ∧ Kd.R (Kd.int .u64) 40 w' w.heap.size (fun _ => True) v0_ r1 ∧ Kd.R (Kd.int .u64) 40 w' w.heap.size (fun _ => True) v1_ r2 ∧ Below w.heap.size w w' := by
 have HR1 := Aside0.mk hr1
 have HC1 := Aside0.mk hc1
 clear hr1 hc1
 have HR2 := Aside0.mk hr2
 have HC2 := Aside0.mk hc2
 clear hr2 hc2
 have HB := A_ (Below.refl w.heap.size w)
 have H : ((cr5_bad.f k a0 l1 l2).bind fun t638 => (if t638 = 2 then (cr5_Ratio.j0 k a0 l1 l2 a3 true) else (cr5_Ratio.j0 k a0 l1 l2 a3 (decide (a3 < 0))))) = some (r1, r2, r3, r4) := h
 clear h
 replace H := Option.bind_eq_some_iff.mp H
 obtain ⟨t638, A50, H⟩ := H
 replace H : (if t638 = 2 then (cr5_Ratio.j0 k a0 l1 l2 a3 true) else (cr5_Ratio.j0 k a0 l1 l2 a3 (decide (a3 < 0)))) = some (r1, r2, r3, r4) := H
 have A5 := Aside0.mk A50
 clear A50
 have HC6 := Aside0.mk H
 clear H
 go_enter Try.func25, Try.ntmps25
 go_upto_region 2 with (first | ((with_reducible refine gate_callee (f := 31) rfl ?_); refine goesM_ (some 24) Try.func31 #[.int .u8 a0, .slice A1 l1.length c1, .slice A2 l2.length c2] ?_; (with_reducible refine (cr5_bad.calls k a0 _ _ l1 _ _ l2 t638 _ ?side1 ?side2 ?side3 ?side4 A5.out).mono ?_); (case side1 => exact nC_ HR1.out); (case side2 => exact HC1.out); (case side3 => exact nC_ HR2.out); (case side4 => exact HC2.out); rintro e w' ⟨rfl, ⟨nd, rfl⟩⟩; refine ⟨_, rfl, ?_⟩))
 (try simp only [Act.put, List.setIfInBounds_toArray, List.set_cons_zero, List.set_cons_succ])
 go_cut [30] (fun v30 wc => ∃ (kq : Nat) (x30_5 : Bool), v30 = .bool x30_5 ∧ Aside0 (cr5_Ratio.j0 kq a0 l1 l2 a3 x30_5 = some (r1, r2, r3, r4)) ∧ Aside0 (kq ≤ k) ∧ Aside0 (Below w.heap.size w wc))
 case first =>
  have H := HC6.out
  clear HC6
  by_cases c7 : t638 = 2
  ·rw [if_pos c7] at H
   have c7b0 : (t638 == 2) = true := beq_iff_eq.mpr c7
   have c7b1 : (t638 != 2) = false := bne_eq_false_iff_eq.mpr c7
   clear c7
   (first | rw [c7b0] | rw [c7b1] | (simp only [i64_w, i32_w]; first | rw [c7b0] | rw [c7b1]) | skip)
   have H' := Aside0.mk H
   clear H
   go_wp2
   go_meet
   case rel => exact ⟨_, (true), (fs_), H', ⟨fo_⟩, ⟨by repeat (first | (with_reducible first | exact HB.out | apply below_alloc | apply pw_below_drewN | apply below_drew1) | exact HB.out)⟩⟩
  ·rw [if_neg c7] at H
   have c7b0 : (t638 == 2) = false := beq_eq_false_iff_ne.mpr c7
   have c7b1 : (t638 != 2) = true := bne_iff_ne.mpr c7
   (first | rw [c7b0] | rw [c7b1] | (simp only [i64_w, i32_w]; first | rw [c7b0] | rw [c7b1]) | skip)
   have H' := Aside0.mk H
   clear H
   go_wp2
   go_meet
   case rel => exact ⟨_, (decide (a3 < 0)), (fs_), H', ⟨fo_⟩, ⟨by repeat (first | (with_reducible first | exact HB.out | apply below_alloc | apply pw_below_drewN | apply below_drew1) | exact HB.out)⟩⟩
 case rest =>
  clear HC6
  try clear c1
  try clear c2
  try clear p2
  try clear c3
  try clear c7
  try clear c7b0
  try clear c7b1
  obtain ⟨kq, x30_5, rfl, HA, HJ5, HB⟩ := hcut
  cases kq with
  | zero => exact absurd HA.out (by simp [cr5_Ratio.j0])
  | succ kj5 =>
   have H := HA.out
   clear HA
   simp only [cr5_Ratio.j0] at H
   by_cases c8 : x30_5 = true
   ·subst c8
    have H1 : (some (([] : List Int), ([] : List Int), false, 2)) = some (r1, r2, r3, r4) := by rw [if_pos rfl] at H; exact H
    clear H
    have H := H1
    clear H1
    simp only [Option.some.injEq, Prod.mk.injEq] at H
    obtain ⟨rfl, rfl, rfl, rfl⟩ := H
    go_wp2
    refine bodyPost_ret (results_list (rs := [.tmp 8, .tmp 9, .tmp 10, .tmp 11]) rfl (by simp) (.tmp (.tmp (.tmp (.tmp .nil))))) rfl ?_
    exact ⟨_, _, fr_, by first | exact Kd.R_nil _ _ _ _ _ | exact Kd.N_nil _ _ _ _ _ | exact Kd.V_nil _ _ _ _ _ | exact Kd.Q_nil _ _ _ _ _ | exact Kd.S_nil _ _ _ _ _, by first | exact Kd.R_nil _ _ _ _ _ | exact Kd.N_nil _ _ _ _ _ | exact Kd.V_nil _ _ _ _ _ | exact Kd.Q_nil _ _ _ _ _ | exact Kd.S_nil _ _ _ _ _, hb_⟩
   ·replace c8 := Bool.eq_false_iff.mpr c8
    subst c8
    have H1 : ((cr5_bad.f kj5 a0 l1 l2).bind fun t639 => (if t639 = 0 then ((cr3_Trim.f kj5 l2).bind fun t640 => (if (t640.length : Int) = 0 then (some (([] : List Int), ([] : List Int), false, 5)) else ((cr5_Partial.f kj5 a0 l2 l1 a3).bind fun bt643 => (if (bt643.2.2.1.length : Int) = 0 then (some (([] : List Int), ([] : List Int), false, 0)) else ((cr3_DivMod.f kj5 a0 bt643.1 bt643.2.2.1).bind fun bt653 => (if (bt653.2.1.length : Int) > 0 then (some (([] : List Int), ([] : List Int), false, 0)) else ((cr5_monic.f kj5 a0 bt643.2.2.1).bind fun t660 => (some (bt653.1, t660, true, 0))))))))) else (some (([] : List Int), ([] : List Int), false, t639)))) = some (r1, r2, r3, r4) := by rw [if_neg (show ¬ (false = true) by decide)] at H; exact H
    clear H
    have H := H1
    clear H1
    replace H := Option.bind_eq_some_iff.mp H
    obtain ⟨t639, A90, H⟩ := H
    (try dsimp only at H)
    have A9 := Aside0.mk A90
    clear A90
    have HC10 := Aside0.mk H
    clear H
    go_upto_if 36 with (first | ((with_reducible refine gate_callee (f := 31) rfl ?_); refine goesM_ (some 34) Try.func31 #[.int .u8 a0, .slice A1 l1.length c1, .slice A2 l2.length c2] ?_; (with_reducible refine (cr5_bad.calls kj5 a0 _ _ l1 _ _ l2 t639 _ ?side1 ?side2 ?side3 ?side4 A9.out).mono ?_); (case side1 => repeat (first | exact (Kd.C_below HR1.out HB.out) | (with_reducible refine Kd.C_alloc ?_ _) | (with_reducible refine Kd.C_drewN ?_ _) | (with_reducible refine Kd.C_drew ?_))); (case side2 => exact HC1.out); (case side3 => repeat (first | exact (Kd.C_below HR2.out HB.out) | (with_reducible refine Kd.C_alloc ?_ _) | (with_reducible refine Kd.C_drewN ?_ _) | (with_reducible refine Kd.C_drew ?_))); (case side4 => exact HC2.out); rintro e w' ⟨rfl, ⟨nd, rfl⟩⟩; refine ⟨_, rfl, ?_⟩))
    (try simp only [Act.put, List.setIfInBounds_toArray, List.set_cons_zero, List.set_cons_succ])
    have H := HC10.out
    clear HC10
    by_cases c11 : t639 = 0
    ·rw [if_pos c11] at H
     have c11b0 : (t639 == 0) = true := beq_iff_eq.mpr c11
     have c11b1 : (t639 != 0) = false := bne_eq_false_iff_eq.mpr c11
     clear c11
     (first | rw [c11b0] | rw [c11b1] | (simp only [i64_w, i32_w]; first | rw [c11b0] | rw [c11b1]) | skip)
     replace H := Option.bind_eq_some_iff.mp H
     obtain ⟨t640, A120, H⟩ := H
     (try dsimp only at H)
     have A12 := Aside0.mk A120
     clear A120
     have HC13 := Aside0.mk H
     clear H
     go_upto_if 41 with (first | ((with_reducible refine gate_callee (f := 20) rfl ?_); refine goesM_ (some 39) Try.func20 #[.slice A2 l2.length c2] ?_; (with_reducible refine (cr3_Trim.calls kj5 _ _ l2 t640 _ ?side1 ?side2 A12.out).mono ?_); (case side1 => repeat (first | exact (Kd.C_below HR2.out HB.out) | (with_reducible refine Kd.C_alloc ?_ _) | (with_reducible refine Kd.C_drewN ?_ _) | (with_reducible refine Kd.C_drew ?_))); (case side2 => exact HC2.out); rintro e w14 ⟨v641, rfl, ho0, hb⟩; refine ⟨_, rfl, ?_⟩; have n0_ := A_ (Kd.R_lower (Kd.R_mono (ok' := fun _ => True) ho0 (fun _ _ => trivial)) (below_size hb_)); have n1_ := A_ (below_step hb_ hb); clear HB; have HO642 := n0_; have HB := n1_; clear n0_ n1_; (try clear hb); (try clear ho0); obtain ⟨Ao15, co15, eo15⟩ := Kd.R_slice HO642.out; subst eo15))
     (try simp only [Act.put, List.setIfInBounds_toArray, List.set_cons_zero, List.set_cons_succ])
     have H := HC13.out
     clear HC13
     by_cases c16 : (t640.length : Int) = 0
     ·rw [if_pos c16] at H
      have c16b0 : ((t640.length : Int) == 0) = true := beq_iff_eq.mpr c16
      have c16b1 : ((t640.length : Int) != 0) = false := bne_eq_false_iff_eq.mpr c16
      clear c16
      (first | rw [c16b0] | rw [c16b1] | (simp only [i64_w, i32_w]; first | rw [c16b0] | rw [c16b1]) | skip)
      simp only [Option.some.injEq, Prod.mk.injEq] at H
      obtain ⟨rfl, rfl, rfl, rfl⟩ := H
      go_wp2
      refine bodyPost_ret (results_list (rs := [.tmp 8, .tmp 9, .tmp 10, .tmp 11]) rfl (by simp) (.tmp (.tmp (.tmp (.tmp .nil))))) rfl ?_
      exact ⟨_, _, fr_, by first | exact Kd.R_nil _ _ _ _ _ | exact Kd.N_nil _ _ _ _ _ | exact Kd.V_nil _ _ _ _ _ | exact Kd.Q_nil _ _ _ _ _ | exact Kd.S_nil _ _ _ _ _, by first | exact Kd.R_nil _ _ _ _ _ | exact Kd.N_nil _ _ _ _ _ | exact Kd.V_nil _ _ _ _ _ | exact Kd.Q_nil _ _ _ _ _ | exact Kd.S_nil _ _ _ _ _, hb_⟩
     ·rw [if_neg c16] at H
      have c16b0 : ((t640.length : Int) == 0) = false := beq_eq_false_iff_ne.mpr c16
      have c16b1 : ((t640.length : Int) != 0) = true := bne_iff_ne.mpr c16
      have c16b2 : ¬ (t640 = []) := fun h_ => c16 (by rw [h_]; rfl)
      (first | rw [c16b0] | rw [c16b1] | (simp only [i64_w, i32_w]; first | rw [c16b0] | rw [c16b1]) | skip)
      replace H := Option.bind_eq_some_iff.mp H
      obtain ⟨⟨t643, t644, t645, t646⟩, A170, H⟩ := H
      (try dsimp only at H)
      have A17 := Aside0.mk A170
      clear A170
      have HC18 := Aside0.mk H
      clear H
      go_upto_if 54 with (first | ((with_reducible refine gate_callee (f := 22) rfl ?_); refine goesM_ (some 47) Try.func22 #[.int .u8 a0, .slice A2 l2.length c2, .slice A1 l1.length c1, .int .i64 a3] ?_; (with_reducible refine (cr5_Partial.calls kj5 a0 _ _ l2 _ _ l1 a3 t643 t644 t645 t646 _ ?side1 ?side2 ?side3 ?side4 A17.out).mono ?_); (case side1 => repeat (first | exact (Kd.C_below HR2.out HB.out) | (with_reducible refine Kd.C_alloc ?_ _) | (with_reducible refine Kd.C_drewN ?_ _) | (with_reducible refine Kd.C_drew ?_))); (case side2 => exact HC2.out); (case side3 => repeat (first | exact (Kd.C_below HR1.out HB.out) | (with_reducible refine Kd.C_alloc ?_ _) | (with_reducible refine Kd.C_drewN ?_ _) | (with_reducible refine Kd.C_drew ?_))); (case side4 => exact HC1.out); rintro e w19 ⟨v647, v649, v651, rfl, ho0, ho1, ho2, hb⟩; refine ⟨_, rfl, ?_⟩; have n0_ := A_ (Kd.R_below (nR_ HO642) hb); have n1_ := A_ (Kd.R_lower (Kd.R_mono (ok' := fun _ => True) ho0 (fun _ _ => trivial)) (below_size hb_)); have n2_ := A_ (Kd.R_lower (Kd.R_mono (ok' := fun _ => True) ho1 (fun _ _ => trivial)) (below_size hb_)); have n3_ := A_ (Kd.R_lower (Kd.R_mono (ok' := fun _ => True) ho2 (fun _ _ => trivial)) (below_size hb_)); have n4_ := A_ (below_step hb_ hb); clear HO642 HB; have HO642 := n0_; have HO648 := n1_; have HO650 := n2_; have HO652 := n3_; have HB := n4_; clear n0_ n1_ n2_ n3_ n4_; (try clear hb); (try clear ho0); (try clear ho1); (try clear ho2); obtain ⟨Ao20, co20, eo20⟩ := Kd.R_slice HO652.out; subst eo20))
      (try simp only [Act.put, List.setIfInBounds_toArray, List.set_cons_zero, List.set_cons_succ])
      have H := HC18.out
      clear HC18
      by_cases c21 : (t645.length : Int) = 0
      ·rw [if_pos c21] at H
       have c21b0 : ((t645.length : Int) == 0) = true := beq_iff_eq.mpr c21
       have c21b1 : ((t645.length : Int) != 0) = false := bne_eq_false_iff_eq.mpr c21
       clear c21
       (first | rw [c21b0] | rw [c21b1] | (simp only [i64_w, i32_w]; first | rw [c21b0] | rw [c21b1]) | skip)
       simp only [Option.some.injEq, Prod.mk.injEq] at H
       obtain ⟨rfl, rfl, rfl, rfl⟩ := H
       go_wp2
       refine bodyPost_ret (results_list (rs := [.tmp 8, .tmp 9, .tmp 10, .tmp 11]) rfl (by simp) (.tmp (.tmp (.tmp (.tmp .nil))))) rfl ?_
       exact ⟨_, _, fr_, by first | exact Kd.R_nil _ _ _ _ _ | exact Kd.N_nil _ _ _ _ _ | exact Kd.V_nil _ _ _ _ _ | exact Kd.Q_nil _ _ _ _ _ | exact Kd.S_nil _ _ _ _ _, by first | exact Kd.R_nil _ _ _ _ _ | exact Kd.N_nil _ _ _ _ _ | exact Kd.V_nil _ _ _ _ _ | exact Kd.Q_nil _ _ _ _ _ | exact Kd.S_nil _ _ _ _ _, hb_⟩
      ·rw [if_neg c21] at H
       have c21b0 : ((t645.length : Int) == 0) = false := beq_eq_false_iff_ne.mpr c21
       have c21b1 : ((t645.length : Int) != 0) = true := bne_iff_ne.mpr c21
       have c21b2 : ¬ (t645 = []) := fun h_ => c21 (by rw [h_]; rfl)
       (first | rw [c21b0] | rw [c21b1] | (simp only [i64_w, i32_w]; first | rw [c21b0] | rw [c21b1]) | skip)
       replace H := Option.bind_eq_some_iff.mp H
       obtain ⟨⟨t653, t654, t655⟩, A220, H⟩ := H
       replace H : (if (t654.length : Int) > 0 then (some (([] : List Int), ([] : List Int), false, 0)) else ((cr5_monic.f kj5 a0 t645).bind fun t660 => (some (t653, t660, true, 0)))) = some (r1, r2, r3, r4) := H
       have A22 := Aside0.mk A220
       clear A220
       have HC23 := Aside0.mk H
       clear H
       obtain ⟨Ao24, co24, eo24⟩ := Kd.R_slice HO648.out
       subst eo24
       go_upto_if 65 with (first | ((with_reducible refine gate_callee (f := 19) rfl ?_); refine goesM_ (some 59) Try.func19 #[.int .u8 a0, .slice Ao24 t643.length co24, .slice Ao20 t645.length co20] ?_; (with_reducible refine (cr3_DivMod.calls kj5 a0 _ _ t643 _ _ t645 t653 t654 t655 _ ?side1 ?side2 ?side3 ?side4 A22.out).mono ?_); (case side1 => repeat (first | exact (Kd.R_reads' HO648.out).2.2 | (with_reducible refine Kd.C_alloc ?_ _) | (with_reducible refine Kd.C_drewN ?_ _) | (with_reducible refine Kd.C_drew ?_))); (case side2 => exact (Kd.R_reads' HO648.out).2.1); (case side3 => repeat (first | exact (Kd.R_reads' HO652.out).2.2 | (with_reducible refine Kd.C_alloc ?_ _) | (with_reducible refine Kd.C_drewN ?_ _) | (with_reducible refine Kd.C_drew ?_))); (case side4 => exact (Kd.R_reads' HO652.out).2.1); rintro e w25 ⟨v656, v658, rfl, ho0, ho1, hb⟩; refine ⟨_, rfl, ?_⟩; have n0_ := A_ (Kd.R_below (nR_ HO642) hb); have n1_ := A_ (Kd.R_below (nR_ HO648) hb); have n2_ := A_ (Kd.R_below (nR_ HO650) hb); have n3_ := A_ (Kd.R_below (nR_ HO652) hb); have n4_ := A_ (Kd.R_lower (Kd.R_mono (ok' := fun _ => True) ho0 (fun _ _ => trivial)) (below_size hb_)); have n5_ := A_ (Kd.R_lower (Kd.R_mono (ok' := fun _ => True) ho1 (fun _ _ => trivial)) (below_size hb_)); have n6_ := A_ (below_step hb_ hb); clear HO642 HO648 HO650 HO652 HB; have HO642 := n0_; have HO648 := n1_; have HO650 := n2_; have HO652 := n3_; have HO657 := n4_; have HO659 := n5_; have HB := n6_; clear n0_ n1_ n2_ n3_ n4_ n5_ n6_; (try clear hb); (try clear ho0); (try clear ho1); obtain ⟨Ao26, co26, eo26⟩ := Kd.R_slice HO659.out; subst eo26))
       (try simp only [Act.put, List.setIfInBounds_toArray, List.set_cons_zero, List.set_cons_succ])
       have H := HC23.out
       clear HC23
       by_cases c27 : (t654.length : Int) > 0
       ·rw [if_pos c27] at H
        have c27b0 : decide (0 < (t654.length : Int)) = true := decide_eq_true c27
        have c27b1 : decide (0 < t654.length) = true := decide_eq_true (by omega)
        clear c27
        (first | rw [c27b0] | rw [c27b1] | (simp only [i64_w, i32_w]; first | rw [c27b0] | rw [c27b1]) | skip)
        simp only [Option.some.injEq, Prod.mk.injEq] at H
        obtain ⟨rfl, rfl, rfl, rfl⟩ := H
        go_wp2
        refine bodyPost_ret (results_list (rs := [.tmp 8, .tmp 9, .tmp 10, .tmp 11]) rfl (by simp) (.tmp (.tmp (.tmp (.tmp .nil))))) rfl ?_
        exact ⟨_, _, fr_, by first | exact Kd.R_nil _ _ _ _ _ | exact Kd.N_nil _ _ _ _ _ | exact Kd.V_nil _ _ _ _ _ | exact Kd.Q_nil _ _ _ _ _ | exact Kd.S_nil _ _ _ _ _, by first | exact Kd.R_nil _ _ _ _ _ | exact Kd.N_nil _ _ _ _ _ | exact Kd.V_nil _ _ _ _ _ | exact Kd.Q_nil _ _ _ _ _ | exact Kd.S_nil _ _ _ _ _, hb_⟩
       ·rw [if_neg c27] at H
        have c27b0 : decide (0 < (t654.length : Int)) = false := decide_eq_false c27
        have c27b1 : decide (0 < t654.length) = false := decide_eq_false (by omega)
        clear c27
        (first | rw [c27b0] | rw [c27b1] | (simp only [i64_w, i32_w]; first | rw [c27b0] | rw [c27b1]) | skip)
        replace H := Option.bind_eq_some_iff.mp H
        obtain ⟨t660, A280, H⟩ := H
        replace H : (some (t653, t660, true, 0)) = some (r1, r2, r3, r4) := H
        have A28 := Aside0.mk A280
        clear A280
        simp only [Option.some.injEq, Prod.mk.injEq] at H
        obtain ⟨rfl, rfl, rfl, rfl⟩ := H
        go_wp2_with (first | ((with_reducible refine gate_callee (f := 32) rfl ?_); refine goesM_ (some 69) Try.func32 #[.int .u8 a0, .slice Ao20 t645.length co20] ?_; (with_reducible refine (cr5_monic.calls kj5 a0 _ _ t645 t660 _ ?side1 ?side2 A28.out).mono ?_); (case side1 => repeat (first | exact (Kd.R_reads' HO652.out).2.2 | (with_reducible refine Kd.C_alloc ?_ _) | (with_reducible refine Kd.C_drewN ?_ _) | (with_reducible refine Kd.C_drew ?_))); (case side2 => exact (Kd.R_reads' HO652.out).2.1); rintro e w29 ⟨v661, rfl, ho0, hb⟩; refine ⟨_, rfl, ?_⟩; have n0_ := A_ (Kd.R_below (nR_ HO642) hb); have n1_ := A_ (Kd.R_below (nR_ HO648) hb); have n2_ := A_ (Kd.R_below (nR_ HO650) hb); have n3_ := A_ (Kd.R_below (nR_ HO652) hb); have n4_ := A_ (Kd.R_below (nR_ HO657) hb); have n5_ := A_ (Kd.R_below (nR_ HO659) hb); have n6_ := A_ (Kd.R_lower (Kd.R_mono (ok' := fun _ => True) ho0 (fun _ _ => trivial)) (below_size hb_)); have n7_ := A_ (below_step hb_ hb); clear HO642 HO648 HO650 HO652 HO657 HO659 HB; have HO642 := n0_; have HO648 := n1_; have HO650 := n2_; have HO652 := n3_; have HO657 := n4_; have HO659 := n5_; have HO662 := n6_; have HB := n7_; clear n0_ n1_ n2_ n3_ n4_ n5_ n6_ n7_; (try clear hb); (try clear ho0)))
        refine bodyPost_ret (results_list (rs := [.tmp 8, .tmp 9, .tmp 10, .tmp 11]) rfl (by simp) (.tmp (.tmp (.tmp (.tmp .nil))))) rfl ?_
        exact ⟨_, _, fr_, nR_ HO657, nR_ HO662, hb_⟩
    ·rw [if_neg c11] at H
     have c11b0 : (t639 == 0) = false := beq_eq_false_iff_ne.mpr c11
     have c11b1 : (t639 != 0) = true := bne_iff_ne.mpr c11
     (first | rw [c11b0] | rw [c11b1] | (simp only [i64_w, i32_w]; first | rw [c11b0] | rw [c11b1]) | skip)
     simp only [Option.some.injEq, Prod.mk.injEq] at H
     obtain ⟨rfl, rfl, rfl, rfl⟩ := H
     go_wp2
     refine bodyPost_ret (results_list (rs := [.tmp 8, .tmp 9, .tmp 10, .tmp 11]) rfl (by simp) (.tmp (.tmp (.tmp (.tmp .nil))))) rfl ?_
     exact ⟨_, _, fr_, by first | exact Kd.R_nil _ _ _ _ _ | exact Kd.N_nil _ _ _ _ _ | exact Kd.V_nil _ _ _ _ _ | exact Kd.Q_nil _ _ _ _ _ | exact Kd.S_nil _ _ _ _ _, by first | exact Kd.R_nil _ _ _ _ _ | exact Kd.N_nil _ _ _ _ _ | exact Kd.V_nil _ _ _ _ _ | exact Kd.Q_nil _ _ _ _ _ | exact Kd.S_nil _ _ _ _ _, hb_⟩
/-! ### conclavelaw05_EuclidRatios: function 8 -/
def conclavelaw05_EuclidRatios.f (k : Nat) (a0 : Int) (l1_0 : List Int) (l1_1 : List Int) (a2 : Int) : Option (Bool) := (euclid_Ratio.f k a0 l1_0 l1_1 a2).bind fun bt664 => ((cr5_Ratio.f k a0 l1_0 l1_1 a2).bind fun bt672 => ((cr1_Same.f k bt664.1 bt672.1).bind fun t680 => (if t680 = true then ((cr1_Same.f k bt664.2.1 bt672.2.1).bind fun t681 => (if t681 = true then (if bt664.2.2.1 = true then (if bt672.2.2.1 = true then (if bt664.2.2.2 = bt672.2.2.2 then ((conclavelaw05_anchored.f k).bind fun t682 => (some t682)) else (none)) else (none)) else (if bt672.2.2.1 = true then (none) else (if bt664.2.2.2 = bt672.2.2.2 then ((conclavelaw05_anchored.f k).bind fun t683 => (some t683)) else (none)))) else (none))) else (none))))
theorem conclavelaw05_EuclidRatios.mono : ∀ a0 a1 a2 a3 k, LeO (conclavelaw05_EuclidRatios.f k a0 a1 a2 a3) (conclavelaw05_EuclidRatios.f (k + 1) a0 a1 a2 a3) := by
 intro a0 a1 a2 a3 k
 unfold conclavelaw05_EuclidRatios.f
 repeat' first
   | (with_reducible exact conclavelaw05_anchored.mono _)
   | (with_reducible exact cr1_Same.mono _ _ _)
   | (with_reducible exact cr5_Ratio.mono _ _ _ _ _)
   | (with_reducible exact euclid_Ratio.mono _ _ _ _ _)
   | (with_reducible exact LeO.refl _)
   | (with_reducible exact LeO.none _)
   | (with_reducible refine LeO.ite ?_ ?_)
   | (with_reducible refine LeO.bind ?_ (fun _ => ?_))
   | exact conclavelaw05_anchored.mono _
   | exact cr1_Same.mono _ _ _
   | exact cr5_Ratio.mono _ _ _ _ _
   | exact euclid_Ratio.mono _ _ _ _ _
   | exact LeO.none _
   | refine LeO.ite ?_ ?_
   | refine LeO.bind ?_ (fun _ => ?_)
set_option maxHeartbeats 8000000 in
set_option maxRecDepth 100000 in
theorem conclavelaw05_EuclidRatios.calls (k : Nat) (a0 : Int) (A1_0 : Option Addr) (c1_0 : Nat) (l1_0 : List Int) (A1_1 : Option Addr) (c1_1 : Nat) (l1_1 : List Int) (a2 : Int) (r : Bool) (w : World) (hr1_0 : Kd.C (Kd.int .u64) w A1_0 l1_0.length l1_0) (hc1_0 : l1_0.length ≤ c1_0) (hr1_1 : Kd.C (Kd.int .u64) w A1_1 l1_1.length l1_1) (hc1_1 : l1_1.length ≤ c1_1) (h : conclavelaw05_EuclidRatios.f k a0 l1_0 l1_1 a2 = some r) :
  Calls Try.prog 8 #[.int .u8 a0, .agg #[.slice A1_0 l1_0.length c1_0, .slice A1_1 l1_1.length c1_1], .int .i64 a2] w fun e w' => e = .returned (.bool r) ∧ Below w.heap.size w w' := by
 have hu35 := Try.underlying35
 have HR1_0 := Aside0.mk hr1_0
 have HC1_0 := Aside0.mk hc1_0
 clear hr1_0 hc1_0
 have HR1_1 := Aside0.mk hr1_1
 have HC1_1 := Aside0.mk hc1_1
 clear hr1_1 hc1_1
 have HB := A_ (Below.refl w.heap.size w)
 have H : ((euclid_Ratio.f k a0 l1_0 l1_1 a2).bind fun bt664 => ((cr5_Ratio.f k a0 l1_0 l1_1 a2).bind fun bt672 => ((cr1_Same.f k bt664.1 bt672.1).bind fun t680 => (if t680 = true then ((cr1_Same.f k bt664.2.1 bt672.2.1).bind fun t681 => (if t681 = true then (if bt664.2.2.1 = true then (if bt672.2.2.1 = true then (if bt664.2.2.2 = bt672.2.2.2 then ((conclavelaw05_anchored.f k).bind fun t682 => (some t682)) else (none)) else (none)) else (if bt672.2.2.1 = true then (none) else (if bt664.2.2.2 = bt672.2.2.2 then ((conclavelaw05_anchored.f k).bind fun t683 => (some t683)) else (none)))) else (none))) else (none))))) = some r := h
 clear h
 replace H := Option.bind_eq_some_iff.mp H
 obtain ⟨⟨t664, t667, t670, t671⟩, A40, H⟩ := H
 (try dsimp only at H)
 have A4 := Aside0.mk A40
 clear A40
 replace H := Option.bind_eq_some_iff.mp H
 obtain ⟨⟨t672, t673, t674, t675⟩, A50, H⟩ := H
 (try dsimp only at H)
 have A5 := Aside0.mk A50
 clear A50
 replace H := Option.bind_eq_some_iff.mp H
 obtain ⟨t680, A60, H⟩ := H
 (try dsimp only at H)
 have A6 := Aside0.mk A60
 clear A60
 by_cases c7 : t680 = true
 ·subst c7
  have H1 : ((cr1_Same.f k t667 t673).bind fun t681 => (if t681 = true then (if t670 = true then (if t674 = true then (if t671 = t675 then ((conclavelaw05_anchored.f k).bind fun t682 => (some t682)) else (none)) else (none)) else (if t674 = true then (none) else (if t671 = t675 then ((conclavelaw05_anchored.f k).bind fun t683 => (some t683)) else (none)))) else (none))) = some r := by rw [if_pos rfl] at H; exact H
  clear H
  have H := H1
  clear H1
  replace H := Option.bind_eq_some_iff.mp H
  obtain ⟨t681, A80, H⟩ := H
  (try dsimp only at H)
  have A8 := Aside0.mk A80
  clear A80
  by_cases c9 : t681 = true
  ·subst c9
   have H1 : (if t670 = true then (if t674 = true then (if t671 = t675 then ((conclavelaw05_anchored.f k).bind fun t682 => (some t682)) else (none)) else (none)) else (if t674 = true then (none) else (if t671 = t675 then ((conclavelaw05_anchored.f k).bind fun t683 => (some t683)) else (none)))) = some r := by rw [if_pos rfl] at H; exact H
   clear H
   have H := H1
   clear H1
   by_cases c10 : t670 = true
   ·subst c10
    have H1 : (if t674 = true then (if t671 = t675 then ((conclavelaw05_anchored.f k).bind fun t682 => (some t682)) else (none)) else (none)) = some r := by rw [if_pos rfl] at H; exact H
    clear H
    have H := H1
    clear H1
    by_cases c11 : t674 = true
    ·subst c11
     have H1 : (if t671 = t675 then ((conclavelaw05_anchored.f k).bind fun t682 => (some t682)) else (none)) = some r := by rw [if_pos rfl] at H; exact H
     clear H
     have H := H1
     clear H1
     by_cases c12 : t671 = t675
     ·rw [if_pos c12] at H
      have c12b0 : (t671 == t675) = true := beq_iff_eq.mpr c12
      have c12b1 : (t671 != t675) = false := bne_eq_false_iff_eq.mpr c12
      clear c12
      replace H := Option.bind_eq_some_iff.mp H
      obtain ⟨t682, A130, H⟩ := H
      replace H : (some t682) = some r := H
      have A13 := Aside0.mk A130
      clear A130
      obtain rfl := Option.some.inj H
      go_enter Try.func8, Try.ntmps8
      go_wp2_with (first | ((with_reducible refine gate_dst (N := 4) rfl ?_); refine box_event ?hg (N := 4) ?hd (cs := #[.slice A1_0 l1_0.length c1_0, .slice A1_1 l1_1.length c1_1]) (t := 35) ?hr ?_; (case hd => rfl); (case hg => rfl); (case hr => first | (go_simp; done) | (go_simp; rfl)); intro gb663 hg w14 hbox hb; have n0_ := A_ (below_step hb_ hb); have n1_ := A_ (hbox); have n2_ := A_ ((by rw [hg]; exact (below_size hb_) : w.heap.size ≤ gb663)); have n3_ := A_ ((by rw [hg]; exact (below_size hb_) : w.heap.size ≤ gb663)); clear HB; have HB := n0_; have BK663 := n1_; have GW663 := n2_; have GE663 := n3_; clear n0_ n1_ n2_ n3_; clear hb hbox hg; have hcz15_0 : w14.cell? ⟨gb663, 0, none⟩ = some (.slice A1_0 l1_0.length c1_0) := (blk_cell BK663.out 0).trans rfl; have hcz15_1 : w14.cell? ⟨gb663, 1, none⟩ = some (.slice A1_1 l1_1.length c1_1) := (blk_cell BK663.out 1).trans rfl; have hfz15_0 := blk_frozen BK663.out 0; have hfz15_1 := blk_frozen BK663.out 1) | ((with_reducible refine gate_callee (f := 24) rfl ?_); refine goesM_ (some 24) Try.func24 #[.int .u8 a0, .slice A1_0 l1_0.length c1_0, .slice A1_1 l1_1.length c1_1, .int .i64 a2] ?_; (with_reducible refine (euclid_Ratio.calls k a0 (fun k_ => k_ < w.heap.size) _ _ l1_0 (fun k_ => k_ < w.heap.size) _ _ l1_1 a2 t664 t667 true t671 _ ?side1 ?side2 A4.out).mono ?_); (case side1 => exact Kd.V_mk HC1_0.out (Kd.F_below (Kd.C_F (Kd.heap_int .u64) HR1_0.out) hs_)); (case side2 => exact Kd.V_mk HC1_1.out (Kd.F_below (Kd.C_F (Kd.heap_int .u64) HR1_1.out) hs_)); rintro e w16 ⟨v665, v668, rfl, ho0, ho1, hb⟩; refine ⟨_, rfl, ?_⟩; have n0_ := A_ (Kd.R_lower (Kd.R_mono (ok' := fun k_ => True) ho0 (fun _ hk_ => trivial)) (below_size hs_)); have n1_ := A_ (Kd.R_lower (Kd.R_mono (ok' := fun k_ => True) ho1 (fun _ hk_ => trivial)) (below_size hs_)); have n2_ := A_ (blk_below (g := gb663) (o := .cells #[.slice A1_0 l1_0.length c1_0, .slice A1_1 l1_1.length c1_1] 35 (0, 0)) (nb_ BK663) hb); have n3_ := A_ (below_step hs_ hb); clear BK663 HB; have HO666 := n0_; have HO669 := n1_; have BK663 := n2_; have HB := n3_; clear n0_ n1_ n2_ n3_; (try clear hb); (try clear ho0); (try clear ho1); have hcz17_0 : w16.cell? ⟨gb663, 0, none⟩ = some (.slice A1_0 l1_0.length c1_0) := (blk_cell BK663.out 0).trans rfl; have hcz17_1 : w16.cell? ⟨gb663, 1, none⟩ = some (.slice A1_1 l1_1.length c1_1) := (blk_cell BK663.out 1).trans rfl; have hfz17_0 := blk_frozen BK663.out 0; have hfz17_1 := blk_frozen BK663.out 1) | ((with_reducible refine gate_callee (f := 25) rfl ?_); refine goesM_ (some 36) Try.func25 #[.int .u8 a0, .slice A1_0 l1_0.length c1_0, .slice A1_1 l1_1.length c1_1, .int .i64 a2] ?_; (with_reducible refine (cr5_Ratio.calls k a0 _ _ l1_0 _ _ l1_1 a2 t672 t673 true t675 _ ?side1 ?side2 ?side3 ?side4 A5.out).mono ?_); (case side1 => repeat (first | exact (Kd.C_below HR1_0.out HB.out) | (with_reducible refine Kd.C_alloc ?_ _) | (with_reducible refine Kd.C_drewN ?_ _) | (with_reducible refine Kd.C_drew ?_))); (case side2 => exact HC1_0.out); (case side3 => repeat (first | exact (Kd.C_below HR1_1.out HB.out) | (with_reducible refine Kd.C_alloc ?_ _) | (with_reducible refine Kd.C_drewN ?_ _) | (with_reducible refine Kd.C_drew ?_))); (case side4 => exact HC1_1.out); rintro e w18 ⟨v676, v678, rfl, ho0, ho1, hb⟩; refine ⟨_, rfl, ?_⟩; have n0_ := A_ (Kd.R_below (nR_ HO666) hb); have n1_ := A_ (Kd.R_below (nR_ HO669) hb); have n2_ := A_ (Kd.R_lower (Kd.R_mono (ok' := fun _ => True) ho0 (fun _ _ => trivial)) (below_size hs_)); have n3_ := A_ (Kd.R_lower (Kd.R_mono (ok' := fun _ => True) ho1 (fun _ _ => trivial)) (below_size hs_)); have n4_ := A_ (blk_below (g := gb663) (o := .cells #[.slice A1_0 l1_0.length c1_0, .slice A1_1 l1_1.length c1_1] 35 (0, 0)) (nb_ BK663) hb); have n5_ := A_ (below_step hs_ hb); clear HO666 HO669 BK663 HB; have HO666 := n0_; have HO669 := n1_; have HO677 := n2_; have HO679 := n3_; have BK663 := n4_; have HB := n5_; clear n0_ n1_ n2_ n3_ n4_ n5_; (try clear hb); (try clear ho0); (try clear ho1); obtain ⟨Ao19, co19, eo19⟩ := Kd.R_slice HO666.out; subst eo19; obtain ⟨Ao20, co20, eo20⟩ := Kd.R_slice HO677.out; subst eo20) | ((with_reducible refine gate_callee (f := 14) rfl ?_); refine goesM_ (some 43) Try.func14 #[.slice Ao19 t664.length co19, .slice Ao20 t672.length co20] ?_; (with_reducible refine (cr1_Same.calls k _ _ t664 _ _ t672 true _ ?side1 ?side2 ?side3 ?side4 A6.out).mono ?_); (case side1 => repeat (first | exact (Kd.R_reads' HO666.out).2.2 | (with_reducible refine Kd.C_alloc ?_ _) | (with_reducible refine Kd.C_drewN ?_ _) | (with_reducible refine Kd.C_drew ?_))); (case side2 => exact (Kd.R_reads' HO666.out).2.1); (case side3 => repeat (first | exact (Kd.R_reads' HO677.out).2.2 | (with_reducible refine Kd.C_alloc ?_ _) | (with_reducible refine Kd.C_drewN ?_ _) | (with_reducible refine Kd.C_drew ?_))); (case side4 => exact (Kd.R_reads' HO677.out).2.1); rintro e w' ⟨rfl, ⟨nd, rfl⟩⟩; refine ⟨_, rfl, ?_⟩; obtain ⟨Ao21, co21, eo21⟩ := Kd.R_slice HO669.out; subst eo21; obtain ⟨Ao22, co22, eo22⟩ := Kd.R_slice HO679.out; subst eo22) | (go_at_call 14; (with_reducible refine (cr1_Same.calls k _ _ t667 _ _ t673 true _ ?side1 ?side2 ?side3 ?side4 A8.out).mono ?_); (case side1 => repeat (first | exact (Kd.R_reads' HO669.out).2.2 | (with_reducible refine Kd.C_alloc ?_ _) | (with_reducible refine Kd.C_drewN ?_ _) | (with_reducible refine Kd.C_drew ?_))); (case side2 => exact (Kd.R_reads' HO669.out).2.1); (case side3 => repeat (first | exact (Kd.R_reads' HO679.out).2.2 | (with_reducible refine Kd.C_alloc ?_ _) | (with_reducible refine Kd.C_drewN ?_ _) | (with_reducible refine Kd.C_drew ?_))); (case side4 => exact (Kd.R_reads' HO679.out).2.1); rintro e w' ⟨rfl, ⟨nd, rfl⟩⟩) | (go_at_call 17; (with_reducible refine (conclavelaw05_anchored.calls k  t682 _ A13.out).mono ?_); rintro e w23 ⟨rfl, hb⟩; have n0_ := A_ (Kd.R_below (nR_ HO666) hb); have n1_ := A_ (Kd.R_below (nR_ HO669) hb); have n2_ := A_ (Kd.R_below (nR_ HO677) hb); have n3_ := A_ (Kd.R_below (nR_ HO679) hb); have n4_ := A_ (blk_below (g := gb663) (o := .cells #[.slice A1_0 l1_0.length c1_0, .slice A1_1 l1_1.length c1_1] 35 (0, 0)) (nb_ BK663) hb); have n5_ := A_ (below_step hs_ hb); clear HO666 HO669 HO677 HO679 BK663 HB; have HO666 := n0_; have HO669 := n1_; have HO677 := n2_; have HO679 := n3_; have BK663 := n4_; have HB := n5_; clear n0_ n1_ n2_ n3_ n4_ n5_; (try clear hb)))
      go_ret
      exact ⟨fr_, hs_⟩
     ·rw [if_neg c12] at H
      exact absurd H (by simp)
    ·replace c11 := Bool.eq_false_iff.mpr c11
     subst c11
     have H1 : (none) = some r := by rw [if_neg (show ¬ (false = true) by decide)] at H; exact H
     clear H
     have H := H1
     clear H1
     exact absurd H (by simp)
   ·replace c10 := Bool.eq_false_iff.mpr c10
    subst c10
    have H1 : (if t674 = true then (none) else (if t671 = t675 then ((conclavelaw05_anchored.f k).bind fun t683 => (some t683)) else (none))) = some r := by rw [if_neg (show ¬ (false = true) by decide)] at H; exact H
    clear H
    have H := H1
    clear H1
    by_cases c24 : t674 = true
    ·subst c24
     have H1 : (none) = some r := by rw [if_pos rfl] at H; exact H
     clear H
     have H := H1
     clear H1
     exact absurd H (by simp)
    ·replace c24 := Bool.eq_false_iff.mpr c24
     subst c24
     have H1 : (if t671 = t675 then ((conclavelaw05_anchored.f k).bind fun t683 => (some t683)) else (none)) = some r := by rw [if_neg (show ¬ (false = true) by decide)] at H; exact H
     clear H
     have H := H1
     clear H1
     by_cases c25 : t671 = t675
     ·rw [if_pos c25] at H
      have c25b0 : (t671 == t675) = true := beq_iff_eq.mpr c25
      have c25b1 : (t671 != t675) = false := bne_eq_false_iff_eq.mpr c25
      clear c25
      replace H := Option.bind_eq_some_iff.mp H
      obtain ⟨t683, A260, H⟩ := H
      replace H : (some t683) = some r := H
      have A26 := Aside0.mk A260
      clear A260
      obtain rfl := Option.some.inj H
      go_enter Try.func8, Try.ntmps8
      go_wp2_with (first | ((with_reducible refine gate_dst (N := 4) rfl ?_); refine box_event ?hg (N := 4) ?hd (cs := #[.slice A1_0 l1_0.length c1_0, .slice A1_1 l1_1.length c1_1]) (t := 35) ?hr ?_; (case hd => rfl); (case hg => rfl); (case hr => first | (go_simp; done) | (go_simp; rfl)); intro gb663 hg w27 hbox hb; have n0_ := A_ (below_step hb_ hb); have n1_ := A_ (hbox); have n2_ := A_ ((by rw [hg]; exact (below_size hb_) : w.heap.size ≤ gb663)); have n3_ := A_ ((by rw [hg]; exact (below_size hb_) : w.heap.size ≤ gb663)); clear HB; have HB := n0_; have BK663 := n1_; have GW663 := n2_; have GE663 := n3_; clear n0_ n1_ n2_ n3_; clear hb hbox hg; have hcz28_0 : w27.cell? ⟨gb663, 0, none⟩ = some (.slice A1_0 l1_0.length c1_0) := (blk_cell BK663.out 0).trans rfl; have hcz28_1 : w27.cell? ⟨gb663, 1, none⟩ = some (.slice A1_1 l1_1.length c1_1) := (blk_cell BK663.out 1).trans rfl; have hfz28_0 := blk_frozen BK663.out 0; have hfz28_1 := blk_frozen BK663.out 1) | ((with_reducible refine gate_callee (f := 24) rfl ?_); refine goesM_ (some 24) Try.func24 #[.int .u8 a0, .slice A1_0 l1_0.length c1_0, .slice A1_1 l1_1.length c1_1, .int .i64 a2] ?_; (with_reducible refine (euclid_Ratio.calls k a0 (fun k_ => k_ < w.heap.size) _ _ l1_0 (fun k_ => k_ < w.heap.size) _ _ l1_1 a2 t664 t667 false t671 _ ?side1 ?side2 A4.out).mono ?_); (case side1 => exact Kd.V_mk HC1_0.out (Kd.F_below (Kd.C_F (Kd.heap_int .u64) HR1_0.out) hs_)); (case side2 => exact Kd.V_mk HC1_1.out (Kd.F_below (Kd.C_F (Kd.heap_int .u64) HR1_1.out) hs_)); rintro e w29 ⟨v665, v668, rfl, ho0, ho1, hb⟩; refine ⟨_, rfl, ?_⟩; have n0_ := A_ (Kd.R_lower (Kd.R_mono (ok' := fun k_ => True) ho0 (fun _ hk_ => trivial)) (below_size hs_)); have n1_ := A_ (Kd.R_lower (Kd.R_mono (ok' := fun k_ => True) ho1 (fun _ hk_ => trivial)) (below_size hs_)); have n2_ := A_ (blk_below (g := gb663) (o := .cells #[.slice A1_0 l1_0.length c1_0, .slice A1_1 l1_1.length c1_1] 35 (0, 0)) (nb_ BK663) hb); have n3_ := A_ (below_step hs_ hb); clear BK663 HB; have HO666 := n0_; have HO669 := n1_; have BK663 := n2_; have HB := n3_; clear n0_ n1_ n2_ n3_; (try clear hb); (try clear ho0); (try clear ho1); have hcz30_0 : w29.cell? ⟨gb663, 0, none⟩ = some (.slice A1_0 l1_0.length c1_0) := (blk_cell BK663.out 0).trans rfl; have hcz30_1 : w29.cell? ⟨gb663, 1, none⟩ = some (.slice A1_1 l1_1.length c1_1) := (blk_cell BK663.out 1).trans rfl; have hfz30_0 := blk_frozen BK663.out 0; have hfz30_1 := blk_frozen BK663.out 1) | ((with_reducible refine gate_callee (f := 25) rfl ?_); refine goesM_ (some 36) Try.func25 #[.int .u8 a0, .slice A1_0 l1_0.length c1_0, .slice A1_1 l1_1.length c1_1, .int .i64 a2] ?_; (with_reducible refine (cr5_Ratio.calls k a0 _ _ l1_0 _ _ l1_1 a2 t672 t673 false t675 _ ?side1 ?side2 ?side3 ?side4 A5.out).mono ?_); (case side1 => repeat (first | exact (Kd.C_below HR1_0.out HB.out) | (with_reducible refine Kd.C_alloc ?_ _) | (with_reducible refine Kd.C_drewN ?_ _) | (with_reducible refine Kd.C_drew ?_))); (case side2 => exact HC1_0.out); (case side3 => repeat (first | exact (Kd.C_below HR1_1.out HB.out) | (with_reducible refine Kd.C_alloc ?_ _) | (with_reducible refine Kd.C_drewN ?_ _) | (with_reducible refine Kd.C_drew ?_))); (case side4 => exact HC1_1.out); rintro e w31 ⟨v676, v678, rfl, ho0, ho1, hb⟩; refine ⟨_, rfl, ?_⟩; have n0_ := A_ (Kd.R_below (nR_ HO666) hb); have n1_ := A_ (Kd.R_below (nR_ HO669) hb); have n2_ := A_ (Kd.R_lower (Kd.R_mono (ok' := fun _ => True) ho0 (fun _ _ => trivial)) (below_size hs_)); have n3_ := A_ (Kd.R_lower (Kd.R_mono (ok' := fun _ => True) ho1 (fun _ _ => trivial)) (below_size hs_)); have n4_ := A_ (blk_below (g := gb663) (o := .cells #[.slice A1_0 l1_0.length c1_0, .slice A1_1 l1_1.length c1_1] 35 (0, 0)) (nb_ BK663) hb); have n5_ := A_ (below_step hs_ hb); clear HO666 HO669 BK663 HB; have HO666 := n0_; have HO669 := n1_; have HO677 := n2_; have HO679 := n3_; have BK663 := n4_; have HB := n5_; clear n0_ n1_ n2_ n3_ n4_ n5_; (try clear hb); (try clear ho0); (try clear ho1); obtain ⟨Ao32, co32, eo32⟩ := Kd.R_slice HO666.out; subst eo32; obtain ⟨Ao33, co33, eo33⟩ := Kd.R_slice HO677.out; subst eo33) | ((with_reducible refine gate_callee (f := 14) rfl ?_); refine goesM_ (some 43) Try.func14 #[.slice Ao32 t664.length co32, .slice Ao33 t672.length co33] ?_; (with_reducible refine (cr1_Same.calls k _ _ t664 _ _ t672 true _ ?side1 ?side2 ?side3 ?side4 A6.out).mono ?_); (case side1 => repeat (first | exact (Kd.R_reads' HO666.out).2.2 | (with_reducible refine Kd.C_alloc ?_ _) | (with_reducible refine Kd.C_drewN ?_ _) | (with_reducible refine Kd.C_drew ?_))); (case side2 => exact (Kd.R_reads' HO666.out).2.1); (case side3 => repeat (first | exact (Kd.R_reads' HO677.out).2.2 | (with_reducible refine Kd.C_alloc ?_ _) | (with_reducible refine Kd.C_drewN ?_ _) | (with_reducible refine Kd.C_drew ?_))); (case side4 => exact (Kd.R_reads' HO677.out).2.1); rintro e w' ⟨rfl, ⟨nd, rfl⟩⟩; refine ⟨_, rfl, ?_⟩; obtain ⟨Ao34, co34, eo34⟩ := Kd.R_slice HO669.out; subst eo34; obtain ⟨Ao35, co35, eo35⟩ := Kd.R_slice HO679.out; subst eo35) | (go_at_call 14; (with_reducible refine (cr1_Same.calls k _ _ t667 _ _ t673 true _ ?side1 ?side2 ?side3 ?side4 A8.out).mono ?_); (case side1 => repeat (first | exact (Kd.R_reads' HO669.out).2.2 | (with_reducible refine Kd.C_alloc ?_ _) | (with_reducible refine Kd.C_drewN ?_ _) | (with_reducible refine Kd.C_drew ?_))); (case side2 => exact (Kd.R_reads' HO669.out).2.1); (case side3 => repeat (first | exact (Kd.R_reads' HO679.out).2.2 | (with_reducible refine Kd.C_alloc ?_ _) | (with_reducible refine Kd.C_drewN ?_ _) | (with_reducible refine Kd.C_drew ?_))); (case side4 => exact (Kd.R_reads' HO679.out).2.1); rintro e w' ⟨rfl, ⟨nd, rfl⟩⟩) | (go_at_call 17; (with_reducible refine (conclavelaw05_anchored.calls k  t683 _ A26.out).mono ?_); rintro e w36 ⟨rfl, hb⟩; have n0_ := A_ (Kd.R_below (nR_ HO666) hb); have n1_ := A_ (Kd.R_below (nR_ HO669) hb); have n2_ := A_ (Kd.R_below (nR_ HO677) hb); have n3_ := A_ (Kd.R_below (nR_ HO679) hb); have n4_ := A_ (blk_below (g := gb663) (o := .cells #[.slice A1_0 l1_0.length c1_0, .slice A1_1 l1_1.length c1_1] 35 (0, 0)) (nb_ BK663) hb); have n5_ := A_ (below_step hs_ hb); clear HO666 HO669 HO677 HO679 BK663 HB; have HO666 := n0_; have HO669 := n1_; have HO677 := n2_; have HO679 := n3_; have BK663 := n4_; have HB := n5_; clear n0_ n1_ n2_ n3_ n4_ n5_; (try clear hb)))
      go_ret
      exact ⟨fr_, hs_⟩
     ·rw [if_neg c25] at H
      exact absurd H (by simp)
  ·replace c9 := Bool.eq_false_iff.mpr c9
   subst c9
   have H1 : (none) = some r := by rw [if_neg (show ¬ (false = true) by decide)] at H; exact H
   clear H
   have H := H1
   clear H1
   exact absurd H (by simp)
 ·replace c7 := Bool.eq_false_iff.mpr c7
  subst c7
  have H1 : (none) = some r := by rw [if_neg (show ¬ (false = true) by decide)] at H; exact H
  clear H
  have H := H1
  clear H1
  exact absurd H (by simp)
/-- THE ONE PURE STATEMENT of conclavelaw05_EuclidRatios: yours. -/
def conclavelaw05_EuclidRatios.Pure : Prop := ∀ (a0 : Int) (l1_0 : List Int) (l1_1 : List Int) (a2 : Int), (Lit.int .u8 a0).wf = true → l1_0.length ≤ maxLen → l1_0.length * 8 ≤ 140737488351232 → (∀ x ∈ l1_0, (Lit.int .u64 x).wf = true) → l1_1.length ≤ maxLen → l1_1.length * 8 ≤ 140737488351232 → (∀ x ∈ l1_1, (Lit.int .u64 x).wf = true) → (Lit.int .i64 a2).wf = true → ∃ k, conclavelaw05_EuclidRatios.f k a0 l1_0 l1_1 a2 = some true
theorem conclavelaw05_EuclidRatios.walk (P : conclavelaw05_EuclidRatios.Pure) (a0 : Int) (a1_0 : Option Addr) (len1_0 cap1_0 : Nat) (z1_0 : List Int) (a1_1 : Option Addr) (len1_1 cap1_1 : Nat) (z1_1 : List Int) (a2 : Int) (w : World) (w0 : (Lit.int .u8 a0).wf = true) (w1_0 : (a1_0 = none ∧ len1_0 = 0 ∧ cap1_0 = 0 ∧ z1_0 = []) ∨ ∃ x, a1_0 = some x ∧ len1_0 ≤ cap1_0 ∧ cap1_0 ≤ maxLen ∧ z1_0.length = cap1_0 ∧ (∀ i, i < z1_0.length → w.cell? (x.add i) = some (.int .u64 (z1_0.getD i 0))) ∧ ∀ n ∈ z1_0, (Lit.int .u64 n).wf = true) (y1_0 : len1_0 * 8 ≤ 140737488351232) (w1_1 : (a1_1 = none ∧ len1_1 = 0 ∧ cap1_1 = 0 ∧ z1_1 = []) ∨ ∃ x, a1_1 = some x ∧ len1_1 ≤ cap1_1 ∧ cap1_1 ≤ maxLen ∧ z1_1.length = cap1_1 ∧ (∀ i, i < z1_1.length → w.cell? (x.add i) = some (.int .u64 (z1_1.getD i 0))) ∧ ∀ n ∈ z1_1, (Lit.int .u64 n).wf = true) (y1_1 : len1_1 * 8 ≤ 140737488351232) (w2 : (Lit.int .i64 a2).wf = true) :
  Calls Try.prog 8 #[.int .u8 a0, .agg #[.slice a1_0 len1_0 cap1_0, .slice a1_1 len1_1 cap1_1], .int .i64 a2] w fun e w' => e = .returned (.bool true) ∧ Below w.heap.size w w' := by
 obtain ⟨l1_0, rfl, hr1_0, hm1_0, hw1_0, hc1_0⟩ := ReadsInt.ofRowC w1_0
 obtain ⟨l1_1, rfl, hr1_1, hm1_1, hw1_1, hc1_1⟩ := ReadsInt.ofRowC w1_1
 obtain ⟨k, h⟩ := P a0 l1_0 l1_1 a2 w0 hm1_0 y1_0 hw1_0 hm1_1 y1_1 hw1_1 w2
 refine (conclavelaw05_EuclidRatios.calls k a0 _ _ l1_0 _ _ l1_1 a2 true w (Kd.C_of_reads (d := (0 : Int)) (h1 := fun _ => rfl) hr1_0) hc1_0 (Kd.C_of_reads (d := (0 : Int)) (h1 := fun _ => rfl) hr1_1) hc1_1 h).mono ?_
 rintro e w' ⟨rfl, hd⟩
 exact ⟨rfl, hd⟩
end Go.Proofs.Yteofgcmgncaojaa.PEuclidRatios
