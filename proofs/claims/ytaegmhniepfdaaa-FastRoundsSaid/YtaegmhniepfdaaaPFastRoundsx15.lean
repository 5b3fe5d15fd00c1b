/- The Go functions as Lean functions, each with the proof that its call comes to just that; written by a program of this session, by the words of the print. -/
import Derived.Test.YtaegmhniepfdaaaPFastRoundsx0
import Derived.Test.YtaegmhniepfdaaaPFastRoundsx1
import Derived.Test.YtaegmhniepfdaaaPFastRoundsx14
namespace Go.Proofs.Ytaegmhniepfdaaa.PFastRounds
open Go.RowKit Go.Proofs.YtaegmhniepfdaaaW.PrintWords Go.Proofs.YtaegmhniepfdaaaW.PrintLast Go.Proofs.YtaegmhniepfdaaaW.PrintMore
attribute [local go_sem] max2_int min2_int max_two min_two max_three min_three max_four min_four   -- for this text's walks alone
set_option linter.unusedVariables false
set_option linter.unusedSimpArgs false
/-! ### cr1_Same: function 18 -/
def cr1_Same.l0 : Nat → List Int → List Int → Int → Option (Bool)
 | 0, _, _, _ => none
 | k + 1, x0, x1, x5 => if x5 < (x0.length : Int) then (if 0 ≤ x5 then (if x5 < (x1.length : Int) then (if (rd x0 x5) = (rd x1 x5) then (cr1_Same.l0 k x0 x1 (wrap64 (x5 + 1))) else (some false)) else (none)) else (none)) else (some true)
def cr1_Same.f (k : Nat) (l0 : List Int) (l1 : List Int) : Option (Bool) := if (l0.length : Int) = (l1.length : Int) then (cr1_Same.l0 k l0 l1 0) else (some false)
theorem cr1_Same.mono_l : ∀ k, (∀ y0 y1 y2, LeO (cr1_Same.l0 k y0 y1 y2) (cr1_Same.l0 (k + 1) y0 y1 y2))
 | 0 => fun _ _ _ r h => by simp [cr1_Same.l0] at h
 | k + 1 => by
  have ih0 := cr1_Same.mono_l k
  ·intro y0 y1 y2
   unfold cr1_Same.l0
   repeat' first
   | (with_reducible exact ih0 _ _ _)
   | (with_reducible exact LeO.refl _)
   | (with_reducible exact LeO.none _)
   | (with_reducible refine LeO.ite ?_ ?_)
   | (with_reducible refine LeO.bind ?_ (fun _ => ?_))
   | exact ih0 _ _ _
   | exact LeO.none _
   | refine LeO.ite ?_ ?_
   | refine LeO.bind ?_ (fun _ => ?_)
theorem cr1_Same.mono : ∀ a0 a1 k, LeO (cr1_Same.f k a0 a1) (cr1_Same.f (k + 1) a0 a1) := by
 intro a0 a1 k
 have ih0 := cr1_Same.mono_l k
 unfold cr1_Same.f
 repeat' first
   | (with_reducible exact ih0 _ _ _)
   | (with_reducible exact LeO.refl _)
   | (with_reducible exact LeO.none _)
   | (with_reducible refine LeO.ite ?_ ?_)
   | (with_reducible refine LeO.bind ?_ (fun _ => ?_))
   | exact ih0 _ _ _
   | exact LeO.none _
   | refine LeO.ite ?_ ?_
   | refine LeO.bind ?_ (fun _ => ?_)
set_option maxHeartbeats 8000000 in
set_option maxRecDepth 100000 in
theorem cr1_Same.calls (k : Nat) (A0 : Option Addr) (c0 : Nat) (l0 : List Int) (A1 : Option Addr) (c1 : Nat) (l1 : List Int) (r : Bool) (w : World) (hr0 : Kd.C (Kd.int .u64) w A0 l0.length l0) (hc0 : l0.length ≤ c0) (hr1 : Kd.C (Kd.int .u64) w A1 l1.length l1) (hc1 : l1.length ≤ c1) (h : cr1_Same.f k l0 l1 = some r) :
  Calls Try.prog 18 #[.slice A0 l0.length c0, .slice A1 l1.length c1] w fun e w' => e = .returned (.bool r) ∧ Drawn0 w w' := by
 have HR0 := Aside0.mk hr0
 have HC0 := Aside0.mk hc0
 clear hr0 hc0
 have HR1 := Aside0.mk hr1
 have HC1 := Aside0.mk hc1
 clear hr1 hc1
 have H : (if (l0.length : Int) = (l1.length : Int) then (cr1_Same.l0 k l0 l1 0) else (some false)) = some r := h
 clear h
 by_cases c3 : (l0.length : Int) = (l1.length : Int)
 ·rw [if_pos c3] at H
  have c3b0 : ((l0.length : Int) == (l1.length : Int)) = true := beq_iff_eq.mpr c3
  have c3b1 : ((l0.length : Int) != (l1.length : Int)) = false := bne_eq_false_iff_eq.mpr c3
  have c3b2 : (l0.length == l1.length) = true := by first | simpa using c3 | (simp at c3 ⊢; omega)
  clear c3
  have H' := Aside0.mk H
  clear H
  go_enter Try.func18, Try.ntmps18
  go_wp2
  repeat (go_quiet (fail); try go_wp2)
  go_loopg [5] k (fun kq v5 w' => ∃ (x5_1 : Int), v5 = .int .i64 x5_1 ∧ Aside0 (cr1_Same.l0 kq l0 l1 x5_1 = some r) ∧ Aside0 (kq ≤ k) ∧ Drawn0 w w')
  case atStart => exact ⟨(0), (fs_), H', ⟨Nat.le_refl _⟩, by repeat (first | exact Drawn0.refl _ | apply Drawn0.step)⟩
  case round =>
   clear H'
   try clear c1
   try clear p2
   try clear c3
   try clear c3b0
   try clear c3b1
   try clear c3b2
   obtain ⟨x5_1, rfl, HA, HK1, ⟨m1, rfl⟩⟩ := hrel
   cases gk with
   | zero => exact absurd HA.out (by simp [cr1_Same.l0])
   | succ k1 =>
    have H := HA.out
    clear HA
    simp only [cr1_Same.l0] at H
    by_cases c4 : x5_1 < (l0.length : Int)
    ·rw [if_pos c4] at H
     have c4b0 : decide (x5_1 < (l0.length : Int)) = true := decide_eq_true c4
     clear c4
     by_cases c5 : 0 ≤ x5_1
     ·rw [if_pos c5] at H
      have c5b0 : decide (0 ≤ x5_1) = true := decide_eq_true c5
      clear c5
      by_cases c6 : x5_1 < (l1.length : Int)
      ·rw [if_pos c6] at H
       have c6b0 : decide (x5_1 < (l1.length : Int)) = true := decide_eq_true c6
       clear c6
       by_cases c7 : (rd l0 x5_1) = (rd l1 x5_1)
       ·rw [if_pos c7] at H
        have c7b0 : ((rd l0 x5_1) == (rd l1 x5_1)) = true := beq_iff_eq.mpr c7
        have c7b1 : ((rd l0 x5_1) != (rd l1 x5_1)) = false := bne_eq_false_iff_eq.mpr c7
        clear c7
        have H' := Aside0.mk H
        clear H
        have p491 : 0 ≤ (x5_1 : Int) := of_decide_eq_true (by first | (with_reducible assumption) | assumption)
        have q491 : x5_1 < (l0.length : Int) := of_decide_eq_true (by first | (with_reducible assumption) | assumption)
        obtain ⟨ad491, e491, hx491_0⟩ := Kd.at_int HR0.out x5_1 p491 q491
        cases e491
        replace p491 := eq_true p491
        replace q491 := eq_true q491
        have p492 : 0 ≤ (x5_1 : Int) := of_decide_eq_true (by first | (with_reducible assumption) | assumption)
        have q492 : x5_1 < (l1.length : Int) := of_decide_eq_true (by first | (with_reducible assumption) | assumption)
        obtain ⟨ad492, e492, hx492_0⟩ := Kd.at_int HR1.out x5_1 p492 q492
        cases e492
        replace p492 := eq_true p492
        replace q492 := eq_true q492
        go_wp2
        repeat (go_quiet (fail); try go_wp2)
        go_roundg k1
        case measure => have := HK1.out; omega
        case rel => exact ⟨(wrap64 (x5_1 + 1)), (fs_), H', ⟨by have := HK1.out; omega⟩, by repeat (first | exact Drawn0.refl _ | apply Drawn0.step)⟩
       ·rw [if_neg c7] at H
        have c7b0 : ((rd l0 x5_1) == (rd l1 x5_1)) = false := beq_eq_false_iff_ne.mpr c7
        have c7b1 : ((rd l0 x5_1) != (rd l1 x5_1)) = true := bne_iff_ne.mpr c7
        obtain rfl := Option.some.inj H
        have p491 : 0 ≤ (x5_1 : Int) := of_decide_eq_true (by first | (with_reducible assumption) | assumption)
        have q491 : x5_1 < (l0.length : Int) := of_decide_eq_true (by first | (with_reducible assumption) | assumption)
        obtain ⟨ad491, e491, hx491_0⟩ := Kd.at_int HR0.out x5_1 p491 q491
        cases e491
        replace p491 := eq_true p491
        replace q491 := eq_true q491
        have p492 : 0 ≤ (x5_1 : Int) := of_decide_eq_true (by first | (with_reducible assumption) | assumption)
        have q492 : x5_1 < (l1.length : Int) := of_decide_eq_true (by first | (with_reducible assumption) | assumption)
        obtain ⟨ad492, e492, hx492_0⟩ := Kd.at_int HR1.out x5_1 p492 q492
        cases e492
        replace p492 := eq_true p492
        replace q492 := eq_true q492
        go_wp2
        repeat (go_quiet (fail); try go_wp2)
        go_ret
        exact ⟨fs_, by repeat (first | exact Drawn0.refl _ | apply Drawn0.step)⟩
      ·rw [if_neg c6] at H
       exact absurd H (by simp)
     ·rw [if_neg c5] at H
      exact absurd H (by simp)
    ·rw [if_neg c4] at H
     have c4b0 : decide (x5_1 < (l0.length : Int)) = false := decide_eq_false c4
     clear c4
     obtain rfl := Option.some.inj H
     go_wp2
     repeat (go_quiet (fail); try go_wp2)
     go_ret
     exact ⟨fs_, by repeat (first | exact Drawn0.refl _ | apply Drawn0.step)⟩
 ·rw [if_neg c3] at H
  have c3b0 : ((l0.length : Int) == (l1.length : Int)) = false := beq_eq_false_iff_ne.mpr c3
  have c3b1 : ((l0.length : Int) != (l1.length : Int)) = true := bne_iff_ne.mpr c3
  have c3b2 : (l0.length == l1.length) = false := by first | simpa using c3 | (simp at c3 ⊢; omega)
  obtain rfl := Option.some.inj H
  go_enter Try.func18, Try.ntmps18
  go_wp2
  repeat (go_quiet (fail); try go_wp2)
  go_ret
  exact ⟨fs_, by repeat (first | exact Drawn0.refl _ | apply Drawn0.step)⟩
/-! ### conclavelaw04_anchored: function 17 -/
def conclavelaw04_anchored.f (k : Nat)  : Option (Bool) := (fast_Mul.f k 2 (([1, 2] : List Int)) (([3, 4] : List Int))).bind fun bt499 => ((fast_Transform.f k 1 (([1, 2] : List Int))).bind fun bt506 => ((fast_Transform.f k 1 ([] : List Int)).bind fun bt510 => (if bt499.2 = 0 then (if bt506.2 = 0 then (if bt510.2 = 3 then ((cr1_Same.f k bt499.1 (([3, 10, 8] : List Int))).bind fun t517 => (if t517 = true then ((cr1_Same.f k bt506.1 (([3, 2013265920] : List Int))).bind fun t521 => (some t521)) else (none))) else (none)) else (none)) else (none))))
theorem conclavelaw04_anchored.mono : ∀ k, LeO (conclavelaw04_anchored.f k ) (conclavelaw04_anchored.f (k + 1) ) := by
 intro  k
 unfold conclavelaw04_anchored.f
 repeat' first
   | (with_reducible exact cr1_Same.mono _ _ _)
   | (with_reducible exact fast_Mul.mono _ _ _ _)
   | (with_reducible exact fast_Transform.mono _ _ _)
   | (with_reducible exact LeO.refl _)
   | (with_reducible exact LeO.none _)
   | (with_reducible refine LeO.ite ?_ ?_)
   | (with_reducible refine LeO.bind ?_ (fun _ => ?_))
   | exact cr1_Same.mono _ _ _
   | exact fast_Mul.mono _ _ _ _
   | exact fast_Transform.mono _ _ _
   | exact LeO.none _
   | refine LeO.ite ?_ ?_
   | refine LeO.bind ?_ (fun _ => ?_)
set_option maxHeartbeats 8000000 in
set_option maxRecDepth 100000 in
theorem conclavelaw04_anchored.calls (k : Nat)  (r : Bool) (w : World) (h : conclavelaw04_anchored.f k  = some r) :
  Calls Try.prog 17 #[] w fun e w' => e = .returned (.bool r) ∧ Below w.heap.size w w' := by
 have HB := A_ (Below.refl w.heap.size w)
 have H : ((fast_Mul.f k 2 (([1, 2] : List Int)) (([3, 4] : List Int))).bind fun bt499 => ((fast_Transform.f k 1 (([1, 2] : List Int))).bind fun bt506 => ((fast_Transform.f k 1 ([] : List Int)).bind fun bt510 => (if bt499.2 = 0 then (if bt506.2 = 0 then (if bt510.2 = 3 then ((cr1_Same.f k bt499.1 (([3, 10, 8] : List Int))).bind fun t517 => (if t517 = true then ((cr1_Same.f k bt506.1 (([3, 2013265920] : List Int))).bind fun t521 => (some t521)) else (none))) else (none)) else (none)) else (none))))) = some r := h
 clear h
 obtain ⟨y493, hy493⟩ : ∃ y_ : List Int, y_ = (([1, 2] : List Int)) := ⟨_, rfl⟩
 replace H : ((fast_Mul.f k 2 y493 (([3, 4] : List Int))).bind fun bt499 => ((fast_Transform.f k 1 (([1, 2] : List Int))).bind fun bt506 => ((fast_Transform.f k 1 ([] : List Int)).bind fun bt510 => (if bt499.2 = 0 then (if bt506.2 = 0 then (if bt510.2 = 3 then ((cr1_Same.f k bt499.1 (([3, 10, 8] : List Int))).bind fun t517 => (if t517 = true then ((cr1_Same.f k bt506.1 (([3, 2013265920] : List Int))).bind fun t521 => (some t521)) else (none))) else (none)) else (none)) else (none))))) = some r := by first | (rw [hy493]; with_reducible exact H) | (have H2_ := (Option.bind_some _ _).symm.trans H; rw [hy493]; with_reducible exact H2_) | (have H2_ := (Option.bind_some _ _).symm.trans H; with_reducible exact H2_) | with_reducible exact H | (rw [hy493]; exact H) | exact H
 have Ny493 := Aside0.mk hy493
 clear hy493
 obtain ⟨y496, hy496⟩ : ∃ y_ : List Int, y_ = (([3, 4] : List Int)) := ⟨_, rfl⟩
 replace H : ((fast_Mul.f k 2 y493 y496).bind fun bt499 => ((fast_Transform.f k 1 (([1, 2] : List Int))).bind fun bt506 => ((fast_Transform.f k 1 ([] : List Int)).bind fun bt510 => (if bt499.2 = 0 then (if bt506.2 = 0 then (if bt510.2 = 3 then ((cr1_Same.f k bt499.1 (([3, 10, 8] : List Int))).bind fun t517 => (if t517 = true then ((cr1_Same.f k bt506.1 (([3, 2013265920] : List Int))).bind fun t521 => (some t521)) else (none))) else (none)) else (none)) else (none))))) = some r := by first | (rw [hy496]; with_reducible exact H) | (have H2_ := (Option.bind_some _ _).symm.trans H; rw [hy496]; with_reducible exact H2_) | (have H2_ := (Option.bind_some _ _).symm.trans H; with_reducible exact H2_) | with_reducible exact H | (rw [hy496]; exact H) | exact H
 have Ny496 := Aside0.mk hy496
 clear hy496
 replace H := Option.bind_eq_some_iff.mp H
 obtain ⟨⟨t499, t500⟩, A10, H⟩ := H
 (try dsimp only at H)
 have A1 := Aside0.mk A10
 clear A10
 obtain ⟨y503, hy503⟩ : ∃ y_ : List Int, y_ = (([1, 2] : List Int)) := ⟨_, rfl⟩
 replace H : ((fast_Transform.f k 1 y503).bind fun bt506 => ((fast_Transform.f k 1 ([] : List Int)).bind fun bt510 => (if t500 = 0 then (if bt506.2 = 0 then (if bt510.2 = 3 then ((cr1_Same.f k t499 (([3, 10, 8] : List Int))).bind fun t517 => (if t517 = true then ((cr1_Same.f k bt506.1 (([3, 2013265920] : List Int))).bind fun t521 => (some t521)) else (none))) else (none)) else (none)) else (none)))) = some r := by first | (rw [hy503]; with_reducible exact H) | (have H2_ := (Option.bind_some _ _).symm.trans H; rw [hy503]; with_reducible exact H2_) | (have H2_ := (Option.bind_some _ _).symm.trans H; with_reducible exact H2_) | with_reducible exact H | (rw [hy503]; exact H) | exact H
 have Ny503 := Aside0.mk hy503
 clear hy503
 replace H := Option.bind_eq_some_iff.mp H
 obtain ⟨⟨t506, t509⟩, A20, H⟩ := H
 (try dsimp only at H)
 have A2 := Aside0.mk A20
 clear A20
 replace H := Option.bind_eq_some_iff.mp H
 obtain ⟨⟨t510, t513⟩, A30, H⟩ := H
 replace H : (if t500 = 0 then (if t509 = 0 then (if t513 = 3 then ((cr1_Same.f k t499 (([3, 10, 8] : List Int))).bind fun t517 => (if t517 = true then ((cr1_Same.f k t506 (([3, 2013265920] : List Int))).bind fun t521 => (some t521)) else (none))) else (none)) else (none)) else (none)) = some r := H
 have A3 := Aside0.mk A30
 clear A30
 by_cases c4 : t500 = 0
 ·rw [if_pos c4] at H
  have c4b0 : (t500 == 0) = true := beq_iff_eq.mpr c4
  have c4b1 : (t500 != 0) = false := bne_eq_false_iff_eq.mpr c4
  clear c4
  by_cases c5 : t509 = 0
  ·rw [if_pos c5] at H
   have c5b0 : (t509 == 0) = true := beq_iff_eq.mpr c5
   have c5b1 : (t509 != 0) = false := bne_eq_false_iff_eq.mpr c5
   clear c5
   by_cases c6 : t513 = 3
   ·rw [if_pos c6] at H
    have c6b0 : (t513 == 3) = true := beq_iff_eq.mpr c6
    have c6b1 : (t513 != 3) = false := bne_eq_false_iff_eq.mpr c6
    clear c6
    obtain ⟨y514, hy514⟩ : ∃ y_ : List Int, y_ = (([3, 10, 8] : List Int)) := ⟨_, rfl⟩
    replace H : ((cr1_Same.f k t499 y514).bind fun t517 => (if t517 = true then ((cr1_Same.f k t506 (([3, 2013265920] : List Int))).bind fun t521 => (some t521)) else (none))) = some r := by first | (rw [hy514]; with_reducible exact H) | (have H2_ := (Option.bind_some _ _).symm.trans H; rw [hy514]; with_reducible exact H2_) | (have H2_ := (Option.bind_some _ _).symm.trans H; with_reducible exact H2_) | with_reducible exact H | (rw [hy514]; exact H) | exact H
    have Ny514 := Aside0.mk hy514
    clear hy514
    replace H := Option.bind_eq_some_iff.mp H
    obtain ⟨t517, A70, H⟩ := H
    replace H : (if t517 = true then ((cr1_Same.f k t506 (([3, 2013265920] : List Int))).bind fun t521 => (some t521)) else (none)) = some r := H
    have A7 := Aside0.mk A70
    clear A70
    by_cases c8 : t517 = true
    ·subst c8
     have H1 : ((cr1_Same.f k t506 (([3, 2013265920] : List Int))).bind fun t521 => (some t521)) = some r := by rw [if_pos rfl] at H; exact H
     clear H
     have H := H1
     clear H1
     obtain ⟨y518, hy518⟩ : ∃ y_ : List Int, y_ = (([3, 2013265920] : List Int)) := ⟨_, rfl⟩
     replace H : ((cr1_Same.f k t506 y518).bind fun t521 => (some t521)) = some r := by first | (rw [hy518]; with_reducible exact H) | (have H2_ := (Option.bind_some _ _).symm.trans H; rw [hy518]; with_reducible exact H2_) | (have H2_ := (Option.bind_some _ _).symm.trans H; with_reducible exact H2_) | with_reducible exact H | (rw [hy518]; exact H) | exact H
     have Ny518 := Aside0.mk hy518
     clear hy518
     replace H := Option.bind_eq_some_iff.mp H
     obtain ⟨t521, A90, H⟩ := H
     replace H : (some t521) = some r := H
     have A9 := Aside0.mk A90
     clear A90
     obtain rfl := Option.some.inj H
     go_enter Try.func17, Try.ntmps17
     go_wp2_with (first | ((with_reducible refine gate_dst (N := 8) rfl ?_); (try (refine gate_guard (by rfl) ?_; dsimp only)); refine Kd.R_lit (Kd.int .u64) _ 33 ?hg (N := 8) ?hd (xs := ([1, 2] : List Int)) (inner := [.int .u64 1, .int .u64 2]) (ok := fun _ => True) (okp := fun _ => True) ?hr ?hp (fun _ hk => hk) trivial (Below.refl _ _) (Nat.le_refl _) (by simp) ?_; (case hd => rfl); (case hg => rfl); (case hr => first | (go_simp; done) | (go_simp; rfl)); (case hp => exact (Reps.one (show Kd.M (Kd.int .u64) _ _ _ 1 [.int .u64 1] from rfl) (Reps.one (show Kd.M (Kd.int .u64) _ _ _ 2 [.int .u64 2] from rfl) (Reps.none _ _)))); intro v494 w10 ho11 hb hg_ hnew_; clear hg_ hnew_; (first | rw [← Ny493.out] at ho11 | (simp only [Int.reduceToNat] at ho11; rw [← Ny493.out] at ho11)); have n0_ := A_ (Kd.R_lower ho11 (below_size hb_)); have n1_ := A_ (below_step hb_ hb); clear HB; have HO495 := n0_; have HB := n1_; clear n0_ n1_; clear hb ho11) | ((with_reducible refine gate_dst (N := 9) rfl ?_); (try (refine gate_guard (by rfl) ?_; dsimp only)); refine Kd.R_lit (Kd.int .u64) _ 33 ?hg (N := 9) ?hd (xs := ([3, 4] : List Int)) (inner := [.int .u64 3, .int .u64 4]) (ok := fun _ => True) (okp := fun _ => True) ?hr ?hp (fun _ hk => hk) trivial (Below.refl _ _) (Nat.le_refl _) (by simp) ?_; (case hd => rfl); (case hg => rfl); (case hr => first | (go_simp; done) | (go_simp; rfl)); (case hp => exact (Reps.one (show Kd.M (Kd.int .u64) _ _ _ 3 [.int .u64 3] from rfl) (Reps.one (show Kd.M (Kd.int .u64) _ _ _ 4 [.int .u64 4] from rfl) (Reps.none _ _)))); intro v497 w12 ho13 hb hg_ hnew_; clear hg_ hnew_; (first | rw [← Ny496.out] at ho13 | (simp only [Int.reduceToNat] at ho13; rw [← Ny496.out] at ho13)); have n0_ := A_ (Kd.R_elder' (nR_ HO495) (Kd.R_base ho13) hb); have n1_ := A_ (Kd.R_lower (Kd.R_new' ho13 (Kd.R_lt (nR_ HO495))) (below_size hb_)); have n2_ := A_ (below_step hb_ hb); clear HO495 HB; have HO495 := n0_; have HO498 := n1_; have HB := n2_; clear n0_ n1_ n2_; clear hb ho13; obtain ⟨Ao14, co14, eo14⟩ := Kd.R_slice HO495.out; subst eo14; obtain ⟨Ao15, co15, eo15⟩ := Kd.R_slice HO498.out; subst eo15) | ((with_reducible refine gate_callee (f := 12) rfl ?_); refine goesM_ (some 10) Try.func12 #[.int .u8 2, .slice Ao14 y493.length co14, .slice Ao15 y496.length co15] ?_; (with_reducible refine (fast_Mul.calls k 2 _ _ y493 _ _ y496 t499 t500 _ ?side1 ?side2 ?side3 ?side4 A1.out).mono ?_); (case side1 => repeat (first | exact (Kd.R_reads' HO495.out).2.2 | (with_reducible refine Kd.C_alloc ?_ _) | (with_reducible refine Kd.C_drewN ?_ _) | (with_reducible refine Kd.C_drew ?_))); (case side2 => exact (Kd.R_reads' HO495.out).2.1); (case side3 => repeat (first | exact (Kd.R_reads' HO498.out).2.2 | (with_reducible refine Kd.C_alloc ?_ _) | (with_reducible refine Kd.C_drewN ?_ _) | (with_reducible refine Kd.C_drew ?_))); (case side4 => exact (Kd.R_reads' HO498.out).2.1); rintro e w16 ⟨v501, rfl, ho0, hb⟩; refine ⟨_, rfl, ?_⟩; have n0_ := A_ (Kd.R_elder' (nR_ HO495) (Kd.R_base ho0) hb); have n1_ := A_ (Kd.R_elder' (nR_ HO498) (Kd.R_base ho0) hb); have n2_ := A_ (Kd.R_lower (Kd.R_new' (Kd.R_new' ho0 (Kd.R_lt (nR_ HO495))) (Kd.R_lt (nR_ HO498))) (below_size hb_)); have n3_ := A_ (below_step hb_ hb); clear HO495 HO498 HB; have HO495 := n0_; have HO498 := n1_; have HO502 := n2_; have HB := n3_; clear n0_ n1_ n2_ n3_; (try clear hb); (try clear ho0)) | ((with_reducible refine gate_dst (N := 14) rfl ?_); (try (refine gate_guard (by rfl) ?_; dsimp only)); refine Kd.R_lit (Kd.int .u64) _ 33 ?hg (N := 14) ?hd (xs := ([1, 2] : List Int)) (inner := [.int .u64 1, .int .u64 2]) (ok := fun _ => True) (okp := fun _ => True) ?hr ?hp (fun _ hk => hk) trivial (Below.refl _ _) (Nat.le_refl _) (by simp) ?_; (case hd => rfl); (case hg => rfl); (case hr => first | (go_simp; done) | (go_simp; rfl)); (case hp => exact (Reps.one (show Kd.M (Kd.int .u64) _ _ _ 1 [.int .u64 1] from rfl) (Reps.one (show Kd.M (Kd.int .u64) _ _ _ 2 [.int .u64 2] from rfl) (Reps.none _ _)))); intro v504 w17 ho18 hb hg_ hnew_; clear hg_ hnew_; (first | rw [← Ny503.out] at ho18 | (simp only [Int.reduceToNat] at ho18; rw [← Ny503.out] at ho18)); have n0_ := A_ (Kd.R_elder' (nR_ HO495) (Kd.R_base ho18) hb); have n1_ := A_ (Kd.R_elder' (nR_ HO498) (Kd.R_base ho18) hb); have n2_ := A_ (Kd.R_elder' (nR_ HO502) (Kd.R_base ho18) hb); have n3_ := A_ (Kd.R_lower (Kd.R_new' (Kd.R_new' (Kd.R_new' ho18 (Kd.R_lt (nR_ HO495))) (Kd.R_lt (nR_ HO498))) (Kd.R_lt (nR_ HO502))) (below_size hb_)); have n4_ := A_ (below_step hb_ hb); clear HO495 HO498 HO502 HB; have HO495 := n0_; have HO498 := n1_; have HO502 := n2_; have HO505 := n3_; have HB := n4_; clear n0_ n1_ n2_ n3_ n4_; clear hb ho18; obtain ⟨Ao19, co19, eo19⟩ := Kd.R_slice HO505.out; subst eo19) | ((with_reducible refine gate_callee (f := 10) rfl ?_); refine goesM_ (some 15) Try.func10 #[.int .u8 1, .slice Ao19 y503.length co19] ?_; (with_reducible refine (fast_Transform.calls k 1 (fun k_ => some k_ = (.slice Ao19 y503.length co19 : Value).ownBlock) _ _ y503 t506 t509 _ ?side1 A2.out).mono ?_); (case side1 => exact Kd.R_V (Kd.R_tight rfl (HO505.out))); rintro e w20 ⟨v507, rfl, ho0, hb⟩; refine ⟨_, rfl, ?_⟩; have n0_ := A_ (Kd.R_elder' (nR_ HO495) (Kd.R_base ho0) hb); have n1_ := A_ (Kd.R_elder' (nR_ HO498) (Kd.R_base ho0) hb); have n2_ := A_ (Kd.R_elder' (nR_ HO502) (Kd.R_base ho0) hb); have n3_ := A_ (Kd.R_elder' (nR_ HO505) (Kd.R_base ho0) hb); have n4_ := A_ (Kd.R_lower (Kd.R_new' (Kd.R_new' (Kd.R_new' (Kd.R_new' (Kd.R_mono (ok' := fun k_ => True) ho0 (fun _ hk_ => trivial)) (Kd.R_lt (nR_ HO495))) (Kd.R_lt (nR_ HO498))) (Kd.R_lt (nR_ HO502))) (Kd.R_lt (nR_ HO505))) (below_size hb_)); have n5_ := A_ (below_step hb_ hb); clear HO495 HO498 HO502 HO505 HB; have HO495 := n0_; have HO498 := n1_; have HO502 := n2_; have HO505 := n3_; have HO508 := n4_; have HB := n5_; clear n0_ n1_ n2_ n3_ n4_ n5_; (try clear hb); (try clear ho0)) | ((with_reducible refine gate_callee (f := 10) rfl ?_); refine goesM_ (some 19) Try.func10 #[.int .u8 1, .slice none 0 0] ?_; (refine (fast_Transform.calls k 1 (fun k_ => False) _ _ ([] : List Int) t510 t513 _ ?side1 A3.out).mono ?_); (case side1 => exact Kd.V_nil _ _ _ _ _); rintro e w21 ⟨v511, rfl, ho0, hb⟩; refine ⟨_, rfl, ?_⟩; have n0_ := A_ (Kd.R_elder' (nR_ HO495) (Kd.R_base ho0) hb); have n1_ := A_ (Kd.R_elder' (nR_ HO498) (Kd.R_base ho0) hb); have n2_ := A_ (Kd.R_elder' (nR_ HO502) (Kd.R_base ho0) hb); have n3_ := A_ (Kd.R_elder' (nR_ HO505) (Kd.R_base ho0) hb); have n4_ := A_ (Kd.R_elder' (nR_ HO508) (Kd.R_base ho0) hb); have n5_ := A_ (Kd.R_lower (Kd.R_new' (Kd.R_new' (Kd.R_new' (Kd.R_new' (Kd.R_new' (Kd.R_mono (ok' := fun k_ => True) ho0 (fun _ hk_ => trivial)) (Kd.R_lt (nR_ HO495))) (Kd.R_lt (nR_ HO498))) (Kd.R_lt (nR_ HO502))) (Kd.R_lt (nR_ HO505))) (Kd.R_lt (nR_ HO508))) (below_size hb_)); have n6_ := A_ (below_step hb_ hb); clear HO495 HO498 HO502 HO505 HO508 HB; have HO495 := n0_; have HO498 := n1_; have HO502 := n2_; have HO505 := n3_; have HO508 := n4_; have HO512 := n5_; have HB := n6_; clear n0_ n1_ n2_ n3_ n4_ n5_ n6_; (try clear hb); (try clear ho0)) | ((with_reducible refine gate_dst (N := 34) rfl ?_); (try (refine gate_guard (by rfl) ?_; dsimp only)); refine Kd.R_lit (Kd.int .u64) _ 33 ?hg (N := 34) ?hd (xs := ([3, 10, 8] : List Int)) (inner := [.int .u64 3, .int .u64 10, .int .u64 8]) (ok := fun _ => True) (okp := fun _ => True) ?hr ?hp (fun _ hk => hk) trivial (Below.refl _ _) (Nat.le_refl _) (by simp) ?_; (case hd => rfl); (case hg => rfl); (case hr => first | (go_simp; done) | (go_simp; rfl)); (case hp => exact (Reps.one (show Kd.M (Kd.int .u64) _ _ _ 3 [.int .u64 3] from rfl) (Reps.one (show Kd.M (Kd.int .u64) _ _ _ 10 [.int .u64 10] from rfl) (Reps.one (show Kd.M (Kd.int .u64) _ _ _ 8 [.int .u64 8] from rfl) (Reps.none _ _))))); intro v515 w22 ho23 hb hg_ hnew_; clear hg_ hnew_; (first | rw [← Ny514.out] at ho23 | (simp only [Int.reduceToNat] at ho23; rw [← Ny514.out] at ho23)); have n0_ := A_ (Kd.R_elder' (nR_ HO495) (Kd.R_base ho23) hb); have n1_ := A_ (Kd.R_elder' (nR_ HO498) (Kd.R_base ho23) hb); have n2_ := A_ (Kd.R_elder' (nR_ HO502) (Kd.R_base ho23) hb); have n3_ := A_ (Kd.R_elder' (nR_ HO505) (Kd.R_base ho23) hb); have n4_ := A_ (Kd.R_elder' (nR_ HO508) (Kd.R_base ho23) hb); have n5_ := A_ (Kd.R_elder' (nR_ HO512) (Kd.R_base ho23) hb); have n6_ := A_ (Kd.R_lower (Kd.R_new' (Kd.R_new' (Kd.R_new' (Kd.R_new' (Kd.R_new' (Kd.R_new' ho23 (Kd.R_lt (nR_ HO495))) (Kd.R_lt (nR_ HO498))) (Kd.R_lt (nR_ HO502))) (Kd.R_lt (nR_ HO505))) (Kd.R_lt (nR_ HO508))) (Kd.R_lt (nR_ HO512))) (below_size hb_)); have n7_ := A_ (below_step hb_ hb); clear HO495 HO498 HO502 HO505 HO508 HO512 HB; have HO495 := n0_; have HO498 := n1_; have HO502 := n2_; have HO505 := n3_; have HO508 := n4_; have HO512 := n5_; have HO516 := n6_; have HB := n7_; clear n0_ n1_ n2_ n3_ n4_ n5_ n6_ n7_; clear hb ho23; obtain ⟨Ao24, co24, eo24⟩ := Kd.R_slice HO502.out; subst eo24; obtain ⟨Ao25, co25, eo25⟩ := Kd.R_slice HO516.out; subst eo25) | (go_at_call 18; (with_reducible refine (cr1_Same.calls k _ _ t499 _ _ y514 true _ ?side1 ?side2 ?side3 ?side4 A7.out).mono ?_); (case side1 => repeat (first | exact (Kd.R_reads' HO502.out).2.2 | (with_reducible refine Kd.C_alloc ?_ _) | (with_reducible refine Kd.C_drewN ?_ _) | (with_reducible refine Kd.C_drew ?_))); (case side2 => exact (Kd.R_reads' HO502.out).2.1); (case side3 => repeat (first | exact (Kd.R_reads' HO516.out).2.2 | (with_reducible refine Kd.C_alloc ?_ _) | (with_reducible refine Kd.C_drewN ?_ _) | (with_reducible refine Kd.C_drew ?_))); (case side4 => exact (Kd.R_reads' HO516.out).2.1); rintro e w' ⟨rfl, ⟨nd, rfl⟩⟩) | ((with_reducible refine gate_dst (N := 39) rfl ?_); (try (refine gate_guard (by rfl) ?_; dsimp only)); refine Kd.R_lit (Kd.int .u64) _ 33 ?hg (N := 39) ?hd (xs := ([3, 2013265920] : List Int)) (inner := [.int .u64 3, .int .u64 2013265920]) (ok := fun _ => True) (okp := fun _ => True) ?hr ?hp (fun _ hk => hk) trivial (Below.refl _ _) (Nat.le_refl _) (by simp) ?_; (case hd => rfl); (case hg => rfl); (case hr => first | (go_simp; done) | (go_simp; rfl)); (case hp => exact (Reps.one (show Kd.M (Kd.int .u64) _ _ _ 3 [.int .u64 3] from rfl) (Reps.one (show Kd.M (Kd.int .u64) _ _ _ 2013265920 [.int .u64 2013265920] from rfl) (Reps.none _ _)))); intro v519 w26 ho27 hb hg_ hnew_; clear hg_ hnew_; (first | rw [← Ny518.out] at ho27 | (simp only [Int.reduceToNat] at ho27; rw [← Ny518.out] at ho27)); have n0_ := A_ (Kd.R_elder' (nR_ HO495) (Kd.R_base ho27) hb); have n1_ := A_ (Kd.R_elder' (nR_ HO498) (Kd.R_base ho27) hb); have n2_ := A_ (Kd.R_elder' (nR_ HO502) (Kd.R_base ho27) hb); have n3_ := A_ (Kd.R_elder' (nR_ HO505) (Kd.R_base ho27) hb); have n4_ := A_ (Kd.R_elder' (nR_ HO508) (Kd.R_base ho27) hb); have n5_ := A_ (Kd.R_elder' (nR_ HO512) (Kd.R_base ho27) hb); have n6_ := A_ (Kd.R_elder' (nR_ HO516) (Kd.R_base ho27) hb); have n7_ := A_ (Kd.R_lower (Kd.R_new' (Kd.R_new' (Kd.R_new' (Kd.R_new' (Kd.R_new' (Kd.R_new' (Kd.R_new' ho27 (Kd.R_lt (nR_ HO495))) (Kd.R_lt (nR_ HO498))) (Kd.R_lt (nR_ HO502))) (Kd.R_lt (nR_ HO505))) (Kd.R_lt (nR_ HO508))) (Kd.R_lt (nR_ HO512))) (Kd.R_lt (nR_ HO516))) (below_size hb_)); have n8_ := A_ (below_step hb_ hb); clear HO495 HO498 HO502 HO505 HO508 HO512 HO516 HB; have HO495 := n0_; have HO498 := n1_; have HO502 := n2_; have HO505 := n3_; have HO508 := n4_; have HO512 := n5_; have HO516 := n6_; have HO520 := n7_; have HB := n8_; clear n0_ n1_ n2_ n3_ n4_ n5_ n6_ n7_ n8_; clear hb ho27; obtain ⟨Ao28, co28, eo28⟩ := Kd.R_slice HO508.out; subst eo28; obtain ⟨Ao29, co29, eo29⟩ := Kd.R_slice HO520.out; subst eo29) | (go_at_call 18; (with_reducible refine (cr1_Same.calls k _ _ t506 _ _ y518 t521 _ ?side1 ?side2 ?side3 ?side4 A9.out).mono ?_); (case side1 => repeat (first | exact (Kd.R_reads' HO508.out).2.2 | (with_reducible refine Kd.C_alloc ?_ _) | (with_reducible refine Kd.C_drewN ?_ _) | (with_reducible refine Kd.C_drew ?_))); (case side2 => exact (Kd.R_reads' HO508.out).2.1); (case side3 => repeat (first | exact (Kd.R_reads' HO520.out).2.2 | (with_reducible refine Kd.C_alloc ?_ _) | (with_reducible refine Kd.C_drewN ?_ _) | (with_reducible refine Kd.C_drew ?_))); (case side4 => exact (Kd.R_reads' HO520.out).2.1); rintro e w' ⟨rfl, ⟨nd, rfl⟩⟩))
     go_ret
     exact ⟨fr_, hb_⟩
    ·replace c8 := Bool.eq_false_iff.mpr c8
     subst c8
     have H1 : (none) = some r := by rw [if_neg (show ¬ (false = true) by decide)] at H; exact H
     clear H
     have H := H1
     clear H1
     exact absurd H (by simp)
   ·rw [if_neg c6] at H
    exact absurd H (by simp)
  ·rw [if_neg c5] at H
   exact absurd H (by simp)
 ·rw [if_neg c4] at H
  exact absurd H (by simp)
/-! ### cr3_Trim: function 23 -/
def cr3_Trim.l0 : Nat → List Int → Int → Option (List Int)
 | 0, _, _ => none
 | k + 1, x0, x3 => if x3 > 0 then (if 0 ≤ (wrap64 (x3 - 1)) then (if (wrap64 (x3 - 1)) < (x0.length : Int) then (if (rd x0 (wrap64 (x3 - 1))) = 0 then (cr3_Trim.l0 k x0 (wrap64 (x3 - 1))) else (if 0 ≤ x3 then (if x3 ≤ (x0.length : Int) then ((cr1_Copy.f (x0.take (x3 : Int).toNat)).bind fun t524 => (some t524)) else (none)) else (none))) else (none)) else (none)) else (if 0 ≤ x3 then (if x3 ≤ (x0.length : Int) then ((cr1_Copy.f (x0.take (x3 : Int).toNat)).bind fun t528 => (some t528)) else (none)) else (none))
def cr3_Trim.f (k : Nat) (l0 : List Int) : Option (List Int) := cr3_Trim.l0 k l0 (l0.length : Int)
theorem cr3_Trim.mono_l : ∀ k, (∀ y0 y1, LeO (cr3_Trim.l0 k y0 y1) (cr3_Trim.l0 (k + 1) y0 y1))
 | 0 => fun _ _ r h => by simp [cr3_Trim.l0] at h
 | k + 1 => by
  have ih0 := cr3_Trim.mono_l k
  ·intro y0 y1
   unfold cr3_Trim.l0
   repeat' first
   | (with_reducible exact ih0 _ _)
   | (with_reducible exact LeO.refl _)
   | (with_reducible exact LeO.none _)
   | (with_reducible refine LeO.ite ?_ ?_)
   | (with_reducible refine LeO.bind ?_ (fun _ => ?_))
   | exact ih0 _ _
   | exact LeO.none _
   | refine LeO.ite ?_ ?_
   | refine LeO.bind ?_ (fun _ => ?_)
theorem cr3_Trim.mono : ∀ a0 k, LeO (cr3_Trim.f k a0) (cr3_Trim.f (k + 1) a0) := by
 intro a0 k
 have ih0 := cr3_Trim.mono_l k
 unfold cr3_Trim.f
 repeat' first
   | (with_reducible exact ih0 _ _)
   | (with_reducible exact LeO.refl _)
   | (with_reducible exact LeO.none _)
   | (with_reducible refine LeO.ite ?_ ?_)
   | (with_reducible refine LeO.bind ?_ (fun _ => ?_))
   | exact ih0 _ _
   | exact LeO.none _
   | refine LeO.ite ?_ ?_
   | refine LeO.bind ?_ (fun _ => ?_)
set_option maxHeartbeats 8000000 in
set_option maxRecDepth 100000 in
theorem cr3_Trim.calls (k : Nat) (A0 : Option Addr) (c0 : Nat) (l0 : List Int) (r : List Int) (w : World) (hr0 : Kd.C (Kd.int .u64) w A0 l0.length l0) (hc0 : l0.length ≤ c0) (h : cr3_Trim.f k l0 = some r) :
  Calls Try.prog 23 #[.slice A0 l0.length c0] w fun e w' => ∃ v0_ : Value, e = .returned (v0_) ∧ Kd.R (Kd.int .u64) 33 w' w.heap.size (fun _ => True) v0_ r ∧ Below w.heap.size w w' := by
 have HR0 := Aside0.mk hr0
 have HC0 := Aside0.mk hc0
 clear hr0 hc0
 have HB := A_ (Below.refl w.heap.size w)
 have H : (cr3_Trim.l0 k l0 (l0.length : Int)) = some r := h
 clear h
 have H' := Aside0.mk H
 clear H
 go_enter Try.func23, Try.ntmps23
 go_wp2
 go_loopg [3] k (fun kq v3 w' => ∃ (x3_1 : Int), v3 = .int .i64 x3_1 ∧ Aside0 (cr3_Trim.l0 kq l0 x3_1 = some r) ∧ Aside0 (kq ≤ k) ∧ Aside0 (Below w.heap.size w w'))
 case atStart => exact ⟨((l0.length : Int)), (fs_), H', ⟨Nat.le_refl _⟩, ⟨by repeat (first | (with_reducible first | exact HB.out | apply below_alloc | apply pw_below_drewN | apply below_drew1) | exact HB.out)⟩⟩
 case round =>
  clear H'
  obtain ⟨x3_1, rfl, HA, HK1, HB⟩ := hrel
  cases gk with
  | zero => exact absurd HA.out (by simp [cr3_Trim.l0])
  | succ k1 =>
   have H := HA.out
   clear HA
   simp only [cr3_Trim.l0] at H
   by_cases c2 : x3_1 > 0
   ·rw [if_pos c2] at H
    have c2b0 : decide (0 < x3_1) = true := decide_eq_true c2
    clear c2
    obtain ⟨ji3, hji3⟩ : ∃ j_ : Int, (wrap64 (x3_1 - 1)) = j_ := ⟨_, rfl⟩
    replace H : (if 0 ≤ (ji3) then (if (ji3) < (l0.length : Int) then (if (rd l0 (ji3)) = 0 then (cr3_Trim.l0 k1 l0 ji3) else (if 0 ≤ x3_1 then (if x3_1 ≤ (l0.length : Int) then ((cr1_Copy.f (l0.take (x3_1 : Int).toNat)).bind fun t524 => (some t524)) else (none)) else (none))) else (none)) else (none)) = some r := by first | (rw [hji3] at H; exact H) | (simp only [hji3] at H ⊢; exact H)
    have hji3w : (IntKind.i64.wrap (x3_1 - 1)) = ji3 := (i64_w _).trans hji3
    by_cases c4 : 0 ≤ (ji3)
    ·rw [if_pos c4] at H
     have c4b0 : decide (0 ≤ (ji3)) = true := decide_eq_true c4
     clear c4
     by_cases c5 : (ji3) < (l0.length : Int)
     ·rw [if_pos c5] at H
      have c5b0 : decide ((ji3) < (l0.length : Int)) = true := decide_eq_true c5
      clear c5
      have HC6 := Aside0.mk H
      clear H
      have p522 : 0 ≤ ((ji3) : Int) := of_decide_eq_true (by first | (with_reducible assumption) | assumption)
      have q522 : (ji3) < (l0.length : Int) := of_decide_eq_true (by first | (with_reducible assumption) | assumption)
      obtain ⟨ad522, e522, hx522_0⟩ := Kd.at_int HR0.out (ji3) p522 q522
      cases e522
      replace hx522_0 := (HB.out.cell (World.block_lt_of_cell? w _ hx522_0)).trans hx522_0
      replace p522 := eq_true p522
      replace q522 := eq_true q522
      go_upto_if 15 with (fail)
      have H := HC6.out
      clear HC6
      by_cases c7 : (rd l0 (ji3)) = 0
      ·rw [if_pos c7] at H
       have c7b0 : ((rd l0 (ji3)) == 0) = true := beq_iff_eq.mpr c7
       have c7b1 : ((rd l0 (ji3)) != 0) = false := bne_eq_false_iff_eq.mpr c7
       clear c7
       (first | rw [c7b0] | rw [c7b1] | (simp only [i64_w, i32_w]; first | rw [c7b0] | rw [c7b1]) | skip)
       have H' := Aside0.mk H
       clear H
       go_wp2
       go_roundg k1
       case measure => have := HK1.out; omega
       case rel => exact ⟨(ji3), (by first | rfl | (simp; done) | (simp only [← hji3] <;> (first | rfl | simp)) | (simp [*]; done)), H', ⟨by have := HK1.out; omega⟩, ⟨by repeat (first | (with_reducible first | exact HB.out | apply below_alloc | apply pw_below_drewN | apply below_drew1) | exact HB.out)⟩⟩
      ·rw [if_neg c7] at H
       have c7b0 : ((rd l0 (ji3)) == 0) = false := beq_eq_false_iff_ne.mpr c7
       have c7b1 : ((rd l0 (ji3)) != 0) = true := bne_iff_ne.mpr c7
       (first | rw [c7b0] | rw [c7b1] | (simp only [i64_w, i32_w]; first | rw [c7b0] | rw [c7b1]) | skip)
       by_cases c8 : 0 ≤ x3_1
       ·rw [if_pos c8] at H
        have c8b0 := eq_true c8
        have c8b1 : decide (0 ≤ x3_1) = true := decide_eq_true c8
        clear c8
        by_cases c9 : x3_1 ≤ (l0.length : Int)
        ·rw [if_pos c9] at H
         have c9b0 := eq_true c9
         have c9b1 : decide (x3_1 ≤ (l0.length : Int)) = true := decide_eq_true c9
         clear c9
         replace H := Option.bind_eq_some_iff.mp H
         obtain ⟨t524, A100, H⟩ := H
         replace H : (some t524) = some r := H
         have A10 := Aside0.mk A100
         clear A100
         obtain rfl := Option.some.inj H
         obtain ⟨i011, hi011, _, hsz11, _⟩ := info_parts info33
         obtain ⟨hcut11, hA11, hC11⟩ := print_take_of (P := Try.prog) (Value.int .u64) 0 22 33 .i64 Try.underlying22 hi011 hsz11 (some ad522) c0 l0 x3_1 (of_decide_eq_true (by first | (with_reducible assumption) | assumption)) (of_decide_eq_true (by first | (with_reducible assumption) | assumption)) HC0.out
         have HR523 := A_ (Kd.C_of_reads (h1 := fun _ => rfl) (hA11 _ (Kd.reads_of_C HR0.out)))
         have HC523 := Aside0.mk hC11
         clear hA11 hC11 hi011 hsz11
         go_wp2_with (first | ((with_reducible refine gate_callee (f := 9) rfl ?_); refine goesL_ (some 21) rfl rfl Try.func9 (by kernel_rfl) rfl #[.slice (some ad522) (l0.take (x3_1 : Int).toNat).length c0] rfl (by (try simp only [List.map_toArray, List.map_cons, List.map_nil]); first | done | (rw [show (l0.take (x3_1 : Int).toNat).length = x3_1.toNat from (by rw [List.length_take]; have h_ : (x3_1 : Int) ≤ (l0.length : Int) := of_decide_eq_true (by first | (with_reducible assumption) | assumption); omega)] <;> rfl) | rfl | (simp only [List.length_drop, List.length_take]; rfl)) ?_; (with_reducible refine (cr1_Copy.calls _ _ (l0.take (x3_1 : Int).toNat) t524 _ ?side1 ?side2 A10.out).mono ?_); (case side1 => repeat (first | exact (Kd.C_below HR523.out HB.out) | (with_reducible refine Kd.C_alloc ?_ _) | (with_reducible refine Kd.C_drewN ?_ _) | (with_reducible refine Kd.C_drew ?_))); (case side2 => exact HC523.out); rintro e w12 ⟨v525, rfl, ho0, hb⟩; refine ⟨_, rfl, ?_⟩; have n0_ := A_ (Kd.R_lower ho0 (below_size hb_)); have n1_ := A_ (below_step hb_ hb); clear HB; have HO526 := n0_; have HB := n1_; clear n0_ n1_; (try clear hb); (try clear ho0)))
         go_ret
         exact ⟨_, by first | rfl | (simp [errW_none, errW_some] <;> rfl) | (simp only [← hji3]; first | rfl | (simp [errW_none, errW_some] <;> rfl)) | (simp [*, errW_none, errW_some] <;> rfl), nR_ HO526, hb_⟩
        ·rw [if_neg c9] at H
         exact absurd H (by simp)
       ·rw [if_neg c8] at H
        exact absurd H (by simp)
     ·rw [if_neg c5] at H
      exact absurd H (by simp)
    ·rw [if_neg c4] at H
     exact absurd H (by simp)
   ·rw [if_neg c2] at H
    have c2b0 : decide (0 < x3_1) = false := decide_eq_false c2
    clear c2
    by_cases c13 : 0 ≤ x3_1
    ·rw [if_pos c13] at H
     have c13b0 := eq_true c13
     have c13b1 : decide (0 ≤ x3_1) = true := decide_eq_true c13
     clear c13
     by_cases c14 : x3_1 ≤ (l0.length : Int)
     ·rw [if_pos c14] at H
      have c14b0 := eq_true c14
      have c14b1 : decide (x3_1 ≤ (l0.length : Int)) = true := decide_eq_true c14
      clear c14
      replace H := Option.bind_eq_some_iff.mp H
      obtain ⟨t528, A150, H⟩ := H
      replace H : (some t528) = some r := H
      have A15 := Aside0.mk A150
      clear A150
      obtain rfl := Option.some.inj H
      obtain ⟨i016, hi016, _, hsz16, _⟩ := info_parts info33
      obtain ⟨hcut16, hA16, hC16⟩ := print_take_of (P := Try.prog) (Value.int .u64) 0 22 33 .i64 Try.underlying22 hi016 hsz16 A0 c0 l0 x3_1 (of_decide_eq_true (by first | (with_reducible assumption) | assumption)) (of_decide_eq_true (by first | (with_reducible assumption) | assumption)) HC0.out
      have HR527 := A_ (Kd.C_of_reads (h1 := fun _ => rfl) (hA16 _ (Kd.reads_of_C HR0.out)))
      have HC527 := Aside0.mk hC16
      clear hA16 hC16 hi016 hsz16
      go_wp2_with (first | ((with_reducible refine gate_callee (f := 9) rfl ?_); refine goesL_ (some 21) rfl rfl Try.func9 (by kernel_rfl) rfl #[.slice A0 (l0.take (x3_1 : Int).toNat).length c0] rfl (by (try simp only [List.map_toArray, List.map_cons, List.map_nil]); first | done | (rw [show (l0.take (x3_1 : Int).toNat).length = x3_1.toNat from (by rw [List.length_take]; have h_ : (x3_1 : Int) ≤ (l0.length : Int) := of_decide_eq_true (by first | (with_reducible assumption) | assumption); omega)] <;> rfl) | rfl | (simp only [List.length_drop, List.length_take]; rfl)) ?_; (with_reducible refine (cr1_Copy.calls _ _ (l0.take (x3_1 : Int).toNat) t528 _ ?side1 ?side2 A15.out).mono ?_); (case side1 => repeat (first | exact (Kd.C_below HR527.out HB.out) | (with_reducible refine Kd.C_alloc ?_ _) | (with_reducible refine Kd.C_drewN ?_ _) | (with_reducible refine Kd.C_drew ?_))); (case side2 => exact HC527.out); rintro e w17 ⟨v529, rfl, ho0, hb⟩; refine ⟨_, rfl, ?_⟩; have n0_ := A_ (Kd.R_lower ho0 (below_size hb_)); have n1_ := A_ (below_step hb_ hb); clear HB; have HO530 := n0_; have HB := n1_; clear n0_ n1_; (try clear hb); (try clear ho0)))
      go_ret
      exact ⟨_, fr_, nR_ HO530, hb_⟩
     ·rw [if_neg c14] at H
      exact absurd H (by simp)
    ·rw [if_neg c13] at H
     exact absurd H (by simp)
/-! ### conclavelaw04_FastRounds: function 7 -/
def conclavelaw04_FastRounds.f (k : Nat) (a0 : Int) (l1 : List Int) (l2 : List Int) : Option (Bool) := (conclavelaw04_list.f k a0 l1 8).bind fun bt531 => ((conclavelaw04_list.f k a0 l2 8).bind fun bt535 => ((cr1_Copy.f bt531.2).bind fun t539 => (if 0 ≤ (wrap64 ((wrap64 (2 * (mx (bt531.2.length : Int) (bt535.2.length : Int)))) - (bt531.2.length : Int))) then (if t539.length + (wrap64 ((wrap64 (2 * (mx (bt531.2.length : Int) (bt535.2.length : Int)))) - (bt531.2.length : Int)) : Int).toNat < 17592186044416 then ((cr1_Copy.f bt535.2).bind fun t545 => (if 0 ≤ (wrap64 ((wrap64 (2 * (mx (bt531.2.length : Int) (bt535.2.length : Int)))) - (bt535.2.length : Int))) then (if t545.length + (wrap64 ((wrap64 (2 * (mx (bt531.2.length : Int) (bt535.2.length : Int)))) - (bt535.2.length : Int)) : Int).toNat < 17592186044416 then ((fast_Round.f k bt531.1 (t539 ++ List.replicate (wrap64 ((wrap64 (2 * (mx (bt531.2.length : Int) (bt535.2.length : Int)))) - (bt531.2.length : Int)) : Int).toNat 0) (t545 ++ List.replicate (wrap64 ((wrap64 (2 * (mx (bt531.2.length : Int) (bt535.2.length : Int)))) - (bt535.2.length : Int)) : Int).toNat 0)).bind fun bt551 => ((fast_Mul.f k bt531.1 bt531.2 bt535.2).bind fun bt555 => ((fast_Kara.f k bt531.1 bt535.2 bt531.2).bind fun bt559 => ((conclavelaw04_anchored.f k).bind fun t563 => (if t563 = true then (if bt551.2 = 0 then (if bt555.2 = 0 then (if bt559.2 = 0 then ((cr3_Trim.f k bt551.1).bind fun t564 => ((cr1_Same.f k t564 bt555.1).bind fun t567 => (if t567 = true then ((cr1_Same.f k bt555.1 bt559.1).bind fun t568 => (some t568)) else (none)))) else (none)) else (none)) else (none)) else (none)))))) else (none)) else (none))) else (none)) else (none))))
theorem conclavelaw04_FastRounds.mono : ∀ a0 a1 a2 k, LeO (conclavelaw04_FastRounds.f k a0 a1 a2) (conclavelaw04_FastRounds.f (k + 1) a0 a1 a2) := by
 intro a0 a1 a2 k
 unfold conclavelaw04_FastRounds.f
 repeat' first
   | (with_reducible exact conclavelaw04_anchored.mono _)
   | (with_reducible exact conclavelaw04_list.mono _ _ _ _)
   | (with_reducible exact cr1_Same.mono _ _ _)
   | (with_reducible exact cr3_Trim.mono _ _)
   | (with_reducible exact fast_Kara.mono _ _ _ _)
   | (with_reducible exact fast_Mul.mono _ _ _ _)
   | (with_reducible exact fast_Round.mono _ _ _ _)
   | (with_reducible exact LeO.refl _)
   | (with_reducible exact LeO.none _)
   | (with_reducible refine LeO.ite ?_ ?_)
   | (with_reducible refine LeO.bind ?_ (fun _ => ?_))
   | exact conclavelaw04_anchored.mono _
   | exact conclavelaw04_list.mono _ _ _ _
   | exact cr1_Same.mono _ _ _
   | exact cr3_Trim.mono _ _
   | exact fast_Kara.mono _ _ _ _
   | exact fast_Mul.mono _ _ _ _
   | exact fast_Round.mono _ _ _ _
   | exact LeO.none _
   | refine LeO.ite ?_ ?_
   | refine LeO.bind ?_ (fun _ => ?_)
set_option maxHeartbeats 8000000 in
set_option maxRecDepth 100000 in
theorem conclavelaw04_FastRounds.calls (k : Nat) (a0 : Int) (A1 : Option Addr) (c1 : Nat) (l1 : List Int) (A2 : Option Addr) (c2 : Nat) (l2 : List Int) (r : Bool) (w : World) (hr1 : Kd.C (Kd.int .u64) w A1 l1.length l1) (hc1 : l1.length ≤ c1) (hr2 : Kd.C (Kd.int .u64) w A2 l2.length l2) (hc2 : l2.length ≤ c2) (h : conclavelaw04_FastRounds.f k a0 l1 l2 = some r) :
  Calls Try.prog 7 #[.int .u8 a0, .slice A1 l1.length c1, .slice A2 l2.length c2] w fun e w' => e = .returned (.bool r) ∧ Below w.heap.size w w' := by
 have HR1 := Aside0.mk hr1
 have HC1 := Aside0.mk hc1
 clear hr1 hc1
 have HR2 := Aside0.mk hr2
 have HC2 := Aside0.mk hc2
 clear hr2 hc2
 have HB := A_ (Below.refl w.heap.size w)
 have H : ((conclavelaw04_list.f k a0 l1 8).bind fun bt531 => ((conclavelaw04_list.f k a0 l2 8).bind fun bt535 => ((cr1_Copy.f bt531.2).bind fun t539 => (if 0 ≤ (wrap64 ((wrap64 (2 * (mx (bt531.2.length : Int) (bt535.2.length : Int)))) - (bt531.2.length : Int))) then (if t539.length + (wrap64 ((wrap64 (2 * (mx (bt531.2.length : Int) (bt535.2.length : Int)))) - (bt531.2.length : Int)) : Int).toNat < 17592186044416 then ((cr1_Copy.f bt535.2).bind fun t545 => (if 0 ≤ (wrap64 ((wrap64 (2 * (mx (bt531.2.length : Int) (bt535.2.length : Int)))) - (bt535.2.length : Int))) then (if t545.length + (wrap64 ((wrap64 (2 * (mx (bt531.2.length : Int) (bt535.2.length : Int)))) - (bt535.2.length : Int)) : Int).toNat < 17592186044416 then ((fast_Round.f k bt531.1 (t539 ++ List.replicate (wrap64 ((wrap64 (2 * (mx (bt531.2.length : Int) (bt535.2.length : Int)))) - (bt531.2.length : Int)) : Int).toNat 0) (t545 ++ List.replicate (wrap64 ((wrap64 (2 * (mx (bt531.2.length : Int) (bt535.2.length : Int)))) - (bt535.2.length : Int)) : Int).toNat 0)).bind fun bt551 => ((fast_Mul.f k bt531.1 bt531.2 bt535.2).bind fun bt555 => ((fast_Kara.f k bt531.1 bt535.2 bt531.2).bind fun bt559 => ((conclavelaw04_anchored.f k).bind fun t563 => (if t563 = true then (if bt551.2 = 0 then (if bt555.2 = 0 then (if bt559.2 = 0 then ((cr3_Trim.f k bt551.1).bind fun t564 => ((cr1_Same.f k t564 bt555.1).bind fun t567 => (if t567 = true then ((cr1_Same.f k bt555.1 bt559.1).bind fun t568 => (some t568)) else (none)))) else (none)) else (none)) else (none)) else (none)))))) else (none)) else (none))) else (none)) else (none))))) = some r := h
 clear h
 replace H := Option.bind_eq_some_iff.mp H
 obtain ⟨⟨t531, t532⟩, A40, H⟩ := H
 (try dsimp only at H)
 have A4 := Aside0.mk A40
 clear A40
 replace H := Option.bind_eq_some_iff.mp H
 obtain ⟨⟨t535, t536⟩, A50, H⟩ := H
 (try dsimp only at H)
 have A5 := Aside0.mk A50
 clear A50
 obtain ⟨ji6, hji6⟩ : ∃ j_ : Int, (mx (t532.length : Int) (t536.length : Int)) = j_ := ⟨_, rfl⟩
 replace H : ((cr1_Copy.f t532).bind fun t539 => (if 0 ≤ (wrap64 ((wrap64 (2 * (ji6))) - (t532.length : Int))) then (if t539.length + (wrap64 ((wrap64 (2 * (ji6))) - (t532.length : Int)) : Int).toNat < 17592186044416 then ((cr1_Copy.f t536).bind fun t545 => (if 0 ≤ (wrap64 ((wrap64 (2 * (ji6))) - (t536.length : Int))) then (if t545.length + (wrap64 ((wrap64 (2 * (ji6))) - (t536.length : Int)) : Int).toNat < 17592186044416 then ((fast_Round.f k t531 (t539 ++ List.replicate (wrap64 ((wrap64 (2 * (ji6))) - (t532.length : Int)) : Int).toNat 0) (t545 ++ List.replicate (wrap64 ((wrap64 (2 * (ji6))) - (t536.length : Int)) : Int).toNat 0)).bind fun bt551 => ((fast_Mul.f k t531 t532 t536).bind fun bt555 => ((fast_Kara.f k t531 t536 t532).bind fun bt559 => ((conclavelaw04_anchored.f k).bind fun t563 => (if t563 = true then (if bt551.2 = 0 then (if bt555.2 = 0 then (if bt559.2 = 0 then ((cr3_Trim.f k bt551.1).bind fun t564 => ((cr1_Same.f k t564 bt555.1).bind fun t567 => (if t567 = true then ((cr1_Same.f k bt555.1 bt559.1).bind fun t568 => (some t568)) else (none)))) else (none)) else (none)) else (none)) else (none)))))) else (none)) else (none))) else (none)) else (none))) = some r := by first | (rw [hji6] at H; exact H) | (simp only [hji6] at H ⊢; exact H)
 (try rw [hji6] at A4)
 (try rw [hji6] at A5)
 (try (have hji6l : 0 ≤ ji6 := by (rw [← hji6]; unfold mx; (repeat' split) <;> omega)))
 (try (have hji6m : 0 ≤ ji6 := by omega))
 have hji6N : (if t532.length < t536.length then (t536.length : Int) else (t532.length : Int)) = ji6 := by have h_ := hji6; unfold mx at h_; simp only [Int.ofNat_lt] at h_; exact h_
 have hji6_ : (if (t532.length : Int) < (t536.length : Int) then (t536.length : Int) else (t532.length : Int)) = ji6 := hji6
 replace H := Option.bind_eq_some_iff.mp H
 obtain ⟨t539, A70, H⟩ := H
 (try dsimp only at H)
 have A7 := Aside0.mk A70
 clear A70
 obtain ⟨ji8, hji8⟩ : ∃ j_ : Int, (wrap64 ((wrap64 (2 * (ji6))) - (t532.length : Int))) = j_ := ⟨_, rfl⟩
 replace H : (if 0 ≤ (ji8) then (if t539.length + (ji8 : Int).toNat < 17592186044416 then ((cr1_Copy.f t536).bind fun t545 => (if 0 ≤ (wrap64 ((wrap64 (2 * (ji6))) - (t536.length : Int))) then (if t545.length + (wrap64 ((wrap64 (2 * (ji6))) - (t536.length : Int)) : Int).toNat < 17592186044416 then ((fast_Round.f k t531 (t539 ++ List.replicate (ji8 : Int).toNat 0) (t545 ++ List.replicate (wrap64 ((wrap64 (2 * (ji6))) - (t536.length : Int)) : Int).toNat 0)).bind fun bt551 => ((fast_Mul.f k t531 t532 t536).bind fun bt555 => ((fast_Kara.f k t531 t536 t532).bind fun bt559 => ((conclavelaw04_anchored.f k).bind fun t563 => (if t563 = true then (if bt551.2 = 0 then (if bt555.2 = 0 then (if bt559.2 = 0 then ((cr3_Trim.f k bt551.1).bind fun t564 => ((cr1_Same.f k t564 bt555.1).bind fun t567 => (if t567 = true then ((cr1_Same.f k bt555.1 bt559.1).bind fun t568 => (some t568)) else (none)))) else (none)) else (none)) else (none)) else (none)))))) else (none)) else (none))) else (none)) else (none)) = some r := by first | (rw [hji8] at H; exact H) | (simp only [hji8] at H ⊢; exact H)
 (try rw [hji8] at A4)
 (try rw [hji8] at A5)
 (try rw [hji8] at A7)
 have hji8w : (IntKind.i64.wrap ((wrap64 (2 * (ji6))) - (t532.length : Int))) = ji8 := (i64_w _).trans hji8
 by_cases c9 : 0 ≤ (ji8)
 ·rw [if_pos c9] at H
  have c9b0 := eq_true c9
  have c9b1 : decide (0 ≤ (ji8)) = true := decide_eq_true c9
  clear c9
  by_cases c10 : t539.length + (ji8 : Int).toNat < 17592186044416
  ·rw [if_pos c10] at H
   have LMc10 := Aside0.mk c10
   clear c10
   obtain ⟨y542, hy542⟩ : ∃ y_ : List Int, y_ = (t539 ++ List.replicate (ji8 : Int).toNat 0) := ⟨_, rfl⟩
   replace H : ((cr1_Copy.f t536).bind fun t545 => (if 0 ≤ (wrap64 ((wrap64 (2 * (ji6))) - (t536.length : Int))) then (if t545.length + (wrap64 ((wrap64 (2 * (ji6))) - (t536.length : Int)) : Int).toNat < 17592186044416 then ((fast_Round.f k t531 y542 (t545 ++ List.replicate (wrap64 ((wrap64 (2 * (ji6))) - (t536.length : Int)) : Int).toNat 0)).bind fun bt551 => ((fast_Mul.f k t531 t532 t536).bind fun bt555 => ((fast_Kara.f k t531 t536 t532).bind fun bt559 => ((conclavelaw04_anchored.f k).bind fun t563 => (if t563 = true then (if bt551.2 = 0 then (if bt555.2 = 0 then (if bt559.2 = 0 then ((cr3_Trim.f k bt551.1).bind fun t564 => ((cr1_Same.f k t564 bt555.1).bind fun t567 => (if t567 = true then ((cr1_Same.f k bt555.1 bt559.1).bind fun t568 => (some t568)) else (none)))) else (none)) else (none)) else (none)) else (none)))))) else (none)) else (none))) = some r := by first | (rw [hy542]; with_reducible exact H) | (have H2_ := (Option.bind_some _ _).symm.trans H; rw [hy542]; with_reducible exact H2_) | (have H2_ := (Option.bind_some _ _).symm.trans H; with_reducible exact H2_) | with_reducible exact H | (rw [hy542]; exact H) | exact H
   have Ny542 := Aside0.mk hy542
   clear hy542
   replace H := Option.bind_eq_some_iff.mp H
   obtain ⟨t545, A110, H⟩ := H
   (try dsimp only at H)
   have A11 := Aside0.mk A110
   clear A110
   obtain ⟨ji12, hji12⟩ : ∃ j_ : Int, (wrap64 ((wrap64 (2 * (ji6))) - (t536.length : Int))) = j_ := ⟨_, rfl⟩
   replace H : (if 0 ≤ (ji12) then (if t545.length + (ji12 : Int).toNat < 17592186044416 then ((fast_Round.f k t531 y542 (t545 ++ List.replicate (ji12 : Int).toNat 0)).bind fun bt551 => ((fast_Mul.f k t531 t532 t536).bind fun bt555 => ((fast_Kara.f k t531 t536 t532).bind fun bt559 => ((conclavelaw04_anchored.f k).bind fun t563 => (if t563 = true then (if bt551.2 = 0 then (if bt555.2 = 0 then (if bt559.2 = 0 then ((cr3_Trim.f k bt551.1).bind fun t564 => ((cr1_Same.f k t564 bt555.1).bind fun t567 => (if t567 = true then ((cr1_Same.f k bt555.1 bt559.1).bind fun t568 => (some t568)) else (none)))) else (none)) else (none)) else (none)) else (none)))))) else (none)) else (none)) = some r := by first | (rw [hji12] at H; exact H) | (simp only [hji12] at H ⊢; exact H)
   (try rw [hji12] at A4)
   (try rw [hji12] at A5)
   (try rw [hji12] at A7)
   (try rw [hji12] at A11)
   have hji12w : (IntKind.i64.wrap ((wrap64 (2 * (ji6))) - (t536.length : Int))) = ji12 := (i64_w _).trans hji12
   by_cases c13 : 0 ≤ (ji12)
   ·rw [if_pos c13] at H
    have c13b0 := eq_true c13
    have c13b1 : decide (0 ≤ (ji12)) = true := decide_eq_true c13
    clear c13
    by_cases c14 : t545.length + (ji12 : Int).toNat < 17592186044416
    ·rw [if_pos c14] at H
     have LMc14 := Aside0.mk c14
     clear c14
     obtain ⟨y548, hy548⟩ : ∃ y_ : List Int, y_ = (t545 ++ List.replicate (ji12 : Int).toNat 0) := ⟨_, rfl⟩
     replace H : ((fast_Round.f k t531 y542 y548).bind fun bt551 => ((fast_Mul.f k t531 t532 t536).bind fun bt555 => ((fast_Kara.f k t531 t536 t532).bind fun bt559 => ((conclavelaw04_anchored.f k).bind fun t563 => (if t563 = true then (if bt551.2 = 0 then (if bt555.2 = 0 then (if bt559.2 = 0 then ((cr3_Trim.f k bt551.1).bind fun t564 => ((cr1_Same.f k t564 bt555.1).bind fun t567 => (if t567 = true then ((cr1_Same.f k bt555.1 bt559.1).bind fun t568 => (some t568)) else (none)))) else (none)) else (none)) else (none)) else (none)))))) = some r := by first | (rw [hy548]; with_reducible exact H) | (have H2_ := (Option.bind_some _ _).symm.trans H; rw [hy548]; with_reducible exact H2_) | (have H2_ := (Option.bind_some _ _).symm.trans H; with_reducible exact H2_) | with_reducible exact H | (rw [hy548]; exact H) | exact H
     have Ny548 := Aside0.mk hy548
     clear hy548
     replace H := Option.bind_eq_some_iff.mp H
     obtain ⟨⟨t551, t554⟩, A150, H⟩ := H
     (try dsimp only at H)
     have A15 := Aside0.mk A150
     clear A150
     replace H := Option.bind_eq_some_iff.mp H
     obtain ⟨⟨t555, t556⟩, A160, H⟩ := H
     (try dsimp only at H)
     have A16 := Aside0.mk A160
     clear A160
     replace H := Option.bind_eq_some_iff.mp H
     obtain ⟨⟨t559, t560⟩, A170, H⟩ := H
     (try dsimp only at H)
     have A17 := Aside0.mk A170
     clear A170
     replace H := Option.bind_eq_some_iff.mp H
     obtain ⟨t563, A180, H⟩ := H
     (try dsimp only at H)
     have A18 := Aside0.mk A180
     clear A180
     by_cases c19 : t563 = true
     ·subst c19
      have H1 : (if t554 = 0 then (if t556 = 0 then (if t560 = 0 then ((cr3_Trim.f k t551).bind fun t564 => ((cr1_Same.f k t564 t555).bind fun t567 => (if t567 = true then ((cr1_Same.f k t555 t559).bind fun t568 => (some t568)) else (none)))) else (none)) else (none)) else (none)) = some r := by rw [if_pos rfl] at H; exact H
      clear H
      have H := H1
      clear H1
      by_cases c20 : t554 = 0
      ·rw [if_pos c20] at H
       have c20b0 : (t554 == 0) = true := beq_iff_eq.mpr c20
       have c20b1 : (t554 != 0) = false := bne_eq_false_iff_eq.mpr c20
       clear c20
       by_cases c21 : t556 = 0
       ·rw [if_pos c21] at H
        have c21b0 : (t556 == 0) = true := beq_iff_eq.mpr c21
        have c21b1 : (t556 != 0) = false := bne_eq_false_iff_eq.mpr c21
        clear c21
        by_cases c22 : t560 = 0
        ·rw [if_pos c22] at H
         have c22b0 : (t560 == 0) = true := beq_iff_eq.mpr c22
         have c22b1 : (t560 != 0) = false := bne_eq_false_iff_eq.mpr c22
         clear c22
         replace H := Option.bind_eq_some_iff.mp H
         obtain ⟨t564, A230, H⟩ := H
         replace H : ((cr1_Same.f k t564 t555).bind fun t567 => (if t567 = true then ((cr1_Same.f k t555 t559).bind fun t568 => (some t568)) else (none))) = some r := H
         have A23 := Aside0.mk A230
         clear A230
         replace H := Option.bind_eq_some_iff.mp H
         obtain ⟨t567, A240, H⟩ := H
         replace H : (if t567 = true then ((cr1_Same.f k t555 t559).bind fun t568 => (some t568)) else (none)) = some r := H
         have A24 := Aside0.mk A240
         clear A240
         by_cases c25 : t567 = true
         ·subst c25
          have H1 : ((cr1_Same.f k t555 t559).bind fun t568 => (some t568)) = some r := by rw [if_pos rfl] at H; exact H
          clear H
          have H := H1
          clear H1
          replace H := Option.bind_eq_some_iff.mp H
          obtain ⟨t568, A260, H⟩ := H
          replace H : (some t568) = some r := H
          have A26 := Aside0.mk A260
          clear A260
          obtain rfl := Option.some.inj H
          go_enter Try.func7, Try.ntmps7
          go_wp2_with (first | ((with_reducible refine gate_callee (f := 8) rfl ?_); refine goesM_ (some 23) Try.func8 #[.int .u8 a0, .slice A1 l1.length c1, .int .i64 8] ?_; (with_reducible refine (conclavelaw04_list.calls k a0 _ _ l1 8 t531 t532 _ ?side1 ?side2 A4.out).mono ?_); (case side1 => exact nC_ HR1.out); (case side2 => exact HC1.out); rintro e w27 ⟨v533, rfl, ho0, hb⟩; refine ⟨_, rfl, ?_⟩; have n0_ := A_ (Kd.R_lower ho0 (below_size hb_)); have n1_ := A_ (below_step hb_ hb); clear HB; have HO534 := n0_; have HB := n1_; clear n0_ n1_; (try clear hb); (try clear ho0)) | ((with_reducible refine gate_callee (f := 8) rfl ?_); refine goesM_ (some 29) Try.func8 #[.int .u8 a0, .slice A2 l2.length c2, .int .i64 8] ?_; (with_reducible refine (conclavelaw04_list.calls k a0 _ _ l2 8 t535 t536 _ ?side1 ?side2 A5.out).mono ?_); (case side1 => repeat (first | exact (Kd.C_below HR2.out HB.out) | (with_reducible refine Kd.C_alloc ?_ _) | (with_reducible refine Kd.C_drewN ?_ _) | (with_reducible refine Kd.C_drew ?_))); (case side2 => exact HC2.out); rintro e w28 ⟨v537, rfl, ho0, hb⟩; refine ⟨_, rfl, ?_⟩; have n0_ := A_ (Kd.R_elder' (nR_ HO534) (Kd.R_base ho0) hb); have n1_ := A_ (Kd.R_lower (Kd.R_new' ho0 (Kd.R_lt (nR_ HO534))) (below_size hb_)); have n2_ := A_ (below_step hb_ hb); clear HO534 HB; have HO534 := n0_; have HO538 := n1_; have HB := n2_; clear n0_ n1_ n2_; (try clear hb); (try clear ho0); obtain ⟨Ao29, co29, eo29⟩ := Kd.R_slice HO534.out; subst eo29; obtain ⟨Ao30, co30, eo30⟩ := Kd.R_slice HO538.out; subst eo30) | ((with_reducible refine gate_callee (f := 9) rfl ?_); refine goesM_ (some 39) Try.func9 #[.slice Ao29 t532.length co29] ?_; (with_reducible refine (cr1_Copy.calls _ _ t532 t539 _ ?side1 ?side2 A7.out).mono ?_); (case side1 => repeat (first | exact (Kd.R_reads' HO534.out).2.2 | (with_reducible refine Kd.C_alloc ?_ _) | (with_reducible refine Kd.C_drewN ?_ _) | (with_reducible refine Kd.C_drew ?_))); (case side2 => exact (Kd.R_reads' HO534.out).2.1); rintro e w31 ⟨v540, rfl, ho0, hb⟩; refine ⟨_, rfl, ?_⟩; have n0_ := A_ (Kd.R_elder' (nR_ HO534) (Kd.R_base ho0) hb); have n1_ := A_ (Kd.R_elder' (nR_ HO538) (Kd.R_base ho0) hb); have n2_ := A_ (Kd.R_lower (Kd.R_new' (Kd.R_new' ho0 (Kd.R_lt (nR_ HO534))) (Kd.R_lt (nR_ HO538))) (below_size hb_)); have n3_ := A_ (below_step hb_ hb); clear HO534 HO538 HB; have HO534 := n0_; have HO538 := n1_; have HO541 := n2_; have HB := n3_; clear n0_ n1_ n2_ n3_; (try clear hb); (try clear ho0)) | (at_builtin; refine Kd.R_append_zeros (Kd.int .u64) (w0 := w) w.heap.size rfl (.tmp 39) (.tmp 43) 22 3 33 (.int .u64 0) 8 rfl Try.underlying22 Try.underlying3 info33 rfl (by decide) (by omega) v540 t539 0 (ji8 : Int) (fun k_ => some k_ ≠ (.slice Ao29 t532.length co29 : Value).ownBlock ∧ some k_ ≠ (.slice Ao30 t536.length co30 : Value).ownBlock) rfl rfl rfl ?aF ?aO (of_decide_eq_true (by first | (with_reducible assumption) | assumption)) ?aB ?aS ?aL ?_; (case aB => exact hb_); (case aF => exact (fun k_ hk => ⟨Kd.fresh' (Kd.R_lt (nR_ HO534)) k_ hk, Kd.fresh' (Kd.R_lt (nR_ HO538)) k_ hk⟩)); (case aO => exact (by (with_reducible repeat (first | apply Kd.R_alloc | apply Kd.R_drewN | apply Kd.R_drew)); exact Kd.R_mono HO541.out (fun _ hk => ⟨hk.1.2, hk.2⟩))); (case aS => exact (below_size hb_)); (case aL => have := LMc10.out; omega); intro v543 w32 ho hb hg hat; rw [← Ny542.out] at ho; have n0_ := A_ (Kd.R_after (ok := (fun k_ => some k_ ≠ (.slice Ao30 t536.length co30 : Value).ownBlock)) (by (with_reducible repeat (first | apply Kd.R_alloc | apply Kd.R_drewN | apply Kd.R_drew)); exact Kd.R_mono HO534.out (fun _ hk => ⟨hk.1.2, hk.2⟩)) hg hat); have n1_ := A_ (Kd.R_after (ok := (fun k_ => some k_ ≠ (.slice Ao29 t532.length co29 : Value).ownBlock)) (by (with_reducible repeat (first | apply Kd.R_alloc | apply Kd.R_drewN | apply Kd.R_drew)); exact Kd.R_mono HO538.out (fun _ hk => ⟨hk.1.2, hk.2⟩)) hg hat); have n2_ := A_ (hb); have n3_ := A_ (ho); clear HO534 HO538 HB HO541; have HO534 := n0_; have HO538 := n1_; have HB := n2_; have HO544 := n3_; clear n0_ n1_ n2_ n3_; clear ho hb hg hat) | ((with_reducible refine gate_callee (f := 9) rfl ?_); refine goesM_ (some 46) Try.func9 #[.slice Ao30 t536.length co30] ?_; (with_reducible refine (cr1_Copy.calls _ _ t536 t545 _ ?side1 ?side2 A11.out).mono ?_); (case side1 => repeat (first | exact (Kd.R_reads' HO538.out).2.2 | (with_reducible refine Kd.C_alloc ?_ _) | (with_reducible refine Kd.C_drewN ?_ _) | (with_reducible refine Kd.C_drew ?_))); (case side2 => exact (Kd.R_reads' HO538.out).2.1); rintro e w33 ⟨v546, rfl, ho0, hb⟩; refine ⟨_, rfl, ?_⟩; have n0_ := A_ (Kd.R_elder' (nR_ HO534) (Kd.R_base ho0) hb); have n1_ := A_ (Kd.R_elder' (nR_ HO538) (Kd.R_base ho0) hb); have n2_ := A_ (Kd.R_elder' (nR_ HO544) (Kd.R_base ho0) hb); have n3_ := A_ (Kd.R_lower (Kd.R_new' (Kd.R_new' (Kd.R_new' ho0 (Kd.R_lt (nR_ HO534))) (Kd.R_lt (nR_ HO538))) (Kd.R_lt (nR_ HO544))) (below_size hb_)); have n4_ := A_ (below_step hb_ hb); clear HO534 HO538 HO544 HB; have HO534 := n0_; have HO538 := n1_; have HO544 := n2_; have HO547 := n3_; have HB := n4_; clear n0_ n1_ n2_ n3_ n4_; (try clear hb); (try clear ho0)) | (at_builtin; refine Kd.R_append_zeros (Kd.int .u64) (w0 := w) w.heap.size rfl (.tmp 46) (.tmp 50) 22 3 33 (.int .u64 0) 8 rfl Try.underlying22 Try.underlying3 info33 rfl (by decide) (by omega) v546 t545 0 (ji12 : Int) (fun k_ => some k_ ≠ (.slice Ao29 t532.length co29 : Value).ownBlock ∧ some k_ ≠ (.slice Ao30 t536.length co30 : Value).ownBlock ∧ some k_ ≠ (v543 : Value).ownBlock) rfl rfl rfl ?aF ?aO (of_decide_eq_true (by first | (with_reducible assumption) | assumption)) ?aB ?aS ?aL ?_; (case aB => exact hb_); (case aF => exact (fun k_ hk => ⟨Kd.fresh' (Kd.R_lt (nR_ HO534)) k_ hk, Kd.fresh' (Kd.R_lt (nR_ HO538)) k_ hk, Kd.fresh' (Kd.R_lt (nR_ HO544)) k_ hk⟩)); (case aO => exact (by (with_reducible repeat (first | apply Kd.R_alloc | apply Kd.R_drewN | apply Kd.R_drew)); exact Kd.R_mono HO547.out (fun _ hk => ⟨hk.1.1.2, ⟨hk.1.2, hk.2⟩⟩))); (case aS => exact (below_size hb_)); (case aL => have := LMc14.out; omega); intro v549 w34 ho hb hg hat; rw [← Ny548.out] at ho; have n0_ := A_ (Kd.R_after (ok := (fun k_ => some k_ ≠ (.slice Ao30 t536.length co30 : Value).ownBlock ∧ some k_ ≠ (v543 : Value).ownBlock)) (nR_ HO534) hg hat); have n1_ := A_ (Kd.R_after (ok := (fun k_ => some k_ ≠ (.slice Ao29 t532.length co29 : Value).ownBlock ∧ some k_ ≠ (v543 : Value).ownBlock)) (nR_ HO538) hg hat); have n2_ := A_ (Kd.R_after (ok := (fun k_ => some k_ ≠ (.slice Ao29 t532.length co29 : Value).ownBlock ∧ some k_ ≠ (.slice Ao30 t536.length co30 : Value).ownBlock)) (nR_ HO544) hg hat); have n3_ := A_ (hb); have n4_ := A_ (ho); clear HO534 HO538 HO544 HB HO547; have HO534 := n0_; have HO538 := n1_; have HO544 := n2_; have HB := n3_; have HO550 := n4_; clear n0_ n1_ n2_ n3_ n4_; clear ho hb hg hat; obtain ⟨Ao35, co35, eo35⟩ := Kd.R_slice HO544.out; subst eo35; obtain ⟨Ao36, co36, eo36⟩ := Kd.R_slice HO550.out; subst eo36) | ((with_reducible refine gate_callee (f := 14) rfl ?_); refine goesM_ (some 56) Try.func14 #[.int .u8 t531, .slice Ao35 y542.length co35, .slice Ao36 y548.length co36] ?_; (with_reducible refine (fast_Round.calls k t531 (fun k_ => some k_ = (.slice Ao35 y542.length co35 : Value).ownBlock) _ _ y542 (fun k_ => some k_ = (.slice Ao36 y548.length co36 : Value).ownBlock) _ _ y548 t551 t554 _ ?side1 ?side2 A15.out).mono ?_); (case side1 => exact Kd.R_V (Kd.R_tight rfl (HO544.out))); (case side2 => exact Kd.R_V (Kd.R_tight rfl (HO550.out))); rintro e w37 ⟨v552, rfl, ho0, hb⟩; refine ⟨_, rfl, ?_⟩; have n0_ := A_ (Kd.R_elder' (nR_ HO534) (Kd.R_base ho0) hb); have n1_ := A_ (Kd.R_elder' (nR_ HO538) (Kd.R_base ho0) hb); have n2_ := A_ (Kd.R_elder' (nR_ HO544) (Kd.R_base ho0) hb); have n3_ := A_ (Kd.R_elder' (nR_ HO550) (Kd.R_base ho0) hb); have n4_ := A_ (Kd.R_lower (Kd.R_new' (Kd.R_new' (Kd.R_new' (Kd.R_new' (Kd.R_mono (ok' := fun k_ => True) ho0 (fun _ hk_ => trivial)) (Kd.R_lt (nR_ HO534))) (Kd.R_lt (nR_ HO538))) (Kd.R_lt (nR_ HO544))) (Kd.R_lt (nR_ HO550))) (below_size hb_)); have n5_ := A_ (below_step hb_ hb); clear HO534 HO538 HO544 HO550 HB; have HO534 := n0_; have HO538 := n1_; have HO544 := n2_; have HO550 := n3_; have HO553 := n4_; have HB := n5_; clear n0_ n1_ n2_ n3_ n4_ n5_; (try clear hb); (try clear ho0)) | ((with_reducible refine gate_callee (f := 12) rfl ?_); refine goesM_ (some 63) Try.func12 #[.int .u8 t531, .slice Ao29 t532.length co29, .slice Ao30 t536.length co30] ?_; (with_reducible refine (fast_Mul.calls k t531 _ _ t532 _ _ t536 t555 t556 _ ?side1 ?side2 ?side3 ?side4 A16.out).mono ?_); (case side1 => repeat (first | exact (Kd.R_reads' HO534.out).2.2 | (with_reducible refine Kd.C_alloc ?_ _) | (with_reducible refine Kd.C_drewN ?_ _) | (with_reducible refine Kd.C_drew ?_))); (case side2 => exact (Kd.R_reads' HO534.out).2.1); (case side3 => repeat (first | exact (Kd.R_reads' HO538.out).2.2 | (with_reducible refine Kd.C_alloc ?_ _) | (with_reducible refine Kd.C_drewN ?_ _) | (with_reducible refine Kd.C_drew ?_))); (case side4 => exact (Kd.R_reads' HO538.out).2.1); rintro e w38 ⟨v557, rfl, ho0, hb⟩; refine ⟨_, rfl, ?_⟩; have n0_ := A_ (Kd.R_elder' (nR_ HO534) (Kd.R_base ho0) hb); have n1_ := A_ (Kd.R_elder' (nR_ HO538) (Kd.R_base ho0) hb); have n2_ := A_ (Kd.R_elder' (nR_ HO544) (Kd.R_base ho0) hb); have n3_ := A_ (Kd.R_elder' (nR_ HO550) (Kd.R_base ho0) hb); have n4_ := A_ (Kd.R_elder' (nR_ HO553) (Kd.R_base ho0) hb); have n5_ := A_ (Kd.R_lower (Kd.R_new' (Kd.R_new' (Kd.R_new' (Kd.R_new' (Kd.R_new' ho0 (Kd.R_lt (nR_ HO534))) (Kd.R_lt (nR_ HO538))) (Kd.R_lt (nR_ HO544))) (Kd.R_lt (nR_ HO550))) (Kd.R_lt (nR_ HO553))) (below_size hb_)); have n6_ := A_ (below_step hb_ hb); clear HO534 HO538 HO544 HO550 HO553 HB; have HO534 := n0_; have HO538 := n1_; have HO544 := n2_; have HO550 := n3_; have HO553 := n4_; have HO558 := n5_; have HB := n6_; clear n0_ n1_ n2_ n3_ n4_ n5_ n6_; (try clear hb); (try clear ho0)) | ((with_reducible refine gate_callee (f := 13) rfl ?_); refine goesM_ (some 70) Try.func13 #[.int .u8 t531, .slice Ao30 t536.length co30, .slice Ao29 t532.length co29] ?_; (with_reducible refine (fast_Kara.calls k t531 _ _ t536 _ _ t532 t559 t560 _ ?side1 ?side2 ?side3 ?side4 A17.out).mono ?_); (case side1 => repeat (first | exact (Kd.R_reads' HO538.out).2.2 | (with_reducible refine Kd.C_alloc ?_ _) | (with_reducible refine Kd.C_drewN ?_ _) | (with_reducible refine Kd.C_drew ?_))); (case side2 => exact (Kd.R_reads' HO538.out).2.1); (case side3 => repeat (first | exact (Kd.R_reads' HO534.out).2.2 | (with_reducible refine Kd.C_alloc ?_ _) | (with_reducible refine Kd.C_drewN ?_ _) | (with_reducible refine Kd.C_drew ?_))); (case side4 => exact (Kd.R_reads' HO534.out).2.1); rintro e w39 ⟨v561, rfl, ho0, hb⟩; refine ⟨_, rfl, ?_⟩; have n0_ := A_ (Kd.R_elder' (nR_ HO534) (Kd.R_base ho0) hb); have n1_ := A_ (Kd.R_elder' (nR_ HO538) (Kd.R_base ho0) hb); have n2_ := A_ (Kd.R_elder' (nR_ HO544) (Kd.R_base ho0) hb); have n3_ := A_ (Kd.R_elder' (nR_ HO550) (Kd.R_base ho0) hb); have n4_ := A_ (Kd.R_elder' (nR_ HO553) (Kd.R_base ho0) hb); have n5_ := A_ (Kd.R_elder' (nR_ HO558) (Kd.R_base ho0) hb); have n6_ := A_ (Kd.R_lower (Kd.R_new' (Kd.R_new' (Kd.R_new' (Kd.R_new' (Kd.R_new' (Kd.R_new' ho0 (Kd.R_lt (nR_ HO534))) (Kd.R_lt (nR_ HO538))) (Kd.R_lt (nR_ HO544))) (Kd.R_lt (nR_ HO550))) (Kd.R_lt (nR_ HO553))) (Kd.R_lt (nR_ HO558))) (below_size hb_)); have n7_ := A_ (below_step hb_ hb); clear HO534 HO538 HO544 HO550 HO553 HO558 HB; have HO534 := n0_; have HO538 := n1_; have HO544 := n2_; have HO550 := n3_; have HO553 := n4_; have HO558 := n5_; have HO562 := n6_; have HB := n7_; clear n0_ n1_ n2_ n3_ n4_ n5_ n6_ n7_; (try clear hb); (try clear ho0)) | ((with_reducible refine gate_callee (f := 17) rfl ?_); refine goesM_ (some 73) Try.func17 #[] ?_; (with_reducible refine (conclavelaw04_anchored.calls k  true _ A18.out).mono ?_); rintro e w40 ⟨rfl, hb⟩; refine ⟨_, rfl, ?_⟩; have n0_ := A_ (Kd.R_below (nR_ HO534) hb); have n1_ := A_ (Kd.R_below (nR_ HO538) hb); have n2_ := A_ (Kd.R_below (nR_ HO544) hb); have n3_ := A_ (Kd.R_below (nR_ HO550) hb); have n4_ := A_ (Kd.R_below (nR_ HO553) hb); have n5_ := A_ (Kd.R_below (nR_ HO558) hb); have n6_ := A_ (Kd.R_below (nR_ HO562) hb); have n7_ := A_ (below_step hb_ hb); clear HO534 HO538 HO544 HO550 HO553 HO558 HO562 HB; have HO534 := n0_; have HO538 := n1_; have HO544 := n2_; have HO550 := n3_; have HO553 := n4_; have HO558 := n5_; have HO562 := n6_; have HB := n7_; clear n0_ n1_ n2_ n3_ n4_ n5_ n6_ n7_; (try clear hb); obtain ⟨Ao41, co41, eo41⟩ := Kd.R_slice HO553.out; subst eo41) | (go_at_call 23; (with_reducible refine (cr3_Trim.calls k _ _ t551 t564 _ ?side1 ?side2 A23.out).mono ?_); (case side1 => repeat (first | exact (Kd.R_reads' HO553.out).2.2 | (with_reducible refine Kd.C_alloc ?_ _) | (with_reducible refine Kd.C_drewN ?_ _) | (with_reducible refine Kd.C_drew ?_))); (case side2 => exact (Kd.R_reads' HO553.out).2.1); rintro e w42 ⟨v565, rfl, ho0, hb⟩; have n0_ := A_ (Kd.R_elder' (nR_ HO534) (Kd.R_base ho0) hb); have n1_ := A_ (Kd.R_elder' (nR_ HO538) (Kd.R_base ho0) hb); have n2_ := A_ (Kd.R_elder' (nR_ HO544) (Kd.R_base ho0) hb); have n3_ := A_ (Kd.R_elder' (nR_ HO550) (Kd.R_base ho0) hb); have n4_ := A_ (Kd.R_elder' (nR_ HO553) (Kd.R_base ho0) hb); have n5_ := A_ (Kd.R_elder' (nR_ HO558) (Kd.R_base ho0) hb); have n6_ := A_ (Kd.R_elder' (nR_ HO562) (Kd.R_base ho0) hb); have n7_ := A_ (Kd.R_lower (Kd.R_new' (Kd.R_new' (Kd.R_new' (Kd.R_new' (Kd.R_new' (Kd.R_new' (Kd.R_new' ho0 (Kd.R_lt (nR_ HO534))) (Kd.R_lt (nR_ HO538))) (Kd.R_lt (nR_ HO544))) (Kd.R_lt (nR_ HO550))) (Kd.R_lt (nR_ HO553))) (Kd.R_lt (nR_ HO558))) (Kd.R_lt (nR_ HO562))) (below_size hb_)); have n8_ := A_ (below_step hb_ hb); clear HO534 HO538 HO544 HO550 HO553 HO558 HO562 HB; have HO534 := n0_; have HO538 := n1_; have HO544 := n2_; have HO550 := n3_; have HO553 := n4_; have HO558 := n5_; have HO562 := n6_; have HO566 := n7_; have HB := n8_; clear n0_ n1_ n2_ n3_ n4_ n5_ n6_ n7_ n8_; (try clear hb); (try clear ho0); obtain ⟨Ao43, co43, eo43⟩ := Kd.R_slice HO566.out; subst eo43; obtain ⟨Ao44, co44, eo44⟩ := Kd.R_slice HO558.out; subst eo44) | (go_at_call 18; (with_reducible refine (cr1_Same.calls k _ _ t564 _ _ t555 true _ ?side1 ?side2 ?side3 ?side4 A24.out).mono ?_); (case side1 => repeat (first | exact (Kd.R_reads' HO566.out).2.2 | (with_reducible refine Kd.C_alloc ?_ _) | (with_reducible refine Kd.C_drewN ?_ _) | (with_reducible refine Kd.C_drew ?_))); (case side2 => exact (Kd.R_reads' HO566.out).2.1); (case side3 => repeat (first | exact (Kd.R_reads' HO558.out).2.2 | (with_reducible refine Kd.C_alloc ?_ _) | (with_reducible refine Kd.C_drewN ?_ _) | (with_reducible refine Kd.C_drew ?_))); (case side4 => exact (Kd.R_reads' HO558.out).2.1); rintro e w' ⟨rfl, ⟨nd, rfl⟩⟩; obtain ⟨Ao45, co45, eo45⟩ := Kd.R_slice HO562.out; subst eo45) | (go_at_call 18; (with_reducible refine (cr1_Same.calls k _ _ t555 _ _ t559 t568 _ ?side1 ?side2 ?side3 ?side4 A26.out).mono ?_); (case side1 => repeat (first | exact (Kd.R_reads' HO558.out).2.2 | (with_reducible refine Kd.C_alloc ?_ _) | (with_reducible refine Kd.C_drewN ?_ _) | (with_reducible refine Kd.C_drew ?_))); (case side2 => exact (Kd.R_reads' HO558.out).2.1); (case side3 => repeat (first | exact (Kd.R_reads' HO562.out).2.2 | (with_reducible refine Kd.C_alloc ?_ _) | (with_reducible refine Kd.C_drewN ?_ _) | (with_reducible refine Kd.C_drew ?_))); (case side4 => exact (Kd.R_reads' HO562.out).2.1); rintro e w' ⟨rfl, ⟨nd, rfl⟩⟩))
          go_ret
          exact ⟨by first | rfl | (simp [errW_none, errW_some] <;> rfl) | (simp only [← hji6, ← hji8, ← hji12]; first | rfl | (simp [errW_none, errW_some] <;> rfl)) | (simp [*, errW_none, errW_some] <;> rfl), hb_⟩
         ·replace c25 := Bool.eq_false_iff.mpr c25
          subst c25
          have H1 : (none) = some r := by rw [if_neg (show ¬ (false = true) by decide)] at H; exact H
          clear H
          have H := H1
          clear H1
          exact absurd H (by simp)
        ·rw [if_neg c22] at H
         exact absurd H (by simp)
       ·rw [if_neg c21] at H
        exact absurd H (by simp)
      ·rw [if_neg c20] at H
       exact absurd H (by simp)
     ·replace c19 := Bool.eq_false_iff.mpr c19
      subst c19
      have H1 : (none) = some r := by rw [if_neg (show ¬ (false = true) by decide)] at H; exact H
      clear H
      have H := H1
      clear H1
      exact absurd H (by simp)
    ·rw [if_neg c14] at H
     exact absurd H (by simp)
   ·rw [if_neg c13] at H
    exact absurd H (by simp)
  ·rw [if_neg c10] at H
   exact absurd H (by simp)
 ·rw [if_neg c9] at H
  exact absurd H (by simp)
/-- THE ONE PURE STATEMENT of conclavelaw04_FastRounds: yours. -/
def conclavelaw04_FastRounds.Pure : Prop := ∀ (a0 : Int) (l1 : List Int) (l2 : List Int), (Lit.int .u8 a0).wf = true → l1.length ≤ maxLen → l1.length * 8 ≤ 140737488351232 → (∀ x ∈ l1, (Lit.int .u64 x).wf = true) → l2.length ≤ maxLen → l2.length * 8 ≤ 140737488351232 → (∀ x ∈ l2, (Lit.int .u64 x).wf = true) → ∃ k, conclavelaw04_FastRounds.f k a0 l1 l2 = some true
theorem conclavelaw04_FastRounds.walk (P : conclavelaw04_FastRounds.Pure) (a0 : Int) (a1 : Option Addr) (len1 cap1 : Nat) (z1 : List Int) (a2 : Option Addr) (len2 cap2 : Nat) (z2 : List Int) (w : World) (w0 : (Lit.int .u8 a0).wf = true) (w1 : (a1 = none ∧ len1 = 0 ∧ cap1 = 0 ∧ z1 = []) ∨ ∃ x, a1 = some x ∧ len1 ≤ cap1 ∧ cap1 ≤ maxLen ∧ z1.length = cap1 ∧ (∀ i, i < z1.length → w.cell? (x.add i) = some (.int .u64 (z1.getD i 0))) ∧ ∀ n ∈ z1, (Lit.int .u64 n).wf = true) (y1 : len1 * 8 ≤ 140737488351232) (w2 : (a2 = none ∧ len2 = 0 ∧ cap2 = 0 ∧ z2 = []) ∨ ∃ x, a2 = some x ∧ len2 ≤ cap2 ∧ cap2 ≤ maxLen ∧ z2.length = cap2 ∧ (∀ i, i < z2.length → w.cell? (x.add i) = some (.int .u64 (z2.getD i 0))) ∧ ∀ n ∈ z2, (Lit.int .u64 n).wf = true) (y2 : len2 * 8 ≤ 140737488351232) :
  Calls Try.prog 7 #[.int .u8 a0, .slice a1 len1 cap1, .slice a2 len2 cap2] w fun e w' => e = .returned (.bool true) ∧ Below w.heap.size w w' := by
 obtain ⟨l1, rfl, hr1, hm1, hw1, hc1⟩ := ReadsInt.ofRowC w1
 obtain ⟨l2, rfl, hr2, hm2, hw2, hc2⟩ := ReadsInt.ofRowC w2
 obtain ⟨k, h⟩ := P a0 l1 l2 w0 hm1 y1 hw1 hm2 y2 hw2
 refine (conclavelaw04_FastRounds.calls k a0 _ _ l1 _ _ l2 true w (Kd.C_of_reads (d := (0 : Int)) (h1 := fun _ => rfl) hr1) hc1 (Kd.C_of_reads (d := (0 : Int)) (h1 := fun _ => rfl) hr2) hc2 h).mono ?_
 rintro e w' ⟨rfl, hd⟩
 exact ⟨rfl, hd⟩
end Go.Proofs.Ytaegmhniepfdaaa.PFastRounds
