/- The Go functions as Lean functions, each with the proof that its call comes to just that; written by a program of this session, by the words of the print. -/
import Derived.Test.YtaegmhniepfdaaaPFastPowersx0
import Derived.Test.YtaegmhniepfdaaaPFastPowersx14
import Derived.Test.YtaegmhniepfdaaaPFastPowersx15
namespace Go.Proofs.Ytaegmhniepfdaaa.PFastPowers
open Go.RowKit Go.Proofs.YtaegmhniepfdaaaW.PrintWords Go.Proofs.YtaegmhniepfdaaaW.PrintLast Go.Proofs.YtaegmhniepfdaaaW.PrintMore
attribute [local go_sem] max2_int min2_int max_two min_two max_three min_three max_four min_four   -- for this text's walks alone
set_option linter.unusedVariables false
set_option linter.unusedSimpArgs false
/-! ### cr1_Power: function 37 -/
def cr1_Power.l0 : Nat → Int → Int → Int → Int → Int → Option (Int)
 | 0, _, _, _, _, _ => none
 | k + 1, x0, x1, x2, x7, x8 => if x8 ≥ 0 then ((cr1_Times.f k x0 x7 x7).bind fun t555 => (if 0 ≤ (IntKind.u64.wrap (x8)) then (if (Go.bits .and .u64 (shr .u64 x2 (IntKind.u64.wrap (x8))) 1) = 1 then ((cr1_Times.f k x0 t555 x1).bind fun t556 => (cr1_Power.l0 k x0 x1 x2 t556 (wrap64 (x8 - 1)))) else (cr1_Power.l0 k x0 x1 x2 t555 (wrap64 (x8 - 1)))) else (none))) else (some x7)
def cr1_Power.f (k : Nat) (a0 : Int) (a1 : Int) (a2 : Int) : Option (Int) := if a0 = 0 then (none) else (cr1_Power.l0 k a0 a1 a2 ((1 : Int) % a0) 63)
theorem cr1_Power.mono_l : ∀ k, (∀ y0 y1 y2 y3 y4, LeO (cr1_Power.l0 k y0 y1 y2 y3 y4) (cr1_Power.l0 (k + 1) y0 y1 y2 y3 y4))
 | 0 => fun _ _ _ _ _ r h => by simp [cr1_Power.l0] at h
 | k + 1 => by
  have ih0 := cr1_Power.mono_l k
  ·intro y0 y1 y2 y3 y4
   unfold cr1_Power.l0
   repeat' first
   | (with_reducible exact ih0 _ _ _ _ _)
   | (with_reducible exact cr1_Times.mono _ _ _ _)
   | (with_reducible exact LeO.refl _)
   | (with_reducible exact LeO.none _)
   | (with_reducible refine LeO.ite ?_ ?_)
   | (with_reducible refine LeO.bind ?_ (fun _ => ?_))
   | exact ih0 _ _ _ _ _
   | exact cr1_Times.mono _ _ _ _
   | exact LeO.none _
   | refine LeO.ite ?_ ?_
   | refine LeO.bind ?_ (fun _ => ?_)
theorem cr1_Power.mono : ∀ a0 a1 a2 k, LeO (cr1_Power.f k a0 a1 a2) (cr1_Power.f (k + 1) a0 a1 a2) := by
 intro a0 a1 a2 k
 have ih0 := cr1_Power.mono_l k
 unfold cr1_Power.f
 repeat' first
   | (with_reducible exact ih0 _ _ _ _ _)
   | (with_reducible exact cr1_Times.mono _ _ _ _)
   | (with_reducible exact LeO.refl _)
   | (with_reducible exact LeO.none _)
   | (with_reducible refine LeO.ite ?_ ?_)
   | (with_reducible refine LeO.bind ?_ (fun _ => ?_))
   | exact ih0 _ _ _ _ _
   | exact cr1_Times.mono _ _ _ _
   | exact LeO.none _
   | refine LeO.ite ?_ ?_
   | refine LeO.bind ?_ (fun _ => ?_)
set_option maxHeartbeats 8000000 in
set_option maxRecDepth 100000 in
theorem cr1_Power.calls (k : Nat) (a0 : Int) (a1 : Int) (a2 : Int) (r : Int) (w : World) (h : cr1_Power.f k a0 a1 a2 = some r) :
  Calls Try.prog 37 #[.int .u64 a0, .int .u64 a1, .int .u64 a2] w fun e w' => e = .returned (.int .u64 r) ∧ Drawn0 w w' := by
 have H : (if a0 = 0 then (none) else (cr1_Power.l0 k a0 a1 a2 ((1 : Int) % a0) 63)) = some r := h
 clear h
 by_cases c4 : a0 = 0
 ·rw [if_pos c4] at H
  exact absurd H (by simp)
 ·rw [if_neg c4] at H
  have c4b0 : (a0 == 0) = false := beq_eq_false_iff_ne.mpr c4
  have c4b1 : (a0 != 0) = true := bne_iff_ne.mpr c4
  have H' := Aside0.mk H
  clear H
  go_enter Try.func37, Try.ntmps37
  go_wp2
  go_loopg [7, 8] k (fun kq v7 v8 w' => ∃ (x7_1 : Int) (x8_1 : Int), v7 = .int .u64 x7_1 ∧ v8 = .int .i64 x8_1 ∧ Aside0 (cr1_Power.l0 kq a0 a1 a2 x7_1 x8_1 = some r) ∧ Aside0 (kq ≤ k) ∧ Drawn0 w w')
  case atStart => exact ⟨((1 : Int) % a0), (63), (fs_), (fs_), H', ⟨Nat.le_refl _⟩, by repeat (first | exact Drawn0.refl _ | apply Drawn0.step)⟩
  case round =>
   clear H'
   try clear p2
   try clear c3
   try clear c4
   try clear c4b0
   try clear c4b1
   obtain ⟨x7_1, x8_1, rfl, rfl, HA, HK1, ⟨m1, rfl⟩⟩ := hrel
   cases gk with
   | zero => exact absurd HA.out (by simp [cr1_Power.l0])
   | succ k1 =>
    have H := HA.out
    clear HA
    simp only [cr1_Power.l0] at H
    by_cases c5 : x8_1 ≥ 0
    ·rw [if_pos c5] at H
     have c5b0 : decide (0 ≤ x8_1) = true := decide_eq_true c5
     clear c5
     replace H := Option.bind_eq_some_iff.mp H
     obtain ⟨t555, A60, H⟩ := H
     (try dsimp only at H)
     have A6 := Aside0.mk A60
     clear A60
     obtain ⟨ji7, hji7⟩ : ∃ j_ : Int, (IntKind.u64.wrap (x8_1)) = j_ := ⟨_, rfl⟩
     replace H : (if 0 ≤ (ji7) then (if (Go.bits .and .u64 (shr .u64 a2 (ji7)) 1) = 1 then ((cr1_Times.f k1 a0 t555 a1).bind fun t556 => (cr1_Power.l0 k1 a0 a1 a2 t556 (wrap64 (x8_1 - 1)))) else (cr1_Power.l0 k1 a0 a1 a2 t555 (wrap64 (x8_1 - 1)))) else (none)) = some r := by first | (rw [hji7] at H; exact H) | (simp only [hji7] at H ⊢; exact H)
     (try rw [hji7] at A6)
     by_cases c8 : 0 ≤ (ji7)
     ·rw [if_pos c8] at H
      have c8b0 := eq_true c8
      have c8b1 : decide (0 ≤ (ji7)) = true := decide_eq_true c8
      clear c8
      obtain ⟨ji9, hji9⟩ : ∃ j_ : Int, (shr .u64 a2 (ji7)) = j_ := ⟨_, rfl⟩
      replace H : (if (Go.bits .and .u64 (ji9) 1) = 1 then ((cr1_Times.f k1 a0 t555 a1).bind fun t556 => (cr1_Power.l0 k1 a0 a1 a2 t556 (wrap64 (x8_1 - 1)))) else (cr1_Power.l0 k1 a0 a1 a2 t555 (wrap64 (x8_1 - 1)))) = some r := by first | (rw [hji9] at H; exact H) | (simp only [hji9] at H ⊢; exact H)
      (try rw [hji9] at A6)
      have hji9_ : (a2 / 2 ^ min (ji7).toNat 64) = ji9 := hji9
      have hji9z : (ji7) ≤ 64 → (a2 / 2 ^ (ji7).toNat) = ji9 := shr_small hji9
      have HC10 := Aside0.mk H
      clear H
      go_upto_if 24 with (first | ((with_reducible refine gate_callee (f := 21) rfl ?_); refine goesM_ (some 18) Try.func21 #[.int .u64 a0, .int .u64 x7_1, .int .u64 x7_1] ?_; (with_reducible refine (cr1_Times.calls k1 a0 x7_1 x7_1 t555 _ A6.out).mono ?_); rintro e w' ⟨rfl, ⟨nd, rfl⟩⟩; refine ⟨_, rfl, ?_⟩))
      (try simp only [Act.put, List.setIfInBounds_toArray, List.set_cons_zero, List.set_cons_succ])
      have H := HC10.out
      clear HC10
      by_cases c11 : (Go.bits .and .u64 (ji9) 1) = 1
      ·rw [if_pos c11] at H
       have c11b0 : ((Go.bits .and .u64 (ji9) 1) == 1) = true := beq_iff_eq.mpr c11
       have c11b1 : ((Go.bits .and .u64 (ji9) 1) != 1) = false := bne_eq_false_iff_eq.mpr c11
       clear c11
       (first | rw [c11b0] | rw [c11b1] | (simp only [i64_w, i32_w]; first | rw [c11b0] | rw [c11b1]) | skip)
       replace H := Option.bind_eq_some_iff.mp H
       obtain ⟨t556, A120, H⟩ := H
       replace H : (cr1_Power.l0 k1 a0 a1 a2 t556 (wrap64 (x8_1 - 1))) = some r := H
       have A12 := Aside0.mk A120
       clear A120
       have H' := Aside0.mk H
       clear H
       go_wp2_with (first | ((with_reducible refine gate_callee (f := 21) rfl ?_); refine goesM_ (some 28) Try.func21 #[.int .u64 a0, .int .u64 t555, .int .u64 a1] ?_; (with_reducible refine (cr1_Times.calls k1 a0 t555 a1 t556 _ A12.out).mono ?_); rintro e w' ⟨rfl, ⟨nd, rfl⟩⟩; refine ⟨_, rfl, ?_⟩))
       go_roundg k1
       case measure => have := HK1.out; omega
       case rel => exact ⟨(t556), (wrap64 (x8_1 - 1)), (fs_), (fs_), H', ⟨by have := HK1.out; omega⟩, by repeat (first | exact Drawn0.refl _ | apply Drawn0.step)⟩
      ·rw [if_neg c11] at H
       have c11b0 : ((Go.bits .and .u64 (ji9) 1) == 1) = false := beq_eq_false_iff_ne.mpr c11
       have c11b1 : ((Go.bits .and .u64 (ji9) 1) != 1) = true := bne_iff_ne.mpr c11
       (first | rw [c11b0] | rw [c11b1] | (simp only [i64_w, i32_w]; first | rw [c11b0] | rw [c11b1]) | skip)
       have H' := Aside0.mk H
       clear H
       go_wp2
       go_roundg k1
       case measure => have := HK1.out; omega
       case rel => exact ⟨(t555), (wrap64 (x8_1 - 1)), (fs_), (fs_), H', ⟨by have := HK1.out; omega⟩, by repeat (first | exact Drawn0.refl _ | apply Drawn0.step)⟩
     ·rw [if_neg c8] at H
      exact absurd H (by simp)
    ·rw [if_neg c5] at H
     have c5b0 : decide (0 ≤ x8_1) = false := decide_eq_false c5
     clear c5
     obtain rfl := Option.some.inj H
     go_wp2
     go_ret
     exact ⟨fs_, by repeat (first | exact Drawn0.refl _ | apply Drawn0.step)⟩
/-! ### cr4_Power: function 20 -/
mutual
def cr4_Power.j0 : Nat → Int → List Int → Int → Bool → Option (List Int × Int)
 | 0, _, _, _, _ => none
 | k + 1, x0, x1, x2, x19 => if x19 = true then (some (([] : List Int), 2)) else (if (x1.length : Int) > 4096 then (some (([] : List Int), 4)) else ((cr3_Trim.f k x1).bind fun t558 => (if (t558.length : Int) > 1 then (if (wrap64 ((t558.length : Int) - 1)) = 0 then (none) else (cr4_Power.j1 k x0 t558 x2 (decide (x2 > (wrap64 (Int.tdiv (4095 : Int) (wrap64 ((t558.length : Int) - 1)))))))) else (cr4_Power.j1 k x0 t558 x2 false))))
def cr4_Power.j1 : Nat → Int → List Int → Int → Bool → Option (List Int × Int)
 | 0, _, _, _, _ => none
 | k + 1, x0, x1, x2, x35 => if x35 = true then (some (([] : List Int), 4)) else (if (x1.length : Int) = 0 then (cr4_Power.j2 k x0 x1 x2 (decide (x2 > 0))) else (cr4_Power.j2 k x0 x1 x2 false))
def cr4_Power.j2 : Nat → Int → List Int → Int → Bool → Option (List Int × Int)
 | 0, _, _, _, _ => none
 | k + 1, x0, x1, x2, x42 => if x42 = true then (some (([] : List Int), 0)) else (if (x1.length : Int) = 1 then ((cr1_P.f x0).bind fun t561 => (if 0 < (x1.length : Int) then ((cr1_Power.f k t561 (rd x1 0) (IntKind.u64.wrap (x2))).bind fun t563 => (some ((([t563] : List Int)), 0))) else (none))) else (cr4_Power.l0 k x0 x1 x2 (([1] : List Int)) 0))
def cr4_Power.l0 : Nat → Int → List Int → Int → List Int → Int → Option (List Int × Int)
 | 0, _, _, _, _, _ => none
 | k + 1, x0, x1, x2, x9, x10 => if x10 < x2 then (if (x1.length : Int) > 1 then ((cr3_Mul.f k x0 x9 x1).bind fun bt570 => (cr4_Power.l0 k x0 x1 x2 bt570.1 (wrap64 (x10 + 1)))) else (some (x9, 0))) else (some (x9, 0))
end
def cr4_Power.f (k : Nat) (a0 : Int) (l1 : List Int) (a2 : Int) : Option (List Int × Int) := (cr3_Bad.f k a0 l1 ([] : List Int)).bind fun t557 => (if t557 = 2 then (cr4_Power.j0 k a0 l1 a2 true) else (cr4_Power.j0 k a0 l1 a2 (decide (a2 < 0))))
theorem cr4_Power.mono_l : ∀ k, (∀ y0 y1 y2 y3, LeO (cr4_Power.j0 k y0 y1 y2 y3) (cr4_Power.j0 (k + 1) y0 y1 y2 y3)) ∧ (∀ y0 y1 y2 y3, LeO (cr4_Power.j1 k y0 y1 y2 y3) (cr4_Power.j1 (k + 1) y0 y1 y2 y3)) ∧ (∀ y0 y1 y2 y3, LeO (cr4_Power.j2 k y0 y1 y2 y3) (cr4_Power.j2 (k + 1) y0 y1 y2 y3)) ∧ (∀ y0 y1 y2 y3 y4, LeO (cr4_Power.l0 k y0 y1 y2 y3 y4) (cr4_Power.l0 (k + 1) y0 y1 y2 y3 y4))
 | 0 => ⟨fun _ _ _ _ r h => by simp [cr4_Power.j0] at h, fun _ _ _ _ r h => by simp [cr4_Power.j1] at h, fun _ _ _ _ r h => by simp [cr4_Power.j2] at h, fun _ _ _ _ _ r h => by simp [cr4_Power.l0] at h⟩
 | k + 1 => by
  obtain ⟨ih0, ih1, ih2, ih3⟩ := cr4_Power.mono_l k
  refine ⟨?_, ?_, ?_, ?_⟩
  ·intro y0 y1 y2 y3
   unfold cr4_Power.j0
   repeat' first
   | (with_reducible exact ih0 _ _ _ _)
   | (with_reducible exact ih1 _ _ _ _)
   | (with_reducible exact ih2 _ _ _ _)
   | (with_reducible exact ih3 _ _ _ _ _)
   | (with_reducible exact cr1_Power.mono _ _ _ _)
   | (with_reducible exact cr3_Bad.mono _ _ _ _)
   | (with_reducible exact cr3_Mul.mono _ _ _ _)
   | (with_reducible exact cr3_Trim.mono _ _)
   | (with_reducible exact LeO.refl _)
   | (with_reducible exact LeO.none _)
   | (with_reducible refine LeO.ite ?_ ?_)
   | (with_reducible refine LeO.bind ?_ (fun _ => ?_))
   | exact ih0 _ _ _ _
   | exact ih1 _ _ _ _
   | exact ih2 _ _ _ _
   | exact ih3 _ _ _ _ _
   | exact cr1_Power.mono _ _ _ _
   | exact cr3_Bad.mono _ _ _ _
   | exact cr3_Mul.mono _ _ _ _
   | exact cr3_Trim.mono _ _
   | exact LeO.none _
   | refine LeO.ite ?_ ?_
   | refine LeO.bind ?_ (fun _ => ?_)
  ·intro y0 y1 y2 y3
   unfold cr4_Power.j1
   repeat' first
   | (with_reducible exact ih0 _ _ _ _)
   | (with_reducible exact ih1 _ _ _ _)
   | (with_reducible exact ih2 _ _ _ _)
   | (with_reducible exact ih3 _ _ _ _ _)
   | (with_reducible exact cr1_Power.mono _ _ _ _)
   | (with_reducible exact cr3_Bad.mono _ _ _ _)
   | (with_reducible exact cr3_Mul.mono _ _ _ _)
   | (with_reducible exact cr3_Trim.mono _ _)
   | (with_reducible exact LeO.refl _)
   | (with_reducible exact LeO.none _)
   | (with_reducible refine LeO.ite ?_ ?_)
   | (with_reducible refine LeO.bind ?_ (fun _ => ?_))
   | exact ih0 _ _ _ _
   | exact ih1 _ _ _ _
   | exact ih2 _ _ _ _
   | exact ih3 _ _ _ _ _
   | exact cr1_Power.mono _ _ _ _
   | exact cr3_Bad.mono _ _ _ _
   | exact cr3_Mul.mono _ _ _ _
   | exact cr3_Trim.mono _ _
   | exact LeO.none _
   | refine LeO.ite ?_ ?_
   | refine LeO.bind ?_ (fun _ => ?_)
  ·intro y0 y1 y2 y3
   unfold cr4_Power.j2
   repeat' first
   | (with_reducible exact ih0 _ _ _ _)
   | (with_reducible exact ih1 _ _ _ _)
   | (with_reducible exact ih2 _ _ _ _)
   | (with_reducible exact ih3 _ _ _ _ _)
   | (with_reducible exact cr1_Power.mono _ _ _ _)
   | (with_reducible exact cr3_Bad.mono _ _ _ _)
   | (with_reducible exact cr3_Mul.mono _ _ _ _)
   | (with_reducible exact cr3_Trim.mono _ _)
   | (with_reducible exact LeO.refl _)
   | (with_reducible exact LeO.none _)
   | (with_reducible refine LeO.ite ?_ ?_)
   | (with_reducible refine LeO.bind ?_ (fun _ => ?_))
   | exact ih0 _ _ _ _
   | exact ih1 _ _ _ _
   | exact ih2 _ _ _ _
   | exact ih3 _ _ _ _ _
   | exact cr1_Power.mono _ _ _ _
   | exact cr3_Bad.mono _ _ _ _
   | exact cr3_Mul.mono _ _ _ _
   | exact cr3_Trim.mono _ _
   | exact LeO.none _
   | refine LeO.ite ?_ ?_
   | refine LeO.bind ?_ (fun _ => ?_)
  ·intro y0 y1 y2 y3 y4
   unfold cr4_Power.l0
   repeat' first
   | (with_reducible exact ih0 _ _ _ _)
   | (with_reducible exact ih1 _ _ _ _)
   | (with_reducible exact ih2 _ _ _ _)
   | (with_reducible exact ih3 _ _ _ _ _)
   | (with_reducible exact cr1_Power.mono _ _ _ _)
   | (with_reducible exact cr3_Bad.mono _ _ _ _)
   | (with_reducible exact cr3_Mul.mono _ _ _ _)
   | (with_reducible exact cr3_Trim.mono _ _)
   | (with_reducible exact LeO.refl _)
   | (with_reducible exact LeO.none _)
   | (with_reducible refine LeO.ite ?_ ?_)
   | (with_reducible refine LeO.bind ?_ (fun _ => ?_))
   | exact ih0 _ _ _ _
   | exact ih1 _ _ _ _
   | exact ih2 _ _ _ _
   | exact ih3 _ _ _ _ _
   | exact cr1_Power.mono _ _ _ _
   | exact cr3_Bad.mono _ _ _ _
   | exact cr3_Mul.mono _ _ _ _
   | exact cr3_Trim.mono _ _
   | exact LeO.none _
   | refine LeO.ite ?_ ?_
   | refine LeO.bind ?_ (fun _ => ?_)
theorem cr4_Power.mono : ∀ a0 a1 a2 k, LeO (cr4_Power.f k a0 a1 a2) (cr4_Power.f (k + 1) a0 a1 a2) := by
 intro a0 a1 a2 k
 obtain ⟨ih0, ih1, ih2, ih3⟩ := cr4_Power.mono_l k
 unfold cr4_Power.f
 repeat' first
   | (with_reducible exact ih0 _ _ _ _)
   | (with_reducible exact ih1 _ _ _ _)
   | (with_reducible exact ih2 _ _ _ _)
   | (with_reducible exact ih3 _ _ _ _ _)
   | (with_reducible exact cr1_Power.mono _ _ _ _)
   | (with_reducible exact cr3_Bad.mono _ _ _ _)
   | (with_reducible exact cr3_Mul.mono _ _ _ _)
   | (with_reducible exact cr3_Trim.mono _ _)
   | (with_reducible exact LeO.refl _)
   | (with_reducible exact LeO.none _)
   | (with_reducible refine LeO.ite ?_ ?_)
   | (with_reducible refine LeO.bind ?_ (fun _ => ?_))
   | exact ih0 _ _ _ _
   | exact ih1 _ _ _ _
   | exact ih2 _ _ _ _
   | exact ih3 _ _ _ _ _
   | exact cr1_Power.mono _ _ _ _
   | exact cr3_Bad.mono _ _ _ _
   | exact cr3_Mul.mono _ _ _ _
   | exact cr3_Trim.mono _ _
   | exact LeO.none _
   | refine LeO.ite ?_ ?_
   | refine LeO.bind ?_ (fun _ => ?_)
def cr4_Power.T12 : Bool × List (List Nat × List Nat) := (true, [([], []), ([0], [0]), ([], []), ([2], [2]), ([3], [3]), ([], []), ([5], [5]), ([1, 4, 6, 1], [1, 4, 6]), ([7], [7]), ([8, 7, 0, 1, 2, 3, 4, 5, 6, 7, 8], [8]), ([9, 0, 1, 2, 3, 4, 5, 6, 7, 8, 9], [])])
def cr4_Power.B12 : List Nat := [0, 1, 0, 4, 12, 0, 32, 127, 255, 511, 1023]
theorem cr4_Power.tab12 : rtab .any (opsOf Try.f20 12) = cr4_Power.T12 := by kernel_rfl
theorem cr4_Power.bits12 : waitsOk cr4_Power.T12.2 cr4_Power.B12 = true := by kernel_rfl
set_option maxHeartbeats 8000000 in
set_option maxRecDepth 100000 in
theorem cr4_Power.calls (k : Nat) (a0 : Int) (A1 : Option Addr) (c1 : Nat) (l1 : List Int) (a2 : Int) (r1 : List Int) (r2 : Int) (w : World) (hr1 : Kd.C (Kd.int .u64) w A1 l1.length l1) (hc1 : l1.length ≤ c1) (h : cr4_Power.f k a0 l1 a2 = some (r1, r2)) :
  Calls Try.prog 20 #[.int .u8 a0, .slice A1 l1.length c1, .int .i64 a2] w fun e w' => ∃ v0_ : Value, e = .returned (.tuple #[v0_, .int .i64 r2]) ∧ Kd.R (Kd.int .u64) 33 w' w.heap.size (fun _ => True) v0_ r1 ∧ Below w.heap.size w w' := by
 have HR1 := Aside0.mk hr1
 have HC1 := Aside0.mk hc1
 clear hr1 hc1
 have HB := A_ (Below.refl w.heap.size w)
 have H : ((cr3_Bad.f k a0 l1 ([] : List Int)).bind fun t557 => (if t557 = 2 then (cr4_Power.j0 k a0 l1 a2 true) else (cr4_Power.j0 k a0 l1 a2 (decide (a2 < 0))))) = some (r1, r2) := h
 clear h
 replace H := Option.bind_eq_some_iff.mp H
 obtain ⟨t557, A40, H⟩ := H
 replace H : (if t557 = 2 then (cr4_Power.j0 k a0 l1 a2 true) else (cr4_Power.j0 k a0 l1 a2 (decide (a2 < 0)))) = some (r1, r2) := H
 have A4 := Aside0.mk A40
 clear A40
 have HC5 := Aside0.mk H
 clear H
 go_enter Try.func20, Try.ntmps20
 go_upto_region 2 with (first | ((with_reducible refine gate_callee (f := 33) rfl ?_); refine goesM_ (some 13) Try.func33 #[.int .u8 a0, .slice A1 l1.length c1, .slice none 0 0] ?_; (refine (cr3_Bad.calls k a0 _ _ l1 _ _ ([] : List Int) t557 _ ?side1 ?side2 ?side3 ?side4 A4.out).mono ?_); (case side1 => exact nC_ HR1.out); (case side2 => exact HC1.out); (case side3 => exact Kd.C_nil _ _); (case side4 => exact Nat.le_refl _); rintro e w' ⟨rfl, ⟨nd, rfl⟩⟩; refine ⟨_, rfl, ?_⟩))
 (try simp only [Act.put, List.setIfInBounds_toArray, List.set_cons_zero, List.set_cons_succ])
 go_cut [19] (fun v19 wc => ∃ (kq : Nat) (x19_4 : Bool), v19 = .bool x19_4 ∧ Aside0 (cr4_Power.j0 kq a0 l1 a2 x19_4 = some (r1, r2)) ∧ Aside0 (kq ≤ k) ∧ Aside0 (Below w.heap.size w wc))
 case first =>
  have H := HC5.out
  clear HC5
  by_cases c6 : t557 = 2
  ·rw [if_pos c6] at H
   have c6b0 : (t557 == 2) = true := beq_iff_eq.mpr c6
   have c6b1 : (t557 != 2) = false := bne_eq_false_iff_eq.mpr c6
   clear c6
   (first | rw [c6b0] | rw [c6b1] | (simp only [i64_w, i32_w]; first | rw [c6b0] | rw [c6b1]) | skip)
   have H' := Aside0.mk H
   clear H
   go_wp2
   go_meet
   case rel => exact ⟨_, (true), (fs_), H', ⟨fo_⟩, ⟨by repeat (first | (with_reducible first | exact HB.out | apply below_alloc | apply pw_below_drewN | apply below_drew1) | exact HB.out)⟩⟩
  ·rw [if_neg c6] at H
   have c6b0 : (t557 == 2) = false := beq_eq_false_iff_ne.mpr c6
   have c6b1 : (t557 != 2) = true := bne_iff_ne.mpr c6
   (first | rw [c6b0] | rw [c6b1] | (simp only [i64_w, i32_w]; first | rw [c6b0] | rw [c6b1]) | skip)
   have H' := Aside0.mk H
   clear H
   go_wp2
   go_meet
   case rel => exact ⟨_, (decide (a2 < 0)), (fs_), H', ⟨fo_⟩, ⟨by repeat (first | (with_reducible first | exact HB.out | apply below_alloc | apply pw_below_drewN | apply below_drew1) | exact HB.out)⟩⟩
 case rest =>
  clear HC5
  try clear c1
  try clear c2
  try clear p2
  try clear c3
  try clear c6
  try clear c6b0
  try clear c6b1
  obtain ⟨kq, x19_4, rfl, HA, HJ4, HB⟩ := hcut
  cases kq with
  | zero => exact absurd HA.out (by simp [cr4_Power.j0])
  | succ kj4 =>
   have H := HA.out
   clear HA
   simp only [cr4_Power.j0] at H
   by_cases c7 : x19_4 = true
   ·subst c7
    have H1 : (some (([] : List Int), 2)) = some (r1, r2) := by rw [if_pos rfl] at H; exact H
    clear H
    have H := H1
    clear H1
    simp only [Option.some.injEq, Prod.mk.injEq] at H
    obtain ⟨rfl, rfl⟩ := H
    go_wp2
    go_ret2
    exact ⟨_, fr_, by first | exact Kd.R_nil _ _ _ _ _ | exact Kd.N_nil _ _ _ _ _ | exact Kd.V_nil _ _ _ _ _ | exact Kd.Q_nil _ _ _ _ _ | exact Kd.S_nil _ _ _ _ _, hb_⟩
   ·replace c7 := Bool.eq_false_iff.mpr c7
    subst c7
    have H1 : (if (l1.length : Int) > 4096 then (some (([] : List Int), 4)) else ((cr3_Trim.f kj4 l1).bind fun t558 => (if (t558.length : Int) > 1 then (if (wrap64 ((t558.length : Int) - 1)) = 0 then (none) else (cr4_Power.j1 kj4 a0 t558 a2 (decide (a2 > (wrap64 (Int.tdiv (4095 : Int) (wrap64 ((t558.length : Int) - 1)))))))) else (cr4_Power.j1 kj4 a0 t558 a2 false)))) = some (r1, r2) := by rw [if_neg (show ¬ (false = true) by decide)] at H; exact H
    clear H
    have H := H1
    clear H1
    by_cases c8 : (l1.length : Int) > 4096
    ·rw [if_pos c8] at H
     have c8b0 : decide (4096 < (l1.length : Int)) = true := decide_eq_true c8
     have c8b1 : decide (4096 < l1.length) = true := decide_eq_true (by omega)
     clear c8
     simp only [Option.some.injEq, Prod.mk.injEq] at H
     obtain ⟨rfl, rfl⟩ := H
     go_wp2
     go_ret2
     exact ⟨_, fr_, by first | exact Kd.R_nil _ _ _ _ _ | exact Kd.N_nil _ _ _ _ _ | exact Kd.V_nil _ _ _ _ _ | exact Kd.Q_nil _ _ _ _ _ | exact Kd.S_nil _ _ _ _ _, hb_⟩
    ·rw [if_neg c8] at H
     have c8b0 : decide (4096 < (l1.length : Int)) = false := decide_eq_false c8
     have c8b1 : decide (4096 < l1.length) = false := decide_eq_false (by omega)
     clear c8
     replace H := Option.bind_eq_some_iff.mp H
     obtain ⟨t558, A90, H⟩ := H
     replace H : (if (t558.length : Int) > 1 then (if (wrap64 ((t558.length : Int) - 1)) = 0 then (none) else (cr4_Power.j1 kj4 a0 t558 a2 (decide (a2 > (wrap64 (Int.tdiv (4095 : Int) (wrap64 ((t558.length : Int) - 1)))))))) else (cr4_Power.j1 kj4 a0 t558 a2 false)) = some (r1, r2) := H
     have A9 := Aside0.mk A90
     clear A90
     have HC10 := Aside0.mk H
     clear H
     go_upto_region 7 with (first | ((with_reducible refine gate_callee (f := 23) rfl ?_); refine goesM_ (some 24) Try.func23 #[.slice A1 l1.length c1] ?_; (with_reducible refine (cr3_Trim.calls kj4 _ _ l1 t558 _ ?side1 ?side2 A9.out).mono ?_); (case side1 => repeat (first | exact (Kd.C_below HR1.out HB.out) | (with_reducible refine Kd.C_alloc ?_ _) | (with_reducible refine Kd.C_drewN ?_ _) | (with_reducible refine Kd.C_drew ?_))); (case side2 => exact HC1.out); rintro e w11 ⟨v559, rfl, ho0, hb⟩; refine ⟨_, rfl, ?_⟩; have n0_ := A_ (Kd.R_lower ho0 (below_size hb_)); have n1_ := A_ (below_step hb_ hb); clear HB; have HO560 := n0_; have HB := n1_; clear n0_ n1_; (try clear hb); (try clear ho0)))
     (try simp only [Act.put, List.setIfInBounds_toArray, List.set_cons_zero, List.set_cons_succ])
     go_cut [35] (fun v35 wc => ∃ (kq : Nat) (x35_9 : Bool), v35 = .bool x35_9 ∧ Aside0 (cr4_Power.j1 kq a0 t558 a2 x35_9 = some (r1, r2)) ∧ Aside0 (kq ≤ kj4) ∧ Aside0 (Kd.R (Kd.int .u64) 33 wc w.heap.size (fun _ => True) v559 t558) ∧ Aside0 (Below w.heap.size w wc))
     case first =>
      have H := HC10.out
      clear HC10
      by_cases c12 : (t558.length : Int) > 1
      ·rw [if_pos c12] at H
       have c12b0 : decide (1 < (t558.length : Int)) = true := decide_eq_true c12
       have c12b1 : decide (1 < t558.length) = true := decide_eq_true (by omega)
       clear c12
       (first | rw [c12b0] | rw [c12b1] | (simp only [i64_w, i32_w]; first | rw [c12b0] | rw [c12b1]) | skip)
       by_cases c13 : (wrap64 ((t558.length : Int) - 1)) = 0
       ·rw [if_pos c13] at H
        exact absurd H (by simp)
       ·rw [if_neg c13] at H
        have c13b0 : ((wrap64 ((t558.length : Int) - 1)) == 0) = false := beq_eq_false_iff_ne.mpr c13
        have c13b1 : ((wrap64 ((t558.length : Int) - 1)) != 0) = true := bne_iff_ne.mpr c13
        have H' := Aside0.mk H
        clear H
        obtain ⟨Ao14, co14, eo14⟩ := Kd.R_slice HO560.out
        subst eo14
        go_wp2
        go_meet
        case rel => exact ⟨_, (decide (a2 > (wrap64 (Int.tdiv (4095 : Int) (wrap64 ((t558.length : Int) - 1)))))), (fs_), H', ⟨by have := HJ4.out; first | omega | exact Nat.le_refl _⟩, ⟨mR_ HO560.out⟩, ⟨by repeat (first | (with_reducible first | exact HB.out | apply below_alloc | apply pw_below_drewN | apply below_drew1) | exact HB.out)⟩⟩
      ·rw [if_neg c12] at H
       have c12b0 : decide (1 < (t558.length : Int)) = false := decide_eq_false c12
       have c12b1 : decide (1 < t558.length) = false := decide_eq_false (by omega)
       clear c12
       (first | rw [c12b0] | rw [c12b1] | (simp only [i64_w, i32_w]; first | rw [c12b0] | rw [c12b1]) | skip)
       have H' := Aside0.mk H
       clear H
       obtain ⟨Ao15, co15, eo15⟩ := Kd.R_slice HO560.out
       subst eo15
       go_wp2
       go_meet
       case rel => exact ⟨_, (false), (fs_), H', ⟨by have := HJ4.out; first | omega | exact Nat.le_refl _⟩, ⟨mR_ HO560.out⟩, ⟨by repeat (first | (with_reducible first | exact HB.out | apply below_alloc | apply pw_below_drewN | apply below_drew1) | exact HB.out)⟩⟩
     case rest =>
      clear HC10
      try clear c1
      try clear c2
      try clear p2
      try clear c3
      try clear c6
      try clear c6b0
      try clear c6b1
      try clear p6
      try clear c7
      try clear c8
      try clear c8b0
      try clear c8b1
      try clear c12
      try clear c12b0
      try clear c12b1
      try clear c13
      try clear c13b0
      try clear c13b1
      try clear p2
      obtain ⟨kq, x35_9, rfl, HA, HJ9, HO_1, HB⟩ := hcut
      cases kq with
      | zero => exact absurd HA.out (by simp [cr4_Power.j1])
      | succ kj9 =>
       have H := HA.out
       clear HA
       simp only [cr4_Power.j1] at H
       by_cases c16 : x35_9 = true
       ·subst c16
        have H1 : (some (([] : List Int), 4)) = some (r1, r2) := by rw [if_pos rfl] at H; exact H
        clear H
        have H := H1
        clear H1
        simp only [Option.some.injEq, Prod.mk.injEq] at H
        obtain ⟨rfl, rfl⟩ := H
        go_wp2
        go_ret2
        exact ⟨_, fr_, by first | exact Kd.R_nil _ _ _ _ _ | exact Kd.N_nil _ _ _ _ _ | exact Kd.V_nil _ _ _ _ _ | exact Kd.Q_nil _ _ _ _ _ | exact Kd.S_nil _ _ _ _ _, hb_⟩
       ·replace c16 := Bool.eq_false_iff.mpr c16
        subst c16
        have H1 : (if (t558.length : Int) = 0 then (cr4_Power.j2 kj9 a0 t558 a2 (decide (a2 > 0))) else (cr4_Power.j2 kj9 a0 t558 a2 false)) = some (r1, r2) := by rw [if_neg (show ¬ (false = true) by decide)] at H; exact H
        clear H
        have H := H1
        clear H1
        have HC17 := Aside0.mk H
        clear H
        go_upto_region 9 with (fail)
        go_cut [42] (fun v42 wc => ∃ (kq : Nat) (x42_16 : Bool), v42 = .bool x42_16 ∧ Aside0 (cr4_Power.j2 kq a0 t558 a2 x42_16 = some (r1, r2)) ∧ Aside0 (kq ≤ kj9) ∧ Aside0 (Kd.R (Kd.int .u64) 33 wc w.heap.size (fun _ => True) v559 t558) ∧ Aside0 (Below w.heap.size w wc))
        case first =>
         have H := HC17.out
         clear HC17
         by_cases c18 : (t558.length : Int) = 0
         ·rw [if_pos c18] at H
          have c18b0 : ((t558.length : Int) == 0) = true := beq_iff_eq.mpr c18
          have c18b1 : ((t558.length : Int) != 0) = false := bne_eq_false_iff_eq.mpr c18
          clear c18
          (first | rw [c18b0] | rw [c18b1] | (simp only [i64_w, i32_w]; first | rw [c18b0] | rw [c18b1]) | skip)
          have H' := Aside0.mk H
          clear H
          obtain ⟨Ao19, co19, eo19⟩ := Kd.R_slice HO_1.out
          subst eo19
          go_wp2
          go_meet
          case rel => exact ⟨_, (decide (a2 > 0)), (fs_), H', ⟨by have := HJ4.out; have := HJ9.out; first | omega | exact Nat.le_refl _⟩, ⟨mR_ HO_1.out⟩, ⟨by repeat (first | (with_reducible first | exact HB.out | apply below_alloc | apply pw_below_drewN | apply below_drew1) | exact HB.out)⟩⟩
         ·rw [if_neg c18] at H
          have c18b0 : ((t558.length : Int) == 0) = false := beq_eq_false_iff_ne.mpr c18
          have c18b1 : ((t558.length : Int) != 0) = true := bne_iff_ne.mpr c18
          have c18b2 : ¬ (t558 = []) := fun h_ => c18 (by rw [h_]; rfl)
          (first | rw [c18b0] | rw [c18b1] | (simp only [i64_w, i32_w]; first | rw [c18b0] | rw [c18b1]) | skip)
          have H' := Aside0.mk H
          clear H
          obtain ⟨Ao20, co20, eo20⟩ := Kd.R_slice HO_1.out
          subst eo20
          go_wp2
          go_meet
          case rel => exact ⟨_, (false), (fs_), H', ⟨by have := HJ4.out; have := HJ9.out; first | omega | exact Nat.le_refl _⟩, ⟨mR_ HO_1.out⟩, ⟨by repeat (first | (with_reducible first | exact HB.out | apply below_alloc | apply pw_below_drewN | apply below_drew1) | exact HB.out)⟩⟩
        case rest =>
         clear HC17
         try clear c1
         try clear c2
         try clear p2
         try clear c3
         try clear c6
         try clear c6b0
         try clear c6b1
         try clear p6
         try clear c7
         try clear c8
         try clear c8b0
         try clear c8b1
         try clear c12
         try clear c12b0
         try clear c12b1
         try clear c13
         try clear c13b0
         try clear c13b1
         try clear c16
         try clear c18
         try clear c18b0
         try clear c18b1
         try clear c18b2
         try clear c20
         try clear p2
         try clear p6
         obtain ⟨kq, x42_16, rfl, HA, HJ16, HO_1, HB⟩ := hcut
         cases kq with
         | zero => exact absurd HA.out (by simp [cr4_Power.j2])
         | succ kj16 =>
          have H := HA.out
          clear HA
          simp only [cr4_Power.j2] at H
          by_cases c21 : x42_16 = true
          ·subst c21
           have H1 : (some (([] : List Int), 0)) = some (r1, r2) := by rw [if_pos rfl] at H; exact H
           clear H
           have H := H1
           clear H1
           simp only [Option.some.injEq, Prod.mk.injEq] at H
           obtain ⟨rfl, rfl⟩ := H
           go_wp2
           go_ret2
           exact ⟨_, fr_, by first | exact Kd.R_nil _ _ _ _ _ | exact Kd.N_nil _ _ _ _ _ | exact Kd.V_nil _ _ _ _ _ | exact Kd.Q_nil _ _ _ _ _ | exact Kd.S_nil _ _ _ _ _, hb_⟩
          ·replace c21 := Bool.eq_false_iff.mpr c21
           subst c21
           have H1 : (if (t558.length : Int) = 1 then ((cr1_P.f a0).bind fun t561 => (if 0 < (t558.length : Int) then ((cr1_Power.f kj16 t561 (rd t558 0) (IntKind.u64.wrap (a2))).bind fun t563 => (some ((([t563] : List Int)), 0))) else (none))) else (cr4_Power.l0 kj16 a0 t558 a2 (([1] : List Int)) 0)) = some (r1, r2) := by rw [if_neg (show ¬ (false = true) by decide)] at H; exact H
           clear H
           have H := H1
           clear H1
           by_cases c22 : (t558.length : Int) = 1
           ·rw [if_pos c22] at H
            have c22b0 : ((t558.length : Int) == 1) = true := beq_iff_eq.mpr c22
            have c22b1 : ((t558.length : Int) != 1) = false := bne_eq_false_iff_eq.mpr c22
            clear c22
            replace H := Option.bind_eq_some_iff.mp H
            obtain ⟨t561, A230, H⟩ := H
            replace H : (if 0 < (t558.length : Int) then ((cr1_Power.f kj16 t561 (rd t558 0) (IntKind.u64.wrap (a2))).bind fun t563 => (some ((([t563] : List Int)), 0))) else (none)) = some (r1, r2) := H
            have A23 := Aside0.mk A230
            clear A230
            by_cases c24 : 0 < (t558.length : Int)
            ·rw [if_pos c24] at H
             have c24b0 : decide (0 < (t558.length : Int)) = true := decide_eq_true c24
             have c24b1 : decide (0 < t558.length) = true := decide_eq_true (by omega)
             clear c24
             replace H := Option.bind_eq_some_iff.mp H
             obtain ⟨t563, A250, H⟩ := H
             replace H : (some ((([t563] : List Int)), 0)) = some (r1, r2) := H
             have A25 := Aside0.mk A250
             clear A250
             obtain ⟨y564, hy564⟩ : ∃ y_ : List Int, y_ = (([t563] : List Int)) := ⟨_, rfl⟩
             replace H : (some (y564, 0)) = some (r1, r2) := by first | (rw [hy564]; with_reducible exact H) | (have H2_ := (Option.bind_some _ _).symm.trans H; rw [hy564]; with_reducible exact H2_) | (have H2_ := (Option.bind_some _ _).symm.trans H; with_reducible exact H2_) | with_reducible exact H | (rw [hy564]; exact H) | exact H
             have Ny564 := Aside0.mk hy564
             clear hy564
             simp only [Option.some.injEq, Prod.mk.injEq] at H
             obtain ⟨rfl, rfl⟩ := H
             obtain ⟨Ao26, co26, eo26⟩ := Kd.R_slice HO_1.out
             subst eo26
             try go_wp2
             have n0_ := A_ (Kd.R_drew HO_1.out)
             have n1_ := A_ (below_drew1 HB.out)
             clear HO_1
             clear HB
             have HO_1 := n0_
             have HB := n1_
             clear n0_ n1_
             have p562 : 0 ≤ (0 : Int) := (by omega)
             have q562 : 0 < (t558.length : Int) := of_decide_eq_true (by first | (with_reducible assumption) | assumption)
             obtain ⟨ad562, e562, hx562_0⟩ := Kd.at_int (Kd.R_reads' HO_1.out).2.2 0 p562 q562
             cases e562
             have qi562 : (0 < t558.length) = True := eq_true (by omega)
             (try rw [show ((0 : Int)).toNat = 0 from rfl] at hx562_0)
             (try rw [Addr.add_zero'] at hx562_0)
             replace p562 := eq_true p562
             replace q562 := eq_true q562
             refine start_ (n := 11) (S := fun w' => w'.cell? ad562 = some (.int .u64 (rd t558 0))) (ds := []) #[false, false, false, false, false, false, false, false, false, false, false] (by kernel_rfl) rfl rfl (hx562_0) (fun hHeld => ?_); refine with_tabW cr4_Power.tab12 cr4_Power.bits12 (fun HT_ HW_ => ?_)
             generalize wc.drew = w27 at HO_1 HB hx562_0 hHeld ⊢
             refine pure_ (i := 0) (N := some 46) (v := ?_) (a' := ?_) #[true, false, false, false, false, false, false, false, false, false, false] rfl rfl (any_of HT_.out (by kernel_rfl)) (fun _ _ _ h => h) (Or.inl ⟨by rfl, ?_⟩) ?_ ?_
             rotate_left
             ·intro w'
              go_simp
              with_reducible rfl
             rotate_left
             ·simp only [Act.put, List.setIfInBounds_toArray, List.set_cons_zero, List.set_cons_succ, i64_w, i32_w]
              rfl
             refine pure_ (i := 2) (N := some 48) (v := ?_) (a' := ?_) #[true, false, true, false, false, false, false, false, false, false, false] rfl rfl (any_of HT_.out (by kernel_rfl)) (fun _ _ _ h => h) (Or.inl ⟨by rfl, ?_⟩) ?_ ?_
             rotate_left
             ·intro w'
              go_simp
              with_reducible rfl
             rotate_left
             ·simp only [Act.put, List.setIfInBounds_toArray, List.set_cons_zero, List.set_cons_succ, i64_w, i32_w]
              rfl
             refine pure_ (i := 3) (N := some 49) (v := ?_) (a' := ?_) #[true, false, true, true, false, false, false, false, false, false, false] rfl rfl (any_of HT_.out (by kernel_rfl)) (fun _ _ _ h => h) (Or.inl ⟨by rfl, ?_⟩) ?_ ?_
             rotate_left
             ·intro w'
              go_simp
              with_reducible rfl
             rotate_left
             ·simp only [Act.put, List.setIfInBounds_toArray, List.set_cons_zero, List.set_cons_succ, i64_w, i32_w]
              rfl
             refine pure_ (i := 5) (N := some 51) (v := ?_) (a' := ?_) #[true, false, true, true, false, true, false, false, false, false, false] rfl rfl (any_of HT_.out (by kernel_rfl)) (fun _ _ _ h => h) (Or.inl ⟨by rfl, ?_⟩) ?_ ?_
             rotate_left
             ·intro w'
              go_simp
              with_reducible rfl
             rotate_left
             ·simp only [Act.put, List.setIfInBounds_toArray, List.set_cons_zero, List.set_cons_succ, i64_w, i32_w]
              rfl
             refine pure_ (i := 6) (N := some 52) (v := ?_) (a' := ?_) #[true, false, true, true, false, true, true, false, false, false, false] rfl rfl (any_of HT_.out (by kernel_rfl)) (fun _ _ _ h => h) (Or.inl ⟨by rfl, ?_⟩) ?_ ?_
             rotate_left
             ·intro w'
              go_simp
              with_reducible rfl
             rotate_left
             ·simp only [Act.put, List.setIfInBounds_toArray, List.set_cons_zero, List.set_cons_succ, i64_w, i32_w]
              rfl
             refine take_ (i := 4) (N := some 50) (v := ?_) (a' := ?_) #[true, false, true, true, true, true, true, false, false, false, false] rfl rfl (take_ofW HT_.out HW_.out (by kernel_rfl)) (fun _ _ _ h => h) (Or.inl ⟨by rfl, ?_⟩) hHeld ?_ ?_
             rotate_left
             ·intro w' s0
              go_simp
              with_reducible rfl
             rotate_left
             ·simp only [Act.put, List.setIfInBounds_toArray, List.set_cons_zero, List.set_cons_succ, i64_w, i32_w]
              rfl
             refine one_ (i := 1) (N := some 47) #[true, true, true, true, true, true, true, false, false, false, false] rfl rfl (one_of HT_.out (by kernel_rfl)) (by decide) (fun K hK => ?_)
             refine goes_ Try.func22 (by kernel_rfl) rfl #[.int .u8 a0] (by rfl) rfl rfl (by (try simp only [List.map_toArray, List.map_cons, List.map_nil]); first | done | rfl | (simp only [List.length_drop, List.length_take]; rfl)) ?_
             with_reducible refine (cr1_P.calls a0 t561 _ A23.out).mono ?_
             rintro e w' ⟨rfl, ⟨nd, rfl⟩⟩
             refine ⟨_, rfl, ?_⟩
             refine hK.out _ _ (hHeld) (fun hHeld => ?_)
             clear hK K
             refine norm_ (a' := ?_) ?_ ?_
             rotate_left
             ·show Act.put _ (some 47) _ = _
              simp only [Act.put, List.setIfInBounds_toArray, List.set_cons_zero, List.set_cons_succ, i64_w, i32_w]
              rfl
             refine one_ (i := 7) (N := some 53) #[true, true, true, true, true, true, true, true, false, false, false] rfl rfl (one_of HT_.out (by kernel_rfl)) (by decide) (fun K hK => ?_)
             refine goes_ Try.func37 (by kernel_rfl) rfl #[.int .u64 t561, .int .u64 (rd t558 0), .int .u64 (IntKind.u64.wrap (a2))] (by rfl) rfl rfl (by (try simp only [List.map_toArray, List.map_cons, List.map_nil]); first | done | rfl | (simp only [List.length_drop, List.length_take]; rfl)) ?_
             with_reducible refine (cr1_Power.calls kj16 t561 (rd t558 0) (IntKind.u64.wrap (a2)) t563 _ A25.out).mono ?_
             rintro e w' ⟨rfl, ⟨nd, rfl⟩⟩
             refine ⟨_, rfl, ?_⟩
             refine hK.out _ _ (hHeld) (fun hHeld => ?_)
             clear hK K
             refine norm_ (a' := ?_) ?_ ?_
             rotate_left
             ·show Act.put _ (some 53) _ = _
              simp only [Act.put, List.setIfInBounds_toArray, List.set_cons_zero, List.set_cons_succ, i64_w, i32_w]
              rfl
             refine one_ (i := 8) (N := some 54) #[true, true, true, true, true, true, true, true, true, false, false] rfl rfl (one_of HT_.out (by kernel_rfl)) (by decide) (fun K hK => ?_)
             refine Kd.R_lit_step (Kd.int .u64) _ 33 ?hg (N := 54) ?hd (xs := ([t563] : List Int)) (inner := [.int .u64 t563]) (ok := fun _ => True) (okp := fun _ => True) ?hr ?hp (fun _ hk => hk) trivial (Below.refl _ _) (Nat.le_refl _) (by simp) ?_; (case hd => rfl); (case hg => rfl); (case hr => first | (go_simp; done) | (go_simp; rfl)); (case hp => exact (Reps.one (show Kd.M (Kd.int .u64) _ _ _ t563 [.int .u64 t563] from rfl) (Reps.none _ _)))
             intro v565 w28 ho29 hb hg_ hnew_
             have HS0_ := (hb.cell (World.block_lt_of_cell? _ _ (hHeld))).trans (hHeld)
             clear hg_ hnew_
             (first | rw [← Ny564.out] at ho29 | (simp only [Int.reduceToNat] at ho29; rw [← Ny564.out] at ho29))
             have n0_ := A_ (Kd.R_elder' (nR_ HO_1) (Kd.R_base ho29) hb)
             have n1_ := A_ (Kd.R_lower (Kd.R_new' ho29 (Kd.R_lt (nR_ HO_1))) (below_size hb_))
             have n2_ := A_ (below_step hb_ hb)
             clear HO_1
             clear HB
             have HO_1 := n0_
             have HO566 := n1_
             have HB := n2_
             clear n0_ n1_ n2_
             clear hb ho29
             refine hK.out _ _ (HS0_) (fun hHeld => ?_)
             clear hK K
             refine norm_ (a' := ?_) ?_ ?_
             rotate_left
             ·show Act.put _ (some 54) _ = _
              simp only [Act.put, List.setIfInBounds_toArray, List.set_cons_zero, List.set_cons_succ, i64_w, i32_w]
              rfl
             refine pure_ (i := 9) (N := some 6) (v := ?_) (a' := ?_) #[true, true, true, true, true, true, true, true, true, true, false] rfl rfl (any_of HT_.out (by kernel_rfl)) (fun _ _ _ h => h) (Or.inl ⟨by rfl, ?_⟩) ?_ ?_
             rotate_left
             ·intro w'
              go_simp
              with_reducible rfl
             rotate_left
             ·simp only [Act.put, List.setIfInBounds_toArray, List.set_cons_zero, List.set_cons_succ, i64_w, i32_w]
              rfl
             refine pure_ (i := 10) (N := some 7) (v := ?_) (a' := ?_) #[true, true, true, true, true, true, true, true, true, true, true] rfl rfl (any_of HT_.out (by kernel_rfl)) (fun _ _ _ h => h) (Or.inl ⟨by rfl, ?_⟩) ?_ ?_
             rotate_left
             ·intro w'
              go_simp
              with_reducible rfl
             rotate_left
             ·simp only [Act.put, List.setIfInBounds_toArray, List.set_cons_zero, List.set_cons_succ, i64_w, i32_w]
              rfl
             refine done_ (done_of HT_.out (by kernel_rfl)) ?_
             try go_wp2
             go_ret2
             exact ⟨_, fr_, by (with_reducible repeat (first | apply Kd.R_alloc | apply Kd.R_drewN | apply Kd.R_drew)); exact Kd.R_mono HO566.out (fun _ hk => trivial), hb_⟩
            ·rw [if_neg c24] at H
             exact absurd H (by simp)
           ·rw [if_neg c22] at H
            have c22b0 : ((t558.length : Int) == 1) = false := beq_eq_false_iff_ne.mpr c22
            have c22b1 : ((t558.length : Int) != 1) = true := bne_iff_ne.mpr c22
            obtain ⟨y567, hy567⟩ : ∃ y_ : List Int, y_ = (([1] : List Int)) := ⟨_, rfl⟩
            replace H : (cr4_Power.l0 kj16 a0 t558 a2 y567 0) = some (r1, r2) := by first | (rw [hy567]; with_reducible exact H) | (have H2_ := (Option.bind_some _ _).symm.trans H; rw [hy567]; with_reducible exact H2_) | (have H2_ := (Option.bind_some _ _).symm.trans H; with_reducible exact H2_) | with_reducible exact H | (rw [hy567]; exact H) | exact H
            have Ny567 := Aside0.mk hy567
            clear hy567
            have H' := Aside0.mk H
            clear H
            obtain ⟨Ao30, co30, eo30⟩ := Kd.R_slice HO_1.out
            subst eo30
            go_wp2_with (first | ((with_reducible refine gate_dst (N := 55) rfl ?_); (try (refine gate_guard (by rfl) ?_; dsimp only)); refine Kd.R_lit (Kd.int .u64) _ 33 ?hg (N := 55) ?hd (xs := ([1] : List Int)) (inner := [.int .u64 1]) (ok := fun _ => True) (okp := fun _ => True) ?hr ?hp (fun _ hk => hk) trivial (Below.refl _ _) (Nat.le_refl _) (by simp) ?_; (case hd => rfl); (case hg => rfl); (case hr => first | (go_simp; done) | (go_simp; rfl)); (case hp => exact (Reps.one (show Kd.M (Kd.int .u64) _ _ _ 1 [.int .u64 1] from rfl) (Reps.none _ _))); intro v568 w31 ho32 hb hg_ hnew_; clear hg_ hnew_; (first | rw [← Ny567.out] at ho32 | (simp only [Int.reduceToNat] at ho32; rw [← Ny567.out] at ho32)); have n0_ := A_ (Kd.R_elder' (nR_ HO_1) (Kd.R_base ho32) hb); have n1_ := A_ (Kd.R_lower (Kd.R_new' ho32 (Kd.R_lt (nR_ HO_1))) (below_size hb_)); have n2_ := A_ (below_step hb_ hb); clear HO_1 HB; have HO_1 := n0_; have HO569 := n1_; have HB := n2_; clear n0_ n1_ n2_; clear hb ho32))
            go_loopg [9, 10] kj16 (fun kq v9 v10 w' => ∃ (x9_4 : List Int) (x10_4 : Int), v10 = .int .i64 x10_4 ∧ Aside0 (cr4_Power.l0 kq a0 t558 a2 x9_4 x10_4 = some (r1, r2)) ∧ Aside0 (kq ≤ kj16) ∧ Aside0 (Kd.R (Kd.int .u64) 33 w' w.heap.size (fun k_ => some k_ ≠ (v9 : Value).ownBlock) (.slice Ao30 t558.length co30) t558) ∧ Aside0 (Kd.R (Kd.int .u64) 33 w' w.heap.size (fun k_ => some k_ ≠ ((.slice Ao30 t558.length co30) : Value).ownBlock) v9 x9_4) ∧ Aside0 (Below w.heap.size w w'))
            case atStart => exact ⟨(y567), (0), (fs_), H', ⟨Nat.le_refl _⟩, ⟨by (with_reducible repeat (first | apply Kd.R_alloc | apply Kd.R_drewN | apply Kd.R_drew)); exact Kd.R_mono HO_1.out (fun _ hk => hk.2)⟩, ⟨by (with_reducible repeat (first | apply Kd.R_alloc | apply Kd.R_drewN | apply Kd.R_drew)); exact Kd.R_mono HO569.out (fun _ hk => hk.2)⟩, ⟨by repeat (first | (with_reducible first | exact HB.out | apply below_alloc | apply pw_below_drewN | apply below_drew1) | exact HB.out)⟩⟩
            case round =>
             clear H'
             try clear c1
             try clear c2
             try clear p2
             try clear c3
             try clear p5
             try clear q5
             try clear hx5
             try clear qi5
             try clear c6
             try clear c6b0
             try clear c6b1
             try clear p6
             try clear c7
             try clear c8
             try clear c8b0
             try clear c8b1
             try clear c12
             try clear c12b0
             try clear c12b1
             try clear c13
             try clear c13b0
             try clear c13b1
             try clear c16
             try clear c18
             try clear c18b0
             try clear c18b1
             try clear c18b2
             try clear c20
             try clear c21
             try clear c22
             try clear c22b0
             try clear c22b1
             try clear c23
             try clear c24
             try clear c24b0
             try clear c24b1
             try clear hx562_0
             try clear p2
             try clear p562
             try clear p6
             try clear q562
             obtain ⟨x9_4, x10_4, rfl, HA, HK4, HO_1, HO_9, HB⟩ := hrel
             cases gk with
             | zero => exact absurd HA.out (by simp [cr4_Power.l0])
             | succ k4 =>
              have H := HA.out
              clear HA
              simp only [cr4_Power.l0] at H
              by_cases c33 : x10_4 < a2
              ·rw [if_pos c33] at H
               have c33b0 : decide (x10_4 < a2) = true := decide_eq_true c33
               clear c33
               by_cases c34 : (t558.length : Int) > 1
               ·rw [if_pos c34] at H
                have c34b0 : decide (1 < (t558.length : Int)) = true := decide_eq_true c34
                have c34b1 : decide (1 < t558.length) = true := decide_eq_true (by omega)
                clear c34
                replace H := Option.bind_eq_some_iff.mp H
                obtain ⟨⟨t570, t571⟩, A350, H⟩ := H
                replace H : (cr4_Power.l0 k4 a0 t558 a2 t570 (wrap64 (x10_4 + 1))) = some (r1, r2) := H
                have A35 := Aside0.mk A350
                clear A350
                have H' := Aside0.mk H
                clear H
                obtain ⟨Ao36, co36, eo36⟩ := Kd.R_slice HO_9.out
                subst eo36
                go_wp2_with (first | ((with_reducible refine gate_callee (f := 16) rfl ?_); refine goesM_ (some 70) Try.func16 #[.int .u8 a0, .slice Ao36 x9_4.length co36, .slice Ao30 t558.length co30] ?_; (with_reducible refine (cr3_Mul.calls k4 a0 _ _ x9_4 _ _ t558 t570 t571 _ ?side1 ?side2 ?side3 ?side4 A35.out).mono ?_); (case side1 => repeat (first | exact (Kd.R_reads' HO_9.out).2.2 | (with_reducible refine Kd.C_alloc ?_ _) | (with_reducible refine Kd.C_drewN ?_ _) | (with_reducible refine Kd.C_drew ?_))); (case side2 => exact (Kd.R_reads' HO_9.out).2.1); (case side3 => repeat (first | exact (Kd.R_reads' HO_1.out).2.2 | (with_reducible refine Kd.C_alloc ?_ _) | (with_reducible refine Kd.C_drewN ?_ _) | (with_reducible refine Kd.C_drew ?_))); (case side4 => exact (Kd.R_reads' HO_1.out).2.1); rintro e w37 ⟨v572, rfl, ho0, hb⟩; refine ⟨_, rfl, ?_⟩; have n0_ := A_ (Kd.R_elder' (nR_ HO_1) (Kd.R_base ho0) hb); have n1_ := A_ (Kd.R_elder' (nR_ HO_9) (Kd.R_base ho0) hb); have n2_ := A_ (Kd.R_lower (Kd.R_new' (Kd.R_new' ho0 (Kd.R_lt (nR_ HO_1))) (Kd.R_lt (nR_ HO_9))) (below_size hb_)); have n3_ := A_ (below_step hb_ hb); clear HO_1 HO_9 HB; have HO_1 := n0_; have HO_9 := n1_; have HO573 := n2_; have HB := n3_; clear n0_ n1_ n2_ n3_; (try clear hb); (try clear ho0)))
                go_roundg k4
                case measure => have := HJ4.out; have := HJ9.out; have := HJ16.out; have := HK4.out; omega
                case rel => exact ⟨(t570), (wrap64 (x10_4 + 1)), (fs_), H', ⟨by have := HJ4.out; have := HJ9.out; have := HJ16.out; have := HK4.out; omega⟩, ⟨by (with_reducible repeat (first | apply Kd.R_alloc | apply Kd.R_drewN | apply Kd.R_drew)); exact Kd.R_mono HO_1.out (fun _ hk => hk.2)⟩, ⟨by (with_reducible repeat (first | apply Kd.R_alloc | apply Kd.R_drewN | apply Kd.R_drew)); exact Kd.R_mono HO573.out (fun _ hk => hk.1.2)⟩, ⟨by repeat (first | (with_reducible first | exact HB.out | apply below_alloc | apply pw_below_drewN | apply below_drew1) | exact HB.out)⟩⟩
               ·rw [if_neg c34] at H
                have c34b0 : decide (1 < (t558.length : Int)) = false := decide_eq_false c34
                have c34b1 : decide (1 < t558.length) = false := decide_eq_false (by omega)
                clear c34
                simp only [Option.some.injEq, Prod.mk.injEq] at H
                obtain ⟨rfl, rfl⟩ := H
                go_wp2
                go_ret2
                exact ⟨_, fr_, by (with_reducible repeat (first | apply Kd.R_alloc | apply Kd.R_drewN | apply Kd.R_drew)); exact Kd.R_mono HO_9.out (fun _ hk => trivial), hb_⟩
              ·rw [if_neg c33] at H
               have c33b0 : decide (x10_4 < a2) = false := decide_eq_false c33
               clear c33
               simp only [Option.some.injEq, Prod.mk.injEq] at H
               obtain ⟨rfl, rfl⟩ := H
               go_wp2
               go_ret2
               exact ⟨_, fr_, by (with_reducible repeat (first | apply Kd.R_alloc | apply Kd.R_drewN | apply Kd.R_drew)); exact Kd.R_mono HO_9.out (fun _ hk => trivial), hb_⟩
end Go.Proofs.Ytaegmhniepfdaaa.PFastPowers
