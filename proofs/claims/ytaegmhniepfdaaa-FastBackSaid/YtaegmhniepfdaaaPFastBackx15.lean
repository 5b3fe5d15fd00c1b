/- The Go functions as Lean functions, each with the proof that its call comes to just that; written by a program of this session, by the words of the print. -/
import Derived.Test.YtaegmhniepfdaaaPFastBackx0
import Derived.Test.YtaegmhniepfdaaaPFastBackx1
import Derived.Test.YtaegmhniepfdaaaPFastBackx8
import Derived.Test.YtaegmhniepfdaaaPFastBackx9
import Derived.Test.YtaegmhniepfdaaaPFastBackx14
namespace Go.Proofs.Ytaegmhniepfdaaa.PFastBack
open Go.RowKit Go.Proofs.YtaegmhniepfdaaaW.PrintWords Go.Proofs.YtaegmhniepfdaaaW.PrintLast Go.Proofs.YtaegmhniepfdaaaW.PrintMore
attribute [local go_sem] max2_int min2_int max_two min_two max_three min_three max_four min_four   -- for this text's walks alone
set_option linter.unusedVariables false
set_option linter.unusedSimpArgs false
/-! ### cr1_Times: function 21 -/
def cr1_Times.l0 : Nat → Int → Int → Int → Int → Int → Option (Int)
 | 0, _, _, _, _, _ => none
 | k + 1, x0, x1, x2, x7, x8 => if x8 ≥ 0 then ((cr1_Sum.f x0 x7 x7).bind fun t510 => (if 0 ≤ (IntKind.u64.wrap (x8)) then (if (Go.bits .and .u64 (shr .u64 x2 (IntKind.u64.wrap (x8))) 1) = 1 then ((cr1_Sum.f x0 t510 x1).bind fun t511 => (cr1_Times.l0 k x0 x1 x2 t511 (wrap64 (x8 - 1)))) else (cr1_Times.l0 k x0 x1 x2 t510 (wrap64 (x8 - 1)))) else (none))) else (some x7)
def cr1_Times.f (k : Nat) (a0 : Int) (a1 : Int) (a2 : Int) : Option (Int) := cr1_Times.l0 k a0 a1 a2 0 63
theorem cr1_Times.mono_l : ∀ k, (∀ y0 y1 y2 y3 y4, LeO (cr1_Times.l0 k y0 y1 y2 y3 y4) (cr1_Times.l0 (k + 1) y0 y1 y2 y3 y4))
 | 0 => fun _ _ _ _ _ r h => by simp [cr1_Times.l0] at h
 | k + 1 => by
  have ih0 := cr1_Times.mono_l k
  ·intro y0 y1 y2 y3 y4
   unfold cr1_Times.l0
   repeat' first
   | (with_reducible exact ih0 _ _ _ _ _)
   | (with_reducible exact LeO.refl _)
   | (with_reducible exact LeO.none _)
   | (with_reducible refine LeO.ite ?_ ?_)
   | (with_reducible refine LeO.bind ?_ (fun _ => ?_))
   | exact ih0 _ _ _ _ _
   | exact LeO.none _
   | refine LeO.ite ?_ ?_
   | refine LeO.bind ?_ (fun _ => ?_)
theorem cr1_Times.mono : ∀ a0 a1 a2 k, LeO (cr1_Times.f k a0 a1 a2) (cr1_Times.f (k + 1) a0 a1 a2) := by
 intro a0 a1 a2 k
 have ih0 := cr1_Times.mono_l k
 unfold cr1_Times.f
 repeat' first
   | (with_reducible exact ih0 _ _ _ _ _)
   | (with_reducible exact LeO.refl _)
   | (with_reducible exact LeO.none _)
   | (with_reducible refine LeO.ite ?_ ?_)
   | (with_reducible refine LeO.bind ?_ (fun _ => ?_))
   | exact ih0 _ _ _ _ _
   | exact LeO.none _
   | refine LeO.ite ?_ ?_
   | refine LeO.bind ?_ (fun _ => ?_)
set_option maxHeartbeats 8000000 in
set_option maxRecDepth 100000 in
theorem cr1_Times.calls (k : Nat) (a0 : Int) (a1 : Int) (a2 : Int) (r : Int) (w : World) (h : cr1_Times.f k a0 a1 a2 = some r) :
  Calls Try.prog 21 #[.int .u64 a0, .int .u64 a1, .int .u64 a2] w fun e w' => e = .returned (.int .u64 r) ∧ Drawn0 w w' := by
 have H : (cr1_Times.l0 k a0 a1 a2 0 63) = some r := h
 clear h
 have H' := Aside0.mk H
 clear H
 go_enter Try.func21, Try.ntmps21
 go_wp2
 go_loopg [7, 8] k (fun kq v7 v8 w' => ∃ (x7_1 : Int) (x8_1 : Int), v7 = .int .u64 x7_1 ∧ v8 = .int .i64 x8_1 ∧ Aside0 (cr1_Times.l0 kq a0 a1 a2 x7_1 x8_1 = some r) ∧ Aside0 (kq ≤ k) ∧ Drawn0 w w')
 case atStart => exact ⟨(0), (63), (fs_), (fs_), H', ⟨Nat.le_refl _⟩, by repeat (first | exact Drawn0.refl _ | apply Drawn0.step)⟩
 case round =>
  clear H'
  try clear c2
  try clear p2
  obtain ⟨x7_1, x8_1, rfl, rfl, HA, HK1, ⟨m1, rfl⟩⟩ := hrel
  cases gk with
  | zero => exact absurd HA.out (by simp [cr1_Times.l0])
  | succ k1 =>
   have H := HA.out
   clear HA
   simp only [cr1_Times.l0] at H
   by_cases c4 : x8_1 ≥ 0
   ·rw [if_pos c4] at H
    have c4b0 : decide (0 ≤ x8_1) = true := decide_eq_true c4
    clear c4
    replace H := Option.bind_eq_some_iff.mp H
    obtain ⟨t510, A50, H⟩ := H
    (try dsimp only at H)
    have A5 := Aside0.mk A50
    clear A50
    obtain ⟨ji6, hji6⟩ : ∃ j_ : Int, (IntKind.u64.wrap (x8_1)) = j_ := ⟨_, rfl⟩
    replace H : (if 0 ≤ (ji6) then (if (Go.bits .and .u64 (shr .u64 a2 (ji6)) 1) = 1 then ((cr1_Sum.f a0 t510 a1).bind fun t511 => (cr1_Times.l0 k1 a0 a1 a2 t511 (wrap64 (x8_1 - 1)))) else (cr1_Times.l0 k1 a0 a1 a2 t510 (wrap64 (x8_1 - 1)))) else (none)) = some r := by first | (rw [hji6] at H; exact H) | (simp only [hji6] at H ⊢; exact H)
    (try rw [hji6] at A5)
    by_cases c7 : 0 ≤ (ji6)
    ·rw [if_pos c7] at H
     have c7b0 := eq_true c7
     have c7b1 : decide (0 ≤ (ji6)) = true := decide_eq_true c7
     clear c7
     obtain ⟨ji8, hji8⟩ : ∃ j_ : Int, (shr .u64 a2 (ji6)) = j_ := ⟨_, rfl⟩
     replace H : (if (Go.bits .and .u64 (ji8) 1) = 1 then ((cr1_Sum.f a0 t510 a1).bind fun t511 => (cr1_Times.l0 k1 a0 a1 a2 t511 (wrap64 (x8_1 - 1)))) else (cr1_Times.l0 k1 a0 a1 a2 t510 (wrap64 (x8_1 - 1)))) = some r := by first | (rw [hji8] at H; exact H) | (simp only [hji8] at H ⊢; exact H)
     (try rw [hji8] at A5)
     have hji8_ : (a2 / 2 ^ min (ji6).toNat 64) = ji8 := hji8
     have hji8z : (ji6) ≤ 64 → (a2 / 2 ^ (ji6).toNat) = ji8 := shr_small hji8
     have HC9 := Aside0.mk H
     clear H
     go_upto_if 22 with (first | ((with_reducible refine gate_callee (f := 34) rfl ?_); refine goesM_ (some 16) Try.func34 #[.int .u64 a0, .int .u64 x7_1, .int .u64 x7_1] ?_; (with_reducible refine (cr1_Sum.calls a0 x7_1 x7_1 t510 _ A5.out).mono ?_); rintro e w' ⟨rfl, ⟨nd, rfl⟩⟩; refine ⟨_, rfl, ?_⟩))
     (try simp only [Act.put, List.setIfInBounds_toArray, List.set_cons_zero, List.set_cons_succ])
     have H := HC9.out
     clear HC9
     by_cases c10 : (Go.bits .and .u64 (ji8) 1) = 1
     ·rw [if_pos c10] at H
      have c10b0 : ((Go.bits .and .u64 (ji8) 1) == 1) = true := beq_iff_eq.mpr c10
      have c10b1 : ((Go.bits .and .u64 (ji8) 1) != 1) = false := bne_eq_false_iff_eq.mpr c10
      clear c10
      (first | rw [c10b0] | rw [c10b1] | (simp only [i64_w, i32_w]; first | rw [c10b0] | rw [c10b1]) | skip)
      replace H := Option.bind_eq_some_iff.mp H
      obtain ⟨t511, A110, H⟩ := H
      replace H : (cr1_Times.l0 k1 a0 a1 a2 t511 (wrap64 (x8_1 - 1))) = some r := H
      have A11 := Aside0.mk A110
      clear A110
      have H' := Aside0.mk H
      clear H
      go_wp2_with (first | ((with_reducible refine gate_callee (f := 34) rfl ?_); refine goesM_ (some 26) Try.func34 #[.int .u64 a0, .int .u64 t510, .int .u64 a1] ?_; (with_reducible refine (cr1_Sum.calls a0 t510 a1 t511 _ A11.out).mono ?_); rintro e w' ⟨rfl, ⟨nd, rfl⟩⟩; refine ⟨_, rfl, ?_⟩))
      go_roundg k1
      case measure => have := HK1.out; omega
      case rel => exact ⟨(t511), (wrap64 (x8_1 - 1)), (fs_), (fs_), H', ⟨by have := HK1.out; omega⟩, by repeat (first | exact Drawn0.refl _ | apply Drawn0.step)⟩
     ·rw [if_neg c10] at H
      have c10b0 : ((Go.bits .and .u64 (ji8) 1) == 1) = false := beq_eq_false_iff_ne.mpr c10
      have c10b1 : ((Go.bits .and .u64 (ji8) 1) != 1) = true := bne_iff_ne.mpr c10
      (first | rw [c10b0] | rw [c10b1] | (simp only [i64_w, i32_w]; first | rw [c10b0] | rw [c10b1]) | skip)
      have H' := Aside0.mk H
      clear H
      go_wp2
      go_roundg k1
      case measure => have := HK1.out; omega
      case rel => exact ⟨(t510), (wrap64 (x8_1 - 1)), (fs_), (fs_), H', ⟨by have := HK1.out; omega⟩, by repeat (first | exact Drawn0.refl _ | apply Drawn0.step)⟩
    ·rw [if_neg c7] at H
     exact absurd H (by simp)
   ·rw [if_neg c4] at H
    have c4b0 : decide (0 ≤ x8_1) = false := decide_eq_false c4
    clear c4
    obtain rfl := Option.some.inj H
    go_wp2
    go_ret
    exact ⟨fs_, by repeat (first | exact Drawn0.refl _ | apply Drawn0.step)⟩
/-! ### conclavelaw04_FastBack: function 6 -/
mutual
def conclavelaw04_FastBack.j0 : Nat → Int → List Int → List Int → List Int → Bool → Option (Bool)
 | 0, _, _, _, _, _ => none
 | k + 1, x7, x8, x10, x11, x87 => if x87 = true then (none) else (if (x8.length : Int) = (x10.length : Int) then ((fast_Transform.f k x7 x10).bind fun bt539 => ((fast_Round.f k x7 x8 x10).bind fun bt543 => ((fast_Transform.f k x7 bt543.1).bind fun bt547 => (if bt539.2 = 0 then (if bt543.2 = 0 then (if bt547.2 = 0 then (if (bt547.1.length : Int) = (x8.length : Int) then (if (bt539.1.length : Int) = (x8.length : Int) then (conclavelaw04_FastBack.j1 k x7 x11 bt539.1 bt547.1 ((x11.length : Int) != (x8.length : Int))) else (conclavelaw04_FastBack.j1 k x7 x11 bt539.1 bt547.1 true)) else (conclavelaw04_FastBack.j1 k x7 x11 bt539.1 bt547.1 true)) else (conclavelaw04_FastBack.j1 k x7 x11 bt539.1 bt547.1 true)) else (conclavelaw04_FastBack.j1 k x7 x11 bt539.1 bt547.1 true)) else (conclavelaw04_FastBack.j1 k x7 x11 bt539.1 bt547.1 true))))) else ((conclavelaw04_anchored.f k).bind fun t538 => (some t538)))
def conclavelaw04_FastBack.j1 : Nat → Int → List Int → List Int → List Int → Bool → Option (Bool)
 | 0, _, _, _, _, _ => none
 | k + 1, x7, x11, x19, x23, x143 => if x143 = true then (none) else (conclavelaw04_FastBack.l0 k x7 x11 x19 x23 0)
def conclavelaw04_FastBack.l0 : Nat → Int → List Int → List Int → List Int → Int → Option (Bool)
 | 0, _, _, _, _, _ => none
 | k + 1, x7, x11, x19, x23, x25 => if x25 < (x23.length : Int) then (if 0 ≤ x25 then ((cr1_P.f x7).bind fun t553 => (if x25 < (x11.length : Int) then (if x25 < (x19.length : Int) then ((cr1_Times.f k t553 (rd x11 x25) (rd x19 x25)).bind fun t556 => (if (rd x23 x25) = t556 then (conclavelaw04_FastBack.l0 k x7 x11 x19 x23 (wrap64 (x25 + 1))) else (none))) else (none)) else (none))) else (none)) else ((conclavelaw04_anchored.f k).bind fun t551 => (some t551))
end
def conclavelaw04_FastBack.f (k : Nat) (a0 : Int) (l1 : List Int) (l2 : List Int) : Option (Bool) := (conclavelaw04_list.f k a0 l1 9).bind fun bt512 => ((conclavelaw04_list.f k a0 l2 9).bind fun bt516 => ((fast_Transform.f k bt512.1 bt512.2).bind fun bt520 => ((fast_Back.f k bt512.1 bt520.1).bind fun bt524 => ((fast_Back.f k bt512.1 bt512.2).bind fun bt528 => ((fast_Transform.f k bt512.1 bt528.1).bind fun bt532 => (if bt520.2 = 0 then (if bt524.2 = 0 then (if bt528.2 = 0 then (if bt532.2 = 0 then ((cr1_Same.f k bt524.1 bt512.2).bind fun t536 => (if t536 = true then ((cr1_Same.f k bt532.1 bt512.2).bind fun t537 => (conclavelaw04_FastBack.j0 k bt512.1 bt512.2 bt516.2 bt520.1 (!t537))) else (conclavelaw04_FastBack.j0 k bt512.1 bt512.2 bt516.2 bt520.1 true))) else (conclavelaw04_FastBack.j0 k bt512.1 bt512.2 bt516.2 bt520.1 true)) else (conclavelaw04_FastBack.j0 k bt512.1 bt512.2 bt516.2 bt520.1 true)) else (conclavelaw04_FastBack.j0 k bt512.1 bt512.2 bt516.2 bt520.1 true)) else (conclavelaw04_FastBack.j0 k bt512.1 bt512.2 bt516.2 bt520.1 true)))))))
theorem conclavelaw04_FastBack.mono_l : ∀ k, (∀ y0 y1 y2 y3 y4, LeO (conclavelaw04_FastBack.j0 k y0 y1 y2 y3 y4) (conclavelaw04_FastBack.j0 (k + 1) y0 y1 y2 y3 y4)) ∧ (∀ y0 y1 y2 y3 y4, LeO (conclavelaw04_FastBack.j1 k y0 y1 y2 y3 y4) (conclavelaw04_FastBack.j1 (k + 1) y0 y1 y2 y3 y4)) ∧ (∀ y0 y1 y2 y3 y4, LeO (conclavelaw04_FastBack.l0 k y0 y1 y2 y3 y4) (conclavelaw04_FastBack.l0 (k + 1) y0 y1 y2 y3 y4))
 | 0 => ⟨fun _ _ _ _ _ r h => by simp [conclavelaw04_FastBack.j0] at h, fun _ _ _ _ _ r h => by simp [conclavelaw04_FastBack.j1] at h, fun _ _ _ _ _ r h => by simp [conclavelaw04_FastBack.l0] at h⟩
 | k + 1 => by
  obtain ⟨ih0, ih1, ih2⟩ := conclavelaw04_FastBack.mono_l k
  refine ⟨?_, ?_, ?_⟩
  ·intro y0 y1 y2 y3 y4
   unfold conclavelaw04_FastBack.j0
   repeat' first
   | (with_reducible exact ih0 _ _ _ _ _)
   | (with_reducible exact ih1 _ _ _ _ _)
   | (with_reducible exact ih2 _ _ _ _ _)
   | (with_reducible exact conclavelaw04_anchored.mono _)
   | (with_reducible exact conclavelaw04_list.mono _ _ _ _)
   | (with_reducible exact cr1_Same.mono _ _ _)
   | (with_reducible exact cr1_Times.mono _ _ _ _)
   | (with_reducible exact fast_Back.mono _ _ _)
   | (with_reducible exact fast_Round.mono _ _ _ _)
   | (with_reducible exact fast_Transform.mono _ _ _)
   | (with_reducible exact LeO.refl _)
   | (with_reducible exact LeO.none _)
   | (with_reducible refine LeO.ite ?_ ?_)
   | (with_reducible refine LeO.bind ?_ (fun _ => ?_))
   | exact ih0 _ _ _ _ _
   | exact ih1 _ _ _ _ _
   | exact ih2 _ _ _ _ _
   | exact conclavelaw04_anchored.mono _
   | exact conclavelaw04_list.mono _ _ _ _
   | exact cr1_Same.mono _ _ _
   | exact cr1_Times.mono _ _ _ _
   | exact fast_Back.mono _ _ _
   | exact fast_Round.mono _ _ _ _
   | exact fast_Transform.mono _ _ _
   | exact LeO.none _
   | refine LeO.ite ?_ ?_
   | refine LeO.bind ?_ (fun _ => ?_)
  ·intro y0 y1 y2 y3 y4
   unfold conclavelaw04_FastBack.j1
   repeat' first
   | (with_reducible exact ih0 _ _ _ _ _)
   | (with_reducible exact ih1 _ _ _ _ _)
   | (with_reducible exact ih2 _ _ _ _ _)
   | (with_reducible exact conclavelaw04_anchored.mono _)
   | (with_reducible exact conclavelaw04_list.mono _ _ _ _)
   | (with_reducible exact cr1_Same.mono _ _ _)
   | (with_reducible exact cr1_Times.mono _ _ _ _)
   | (with_reducible exact fast_Back.mono _ _ _)
   | (with_reducible exact fast_Round.mono _ _ _ _)
   | (with_reducible exact fast_Transform.mono _ _ _)
   | (with_reducible exact LeO.refl _)
   | (with_reducible exact LeO.none _)
   | (with_reducible refine LeO.ite ?_ ?_)
   | (with_reducible refine LeO.bind ?_ (fun _ => ?_))
   | exact ih0 _ _ _ _ _
   | exact ih1 _ _ _ _ _
   | exact ih2 _ _ _ _ _
   | exact conclavelaw04_anchored.mono _
   | exact conclavelaw04_list.mono _ _ _ _
   | exact cr1_Same.mono _ _ _
   | exact cr1_Times.mono _ _ _ _
   | exact fast_Back.mono _ _ _
   | exact fast_Round.mono _ _ _ _
   | exact fast_Transform.mono _ _ _
   | exact LeO.none _
   | refine LeO.ite ?_ ?_
   | refine LeO.bind ?_ (fun _ => ?_)
  ·intro y0 y1 y2 y3 y4
   unfold conclavelaw04_FastBack.l0
   repeat' first
   | (with_reducible exact ih0 _ _ _ _ _)
   | (with_reducible exact ih1 _ _ _ _ _)
   | (with_reducible exact ih2 _ _ _ _ _)
   | (with_reducible exact conclavelaw04_anchored.mono _)
   | (with_reducible exact conclavelaw04_list.mono _ _ _ _)
   | (with_reducible exact cr1_Same.mono _ _ _)
   | (with_reducible exact cr1_Times.mono _ _ _ _)
   | (with_reducible exact fast_Back.mono _ _ _)
   | (with_reducible exact fast_Round.mono _ _ _ _)
   | (with_reducible exact fast_Transform.mono _ _ _)
   | (with_reducible exact LeO.refl _)
   | (with_reducible exact LeO.none _)
   | (with_reducible refine LeO.ite ?_ ?_)
   | (with_reducible refine LeO.bind ?_ (fun _ => ?_))
   | exact ih0 _ _ _ _ _
   | exact ih1 _ _ _ _ _
   | exact ih2 _ _ _ _ _
   | exact conclavelaw04_anchored.mono _
   | exact conclavelaw04_list.mono _ _ _ _
   | exact cr1_Same.mono _ _ _
   | exact cr1_Times.mono _ _ _ _
   | exact fast_Back.mono _ _ _
   | exact fast_Round.mono _ _ _ _
   | exact fast_Transform.mono _ _ _
   | exact LeO.none _
   | refine LeO.ite ?_ ?_
   | refine LeO.bind ?_ (fun _ => ?_)
theorem conclavelaw04_FastBack.mono : ∀ a0 a1 a2 k, LeO (conclavelaw04_FastBack.f k a0 a1 a2) (conclavelaw04_FastBack.f (k + 1) a0 a1 a2) := by
 intro a0 a1 a2 k
 obtain ⟨ih0, ih1, ih2⟩ := conclavelaw04_FastBack.mono_l k
 unfold conclavelaw04_FastBack.f
 repeat' first
   | (with_reducible exact ih0 _ _ _ _ _)
   | (with_reducible exact ih1 _ _ _ _ _)
   | (with_reducible exact ih2 _ _ _ _ _)
   | (with_reducible exact conclavelaw04_anchored.mono _)
   | (with_reducible exact conclavelaw04_list.mono _ _ _ _)
   | (with_reducible exact cr1_Same.mono _ _ _)
   | (with_reducible exact cr1_Times.mono _ _ _ _)
   | (with_reducible exact fast_Back.mono _ _ _)
   | (with_reducible exact fast_Round.mono _ _ _ _)
   | (with_reducible exact fast_Transform.mono _ _ _)
   | (with_reducible exact LeO.refl _)
   | (with_reducible exact LeO.none _)
   | (with_reducible refine LeO.ite ?_ ?_)
   | (with_reducible refine LeO.bind ?_ (fun _ => ?_))
   | exact ih0 _ _ _ _ _
   | exact ih1 _ _ _ _ _
   | exact ih2 _ _ _ _ _
   | exact conclavelaw04_anchored.mono _
   | exact conclavelaw04_list.mono _ _ _ _
   | exact cr1_Same.mono _ _ _
   | exact cr1_Times.mono _ _ _ _
   | exact fast_Back.mono _ _ _
   | exact fast_Round.mono _ _ _ _
   | exact fast_Transform.mono _ _ _
   | exact LeO.none _
   | refine LeO.ite ?_ ?_
   | refine LeO.bind ?_ (fun _ => ?_)
set_option maxHeartbeats 8000000 in
set_option maxRecDepth 100000 in
theorem conclavelaw04_FastBack.calls (k : Nat) (a0 : Int) (A1 : Option Addr) (c1 : Nat) (l1 : List Int) (A2 : Option Addr) (c2 : Nat) (l2 : List Int) (r : Bool) (w : World) (hr1 : Kd.C (Kd.int .u64) w A1 l1.length l1) (hc1 : l1.length ≤ c1) (hr2 : Kd.C (Kd.int .u64) w A2 l2.length l2) (hc2 : l2.length ≤ c2) (h : conclavelaw04_FastBack.f k a0 l1 l2 = some r) :
  Calls Try.prog 6 #[.int .u8 a0, .slice A1 l1.length c1, .slice A2 l2.length c2] w fun e w' => e = .returned (.bool r) ∧ Below w.heap.size w w' := by
 have HR1 := Aside0.mk hr1
 have HC1 := Aside0.mk hc1
 clear hr1 hc1
 have HR2 := Aside0.mk hr2
 have HC2 := Aside0.mk hc2
 clear hr2 hc2
 have HB := A_ (Below.refl w.heap.size w)
 have H : ((conclavelaw04_list.f k a0 l1 9).bind fun bt512 => ((conclavelaw04_list.f k a0 l2 9).bind fun bt516 => ((fast_Transform.f k bt512.1 bt512.2).bind fun bt520 => ((fast_Back.f k bt512.1 bt520.1).bind fun bt524 => ((fast_Back.f k bt512.1 bt512.2).bind fun bt528 => ((fast_Transform.f k bt512.1 bt528.1).bind fun bt532 => (if bt520.2 = 0 then (if bt524.2 = 0 then (if bt528.2 = 0 then (if bt532.2 = 0 then ((cr1_Same.f k bt524.1 bt512.2).bind fun t536 => (if t536 = true then ((cr1_Same.f k bt532.1 bt512.2).bind fun t537 => (conclavelaw04_FastBack.j0 k bt512.1 bt512.2 bt516.2 bt520.1 (!t537))) else (conclavelaw04_FastBack.j0 k bt512.1 bt512.2 bt516.2 bt520.1 true))) else (conclavelaw04_FastBack.j0 k bt512.1 bt512.2 bt516.2 bt520.1 true)) else (conclavelaw04_FastBack.j0 k bt512.1 bt512.2 bt516.2 bt520.1 true)) else (conclavelaw04_FastBack.j0 k bt512.1 bt512.2 bt516.2 bt520.1 true)) else (conclavelaw04_FastBack.j0 k bt512.1 bt512.2 bt516.2 bt520.1 true)))))))) = some r := h
 clear h
 replace H := Option.bind_eq_some_iff.mp H
 obtain ⟨⟨t512, t513⟩, A40, H⟩ := H
 (try dsimp only at H)
 have A4 := Aside0.mk A40
 clear A40
 replace H := Option.bind_eq_some_iff.mp H
 obtain ⟨⟨t516, t517⟩, A50, H⟩ := H
 (try dsimp only at H)
 have A5 := Aside0.mk A50
 clear A50
 replace H := Option.bind_eq_some_iff.mp H
 obtain ⟨⟨t520, t523⟩, A60, H⟩ := H
 (try dsimp only at H)
 have A6 := Aside0.mk A60
 clear A60
 replace H := Option.bind_eq_some_iff.mp H
 obtain ⟨⟨t524, t527⟩, A70, H⟩ := H
 (try dsimp only at H)
 have A7 := Aside0.mk A70
 clear A70
 replace H := Option.bind_eq_some_iff.mp H
 obtain ⟨⟨t528, t531⟩, A80, H⟩ := H
 (try dsimp only at H)
 have A8 := Aside0.mk A80
 clear A80
 replace H := Option.bind_eq_some_iff.mp H
 obtain ⟨⟨t532, t535⟩, A90, H⟩ := H
 (try dsimp only at H)
 have A9 := Aside0.mk A90
 clear A90
 have HC10 := Aside0.mk H
 clear H
 go_enter Try.func6, Try.ntmps6
 go_upto_region 7 with (first | (go_at_call 8; (with_reducible refine (conclavelaw04_list.calls k a0 _ _ l1 9 t512 t513 _ ?side1 ?side2 A4.out).mono ?_); (case side1 => exact nC_ HR1.out); (case side2 => exact HC1.out); rintro e w11 ⟨v514, rfl, ho0, hb⟩; have n0_ := A_ (Kd.R_lower ho0 (below_size hb_)); have n1_ := A_ (below_step hb_ hb); clear HB; have HO515 := n0_; have HB := n1_; clear n0_ n1_; (try clear hb); (try clear hb2); (try clear hk); (try clear hi); (try clear ho0)) | (go_at_call 8; (with_reducible refine (conclavelaw04_list.calls k a0 _ _ l2 9 t516 t517 _ ?side1 ?side2 A5.out).mono ?_); (case side1 => repeat (first | exact (Kd.C_below HR2.out HB.out) | (with_reducible refine Kd.C_alloc ?_ _) | (with_reducible refine Kd.C_drewN ?_ _) | (with_reducible refine Kd.C_drew ?_))); (case side2 => exact HC2.out); rintro e w12 ⟨v518, rfl, ho0, hb⟩; have n0_ := A_ (Kd.R_elder' (nR_ HO515) (Kd.R_base ho0) hb); have n1_ := A_ (Kd.R_lower (Kd.R_new' ho0 (Kd.R_lt (nR_ HO515))) (below_size hb_)); have n2_ := A_ (below_step hb_ hb); clear HO515 HB; have HO515 := n0_; have HO519 := n1_; have HB := n2_; clear n0_ n1_ n2_; (try clear hb); (try clear hb2); (try clear hk); (try clear hi); (try clear ho0); obtain ⟨Ao13, co13, eo13⟩ := Kd.R_slice HO515.out; subst eo13) | (go_at_call 10; (with_reducible refine (fast_Transform.calls k t512 (fun k_ => some k_ = (.slice Ao13 t513.length co13 : Value).ownBlock) _ _ t513 t520 t523 _ ?side1 A6.out).mono ?_); (case side1 => exact Kd.R_V (Kd.R_tight rfl (HO515.out))); rintro e w14 ⟨v521, rfl, ho0, hb⟩; have n0_ := A_ (Kd.R_elder' (nR_ HO515) (Kd.R_base ho0) hb); have n1_ := A_ (Kd.R_elder' (nR_ HO519) (Kd.R_base ho0) hb); have n2_ := A_ (Kd.R_lower (Kd.R_new' (Kd.R_new' (Kd.R_mono (ok' := fun k_ => True) ho0 (fun _ hk_ => trivial)) (Kd.R_lt (nR_ HO515))) (Kd.R_lt (nR_ HO519))) (below_size hb_)); have n3_ := A_ (below_step hb_ hb); clear HO515 HO519 HB; have HO515 := n0_; have HO519 := n1_; have HO522 := n2_; have HB := n3_; clear n0_ n1_ n2_ n3_; (try clear hb); (try clear hb2); (try clear hk); (try clear hi); (try clear ho0); obtain ⟨Ao15, co15, eo15⟩ := Kd.R_slice HO522.out; subst eo15) | (go_at_call 11; (with_reducible refine (fast_Back.calls k t512 (fun k_ => some k_ = (.slice Ao15 t520.length co15 : Value).ownBlock) _ _ t520 t524 t527 _ ?side1 A7.out).mono ?_); (case side1 => exact Kd.R_V (Kd.R_tight rfl (HO522.out))); rintro e w16 ⟨v525, rfl, ho0, hb⟩; have n0_ := A_ (Kd.R_elder' (nR_ HO515) (Kd.R_base ho0) hb); have n1_ := A_ (Kd.R_elder' (nR_ HO519) (Kd.R_base ho0) hb); have n2_ := A_ (Kd.R_elder' (nR_ HO522) (Kd.R_base ho0) hb); have n3_ := A_ (Kd.R_lower (Kd.R_new' (Kd.R_new' (Kd.R_new' (Kd.R_mono (ok' := fun k_ => True) ho0 (fun _ hk_ => trivial)) (Kd.R_lt (nR_ HO515))) (Kd.R_lt (nR_ HO519))) (Kd.R_lt (nR_ HO522))) (below_size hb_)); have n4_ := A_ (below_step hb_ hb); clear HO515 HO519 HO522 HB; have HO515 := n0_; have HO519 := n1_; have HO522 := n2_; have HO526 := n3_; have HB := n4_; clear n0_ n1_ n2_ n3_ n4_; (try clear hb); (try clear hb2); (try clear hk); (try clear hi); (try clear ho0)) | (go_at_call 11; (with_reducible refine (fast_Back.calls k t512 (fun k_ => some k_ = (.slice Ao13 t513.length co13 : Value).ownBlock) _ _ t513 t528 t531 _ ?side1 A8.out).mono ?_); (case side1 => exact Kd.R_V (Kd.R_tight rfl (HO515.out))); rintro e w17 ⟨v529, rfl, ho0, hb⟩; have n0_ := A_ (Kd.R_elder' (nR_ HO515) (Kd.R_base ho0) hb); have n1_ := A_ (Kd.R_elder' (nR_ HO519) (Kd.R_base ho0) hb); have n2_ := A_ (Kd.R_elder' (nR_ HO522) (Kd.R_base ho0) hb); have n3_ := A_ (Kd.R_elder' (nR_ HO526) (Kd.R_base ho0) hb); have n4_ := A_ (Kd.R_lower (Kd.R_new' (Kd.R_new' (Kd.R_new' (Kd.R_new' (Kd.R_mono (ok' := fun k_ => True) ho0 (fun _ hk_ => trivial)) (Kd.R_lt (nR_ HO515))) (Kd.R_lt (nR_ HO519))) (Kd.R_lt (nR_ HO522))) (Kd.R_lt (nR_ HO526))) (below_size hb_)); have n5_ := A_ (below_step hb_ hb); clear HO515 HO519 HO522 HO526 HB; have HO515 := n0_; have HO519 := n1_; have HO522 := n2_; have HO526 := n3_; have HO530 := n4_; have HB := n5_; clear n0_ n1_ n2_ n3_ n4_ n5_; (try clear hb); (try clear hb2); (try clear hk); (try clear hi); (try clear ho0); obtain ⟨Ao18, co18, eo18⟩ := Kd.R_slice HO530.out; subst eo18) | (go_at_call 10; (with_reducible refine (fast_Transform.calls k t512 (fun k_ => some k_ = (.slice Ao18 t528.length co18 : Value).ownBlock) _ _ t528 t532 t535 _ ?side1 A9.out).mono ?_); (case side1 => exact Kd.R_V (Kd.R_tight rfl (HO530.out))); rintro e w19 ⟨v533, rfl, ho0, hb⟩; have n0_ := A_ (Kd.R_elder' (nR_ HO515) (Kd.R_base ho0) hb); have n1_ := A_ (Kd.R_elder' (nR_ HO519) (Kd.R_base ho0) hb); have n2_ := A_ (Kd.R_elder' (nR_ HO522) (Kd.R_base ho0) hb); have n3_ := A_ (Kd.R_elder' (nR_ HO526) (Kd.R_base ho0) hb); have n4_ := A_ (Kd.R_elder' (nR_ HO530) (Kd.R_base ho0) hb); have n5_ := A_ (Kd.R_lower (Kd.R_new' (Kd.R_new' (Kd.R_new' (Kd.R_new' (Kd.R_new' (Kd.R_mono (ok' := fun k_ => True) ho0 (fun _ hk_ => trivial)) (Kd.R_lt (nR_ HO515))) (Kd.R_lt (nR_ HO519))) (Kd.R_lt (nR_ HO522))) (Kd.R_lt (nR_ HO526))) (Kd.R_lt (nR_ HO530))) (below_size hb_)); have n6_ := A_ (below_step hb_ hb); clear HO515 HO519 HO522 HO526 HO530 HB; have HO515 := n0_; have HO519 := n1_; have HO522 := n2_; have HO526 := n3_; have HO530 := n4_; have HO534 := n5_; have HB := n6_; clear n0_ n1_ n2_ n3_ n4_ n5_ n6_; (try clear hb); (try clear hb2); (try clear hk); (try clear hi); (try clear ho0)))
 repeat (go_quiet (first | (go_at_call 8; (with_reducible refine (conclavelaw04_list.calls k a0 _ _ l1 9 t512 t513 _ ?side1 ?side2 A4.out).mono ?_); (case side1 => exact nC_ HR1.out); (case side2 => exact HC1.out); rintro e w11 ⟨v514, rfl, ho0, hb⟩; have n0_ := A_ (Kd.R_lower ho0 (below_size hb_)); have n1_ := A_ (below_step hb_ hb); clear HB; have HO515 := n0_; have HB := n1_; clear n0_ n1_; (try clear hb); (try clear hb2); (try clear hk); (try clear hi); (try clear ho0)) | (go_at_call 8; (with_reducible refine (conclavelaw04_list.calls k a0 _ _ l2 9 t516 t517 _ ?side1 ?side2 A5.out).mono ?_); (case side1 => repeat (first | exact (Kd.C_below HR2.out HB.out) | (with_reducible refine Kd.C_alloc ?_ _) | (with_reducible refine Kd.C_drewN ?_ _) | (with_reducible refine Kd.C_drew ?_))); (case side2 => exact HC2.out); rintro e w12 ⟨v518, rfl, ho0, hb⟩; have n0_ := A_ (Kd.R_elder' (nR_ HO515) (Kd.R_base ho0) hb); have n1_ := A_ (Kd.R_lower (Kd.R_new' ho0 (Kd.R_lt (nR_ HO515))) (below_size hb_)); have n2_ := A_ (below_step hb_ hb); clear HO515 HB; have HO515 := n0_; have HO519 := n1_; have HB := n2_; clear n0_ n1_ n2_; (try clear hb); (try clear hb2); (try clear hk); (try clear hi); (try clear ho0); obtain ⟨Ao13, co13, eo13⟩ := Kd.R_slice HO515.out; subst eo13) | (go_at_call 10; (with_reducible refine (fast_Transform.calls k t512 (fun k_ => some k_ = (.slice Ao13 t513.length co13 : Value).ownBlock) _ _ t513 t520 t523 _ ?side1 A6.out).mono ?_); (case side1 => exact Kd.R_V (Kd.R_tight rfl (HO515.out))); rintro e w14 ⟨v521, rfl, ho0, hb⟩; have n0_ := A_ (Kd.R_elder' (nR_ HO515) (Kd.R_base ho0) hb); have n1_ := A_ (Kd.R_elder' (nR_ HO519) (Kd.R_base ho0) hb); have n2_ := A_ (Kd.R_lower (Kd.R_new' (Kd.R_new' (Kd.R_mono (ok' := fun k_ => True) ho0 (fun _ hk_ => trivial)) (Kd.R_lt (nR_ HO515))) (Kd.R_lt (nR_ HO519))) (below_size hb_)); have n3_ := A_ (below_step hb_ hb); clear HO515 HO519 HB; have HO515 := n0_; have HO519 := n1_; have HO522 := n2_; have HB := n3_; clear n0_ n1_ n2_ n3_; (try clear hb); (try clear hb2); (try clear hk); (try clear hi); (try clear ho0); obtain ⟨Ao15, co15, eo15⟩ := Kd.R_slice HO522.out; subst eo15) | (go_at_call 11; (with_reducible refine (fast_Back.calls k t512 (fun k_ => some k_ = (.slice Ao15 t520.length co15 : Value).ownBlock) _ _ t520 t524 t527 _ ?side1 A7.out).mono ?_); (case side1 => exact Kd.R_V (Kd.R_tight rfl (HO522.out))); rintro e w16 ⟨v525, rfl, ho0, hb⟩; have n0_ := A_ (Kd.R_elder' (nR_ HO515) (Kd.R_base ho0) hb); have n1_ := A_ (Kd.R_elder' (nR_ HO519) (Kd.R_base ho0) hb); have n2_ := A_ (Kd.R_elder' (nR_ HO522) (Kd.R_base ho0) hb); have n3_ := A_ (Kd.R_lower (Kd.R_new' (Kd.R_new' (Kd.R_new' (Kd.R_mono (ok' := fun k_ => True) ho0 (fun _ hk_ => trivial)) (Kd.R_lt (nR_ HO515))) (Kd.R_lt (nR_ HO519))) (Kd.R_lt (nR_ HO522))) (below_size hb_)); have n4_ := A_ (below_step hb_ hb); clear HO515 HO519 HO522 HB; have HO515 := n0_; have HO519 := n1_; have HO522 := n2_; have HO526 := n3_; have HB := n4_; clear n0_ n1_ n2_ n3_ n4_; (try clear hb); (try clear hb2); (try clear hk); (try clear hi); (try clear ho0)) | (go_at_call 11; (with_reducible refine (fast_Back.calls k t512 (fun k_ => some k_ = (.slice Ao13 t513.length co13 : Value).ownBlock) _ _ t513 t528 t531 _ ?side1 A8.out).mono ?_); (case side1 => exact Kd.R_V (Kd.R_tight rfl (HO515.out))); rintro e w17 ⟨v529, rfl, ho0, hb⟩; have n0_ := A_ (Kd.R_elder' (nR_ HO515) (Kd.R_base ho0) hb); have n1_ := A_ (Kd.R_elder' (nR_ HO519) (Kd.R_base ho0) hb); have n2_ := A_ (Kd.R_elder' (nR_ HO522) (Kd.R_base ho0) hb); have n3_ := A_ (Kd.R_elder' (nR_ HO526) (Kd.R_base ho0) hb); have n4_ := A_ (Kd.R_lower (Kd.R_new' (Kd.R_new' (Kd.R_new' (Kd.R_new' (Kd.R_mono (ok' := fun k_ => True) ho0 (fun _ hk_ => trivial)) (Kd.R_lt (nR_ HO515))) (Kd.R_lt (nR_ HO519))) (Kd.R_lt (nR_ HO522))) (Kd.R_lt (nR_ HO526))) (below_size hb_)); have n5_ := A_ (below_step hb_ hb); clear HO515 HO519 HO522 HO526 HB; have HO515 := n0_; have HO519 := n1_; have HO522 := n2_; have HO526 := n3_; have HO530 := n4_; have HB := n5_; clear n0_ n1_ n2_ n3_ n4_ n5_; (try clear hb); (try clear hb2); (try clear hk); (try clear hi); (try clear ho0); obtain ⟨Ao18, co18, eo18⟩ := Kd.R_slice HO530.out; subst eo18) | (go_at_call 10; (with_reducible refine (fast_Transform.calls k t512 (fun k_ => some k_ = (.slice Ao18 t528.length co18 : Value).ownBlock) _ _ t528 t532 t535 _ ?side1 A9.out).mono ?_); (case side1 => exact Kd.R_V (Kd.R_tight rfl (HO530.out))); rintro e w19 ⟨v533, rfl, ho0, hb⟩; have n0_ := A_ (Kd.R_elder' (nR_ HO515) (Kd.R_base ho0) hb); have n1_ := A_ (Kd.R_elder' (nR_ HO519) (Kd.R_base ho0) hb); have n2_ := A_ (Kd.R_elder' (nR_ HO522) (Kd.R_base ho0) hb); have n3_ := A_ (Kd.R_elder' (nR_ HO526) (Kd.R_base ho0) hb); have n4_ := A_ (Kd.R_elder' (nR_ HO530) (Kd.R_base ho0) hb); have n5_ := A_ (Kd.R_lower (Kd.R_new' (Kd.R_new' (Kd.R_new' (Kd.R_new' (Kd.R_new' (Kd.R_mono (ok' := fun k_ => True) ho0 (fun _ hk_ => trivial)) (Kd.R_lt (nR_ HO515))) (Kd.R_lt (nR_ HO519))) (Kd.R_lt (nR_ HO522))) (Kd.R_lt (nR_ HO526))) (Kd.R_lt (nR_ HO530))) (below_size hb_)); have n6_ := A_ (below_step hb_ hb); clear HO515 HO519 HO522 HO526 HO530 HB; have HO515 := n0_; have HO519 := n1_; have HO522 := n2_; have HO526 := n3_; have HO530 := n4_; have HO534 := n5_; have HB := n6_; clear n0_ n1_ n2_ n3_ n4_ n5_ n6_; (try clear hb); (try clear hb2); (try clear hk); (try clear hi); (try clear ho0))); go_upto_region 7 with (first | (go_at_call 8; (with_reducible refine (conclavelaw04_list.calls k a0 _ _ l1 9 t512 t513 _ ?side1 ?side2 A4.out).mono ?_); (case side1 => exact nC_ HR1.out); (case side2 => exact HC1.out); rintro e w11 ⟨v514, rfl, ho0, hb⟩; have n0_ := A_ (Kd.R_lower ho0 (below_size hb_)); have n1_ := A_ (below_step hb_ hb); clear HB; have HO515 := n0_; have HB := n1_; clear n0_ n1_; (try clear hb); (try clear hb2); (try clear hk); (try clear hi); (try clear ho0)) | (go_at_call 8; (with_reducible refine (conclavelaw04_list.calls k a0 _ _ l2 9 t516 t517 _ ?side1 ?side2 A5.out).mono ?_); (case side1 => repeat (first | exact (Kd.C_below HR2.out HB.out) | (with_reducible refine Kd.C_alloc ?_ _) | (with_reducible refine Kd.C_drewN ?_ _) | (with_reducible refine Kd.C_drew ?_))); (case side2 => exact HC2.out); rintro e w12 ⟨v518, rfl, ho0, hb⟩; have n0_ := A_ (Kd.R_elder' (nR_ HO515) (Kd.R_base ho0) hb); have n1_ := A_ (Kd.R_lower (Kd.R_new' ho0 (Kd.R_lt (nR_ HO515))) (below_size hb_)); have n2_ := A_ (below_step hb_ hb); clear HO515 HB; have HO515 := n0_; have HO519 := n1_; have HB := n2_; clear n0_ n1_ n2_; (try clear hb); (try clear hb2); (try clear hk); (try clear hi); (try clear ho0); obtain ⟨Ao13, co13, eo13⟩ := Kd.R_slice HO515.out; subst eo13) | (go_at_call 10; (with_reducible refine (fast_Transform.calls k t512 (fun k_ => some k_ = (.slice Ao13 t513.length co13 : Value).ownBlock) _ _ t513 t520 t523 _ ?side1 A6.out).mono ?_); (case side1 => exact Kd.R_V (Kd.R_tight rfl (HO515.out))); rintro e w14 ⟨v521, rfl, ho0, hb⟩; have n0_ := A_ (Kd.R_elder' (nR_ HO515) (Kd.R_base ho0) hb); have n1_ := A_ (Kd.R_elder' (nR_ HO519) (Kd.R_base ho0) hb); have n2_ := A_ (Kd.R_lower (Kd.R_new' (Kd.R_new' (Kd.R_mono (ok' := fun k_ => True) ho0 (fun _ hk_ => trivial)) (Kd.R_lt (nR_ HO515))) (Kd.R_lt (nR_ HO519))) (below_size hb_)); have n3_ := A_ (below_step hb_ hb); clear HO515 HO519 HB; have HO515 := n0_; have HO519 := n1_; have HO522 := n2_; have HB := n3_; clear n0_ n1_ n2_ n3_; (try clear hb); (try clear hb2); (try clear hk); (try clear hi); (try clear ho0); obtain ⟨Ao15, co15, eo15⟩ := Kd.R_slice HO522.out; subst eo15) | (go_at_call 11; (with_reducible refine (fast_Back.calls k t512 (fun k_ => some k_ = (.slice Ao15 t520.length co15 : Value).ownBlock) _ _ t520 t524 t527 _ ?side1 A7.out).mono ?_); (case side1 => exact Kd.R_V (Kd.R_tight rfl (HO522.out))); rintro e w16 ⟨v525, rfl, ho0, hb⟩; have n0_ := A_ (Kd.R_elder' (nR_ HO515) (Kd.R_base ho0) hb); have n1_ := A_ (Kd.R_elder' (nR_ HO519) (Kd.R_base ho0) hb); have n2_ := A_ (Kd.R_elder' (nR_ HO522) (Kd.R_base ho0) hb); have n3_ := A_ (Kd.R_lower (Kd.R_new' (Kd.R_new' (Kd.R_new' (Kd.R_mono (ok' := fun k_ => True) ho0 (fun _ hk_ => trivial)) (Kd.R_lt (nR_ HO515))) (Kd.R_lt (nR_ HO519))) (Kd.R_lt (nR_ HO522))) (below_size hb_)); have n4_ := A_ (below_step hb_ hb); clear HO515 HO519 HO522 HB; have HO515 := n0_; have HO519 := n1_; have HO522 := n2_; have HO526 := n3_; have HB := n4_; clear n0_ n1_ n2_ n3_ n4_; (try clear hb); (try clear hb2); (try clear hk); (try clear hi); (try clear ho0)) | (go_at_call 11; (with_reducible refine (fast_Back.calls k t512 (fun k_ => some k_ = (.slice Ao13 t513.length co13 : Value).ownBlock) _ _ t513 t528 t531 _ ?side1 A8.out).mono ?_); (case side1 => exact Kd.R_V (Kd.R_tight rfl (HO515.out))); rintro e w17 ⟨v529, rfl, ho0, hb⟩; have n0_ := A_ (Kd.R_elder' (nR_ HO515) (Kd.R_base ho0) hb); have n1_ := A_ (Kd.R_elder' (nR_ HO519) (Kd.R_base ho0) hb); have n2_ := A_ (Kd.R_elder' (nR_ HO522) (Kd.R_base ho0) hb); have n3_ := A_ (Kd.R_elder' (nR_ HO526) (Kd.R_base ho0) hb); have n4_ := A_ (Kd.R_lower (Kd.R_new' (Kd.R_new' (Kd.R_new' (Kd.R_new' (Kd.R_mono (ok' := fun k_ => True) ho0 (fun _ hk_ => trivial)) (Kd.R_lt (nR_ HO515))) (Kd.R_lt (nR_ HO519))) (Kd.R_lt (nR_ HO522))) (Kd.R_lt (nR_ HO526))) (below_size hb_)); have n5_ := A_ (below_step hb_ hb); clear HO515 HO519 HO522 HO526 HB; have HO515 := n0_; have HO519 := n1_; have HO522 := n2_; have HO526 := n3_; have HO530 := n4_; have HB := n5_; clear n0_ n1_ n2_ n3_ n4_ n5_; (try clear hb); (try clear hb2); (try clear hk); (try clear hi); (try clear ho0); obtain ⟨Ao18, co18, eo18⟩ := Kd.R_slice HO530.out; subst eo18) | (go_at_call 10; (with_reducible refine (fast_Transform.calls k t512 (fun k_ => some k_ = (.slice Ao18 t528.length co18 : Value).ownBlock) _ _ t528 t532 t535 _ ?side1 A9.out).mono ?_); (case side1 => exact Kd.R_V (Kd.R_tight rfl (HO530.out))); rintro e w19 ⟨v533, rfl, ho0, hb⟩; have n0_ := A_ (Kd.R_elder' (nR_ HO515) (Kd.R_base ho0) hb); have n1_ := A_ (Kd.R_elder' (nR_ HO519) (Kd.R_base ho0) hb); have n2_ := A_ (Kd.R_elder' (nR_ HO522) (Kd.R_base ho0) hb); have n3_ := A_ (Kd.R_elder' (nR_ HO526) (Kd.R_base ho0) hb); have n4_ := A_ (Kd.R_elder' (nR_ HO530) (Kd.R_base ho0) hb); have n5_ := A_ (Kd.R_lower (Kd.R_new' (Kd.R_new' (Kd.R_new' (Kd.R_new' (Kd.R_new' (Kd.R_mono (ok' := fun k_ => True) ho0 (fun _ hk_ => trivial)) (Kd.R_lt (nR_ HO515))) (Kd.R_lt (nR_ HO519))) (Kd.R_lt (nR_ HO522))) (Kd.R_lt (nR_ HO526))) (Kd.R_lt (nR_ HO530))) (below_size hb_)); have n6_ := A_ (below_step hb_ hb); clear HO515 HO519 HO522 HO526 HO530 HB; have HO515 := n0_; have HO519 := n1_; have HO522 := n2_; have HO526 := n3_; have HO530 := n4_; have HO534 := n5_; have HB := n6_; clear n0_ n1_ n2_ n3_ n4_ n5_ n6_; (try clear hb); (try clear hb2); (try clear hk); (try clear hi); (try clear ho0))))
 (try simp only [Act.put, List.setIfInBounds_toArray, List.set_cons_zero, List.set_cons_succ])
 go_cut [87] (fun v87 wc => ∃ (kq : Nat) (x87_9 : Bool), v87 = .bool x87_9 ∧ Aside0 (conclavelaw04_FastBack.j0 kq t512 t513 t517 t520 x87_9 = some r) ∧ Aside0 (kq ≤ k) ∧ Aside0 (Kd.R (Kd.int .u64) 33 wc w.heap.size (fun k_ => some k_ ≠ (v518 : Value).ownBlock ∧ some k_ ≠ ((.slice Ao15 t520.length co15) : Value).ownBlock) (.slice Ao13 t513.length co13) t513) ∧ Aside0 (Kd.R (Kd.int .u64) 33 wc w.heap.size (fun k_ => some k_ ≠ ((.slice Ao13 t513.length co13) : Value).ownBlock ∧ some k_ ≠ ((.slice Ao15 t520.length co15) : Value).ownBlock) v518 t517) ∧ Aside0 (Kd.R (Kd.int .u64) 33 wc w.heap.size (fun k_ => some k_ ≠ ((.slice Ao13 t513.length co13) : Value).ownBlock ∧ some k_ ≠ (v518 : Value).ownBlock) (.slice Ao15 t520.length co15) t520) ∧ Aside0 (Below w.heap.size w wc))
 case first =>
  have H := HC10.out
  clear HC10
  by_cases c20 : t523 = 0
  ·rw [if_pos c20] at H
   have c20b0 : (t523 == 0) = true := beq_iff_eq.mpr c20
   have c20b1 : (t523 != 0) = false := bne_eq_false_iff_eq.mpr c20
   clear c20
   (first | rw [c20b0] | rw [c20b1] | (simp only [i64_w, i32_w]; first | rw [c20b0] | rw [c20b1]) | skip)
   by_cases c21 : t527 = 0
   ·rw [if_pos c21] at H
    have c21b0 : (t527 == 0) = true := beq_iff_eq.mpr c21
    have c21b1 : (t527 != 0) = false := bne_eq_false_iff_eq.mpr c21
    clear c21
    by_cases c22 : t531 = 0
    ·rw [if_pos c22] at H
     have c22b0 : (t531 == 0) = true := beq_iff_eq.mpr c22
     have c22b1 : (t531 != 0) = false := bne_eq_false_iff_eq.mpr c22
     clear c22
     by_cases c23 : t535 = 0
     ·rw [if_pos c23] at H
      have c23b0 : (t535 == 0) = true := beq_iff_eq.mpr c23
      have c23b1 : (t535 != 0) = false := bne_eq_false_iff_eq.mpr c23
      clear c23
      replace H := Option.bind_eq_some_iff.mp H
      obtain ⟨t536, A240, H⟩ := H
      replace H : (if t536 = true then ((cr1_Same.f k t532 t513).bind fun t537 => (conclavelaw04_FastBack.j0 k t512 t513 t517 t520 (!t537))) else (conclavelaw04_FastBack.j0 k t512 t513 t517 t520 true)) = some r := H
      have A24 := Aside0.mk A240
      clear A240
      by_cases c25 : t536 = true
      ·subst c25
       have H1 : ((cr1_Same.f k t532 t513).bind fun t537 => (conclavelaw04_FastBack.j0 k t512 t513 t517 t520 (!t537))) = some r := by rw [if_pos rfl] at H; exact H
       clear H
       have H := H1
       clear H1
       replace H := Option.bind_eq_some_iff.mp H
       obtain ⟨t537, A260, H⟩ := H
       replace H : (conclavelaw04_FastBack.j0 k t512 t513 t517 t520 (!t537)) = some r := H
       have A26 := Aside0.mk A260
       clear A260
       have H' := Aside0.mk H
       clear H
       obtain ⟨Ao27, co27, eo27⟩ := Kd.R_slice HO526.out
       subst eo27
       go_wp2_with (first | (go_at_call 18; (with_reducible refine (cr1_Same.calls k _ _ t524 _ _ t513 true _ ?side1 ?side2 ?side3 ?side4 A24.out).mono ?_); (case side1 => repeat (first | exact (Kd.R_reads' HO526.out).2.2 | (with_reducible refine Kd.C_alloc ?_ _) | (with_reducible refine Kd.C_drewN ?_ _) | (with_reducible refine Kd.C_drew ?_))); (case side2 => exact (Kd.R_reads' HO526.out).2.1); (case side3 => repeat (first | exact (Kd.R_reads' HO515.out).2.2 | (with_reducible refine Kd.C_alloc ?_ _) | (with_reducible refine Kd.C_drewN ?_ _) | (with_reducible refine Kd.C_drew ?_))); (case side4 => exact (Kd.R_reads' HO515.out).2.1); rintro e w' ⟨rfl, ⟨nd, rfl⟩⟩; (try first | exact ⟨rfl, _, World.drewN_drewN _ _ _⟩ | exact ⟨rfl, _, Eq.trans (World.drewN_drewN _ _ _) (congrArg (World.drewN _) (Nat.add_assoc _ _ _))⟩); obtain ⟨Ao28, co28, eo28⟩ := Kd.R_slice HO534.out; subst eo28) | (go_at_call 18; (with_reducible refine (cr1_Same.calls k _ _ t532 _ _ t513 t537 _ ?side1 ?side2 ?side3 ?side4 A26.out).mono ?_); (case side1 => repeat (first | exact (Kd.R_reads' HO534.out).2.2 | (with_reducible refine Kd.C_alloc ?_ _) | (with_reducible refine Kd.C_drewN ?_ _) | (with_reducible refine Kd.C_drew ?_))); (case side2 => exact (Kd.R_reads' HO534.out).2.1); (case side3 => repeat (first | exact (Kd.R_reads' HO515.out).2.2 | (with_reducible refine Kd.C_alloc ?_ _) | (with_reducible refine Kd.C_drewN ?_ _) | (with_reducible refine Kd.C_drew ?_))); (case side4 => exact (Kd.R_reads' HO515.out).2.1); rintro e w' ⟨rfl, ⟨nd, rfl⟩⟩; (try first | exact ⟨rfl, _, World.drewN_drewN _ _ _⟩ | exact ⟨rfl, _, Eq.trans (World.drewN_drewN _ _ _) (congrArg (World.drewN _) (Nat.add_assoc _ _ _))⟩)))
       repeat (go_quiet (first | (go_at_call 18; (with_reducible refine (cr1_Same.calls k _ _ t524 _ _ t513 true _ ?side1 ?side2 ?side3 ?side4 A24.out).mono ?_); (case side1 => repeat (first | exact (Kd.R_reads' HO526.out).2.2 | (with_reducible refine Kd.C_alloc ?_ _) | (with_reducible refine Kd.C_drewN ?_ _) | (with_reducible refine Kd.C_drew ?_))); (case side2 => exact (Kd.R_reads' HO526.out).2.1); (case side3 => repeat (first | exact (Kd.R_reads' HO515.out).2.2 | (with_reducible refine Kd.C_alloc ?_ _) | (with_reducible refine Kd.C_drewN ?_ _) | (with_reducible refine Kd.C_drew ?_))); (case side4 => exact (Kd.R_reads' HO515.out).2.1); rintro e w' ⟨rfl, ⟨nd, rfl⟩⟩; (try first | exact ⟨rfl, _, World.drewN_drewN _ _ _⟩ | exact ⟨rfl, _, Eq.trans (World.drewN_drewN _ _ _) (congrArg (World.drewN _) (Nat.add_assoc _ _ _))⟩); obtain ⟨Ao28, co28, eo28⟩ := Kd.R_slice HO534.out; subst eo28) | (go_at_call 18; (with_reducible refine (cr1_Same.calls k _ _ t532 _ _ t513 t537 _ ?side1 ?side2 ?side3 ?side4 A26.out).mono ?_); (case side1 => repeat (first | exact (Kd.R_reads' HO534.out).2.2 | (with_reducible refine Kd.C_alloc ?_ _) | (with_reducible refine Kd.C_drewN ?_ _) | (with_reducible refine Kd.C_drew ?_))); (case side2 => exact (Kd.R_reads' HO534.out).2.1); (case side3 => repeat (first | exact (Kd.R_reads' HO515.out).2.2 | (with_reducible refine Kd.C_alloc ?_ _) | (with_reducible refine Kd.C_drewN ?_ _) | (with_reducible refine Kd.C_drew ?_))); (case side4 => exact (Kd.R_reads' HO515.out).2.1); rintro e w' ⟨rfl, ⟨nd, rfl⟩⟩; (try first | exact ⟨rfl, _, World.drewN_drewN _ _ _⟩ | exact ⟨rfl, _, Eq.trans (World.drewN_drewN _ _ _) (congrArg (World.drewN _) (Nat.add_assoc _ _ _))⟩))); try go_wp2_with (first | (go_at_call 18; (with_reducible refine (cr1_Same.calls k _ _ t524 _ _ t513 true _ ?side1 ?side2 ?side3 ?side4 A24.out).mono ?_); (case side1 => repeat (first | exact (Kd.R_reads' HO526.out).2.2 | (with_reducible refine Kd.C_alloc ?_ _) | (with_reducible refine Kd.C_drewN ?_ _) | (with_reducible refine Kd.C_drew ?_))); (case side2 => exact (Kd.R_reads' HO526.out).2.1); (case side3 => repeat (first | exact (Kd.R_reads' HO515.out).2.2 | (with_reducible refine Kd.C_alloc ?_ _) | (with_reducible refine Kd.C_drewN ?_ _) | (with_reducible refine Kd.C_drew ?_))); (case side4 => exact (Kd.R_reads' HO515.out).2.1); rintro e w' ⟨rfl, ⟨nd, rfl⟩⟩; (try first | exact ⟨rfl, _, World.drewN_drewN _ _ _⟩ | exact ⟨rfl, _, Eq.trans (World.drewN_drewN _ _ _) (congrArg (World.drewN _) (Nat.add_assoc _ _ _))⟩); obtain ⟨Ao28, co28, eo28⟩ := Kd.R_slice HO534.out; subst eo28) | (go_at_call 18; (with_reducible refine (cr1_Same.calls k _ _ t532 _ _ t513 t537 _ ?side1 ?side2 ?side3 ?side4 A26.out).mono ?_); (case side1 => repeat (first | exact (Kd.R_reads' HO534.out).2.2 | (with_reducible refine Kd.C_alloc ?_ _) | (with_reducible refine Kd.C_drewN ?_ _) | (with_reducible refine Kd.C_drew ?_))); (case side2 => exact (Kd.R_reads' HO534.out).2.1); (case side3 => repeat (first | exact (Kd.R_reads' HO515.out).2.2 | (with_reducible refine Kd.C_alloc ?_ _) | (with_reducible refine Kd.C_drewN ?_ _) | (with_reducible refine Kd.C_drew ?_))); (case side4 => exact (Kd.R_reads' HO515.out).2.1); rintro e w' ⟨rfl, ⟨nd, rfl⟩⟩; (try first | exact ⟨rfl, _, World.drewN_drewN _ _ _⟩ | exact ⟨rfl, _, Eq.trans (World.drewN_drewN _ _ _) (congrArg (World.drewN _) (Nat.add_assoc _ _ _))⟩))))
       go_meet
       case rel => exact ⟨_, (!t537), (fs_), H', ⟨fo_⟩, ⟨by (with_reducible repeat (first | apply Kd.R_alloc | apply Kd.R_drewN | apply Kd.R_drew)); exact Kd.R_mono HO515.out (fun _ hk => ⟨hk.1.1.1.1.2, hk.1.1.1.2⟩)⟩, ⟨by (with_reducible repeat (first | apply Kd.R_alloc | apply Kd.R_drewN | apply Kd.R_drew)); exact Kd.R_mono HO519.out (fun _ hk => ⟨hk.1.1.1.1.2, hk.1.1.1.2⟩)⟩, ⟨by (with_reducible repeat (first | apply Kd.R_alloc | apply Kd.R_drewN | apply Kd.R_drew)); exact Kd.R_mono HO522.out (fun _ hk => ⟨hk.1.1.1.1.2, hk.1.1.1.2⟩)⟩, ⟨by repeat (first | (with_reducible first | exact HB.out | apply below_alloc | apply pw_below_drewN | apply below_drew1) | exact HB.out)⟩⟩
      ·replace c25 := Bool.eq_false_iff.mpr c25
       subst c25
       have H1 : (conclavelaw04_FastBack.j0 k t512 t513 t517 t520 true) = some r := by rw [if_neg (show ¬ (false = true) by decide)] at H; exact H
       clear H
       have H := H1
       clear H1
       have H' := Aside0.mk H
       clear H
       obtain ⟨Ao29, co29, eo29⟩ := Kd.R_slice HO526.out
       subst eo29
       go_wp2_with (first | (go_at_call 18; (with_reducible refine (cr1_Same.calls k _ _ t524 _ _ t513 false _ ?side1 ?side2 ?side3 ?side4 A24.out).mono ?_); (case side1 => repeat (first | exact (Kd.R_reads' HO526.out).2.2 | (with_reducible refine Kd.C_alloc ?_ _) | (with_reducible refine Kd.C_drewN ?_ _) | (with_reducible refine Kd.C_drew ?_))); (case side2 => exact (Kd.R_reads' HO526.out).2.1); (case side3 => repeat (first | exact (Kd.R_reads' HO515.out).2.2 | (with_reducible refine Kd.C_alloc ?_ _) | (with_reducible refine Kd.C_drewN ?_ _) | (with_reducible refine Kd.C_drew ?_))); (case side4 => exact (Kd.R_reads' HO515.out).2.1); rintro e w' ⟨rfl, ⟨nd, rfl⟩⟩; (try first | exact ⟨rfl, _, World.drewN_drewN _ _ _⟩ | exact ⟨rfl, _, Eq.trans (World.drewN_drewN _ _ _) (congrArg (World.drewN _) (Nat.add_assoc _ _ _))⟩)))
       repeat (go_quiet (first | (go_at_call 18; (with_reducible refine (cr1_Same.calls k _ _ t524 _ _ t513 false _ ?side1 ?side2 ?side3 ?side4 A24.out).mono ?_); (case side1 => repeat (first | exact (Kd.R_reads' HO526.out).2.2 | (with_reducible refine Kd.C_alloc ?_ _) | (with_reducible refine Kd.C_drewN ?_ _) | (with_reducible refine Kd.C_drew ?_))); (case side2 => exact (Kd.R_reads' HO526.out).2.1); (case side3 => repeat (first | exact (Kd.R_reads' HO515.out).2.2 | (with_reducible refine Kd.C_alloc ?_ _) | (with_reducible refine Kd.C_drewN ?_ _) | (with_reducible refine Kd.C_drew ?_))); (case side4 => exact (Kd.R_reads' HO515.out).2.1); rintro e w' ⟨rfl, ⟨nd, rfl⟩⟩; (try first | exact ⟨rfl, _, World.drewN_drewN _ _ _⟩ | exact ⟨rfl, _, Eq.trans (World.drewN_drewN _ _ _) (congrArg (World.drewN _) (Nat.add_assoc _ _ _))⟩))); try go_wp2_with (first | (go_at_call 18; (with_reducible refine (cr1_Same.calls k _ _ t524 _ _ t513 false _ ?side1 ?side2 ?side3 ?side4 A24.out).mono ?_); (case side1 => repeat (first | exact (Kd.R_reads' HO526.out).2.2 | (with_reducible refine Kd.C_alloc ?_ _) | (with_reducible refine Kd.C_drewN ?_ _) | (with_reducible refine Kd.C_drew ?_))); (case side2 => exact (Kd.R_reads' HO526.out).2.1); (case side3 => repeat (first | exact (Kd.R_reads' HO515.out).2.2 | (with_reducible refine Kd.C_alloc ?_ _) | (with_reducible refine Kd.C_drewN ?_ _) | (with_reducible refine Kd.C_drew ?_))); (case side4 => exact (Kd.R_reads' HO515.out).2.1); rintro e w' ⟨rfl, ⟨nd, rfl⟩⟩; (try first | exact ⟨rfl, _, World.drewN_drewN _ _ _⟩ | exact ⟨rfl, _, Eq.trans (World.drewN_drewN _ _ _) (congrArg (World.drewN _) (Nat.add_assoc _ _ _))⟩))))
       go_meet
       case rel => exact ⟨_, (true), (fs_), H', ⟨fo_⟩, ⟨by (with_reducible repeat (first | apply Kd.R_alloc | apply Kd.R_drewN | apply Kd.R_drew)); exact Kd.R_mono HO515.out (fun _ hk => ⟨hk.1.1.1.1.2, hk.1.1.1.2⟩)⟩, ⟨by (with_reducible repeat (first | apply Kd.R_alloc | apply Kd.R_drewN | apply Kd.R_drew)); exact Kd.R_mono HO519.out (fun _ hk => ⟨hk.1.1.1.1.2, hk.1.1.1.2⟩)⟩, ⟨by (with_reducible repeat (first | apply Kd.R_alloc | apply Kd.R_drewN | apply Kd.R_drew)); exact Kd.R_mono HO522.out (fun _ hk => ⟨hk.1.1.1.1.2, hk.1.1.1.2⟩)⟩, ⟨by repeat (first | (with_reducible first | exact HB.out | apply below_alloc | apply pw_below_drewN | apply below_drew1) | exact HB.out)⟩⟩
     ·rw [if_neg c23] at H
      have c23b0 : (t535 == 0) = false := beq_eq_false_iff_ne.mpr c23
      have c23b1 : (t535 != 0) = true := bne_iff_ne.mpr c23
      have H' := Aside0.mk H
      clear H
      go_wp2
      repeat (go_quiet (fail); try go_wp2)
      go_meet
      case rel => exact ⟨_, (true), (fs_), H', ⟨fo_⟩, ⟨by (with_reducible repeat (first | apply Kd.R_alloc | apply Kd.R_drewN | apply Kd.R_drew)); exact Kd.R_mono HO515.out (fun _ hk => ⟨hk.1.1.1.1.2, hk.1.1.1.2⟩)⟩, ⟨by (with_reducible repeat (first | apply Kd.R_alloc | apply Kd.R_drewN | apply Kd.R_drew)); exact Kd.R_mono HO519.out (fun _ hk => ⟨hk.1.1.1.1.2, hk.1.1.1.2⟩)⟩, ⟨by (with_reducible repeat (first | apply Kd.R_alloc | apply Kd.R_drewN | apply Kd.R_drew)); exact Kd.R_mono HO522.out (fun _ hk => ⟨hk.1.1.1.1.2, hk.1.1.1.2⟩)⟩, ⟨by repeat (first | (with_reducible first | exact HB.out | apply below_alloc | apply pw_below_drewN | apply below_drew1) | exact HB.out)⟩⟩
    ·rw [if_neg c22] at H
     have c22b0 : (t531 == 0) = false := beq_eq_false_iff_ne.mpr c22
     have c22b1 : (t531 != 0) = true := bne_iff_ne.mpr c22
     have H' := Aside0.mk H
     clear H
     go_wp2
     repeat (go_quiet (fail); try go_wp2)
     go_meet
     case rel => exact ⟨_, (true), (fs_), H', ⟨fo_⟩, ⟨by (with_reducible repeat (first | apply Kd.R_alloc | apply Kd.R_drewN | apply Kd.R_drew)); exact Kd.R_mono HO515.out (fun _ hk => ⟨hk.1.1.1.1.2, hk.1.1.1.2⟩)⟩, ⟨by (with_reducible repeat (first | apply Kd.R_alloc | apply Kd.R_drewN | apply Kd.R_drew)); exact Kd.R_mono HO519.out (fun _ hk => ⟨hk.1.1.1.1.2, hk.1.1.1.2⟩)⟩, ⟨by (with_reducible repeat (first | apply Kd.R_alloc | apply Kd.R_drewN | apply Kd.R_drew)); exact Kd.R_mono HO522.out (fun _ hk => ⟨hk.1.1.1.1.2, hk.1.1.1.2⟩)⟩, ⟨by repeat (first | (with_reducible first | exact HB.out | apply below_alloc | apply pw_below_drewN | apply below_drew1) | exact HB.out)⟩⟩
   ·rw [if_neg c21] at H
    have c21b0 : (t527 == 0) = false := beq_eq_false_iff_ne.mpr c21
    have c21b1 : (t527 != 0) = true := bne_iff_ne.mpr c21
    have H' := Aside0.mk H
    clear H
    go_wp2
    repeat (go_quiet (fail); try go_wp2)
    go_meet
    case rel => exact ⟨_, (true), (fs_), H', ⟨fo_⟩, ⟨by (with_reducible repeat (first | apply Kd.R_alloc | apply Kd.R_drewN | apply Kd.R_drew)); exact Kd.R_mono HO515.out (fun _ hk => ⟨hk.1.1.1.1.2, hk.1.1.1.2⟩)⟩, ⟨by (with_reducible repeat (first | apply Kd.R_alloc | apply Kd.R_drewN | apply Kd.R_drew)); exact Kd.R_mono HO519.out (fun _ hk => ⟨hk.1.1.1.1.2, hk.1.1.1.2⟩)⟩, ⟨by (with_reducible repeat (first | apply Kd.R_alloc | apply Kd.R_drewN | apply Kd.R_drew)); exact Kd.R_mono HO522.out (fun _ hk => ⟨hk.1.1.1.1.2, hk.1.1.1.2⟩)⟩, ⟨by repeat (first | (with_reducible first | exact HB.out | apply below_alloc | apply pw_below_drewN | apply below_drew1) | exact HB.out)⟩⟩
  ·rw [if_neg c20] at H
   have c20b0 : (t523 == 0) = false := beq_eq_false_iff_ne.mpr c20
   have c20b1 : (t523 != 0) = true := bne_iff_ne.mpr c20
   (first | rw [c20b0] | rw [c20b1] | (simp only [i64_w, i32_w]; first | rw [c20b0] | rw [c20b1]) | skip)
   have H' := Aside0.mk H
   clear H
   go_wp2
   repeat (go_quiet (fail); try go_wp2)
   go_meet
   case rel => exact ⟨_, (true), (fs_), H', ⟨fo_⟩, ⟨by (with_reducible repeat (first | apply Kd.R_alloc | apply Kd.R_drewN | apply Kd.R_drew)); exact Kd.R_mono HO515.out (fun _ hk => ⟨hk.1.1.1.1.2, hk.1.1.1.2⟩)⟩, ⟨by (with_reducible repeat (first | apply Kd.R_alloc | apply Kd.R_drewN | apply Kd.R_drew)); exact Kd.R_mono HO519.out (fun _ hk => ⟨hk.1.1.1.1.2, hk.1.1.1.2⟩)⟩, ⟨by (with_reducible repeat (first | apply Kd.R_alloc | apply Kd.R_drewN | apply Kd.R_drew)); exact Kd.R_mono HO522.out (fun _ hk => ⟨hk.1.1.1.1.2, hk.1.1.1.2⟩)⟩, ⟨by repeat (first | (with_reducible first | exact HB.out | apply below_alloc | apply pw_below_drewN | apply below_drew1) | exact HB.out)⟩⟩
 case rest =>
  clear HC10
  try clear c1
  try clear c2
  try clear p2
  try clear c6
  try clear c20
  try clear c20b0
  try clear c20b1
  try clear c21
  try clear c21b0
  try clear c21b1
  try clear c22
  try clear c22b0
  try clear c22b1
  try clear c23
  try clear c23b0
  try clear c23b1
  try clear c25
  obtain ⟨kq, x87_9, rfl, HA, HJ9, HO_8, HO_10, HO_11, HB⟩ := hcut
  cases kq with
  | zero => exact absurd HA.out (by simp [conclavelaw04_FastBack.j0])
  | succ kj9 =>
   have H := HA.out
   clear HA
   simp only [conclavelaw04_FastBack.j0] at H
   by_cases c30 : x87_9 = true
   ·subst c30
    have H1 : (none) = some r := by rw [if_pos rfl] at H; exact H
    clear H
    have H := H1
    clear H1
    exact absurd H (by simp)
   ·replace c30 := Bool.eq_false_iff.mpr c30
    subst c30
    have H1 : (if (t513.length : Int) = (t517.length : Int) then ((fast_Transform.f kj9 t512 t517).bind fun bt539 => ((fast_Round.f kj9 t512 t513 t517).bind fun bt543 => ((fast_Transform.f kj9 t512 bt543.1).bind fun bt547 => (if bt539.2 = 0 then (if bt543.2 = 0 then (if bt547.2 = 0 then (if (bt547.1.length : Int) = (t513.length : Int) then (if (bt539.1.length : Int) = (t513.length : Int) then (conclavelaw04_FastBack.j1 kj9 t512 t520 bt539.1 bt547.1 ((t520.length : Int) != (t513.length : Int))) else (conclavelaw04_FastBack.j1 kj9 t512 t520 bt539.1 bt547.1 true)) else (conclavelaw04_FastBack.j1 kj9 t512 t520 bt539.1 bt547.1 true)) else (conclavelaw04_FastBack.j1 kj9 t512 t520 bt539.1 bt547.1 true)) else (conclavelaw04_FastBack.j1 kj9 t512 t520 bt539.1 bt547.1 true)) else (conclavelaw04_FastBack.j1 kj9 t512 t520 bt539.1 bt547.1 true))))) else ((conclavelaw04_anchored.f kj9).bind fun t538 => (some t538))) = some r := by rw [if_neg (show ¬ (false = true) by decide)] at H; exact H
    clear H
    have H := H1
    clear H1
    by_cases c31 : (t513.length : Int) = (t517.length : Int)
    ·rw [if_pos c31] at H
     have c31b0 : ((t513.length : Int) == (t517.length : Int)) = true := beq_iff_eq.mpr c31
     have c31b1 : ((t513.length : Int) != (t517.length : Int)) = false := bne_eq_false_iff_eq.mpr c31
     have c31b2 : (t513.length == t517.length) = true := by first | simpa using c31 | (simp at c31 ⊢; omega)
     clear c31
     replace H := Option.bind_eq_some_iff.mp H
     obtain ⟨⟨t539, t542⟩, A320, H⟩ := H
     (try dsimp only at H)
     have A32 := Aside0.mk A320
     clear A320
     replace H := Option.bind_eq_some_iff.mp H
     obtain ⟨⟨t543, t546⟩, A330, H⟩ := H
     (try dsimp only at H)
     have A33 := Aside0.mk A330
     clear A330
     replace H := Option.bind_eq_some_iff.mp H
     obtain ⟨⟨t547, t550⟩, A340, H⟩ := H
     (try dsimp only at H)
     have A34 := Aside0.mk A340
     clear A340
     have HC35 := Aside0.mk H
     clear H
     obtain ⟨Ao36, co36, eo36⟩ := Kd.R_slice HO_10.out
     subst eo36
     go_upto_region 14 with (first | (go_at_call 10; (with_reducible refine (fast_Transform.calls kj9 t512 (fun k_ => some k_ = (.slice Ao36 t517.length co36 : Value).ownBlock) _ _ t517 t539 t542 _ ?side1 A32.out).mono ?_); (case side1 => exact Kd.R_V (Kd.R_tight rfl (HO_10.out))); rintro e w37 ⟨v540, rfl, ho0, hb⟩; have n0_ := A_ (Kd.R_elder' (nR_ HO_8) (Kd.R_base ho0) hb); have n1_ := A_ (Kd.R_elder' (nR_ HO_10) (Kd.R_base ho0) hb); have n2_ := A_ (Kd.R_elder' (nR_ HO_11) (Kd.R_base ho0) hb); have n3_ := A_ (Kd.R_lower (Kd.R_new' (Kd.R_new' (Kd.R_new' (Kd.R_mono (ok' := fun k_ => True) ho0 (fun _ hk_ => trivial)) (Kd.R_lt (nR_ HO_8))) (Kd.R_lt (nR_ HO_10))) (Kd.R_lt (nR_ HO_11))) (below_size hb_)); have n4_ := A_ (below_step hb_ hb); clear HO_8 HO_10 HO_11 HB; have HO_8 := n0_; have HO_10 := n1_; have HO_11 := n2_; have HO541 := n3_; have HB := n4_; clear n0_ n1_ n2_ n3_ n4_; (try clear hb); (try clear hb2); (try clear hk); (try clear hi); (try clear ho0)) | (go_at_call 14; (with_reducible refine (fast_Round.calls kj9 t512 (fun k_ => some k_ = (.slice Ao13 t513.length co13 : Value).ownBlock) _ _ t513 (fun k_ => some k_ = (.slice Ao36 t517.length co36 : Value).ownBlock) _ _ t517 t543 t546 _ ?side1 ?side2 A33.out).mono ?_); (case side1 => exact Kd.R_V (Kd.R_tight rfl (HO_8.out))); (case side2 => exact Kd.R_V (Kd.R_tight rfl (HO_10.out))); rintro e w38 ⟨v544, rfl, ho0, hb⟩; have n0_ := A_ (Kd.R_elder' (nR_ HO_8) (Kd.R_base ho0) hb); have n1_ := A_ (Kd.R_elder' (nR_ HO_10) (Kd.R_base ho0) hb); have n2_ := A_ (Kd.R_elder' (nR_ HO_11) (Kd.R_base ho0) hb); have n3_ := A_ (Kd.R_elder' (nR_ HO541) (Kd.R_base ho0) hb); have n4_ := A_ (Kd.R_lower (Kd.R_new' (Kd.R_new' (Kd.R_new' (Kd.R_new' (Kd.R_mono (ok' := fun k_ => True) ho0 (fun _ hk_ => trivial)) (Kd.R_lt (nR_ HO_8))) (Kd.R_lt (nR_ HO_10))) (Kd.R_lt (nR_ HO_11))) (Kd.R_lt (nR_ HO541))) (below_size hb_)); have n5_ := A_ (below_step hb_ hb); clear HO_8 HO_10 HO_11 HO541 HB; have HO_8 := n0_; have HO_10 := n1_; have HO_11 := n2_; have HO541 := n3_; have HO545 := n4_; have HB := n5_; clear n0_ n1_ n2_ n3_ n4_ n5_; (try clear hb); (try clear hb2); (try clear hk); (try clear hi); (try clear ho0); obtain ⟨Ao39, co39, eo39⟩ := Kd.R_slice HO545.out; subst eo39) | (go_at_call 10; (with_reducible refine (fast_Transform.calls kj9 t512 (fun k_ => some k_ = (.slice Ao39 t543.length co39 : Value).ownBlock) _ _ t543 t547 t550 _ ?side1 A34.out).mono ?_); (case side1 => exact Kd.R_V (Kd.R_tight rfl (HO545.out))); rintro e w40 ⟨v548, rfl, ho0, hb⟩; have n0_ := A_ (Kd.R_elder' (nR_ HO_8) (Kd.R_base ho0) hb); have n1_ := A_ (Kd.R_elder' (nR_ HO_10) (Kd.R_base ho0) hb); have n2_ := A_ (Kd.R_elder' (nR_ HO_11) (Kd.R_base ho0) hb); have n3_ := A_ (Kd.R_elder' (nR_ HO541) (Kd.R_base ho0) hb); have n4_ := A_ (Kd.R_elder' (nR_ HO545) (Kd.R_base ho0) hb); have n5_ := A_ (Kd.R_lower (Kd.R_new' (Kd.R_new' (Kd.R_new' (Kd.R_new' (Kd.R_new' (Kd.R_mono (ok' := fun k_ => True) ho0 (fun _ hk_ => trivial)) (Kd.R_lt (nR_ HO_8))) (Kd.R_lt (nR_ HO_10))) (Kd.R_lt (nR_ HO_11))) (Kd.R_lt (nR_ HO541))) (Kd.R_lt (nR_ HO545))) (below_size hb_)); have n6_ := A_ (below_step hb_ hb); clear HO_8 HO_10 HO_11 HO541 HO545 HB; have HO_8 := n0_; have HO_10 := n1_; have HO_11 := n2_; have HO541 := n3_; have HO545 := n4_; have HO549 := n5_; have HB := n6_; clear n0_ n1_ n2_ n3_ n4_ n5_ n6_; (try clear hb); (try clear hb2); (try clear hk); (try clear hi); (try clear ho0)))
     repeat (go_quiet (first | (go_at_call 10; (with_reducible refine (fast_Transform.calls kj9 t512 (fun k_ => some k_ = (.slice Ao36 t517.length co36 : Value).ownBlock) _ _ t517 t539 t542 _ ?side1 A32.out).mono ?_); (case side1 => exact Kd.R_V (Kd.R_tight rfl (HO_10.out))); rintro e w37 ⟨v540, rfl, ho0, hb⟩; have n0_ := A_ (Kd.R_elder' (nR_ HO_8) (Kd.R_base ho0) hb); have n1_ := A_ (Kd.R_elder' (nR_ HO_10) (Kd.R_base ho0) hb); have n2_ := A_ (Kd.R_elder' (nR_ HO_11) (Kd.R_base ho0) hb); have n3_ := A_ (Kd.R_lower (Kd.R_new' (Kd.R_new' (Kd.R_new' (Kd.R_mono (ok' := fun k_ => True) ho0 (fun _ hk_ => trivial)) (Kd.R_lt (nR_ HO_8))) (Kd.R_lt (nR_ HO_10))) (Kd.R_lt (nR_ HO_11))) (below_size hb_)); have n4_ := A_ (below_step hb_ hb); clear HO_8 HO_10 HO_11 HB; have HO_8 := n0_; have HO_10 := n1_; have HO_11 := n2_; have HO541 := n3_; have HB := n4_; clear n0_ n1_ n2_ n3_ n4_; (try clear hb); (try clear hb2); (try clear hk); (try clear hi); (try clear ho0)) | (go_at_call 14; (with_reducible refine (fast_Round.calls kj9 t512 (fun k_ => some k_ = (.slice Ao13 t513.length co13 : Value).ownBlock) _ _ t513 (fun k_ => some k_ = (.slice Ao36 t517.length co36 : Value).ownBlock) _ _ t517 t543 t546 _ ?side1 ?side2 A33.out).mono ?_); (case side1 => exact Kd.R_V (Kd.R_tight rfl (HO_8.out))); (case side2 => exact Kd.R_V (Kd.R_tight rfl (HO_10.out))); rintro e w38 ⟨v544, rfl, ho0, hb⟩; have n0_ := A_ (Kd.R_elder' (nR_ HO_8) (Kd.R_base ho0) hb); have n1_ := A_ (Kd.R_elder' (nR_ HO_10) (Kd.R_base ho0) hb); have n2_ := A_ (Kd.R_elder' (nR_ HO_11) (Kd.R_base ho0) hb); have n3_ := A_ (Kd.R_elder' (nR_ HO541) (Kd.R_base ho0) hb); have n4_ := A_ (Kd.R_lower (Kd.R_new' (Kd.R_new' (Kd.R_new' (Kd.R_new' (Kd.R_mono (ok' := fun k_ => True) ho0 (fun _ hk_ => trivial)) (Kd.R_lt (nR_ HO_8))) (Kd.R_lt (nR_ HO_10))) (Kd.R_lt (nR_ HO_11))) (Kd.R_lt (nR_ HO541))) (below_size hb_)); have n5_ := A_ (below_step hb_ hb); clear HO_8 HO_10 HO_11 HO541 HB; have HO_8 := n0_; have HO_10 := n1_; have HO_11 := n2_; have HO541 := n3_; have HO545 := n4_; have HB := n5_; clear n0_ n1_ n2_ n3_ n4_ n5_; (try clear hb); (try clear hb2); (try clear hk); (try clear hi); (try clear ho0); obtain ⟨Ao39, co39, eo39⟩ := Kd.R_slice HO545.out; subst eo39) | (go_at_call 10; (with_reducible refine (fast_Transform.calls kj9 t512 (fun k_ => some k_ = (.slice Ao39 t543.length co39 : Value).ownBlock) _ _ t543 t547 t550 _ ?side1 A34.out).mono ?_); (case side1 => exact Kd.R_V (Kd.R_tight rfl (HO545.out))); rintro e w40 ⟨v548, rfl, ho0, hb⟩; have n0_ := A_ (Kd.R_elder' (nR_ HO_8) (Kd.R_base ho0) hb); have n1_ := A_ (Kd.R_elder' (nR_ HO_10) (Kd.R_base ho0) hb); have n2_ := A_ (Kd.R_elder' (nR_ HO_11) (Kd.R_base ho0) hb); have n3_ := A_ (Kd.R_elder' (nR_ HO541) (Kd.R_base ho0) hb); have n4_ := A_ (Kd.R_elder' (nR_ HO545) (Kd.R_base ho0) hb); have n5_ := A_ (Kd.R_lower (Kd.R_new' (Kd.R_new' (Kd.R_new' (Kd.R_new' (Kd.R_new' (Kd.R_mono (ok' := fun k_ => True) ho0 (fun _ hk_ => trivial)) (Kd.R_lt (nR_ HO_8))) (Kd.R_lt (nR_ HO_10))) (Kd.R_lt (nR_ HO_11))) (Kd.R_lt (nR_ HO541))) (Kd.R_lt (nR_ HO545))) (below_size hb_)); have n6_ := A_ (below_step hb_ hb); clear HO_8 HO_10 HO_11 HO541 HO545 HB; have HO_8 := n0_; have HO_10 := n1_; have HO_11 := n2_; have HO541 := n3_; have HO545 := n4_; have HO549 := n5_; have HB := n6_; clear n0_ n1_ n2_ n3_ n4_ n5_ n6_; (try clear hb); (try clear hb2); (try clear hk); (try clear hi); (try clear ho0))); go_upto_region 14 with (first | (go_at_call 10; (with_reducible refine (fast_Transform.calls kj9 t512 (fun k_ => some k_ = (.slice Ao36 t517.length co36 : Value).ownBlock) _ _ t517 t539 t542 _ ?side1 A32.out).mono ?_); (case side1 => exact Kd.R_V (Kd.R_tight rfl (HO_10.out))); rintro e w37 ⟨v540, rfl, ho0, hb⟩; have n0_ := A_ (Kd.R_elder' (nR_ HO_8) (Kd.R_base ho0) hb); have n1_ := A_ (Kd.R_elder' (nR_ HO_10) (Kd.R_base ho0) hb); have n2_ := A_ (Kd.R_elder' (nR_ HO_11) (Kd.R_base ho0) hb); have n3_ := A_ (Kd.R_lower (Kd.R_new' (Kd.R_new' (Kd.R_new' (Kd.R_mono (ok' := fun k_ => True) ho0 (fun _ hk_ => trivial)) (Kd.R_lt (nR_ HO_8))) (Kd.R_lt (nR_ HO_10))) (Kd.R_lt (nR_ HO_11))) (below_size hb_)); have n4_ := A_ (below_step hb_ hb); clear HO_8 HO_10 HO_11 HB; have HO_8 := n0_; have HO_10 := n1_; have HO_11 := n2_; have HO541 := n3_; have HB := n4_; clear n0_ n1_ n2_ n3_ n4_; (try clear hb); (try clear hb2); (try clear hk); (try clear hi); (try clear ho0)) | (go_at_call 14; (with_reducible refine (fast_Round.calls kj9 t512 (fun k_ => some k_ = (.slice Ao13 t513.length co13 : Value).ownBlock) _ _ t513 (fun k_ => some k_ = (.slice Ao36 t517.length co36 : Value).ownBlock) _ _ t517 t543 t546 _ ?side1 ?side2 A33.out).mono ?_); (case side1 => exact Kd.R_V (Kd.R_tight rfl (HO_8.out))); (case side2 => exact Kd.R_V (Kd.R_tight rfl (HO_10.out))); rintro e w38 ⟨v544, rfl, ho0, hb⟩; have n0_ := A_ (Kd.R_elder' (nR_ HO_8) (Kd.R_base ho0) hb); have n1_ := A_ (Kd.R_elder' (nR_ HO_10) (Kd.R_base ho0) hb); have n2_ := A_ (Kd.R_elder' (nR_ HO_11) (Kd.R_base ho0) hb); have n3_ := A_ (Kd.R_elder' (nR_ HO541) (Kd.R_base ho0) hb); have n4_ := A_ (Kd.R_lower (Kd.R_new' (Kd.R_new' (Kd.R_new' (Kd.R_new' (Kd.R_mono (ok' := fun k_ => True) ho0 (fun _ hk_ => trivial)) (Kd.R_lt (nR_ HO_8))) (Kd.R_lt (nR_ HO_10))) (Kd.R_lt (nR_ HO_11))) (Kd.R_lt (nR_ HO541))) (below_size hb_)); have n5_ := A_ (below_step hb_ hb); clear HO_8 HO_10 HO_11 HO541 HB; have HO_8 := n0_; have HO_10 := n1_; have HO_11 := n2_; have HO541 := n3_; have HO545 := n4_; have HB := n5_; clear n0_ n1_ n2_ n3_ n4_ n5_; (try clear hb); (try clear hb2); (try clear hk); (try clear hi); (try clear ho0); obtain ⟨Ao39, co39, eo39⟩ := Kd.R_slice HO545.out; subst eo39) | (go_at_call 10; (with_reducible refine (fast_Transform.calls kj9 t512 (fun k_ => some k_ = (.slice Ao39 t543.length co39 : Value).ownBlock) _ _ t543 t547 t550 _ ?side1 A34.out).mono ?_); (case side1 => exact Kd.R_V (Kd.R_tight rfl (HO545.out))); rintro e w40 ⟨v548, rfl, ho0, hb⟩; have n0_ := A_ (Kd.R_elder' (nR_ HO_8) (Kd.R_base ho0) hb); have n1_ := A_ (Kd.R_elder' (nR_ HO_10) (Kd.R_base ho0) hb); have n2_ := A_ (Kd.R_elder' (nR_ HO_11) (Kd.R_base ho0) hb); have n3_ := A_ (Kd.R_elder' (nR_ HO541) (Kd.R_base ho0) hb); have n4_ := A_ (Kd.R_elder' (nR_ HO545) (Kd.R_base ho0) hb); have n5_ := A_ (Kd.R_lower (Kd.R_new' (Kd.R_new' (Kd.R_new' (Kd.R_new' (Kd.R_new' (Kd.R_mono (ok' := fun k_ => True) ho0 (fun _ hk_ => trivial)) (Kd.R_lt (nR_ HO_8))) (Kd.R_lt (nR_ HO_10))) (Kd.R_lt (nR_ HO_11))) (Kd.R_lt (nR_ HO541))) (Kd.R_lt (nR_ HO545))) (below_size hb_)); have n6_ := A_ (below_step hb_ hb); clear HO_8 HO_10 HO_11 HO541 HO545 HB; have HO_8 := n0_; have HO_10 := n1_; have HO_11 := n2_; have HO541 := n3_; have HO545 := n4_; have HO549 := n5_; have HB := n6_; clear n0_ n1_ n2_ n3_ n4_ n5_ n6_; (try clear hb); (try clear hb2); (try clear hk); (try clear hi); (try clear ho0))))
     (try simp only [Act.put, List.setIfInBounds_toArray, List.set_cons_zero, List.set_cons_succ])
     go_cut [143] (fun v143 wc => ∃ (kq : Nat) (x143_34 : Bool), v143 = .bool x143_34 ∧ Aside0 (conclavelaw04_FastBack.j1 kq t512 t520 t539 t547 x143_34 = some r) ∧ Aside0 (kq ≤ kj9) ∧ Aside0 (Kd.R (Kd.int .u64) 33 wc w.heap.size (fun k_ => some k_ ≠ (v540 : Value).ownBlock ∧ some k_ ≠ (v548 : Value).ownBlock) (.slice Ao15 t520.length co15) t520) ∧ Aside0 (Kd.R (Kd.int .u64) 33 wc w.heap.size (fun k_ => some k_ ≠ ((.slice Ao15 t520.length co15) : Value).ownBlock ∧ some k_ ≠ (v548 : Value).ownBlock) v540 t539) ∧ Aside0 (Kd.R (Kd.int .u64) 33 wc w.heap.size (fun k_ => some k_ ≠ ((.slice Ao15 t520.length co15) : Value).ownBlock ∧ some k_ ≠ (v540 : Value).ownBlock) v548 t547) ∧ Aside0 (Below w.heap.size w wc))
     case first =>
      have H := HC35.out
      clear HC35
      by_cases c41 : t542 = 0
      ·rw [if_pos c41] at H
       have c41b0 : (t542 == 0) = true := beq_iff_eq.mpr c41
       have c41b1 : (t542 != 0) = false := bne_eq_false_iff_eq.mpr c41
       clear c41
       (first | rw [c41b0] | rw [c41b1] | (simp only [i64_w, i32_w]; first | rw [c41b0] | rw [c41b1]) | skip)
       by_cases c42 : t546 = 0
       ·rw [if_pos c42] at H
        have c42b0 : (t546 == 0) = true := beq_iff_eq.mpr c42
        have c42b1 : (t546 != 0) = false := bne_eq_false_iff_eq.mpr c42
        clear c42
        by_cases c43 : t550 = 0
        ·rw [if_pos c43] at H
         have c43b0 : (t550 == 0) = true := beq_iff_eq.mpr c43
         have c43b1 : (t550 != 0) = false := bne_eq_false_iff_eq.mpr c43
         clear c43
         by_cases c44 : (t547.length : Int) = (t513.length : Int)
         ·rw [if_pos c44] at H
          have c44b0 : ((t547.length : Int) == (t513.length : Int)) = true := beq_iff_eq.mpr c44
          have c44b1 : ((t547.length : Int) != (t513.length : Int)) = false := bne_eq_false_iff_eq.mpr c44
          have c44b2 : (t547.length == t513.length) = true := by first | simpa using c44 | (simp at c44 ⊢; omega)
          clear c44
          by_cases c45 : (t539.length : Int) = (t513.length : Int)
          ·rw [if_pos c45] at H
           have c45b0 : ((t539.length : Int) == (t513.length : Int)) = true := beq_iff_eq.mpr c45
           have c45b1 : ((t539.length : Int) != (t513.length : Int)) = false := bne_eq_false_iff_eq.mpr c45
           have c45b2 : (t539.length == t513.length) = true := by first | simpa using c45 | (simp at c45 ⊢; omega)
           clear c45
           have H' := Aside0.mk H
           clear H
           obtain ⟨Ao46, co46, eo46⟩ := Kd.R_slice HO549.out
           subst eo46
           obtain ⟨Ao47, co47, eo47⟩ := Kd.R_slice HO541.out
           subst eo47
           go_wp2
           repeat (go_quiet (fail); try go_wp2)
           go_meet
           case rel => exact ⟨_, (((t520.length : Int) != (t513.length : Int))), (fs_), H', ⟨by have := HJ9.out; first | omega | exact Nat.le_refl _⟩, ⟨by (with_reducible repeat (first | apply Kd.R_alloc | apply Kd.R_drewN | apply Kd.R_drew)); exact Kd.R_mono HO_11.out (fun _ hk => ⟨hk.1.1.2, hk.2⟩)⟩, ⟨by (with_reducible repeat (first | apply Kd.R_alloc | apply Kd.R_drewN | apply Kd.R_drew)); exact Kd.R_mono HO541.out (fun _ hk => ⟨hk.1.1.2, hk.2⟩)⟩, ⟨by (with_reducible repeat (first | apply Kd.R_alloc | apply Kd.R_drewN | apply Kd.R_drew)); exact Kd.R_mono HO549.out (fun _ hk => ⟨hk.1.1.2, hk.1.2⟩)⟩, ⟨by repeat (first | (with_reducible first | exact HB.out | apply below_alloc | apply pw_below_drewN | apply below_drew1) | exact HB.out)⟩⟩
          ·rw [if_neg c45] at H
           have c45b0 : ((t539.length : Int) == (t513.length : Int)) = false := beq_eq_false_iff_ne.mpr c45
           have c45b1 : ((t539.length : Int) != (t513.length : Int)) = true := bne_iff_ne.mpr c45
           have c45b2 : (t539.length == t513.length) = false := by first | simpa using c45 | (simp at c45 ⊢; omega)
           have H' := Aside0.mk H
           clear H
           obtain ⟨Ao48, co48, eo48⟩ := Kd.R_slice HO549.out
           subst eo48
           obtain ⟨Ao49, co49, eo49⟩ := Kd.R_slice HO541.out
           subst eo49
           go_wp2
           repeat (go_quiet (fail); try go_wp2)
           go_meet
           case rel => exact ⟨_, (true), (fs_), H', ⟨by have := HJ9.out; first | omega | exact Nat.le_refl _⟩, ⟨by (with_reducible repeat (first | apply Kd.R_alloc | apply Kd.R_drewN | apply Kd.R_drew)); exact Kd.R_mono HO_11.out (fun _ hk => ⟨hk.1.1.2, hk.2⟩)⟩, ⟨by (with_reducible repeat (first | apply Kd.R_alloc | apply Kd.R_drewN | apply Kd.R_drew)); exact Kd.R_mono HO541.out (fun _ hk => ⟨hk.1.1.2, hk.2⟩)⟩, ⟨by (with_reducible repeat (first | apply Kd.R_alloc | apply Kd.R_drewN | apply Kd.R_drew)); exact Kd.R_mono HO549.out (fun _ hk => ⟨hk.1.1.2, hk.1.2⟩)⟩, ⟨by repeat (first | (with_reducible first | exact HB.out | apply below_alloc | apply pw_below_drewN | apply below_drew1) | exact HB.out)⟩⟩
         ·rw [if_neg c44] at H
          have c44b0 : ((t547.length : Int) == (t513.length : Int)) = false := beq_eq_false_iff_ne.mpr c44
          have c44b1 : ((t547.length : Int) != (t513.length : Int)) = true := bne_iff_ne.mpr c44
          have c44b2 : (t547.length == t513.length) = false := by first | simpa using c44 | (simp at c44 ⊢; omega)
          have H' := Aside0.mk H
          clear H
          obtain ⟨Ao50, co50, eo50⟩ := Kd.R_slice HO549.out
          subst eo50
          go_wp2
          repeat (go_quiet (fail); try go_wp2)
          go_meet
          case rel => exact ⟨_, (true), (fs_), H', ⟨by have := HJ9.out; first | omega | exact Nat.le_refl _⟩, ⟨by (with_reducible repeat (first | apply Kd.R_alloc | apply Kd.R_drewN | apply Kd.R_drew)); exact Kd.R_mono HO_11.out (fun _ hk => ⟨hk.1.1.2, hk.2⟩)⟩, ⟨by (with_reducible repeat (first | apply Kd.R_alloc | apply Kd.R_drewN | apply Kd.R_drew)); exact Kd.R_mono HO541.out (fun _ hk => ⟨hk.1.1.2, hk.2⟩)⟩, ⟨by (with_reducible repeat (first | apply Kd.R_alloc | apply Kd.R_drewN | apply Kd.R_drew)); exact Kd.R_mono HO549.out (fun _ hk => ⟨hk.1.1.2, hk.1.2⟩)⟩, ⟨by repeat (first | (with_reducible first | exact HB.out | apply below_alloc | apply pw_below_drewN | apply below_drew1) | exact HB.out)⟩⟩
        ·rw [if_neg c43] at H
         have c43b0 : (t550 == 0) = false := beq_eq_false_iff_ne.mpr c43
         have c43b1 : (t550 != 0) = true := bne_iff_ne.mpr c43
         have H' := Aside0.mk H
         clear H
         go_wp2
         repeat (go_quiet (fail); try go_wp2)
         go_meet
         case rel => exact ⟨_, (true), (fs_), H', ⟨by have := HJ9.out; first | omega | exact Nat.le_refl _⟩, ⟨by (with_reducible repeat (first | apply Kd.R_alloc | apply Kd.R_drewN | apply Kd.R_drew)); exact Kd.R_mono HO_11.out (fun _ hk => ⟨hk.1.1.2, hk.2⟩)⟩, ⟨by (with_reducible repeat (first | apply Kd.R_alloc | apply Kd.R_drewN | apply Kd.R_drew)); exact Kd.R_mono HO541.out (fun _ hk => ⟨hk.1.1.2, hk.2⟩)⟩, ⟨by (with_reducible repeat (first | apply Kd.R_alloc | apply Kd.R_drewN | apply Kd.R_drew)); exact Kd.R_mono HO549.out (fun _ hk => ⟨hk.1.1.2, hk.1.2⟩)⟩, ⟨by repeat (first | (with_reducible first | exact HB.out | apply below_alloc | apply pw_below_drewN | apply below_drew1) | exact HB.out)⟩⟩
       ·rw [if_neg c42] at H
        have c42b0 : (t546 == 0) = false := beq_eq_false_iff_ne.mpr c42
        have c42b1 : (t546 != 0) = true := bne_iff_ne.mpr c42
        have H' := Aside0.mk H
        clear H
        go_wp2
        repeat (go_quiet (fail); try go_wp2)
        go_meet
        case rel => exact ⟨_, (true), (fs_), H', ⟨by have := HJ9.out; first | omega | exact Nat.le_refl _⟩, ⟨by (with_reducible repeat (first | apply Kd.R_alloc | apply Kd.R_drewN | apply Kd.R_drew)); exact Kd.R_mono HO_11.out (fun _ hk => ⟨hk.1.1.2, hk.2⟩)⟩, ⟨by (with_reducible repeat (first | apply Kd.R_alloc | apply Kd.R_drewN | apply Kd.R_drew)); exact Kd.R_mono HO541.out (fun _ hk => ⟨hk.1.1.2, hk.2⟩)⟩, ⟨by (with_reducible repeat (first | apply Kd.R_alloc | apply Kd.R_drewN | apply Kd.R_drew)); exact Kd.R_mono HO549.out (fun _ hk => ⟨hk.1.1.2, hk.1.2⟩)⟩, ⟨by repeat (first | (with_reducible first | exact HB.out | apply below_alloc | apply pw_below_drewN | apply below_drew1) | exact HB.out)⟩⟩
      ·rw [if_neg c41] at H
       have c41b0 : (t542 == 0) = false := beq_eq_false_iff_ne.mpr c41
       have c41b1 : (t542 != 0) = true := bne_iff_ne.mpr c41
       (first | rw [c41b0] | rw [c41b1] | (simp only [i64_w, i32_w]; first | rw [c41b0] | rw [c41b1]) | skip)
       have H' := Aside0.mk H
       clear H
       go_wp2
       repeat (go_quiet (fail); try go_wp2)
       go_meet
       case rel => exact ⟨_, (true), (fs_), H', ⟨by have := HJ9.out; first | omega | exact Nat.le_refl _⟩, ⟨by (with_reducible repeat (first | apply Kd.R_alloc | apply Kd.R_drewN | apply Kd.R_drew)); exact Kd.R_mono HO_11.out (fun _ hk => ⟨hk.1.1.2, hk.2⟩)⟩, ⟨by (with_reducible repeat (first | apply Kd.R_alloc | apply Kd.R_drewN | apply Kd.R_drew)); exact Kd.R_mono HO541.out (fun _ hk => ⟨hk.1.1.2, hk.2⟩)⟩, ⟨by (with_reducible repeat (first | apply Kd.R_alloc | apply Kd.R_drewN | apply Kd.R_drew)); exact Kd.R_mono HO549.out (fun _ hk => ⟨hk.1.1.2, hk.1.2⟩)⟩, ⟨by repeat (first | (with_reducible first | exact HB.out | apply below_alloc | apply pw_below_drewN | apply below_drew1) | exact HB.out)⟩⟩
     case rest =>
      clear HC35
      try clear c1
      try clear c2
      try clear p2
      try clear c3
      try clear c4
      try clear c6
      try clear c20
      try clear c20b0
      try clear c20b1
      try clear c21
      try clear c21b0
      try clear c21b1
      try clear c22
      try clear c22b0
      try clear c22b1
      try clear c23
      try clear c23b0
      try clear c23b1
      try clear c25
      try clear c30
      try clear c31
      try clear c31b0
      try clear c31b1
      try clear c31b2
      try clear c41
      try clear c41b0
      try clear c41b1
      try clear c42
      try clear c42b0
      try clear c42b1
      try clear c43
      try clear c43b0
      try clear c43b1
      try clear c44
      try clear c44b0
      try clear c44b1
      try clear c44b2
      try clear c45
      try clear c45b0
      try clear c45b1
      try clear c45b2
      try clear p2
      obtain ⟨kq, x143_34, rfl, HA, HJ34, HO_11, HO_19, HO_23, HB⟩ := hcut
      cases kq with
      | zero => exact absurd HA.out (by simp [conclavelaw04_FastBack.j1])
      | succ kj34 =>
       have H := HA.out
       clear HA
       simp only [conclavelaw04_FastBack.j1] at H
       by_cases c51 : x143_34 = true
       ·subst c51
        have H1 : (none) = some r := by rw [if_pos rfl] at H; exact H
        clear H
        have H := H1
        clear H1
        exact absurd H (by simp)
       ·replace c51 := Bool.eq_false_iff.mpr c51
        subst c51
        have H1 : (conclavelaw04_FastBack.l0 kj34 t512 t520 t539 t547 0) = some r := by rw [if_neg (show ¬ (false = true) by decide)] at H; exact H
        clear H
        have H := H1
        clear H1
        have H' := Aside0.mk H
        clear H
        go_wp2
        repeat (go_quiet (fail); try go_wp2)
        go_loopg [25] kj34 (fun kq v25 w' => ∃ (x25_3 : Int), v25 = .int .i64 x25_3 ∧ Aside0 (conclavelaw04_FastBack.l0 kq t512 t520 t539 t547 x25_3 = some r) ∧ Aside0 (kq ≤ kj34) ∧ Aside0 (Kd.R (Kd.int .u64) 33 w' w.heap.size (fun k_ => some k_ ≠ (v540 : Value).ownBlock ∧ some k_ ≠ (v548 : Value).ownBlock) (.slice Ao15 t520.length co15) t520) ∧ Aside0 (Kd.R (Kd.int .u64) 33 w' w.heap.size (fun k_ => some k_ ≠ ((.slice Ao15 t520.length co15) : Value).ownBlock ∧ some k_ ≠ (v548 : Value).ownBlock) v540 t539) ∧ Aside0 (Kd.R (Kd.int .u64) 33 w' w.heap.size (fun k_ => some k_ ≠ ((.slice Ao15 t520.length co15) : Value).ownBlock ∧ some k_ ≠ (v540 : Value).ownBlock) v548 t547) ∧ Aside0 (Below w.heap.size w w'))
        case atStart => exact ⟨(0), (fs_), H', ⟨Nat.le_refl _⟩, ⟨mR_ HO_11.out⟩, ⟨mR_ HO_19.out⟩, ⟨mR_ HO_23.out⟩, ⟨by repeat (first | (with_reducible first | exact HB.out | apply below_alloc | apply pw_below_drewN | apply below_drew1) | exact HB.out)⟩⟩
        case round =>
         clear H'
         try clear c1
         try clear c2
         try clear p2
         try clear c3
         try clear c4
         try clear c5
         try clear c6
         try clear c20
         try clear c20b0
         try clear c20b1
         try clear c21
         try clear c21b0
         try clear c21b1
         try clear c22
         try clear c22b0
         try clear c22b1
         try clear c23
         try clear c23b0
         try clear c23b1
         try clear c25
         try clear c30
         try clear c31
         try clear c31b0
         try clear c31b1
         try clear c31b2
         try clear c41
         try clear c41b0
         try clear c41b1
         try clear c42
         try clear c42b0
         try clear c42b1
         try clear c43
         try clear c43b0
         try clear c43b1
         try clear c44
         try clear c44b0
         try clear c44b1
         try clear c44b2
         try clear c45
         try clear c45b0
         try clear c45b1
         try clear c45b2
         try clear c51
         try clear p2
         obtain ⟨x25_3, rfl, HA, HK3, HO_11, HO_19, HO_23, HB⟩ := hrel
         cases gk with
         | zero => exact absurd HA.out (by simp [conclavelaw04_FastBack.l0])
         | succ k3 =>
          have H := HA.out
          clear HA
          simp only [conclavelaw04_FastBack.l0] at H
          by_cases c52 : x25_3 < (t547.length : Int)
          ·rw [if_pos c52] at H
           have c52b0 : decide (x25_3 < (t547.length : Int)) = true := decide_eq_true c52
           clear c52
           by_cases c53 : 0 ≤ x25_3
           ·rw [if_pos c53] at H
            have c53b0 : decide (0 ≤ x25_3) = true := decide_eq_true c53
            clear c53
            replace H := Option.bind_eq_some_iff.mp H
            obtain ⟨t553, A540, H⟩ := H
            replace H : (if x25_3 < (t520.length : Int) then (if x25_3 < (t539.length : Int) then ((cr1_Times.f k3 t553 (rd t520 x25_3) (rd t539 x25_3)).bind fun t556 => (if (rd t547 x25_3) = t556 then (conclavelaw04_FastBack.l0 k3 t512 t520 t539 t547 (wrap64 (x25_3 + 1))) else (none))) else (none)) else (none)) = some r := H
            have A54 := Aside0.mk A540
            clear A540
            by_cases c55 : x25_3 < (t520.length : Int)
            ·rw [if_pos c55] at H
             have c55b0 : decide (x25_3 < (t520.length : Int)) = true := decide_eq_true c55
             clear c55
             by_cases c56 : x25_3 < (t539.length : Int)
             ·rw [if_pos c56] at H
              have c56b0 : decide (x25_3 < (t539.length : Int)) = true := decide_eq_true c56
              clear c56
              replace H := Option.bind_eq_some_iff.mp H
              obtain ⟨t556, A570, H⟩ := H
              replace H : (if (rd t547 x25_3) = t556 then (conclavelaw04_FastBack.l0 k3 t512 t520 t539 t547 (wrap64 (x25_3 + 1))) else (none)) = some r := H
              have A57 := Aside0.mk A570
              clear A570
              by_cases c58 : (rd t547 x25_3) = t556
              ·rw [if_pos c58] at H
               have c58b0 : ((rd t547 x25_3) == t556) = true := beq_iff_eq.mpr c58
               have c58b1 : ((rd t547 x25_3) != t556) = false := bne_eq_false_iff_eq.mpr c58
               clear c58
               have H' := Aside0.mk H
               clear H
               obtain ⟨Ao59, co59, eo59⟩ := Kd.R_slice HO_23.out
               subst eo59
               have p552 : 0 ≤ (x25_3 : Int) := of_decide_eq_true (by first | (with_reducible assumption) | assumption)
               have q552 : x25_3 < (t547.length : Int) := of_decide_eq_true (by first | (with_reducible assumption) | assumption)
               obtain ⟨ad552, e552, hx552_0⟩ := Kd.at_int (Kd.R_reads' HO_23.out).2.2 x25_3 p552 q552
               cases e552
               replace p552 := eq_true p552
               replace q552 := eq_true q552
               go_wp2_with (first | (go_at_call 22; (with_reducible refine (cr1_P.calls t512 t553 _ A54.out).mono ?_); rintro e w' ⟨rfl, ⟨nd, rfl⟩⟩; (try first | exact ⟨rfl, _, World.drewN_drewN _ _ _⟩ | exact ⟨rfl, _, Eq.trans (World.drewN_drewN _ _ _) (congrArg (World.drewN _) (Nat.add_assoc _ _ _))⟩); have p554 : 0 ≤ (x25_3 : Int) := of_decide_eq_true (by first | (with_reducible assumption) | assumption); have q554 : x25_3 < (t520.length : Int) := of_decide_eq_true (by first | (with_reducible assumption) | assumption); obtain ⟨ad554, e554, hx554_0⟩ := Kd.at_int (Kd.R_reads' HO_11.out).2.2 x25_3 p554 q554; cases e554; replace p554 := eq_true p554; replace q554 := eq_true q554; obtain ⟨Ao60, co60, eo60⟩ := Kd.R_slice HO_19.out; subst eo60; have p555 : 0 ≤ (x25_3 : Int) := of_decide_eq_true (by first | (with_reducible assumption) | assumption); have q555 : x25_3 < (t539.length : Int) := of_decide_eq_true (by first | (with_reducible assumption) | assumption); obtain ⟨ad555, e555, hx555_0⟩ := Kd.at_int (Kd.R_reads' HO_19.out).2.2 x25_3 p555 q555; cases e555; replace p555 := eq_true p555; replace q555 := eq_true q555) | (go_at_call 21; (with_reducible refine (cr1_Times.calls k3 t553 (rd t520 x25_3) (rd t539 x25_3) t556 _ A57.out).mono ?_); rintro e w' ⟨rfl, ⟨nd, rfl⟩⟩; (try first | exact ⟨rfl, _, World.drewN_drewN _ _ _⟩ | exact ⟨rfl, _, Eq.trans (World.drewN_drewN _ _ _) (congrArg (World.drewN _) (Nat.add_assoc _ _ _))⟩)))
               repeat (go_quiet (first | (go_at_call 22; (with_reducible refine (cr1_P.calls t512 t553 _ A54.out).mono ?_); rintro e w' ⟨rfl, ⟨nd, rfl⟩⟩; (try first | exact ⟨rfl, _, World.drewN_drewN _ _ _⟩ | exact ⟨rfl, _, Eq.trans (World.drewN_drewN _ _ _) (congrArg (World.drewN _) (Nat.add_assoc _ _ _))⟩); have p554 : 0 ≤ (x25_3 : Int) := of_decide_eq_true (by first | (with_reducible assumption) | assumption); have q554 : x25_3 < (t520.length : Int) := of_decide_eq_true (by first | (with_reducible assumption) | assumption); obtain ⟨ad554, e554, hx554_0⟩ := Kd.at_int (Kd.R_reads' HO_11.out).2.2 x25_3 p554 q554; cases e554; replace p554 := eq_true p554; replace q554 := eq_true q554; obtain ⟨Ao60, co60, eo60⟩ := Kd.R_slice HO_19.out; subst eo60; have p555 : 0 ≤ (x25_3 : Int) := of_decide_eq_true (by first | (with_reducible assumption) | assumption); have q555 : x25_3 < (t539.length : Int) := of_decide_eq_true (by first | (with_reducible assumption) | assumption); obtain ⟨ad555, e555, hx555_0⟩ := Kd.at_int (Kd.R_reads' HO_19.out).2.2 x25_3 p555 q555; cases e555; replace p555 := eq_true p555; replace q555 := eq_true q555) | (go_at_call 21; (with_reducible refine (cr1_Times.calls k3 t553 (rd t520 x25_3) (rd t539 x25_3) t556 _ A57.out).mono ?_); rintro e w' ⟨rfl, ⟨nd, rfl⟩⟩; (try first | exact ⟨rfl, _, World.drewN_drewN _ _ _⟩ | exact ⟨rfl, _, Eq.trans (World.drewN_drewN _ _ _) (congrArg (World.drewN _) (Nat.add_assoc _ _ _))⟩))); try go_wp2_with (first | (go_at_call 22; (with_reducible refine (cr1_P.calls t512 t553 _ A54.out).mono ?_); rintro e w' ⟨rfl, ⟨nd, rfl⟩⟩; (try first | exact ⟨rfl, _, World.drewN_drewN _ _ _⟩ | exact ⟨rfl, _, Eq.trans (World.drewN_drewN _ _ _) (congrArg (World.drewN _) (Nat.add_assoc _ _ _))⟩); have p554 : 0 ≤ (x25_3 : Int) := of_decide_eq_true (by first | (with_reducible assumption) | assumption); have q554 : x25_3 < (t520.length : Int) := of_decide_eq_true (by first | (with_reducible assumption) | assumption); obtain ⟨ad554, e554, hx554_0⟩ := Kd.at_int (Kd.R_reads' HO_11.out).2.2 x25_3 p554 q554; cases e554; replace p554 := eq_true p554; replace q554 := eq_true q554; obtain ⟨Ao60, co60, eo60⟩ := Kd.R_slice HO_19.out; subst eo60; have p555 : 0 ≤ (x25_3 : Int) := of_decide_eq_true (by first | (with_reducible assumption) | assumption); have q555 : x25_3 < (t539.length : Int) := of_decide_eq_true (by first | (with_reducible assumption) | assumption); obtain ⟨ad555, e555, hx555_0⟩ := Kd.at_int (Kd.R_reads' HO_19.out).2.2 x25_3 p555 q555; cases e555; replace p555 := eq_true p555; replace q555 := eq_true q555) | (go_at_call 21; (with_reducible refine (cr1_Times.calls k3 t553 (rd t520 x25_3) (rd t539 x25_3) t556 _ A57.out).mono ?_); rintro e w' ⟨rfl, ⟨nd, rfl⟩⟩; (try first | exact ⟨rfl, _, World.drewN_drewN _ _ _⟩ | exact ⟨rfl, _, Eq.trans (World.drewN_drewN _ _ _) (congrArg (World.drewN _) (Nat.add_assoc _ _ _))⟩))))
               go_roundg k3
               case measure => have := HJ9.out; have := HJ34.out; have := HK3.out; omega
               case rel => exact ⟨(wrap64 (x25_3 + 1)), (fs_), H', ⟨by have := HJ9.out; have := HJ34.out; have := HK3.out; omega⟩, ⟨mR_ HO_11.out⟩, ⟨mR_ HO_19.out⟩, ⟨mR_ HO_23.out⟩, ⟨by repeat (first | (with_reducible first | exact HB.out | apply below_alloc | apply pw_below_drewN | apply below_drew1) | exact HB.out)⟩⟩
              ·rw [if_neg c58] at H
               exact absurd H (by simp)
             ·rw [if_neg c56] at H
              exact absurd H (by simp)
            ·rw [if_neg c55] at H
             exact absurd H (by simp)
           ·rw [if_neg c53] at H
            exact absurd H (by simp)
          ·rw [if_neg c52] at H
           have c52b0 : decide (x25_3 < (t547.length : Int)) = false := decide_eq_false c52
           clear c52
           replace H := Option.bind_eq_some_iff.mp H
           obtain ⟨t551, A610, H⟩ := H
           replace H : (some t551) = some r := H
           have A61 := Aside0.mk A610
           clear A610
           obtain rfl := Option.some.inj H
           obtain ⟨Ao62, co62, eo62⟩ := Kd.R_slice HO_23.out
           subst eo62
           go_wp2_with (first | (go_at_call 17; (with_reducible refine (conclavelaw04_anchored.calls k3  t551 _ A61.out).mono ?_); rintro e w63 ⟨rfl, hb⟩; have n0_ := A_ (Kd.R_below (nR_ HO_11) hb); have n1_ := A_ (Kd.R_below (nR_ HO_19) hb); have n2_ := A_ (Kd.R_below (nR_ HO_23) hb); have n3_ := A_ (below_step hb_ hb); clear HO_11 HO_19 HO_23 HB; have HO_11 := n0_; have HO_19 := n1_; have HO_23 := n2_; have HB := n3_; clear n0_ n1_ n2_ n3_; (try clear hb); (try clear hb2); (try clear hk); (try clear hi)))
           repeat (go_quiet (first | (go_at_call 17; (with_reducible refine (conclavelaw04_anchored.calls k3  t551 _ A61.out).mono ?_); rintro e w63 ⟨rfl, hb⟩; have n0_ := A_ (Kd.R_below (nR_ HO_11) hb); have n1_ := A_ (Kd.R_below (nR_ HO_19) hb); have n2_ := A_ (Kd.R_below (nR_ HO_23) hb); have n3_ := A_ (below_step hb_ hb); clear HO_11 HO_19 HO_23 HB; have HO_11 := n0_; have HO_19 := n1_; have HO_23 := n2_; have HB := n3_; clear n0_ n1_ n2_ n3_; (try clear hb); (try clear hb2); (try clear hk); (try clear hi))); try go_wp2_with (first | (go_at_call 17; (with_reducible refine (conclavelaw04_anchored.calls k3  t551 _ A61.out).mono ?_); rintro e w63 ⟨rfl, hb⟩; have n0_ := A_ (Kd.R_below (nR_ HO_11) hb); have n1_ := A_ (Kd.R_below (nR_ HO_19) hb); have n2_ := A_ (Kd.R_below (nR_ HO_23) hb); have n3_ := A_ (below_step hb_ hb); clear HO_11 HO_19 HO_23 HB; have HO_11 := n0_; have HO_19 := n1_; have HO_23 := n2_; have HB := n3_; clear n0_ n1_ n2_ n3_; (try clear hb); (try clear hb2); (try clear hk); (try clear hi))))
           go_ret
           exact ⟨fr_, hb_⟩
    ·rw [if_neg c31] at H
     have c31b0 : ((t513.length : Int) == (t517.length : Int)) = false := beq_eq_false_iff_ne.mpr c31
     have c31b1 : ((t513.length : Int) != (t517.length : Int)) = true := bne_iff_ne.mpr c31
     have c31b2 : (t513.length == t517.length) = false := by first | simpa using c31 | (simp at c31 ⊢; omega)
     replace H := Option.bind_eq_some_iff.mp H
     obtain ⟨t538, A640, H⟩ := H
     replace H : (some t538) = some r := H
     have A64 := Aside0.mk A640
     clear A640
     obtain rfl := Option.some.inj H
     obtain ⟨Ao65, co65, eo65⟩ := Kd.R_slice HO_10.out
     subst eo65
     go_wp2_with (first | (go_at_call 17; (with_reducible refine (conclavelaw04_anchored.calls kj9  t538 _ A64.out).mono ?_); rintro e w66 ⟨rfl, hb⟩; have n0_ := A_ (Kd.R_below (nR_ HO_8) hb); have n1_ := A_ (Kd.R_below (nR_ HO_10) hb); have n2_ := A_ (Kd.R_below (nR_ HO_11) hb); have n3_ := A_ (below_step hb_ hb); clear HO_8 HO_10 HO_11 HB; have HO_8 := n0_; have HO_10 := n1_; have HO_11 := n2_; have HB := n3_; clear n0_ n1_ n2_ n3_; (try clear hb); (try clear hb2); (try clear hk); (try clear hi)))
     repeat (go_quiet (first | (go_at_call 17; (with_reducible refine (conclavelaw04_anchored.calls kj9  t538 _ A64.out).mono ?_); rintro e w66 ⟨rfl, hb⟩; have n0_ := A_ (Kd.R_below (nR_ HO_8) hb); have n1_ := A_ (Kd.R_below (nR_ HO_10) hb); have n2_ := A_ (Kd.R_below (nR_ HO_11) hb); have n3_ := A_ (below_step hb_ hb); clear HO_8 HO_10 HO_11 HB; have HO_8 := n0_; have HO_10 := n1_; have HO_11 := n2_; have HB := n3_; clear n0_ n1_ n2_ n3_; (try clear hb); (try clear hb2); (try clear hk); (try clear hi))); try go_wp2_with (first | (go_at_call 17; (with_reducible refine (conclavelaw04_anchored.calls kj9  t538 _ A64.out).mono ?_); rintro e w66 ⟨rfl, hb⟩; have n0_ := A_ (Kd.R_below (nR_ HO_8) hb); have n1_ := A_ (Kd.R_below (nR_ HO_10) hb); have n2_ := A_ (Kd.R_below (nR_ HO_11) hb); have n3_ := A_ (below_step hb_ hb); clear HO_8 HO_10 HO_11 HB; have HO_8 := n0_; have HO_10 := n1_; have HO_11 := n2_; have HB := n3_; clear n0_ n1_ n2_ n3_; (try clear hb); (try clear hb2); (try clear hk); (try clear hi))))
     go_ret
     exact ⟨fr_, hb_⟩
/-- THE ONE PURE STATEMENT of conclavelaw04_FastBack: yours. -/
def conclavelaw04_FastBack.Pure : Prop := ∀ (a0 : Int) (l1 : List Int) (l2 : List Int), (Lit.int .u8 a0).wf = true → l1.length ≤ maxLen → l1.length * 8 ≤ 140737488351232 → (∀ x ∈ l1, (Lit.int .u64 x).wf = true) → l2.length ≤ maxLen → l2.length * 8 ≤ 140737488351232 → (∀ x ∈ l2, (Lit.int .u64 x).wf = true) → ∃ k, conclavelaw04_FastBack.f k a0 l1 l2 = some true
theorem conclavelaw04_FastBack.walk (P : conclavelaw04_FastBack.Pure) (a0 : Int) (a1 : Option Addr) (len1 cap1 : Nat) (z1 : List Int) (a2 : Option Addr) (len2 cap2 : Nat) (z2 : List Int) (w : World) (w0 : (Lit.int .u8 a0).wf = true) (w1 : (a1 = none ∧ len1 = 0 ∧ cap1 = 0 ∧ z1 = []) ∨ ∃ x, a1 = some x ∧ len1 ≤ cap1 ∧ cap1 ≤ maxLen ∧ z1.length = cap1 ∧ (∀ i, i < z1.length → w.cell? (x.add i) = some (.int .u64 (z1.getD i 0))) ∧ ∀ n ∈ z1, (Lit.int .u64 n).wf = true) (y1 : len1 * 8 ≤ 140737488351232) (w2 : (a2 = none ∧ len2 = 0 ∧ cap2 = 0 ∧ z2 = []) ∨ ∃ x, a2 = some x ∧ len2 ≤ cap2 ∧ cap2 ≤ maxLen ∧ z2.length = cap2 ∧ (∀ i, i < z2.length → w.cell? (x.add i) = some (.int .u64 (z2.getD i 0))) ∧ ∀ n ∈ z2, (Lit.int .u64 n).wf = true) (y2 : len2 * 8 ≤ 140737488351232) :
  Calls Try.prog 6 #[.int .u8 a0, .slice a1 len1 cap1, .slice a2 len2 cap2] w fun e w' => e = .returned (.bool true) ∧ Below w.heap.size w w' := by
 obtain ⟨l1, rfl, hr1, hm1, hw1, hc1⟩ := ReadsInt.ofRowC w1
 obtain ⟨l2, rfl, hr2, hm2, hw2, hc2⟩ := ReadsInt.ofRowC w2
 obtain ⟨k, h⟩ := P a0 l1 l2 w0 hm1 y1 hw1 hm2 y2 hw2
 refine (conclavelaw04_FastBack.calls k a0 _ _ l1 _ _ l2 true w (Kd.C_of_reads (d := (0 : Int)) (h1 := fun _ => rfl) hr1) hc1 (Kd.C_of_reads (d := (0 : Int)) (h1 := fun _ => rfl) hr2) hc2 h).mono ?_
 rintro e w' ⟨rfl, hd⟩
 exact ⟨rfl, hd⟩
end Go.Proofs.Ytaegmhniepfdaaa.PFastBack
