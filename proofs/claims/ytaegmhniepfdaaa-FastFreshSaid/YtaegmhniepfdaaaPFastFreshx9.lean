/- The Go functions as Lean functions, each with the proof that its call comes to just that; written by a program of this session, by the words of the print. -/
import Derived.Test.YtaegmhniepfdaaaPFastFreshx0
import Derived.Test.YtaegmhniepfdaaaPFastFreshx1
import Derived.Test.YtaegmhniepfdaaaPFastFreshx2
import Derived.Test.YtaegmhniepfdaaaPFastFreshx6
namespace Go.Proofs.Ytaegmhniepfdaaa.PFastFresh
open Go.RowKit Go.Proofs.YtaegmhniepfdaaaW.PrintWords Go.Proofs.YtaegmhniepfdaaaW.PrintLast Go.Proofs.YtaegmhniepfdaaaW.PrintMore
attribute [local go_sem] max2_int min2_int max_two min_two max_three min_three max_four min_four   -- for this text's walks alone
set_option linter.unusedVariables false
set_option linter.unusedSimpArgs false
/-! ### poly_trimmed: function 44 -/
def poly_trimmed.l0 : Nat → List Int → Int → Option (List Int)
 | 0, _, _ => none
 | k + 1, x0, x3 => if x3 > 0 then (if 0 ≤ (wrap64 (x3 - 1)) then (if (wrap64 (x3 - 1)) < (x0.length : Int) then (if (rd x0 (wrap64 (x3 - 1))) = 0 then (poly_trimmed.l0 k x0 (wrap64 (x3 - 1))) else (if 0 ≤ x3 then (if x3 ≤ (x0.length : Int) then (some (x0.take (x3 : Int).toNat)) else (none)) else (none))) else (none)) else (none)) else (if 0 ≤ x3 then (if x3 ≤ (x0.length : Int) then (some (x0.take (x3 : Int).toNat)) else (none)) else (none))
def poly_trimmed.f (k : Nat) (l0 : List Int) : Option (List Int) := poly_trimmed.l0 k l0 (l0.length : Int)
theorem poly_trimmed.mono_l : ∀ k, (∀ y0 y1, LeO (poly_trimmed.l0 k y0 y1) (poly_trimmed.l0 (k + 1) y0 y1))
 | 0 => fun _ _ r h => by simp [poly_trimmed.l0] at h
 | k + 1 => by
  have ih0 := poly_trimmed.mono_l k
  ·intro y0 y1
   unfold poly_trimmed.l0
   repeat' first
   | (with_reducible exact ih0 _ _)
   | (with_reducible exact LeO.refl _)
   | (with_reducible exact LeO.none _)
   | (with_reducible refine LeO.ite ?_ ?_)
   | (with_reducible refine LeO.bind ?_ (fun _ => ?_))
   | exact ih0 _ _
   | exact LeO.none _
   | refine LeO.ite ?_ ?_
   | refine LeO.bind ?_ (fun _ => ?_)
theorem poly_trimmed.mono : ∀ a0 k, LeO (poly_trimmed.f k a0) (poly_trimmed.f (k + 1) a0) := by
 intro a0 k
 have ih0 := poly_trimmed.mono_l k
 unfold poly_trimmed.f
 repeat' first
   | (with_reducible exact ih0 _ _)
   | (with_reducible exact LeO.refl _)
   | (with_reducible exact LeO.none _)
   | (with_reducible refine LeO.ite ?_ ?_)
   | (with_reducible refine LeO.bind ?_ (fun _ => ?_))
   | exact ih0 _ _
   | exact LeO.none _
   | refine LeO.ite ?_ ?_
   | refine LeO.bind ?_ (fun _ => ?_)
set_option maxHeartbeats 8000000 in
set_option maxRecDepth 100000 in
theorem poly_trimmed.calls (k : Nat) (P0_ : Nat → Prop) (A0 : Option Addr) (c0 : Nat) (l0 : List Int) (r : List Int) (w : World) (hs0 : Kd.V (Kd.int .u64) 33 w w.heap.size (fun k_ => P0_ k_) (.slice A0 l0.length c0) l0) (h : poly_trimmed.f k l0 = some r) :
  Calls Try.prog 44 #[.slice A0 l0.length c0] w fun e w' => ∃ v0_ : Value, e = .returned (v0_) ∧ Kd.V (Kd.int .u64) 33 w' w.heap.size (fun k_ => (P0_ k_ ∨ w.heap.size ≤ k_)) v0_ r ∧ Below w.heap.size w w' := by
 have HO0 := A_ (show Kd.V (Kd.int .u64) 33 w w.heap.size (fun k_ => (P0_ k_ ∨ w.heap.size ≤ k_)) (.slice A0 l0.length c0) l0 from Kd.V_mono hs0 (fun k_ hk => .inl hk))
 have HB := A_ (Below.refl w.heap.size w)
 have H : (poly_trimmed.l0 k l0 (l0.length : Int)) = some r := h
 clear h
 have H' := Aside0.mk H
 clear H
 go_enter Try.func44, Try.ntmps44
 go_wp2
 go_loopg [3] k (fun kq v3 w' => ∃ (x3_1 : Int), v3 = .int .i64 x3_1 ∧ Aside0 (poly_trimmed.l0 kq l0 x3_1 = some r) ∧ Aside0 (kq ≤ k) ∧ Aside0 (Kd.V (Kd.int .u64) 33 w' w.heap.size (fun k_ => (P0_ k_ ∨ w.heap.size ≤ k_)) (.slice A0 l0.length c0) l0) ∧ Aside0 (Below w.heap.size w w'))
 case atStart => exact ⟨((l0.length : Int)), (fs_), H', ⟨Nat.le_refl _⟩, ⟨mV_ HO0.out⟩, ⟨by repeat (first | (with_reducible first | exact HB.out | apply below_alloc | apply pw_below_drewN | apply below_drew1) | exact HB.out)⟩⟩
 case round =>
  clear H'
  obtain ⟨x3_1, rfl, HA, HK1, HO_0, HB⟩ := hrel
  cases gk with
  | zero => exact absurd HA.out (by simp [poly_trimmed.l0])
  | succ k1 =>
   have H := HA.out
   clear HA
   simp only [poly_trimmed.l0] at H
   by_cases c2 : x3_1 > 0
   ·rw [if_pos c2] at H
    have c2b0 : decide (0 < x3_1) = true := decide_eq_true c2
    clear c2
    obtain ⟨ji3, hji3⟩ : ∃ j_ : Int, (wrap64 (x3_1 - 1)) = j_ := ⟨_, rfl⟩
    replace H : (if 0 ≤ (ji3) then (if (ji3) < (l0.length : Int) then (if (rd l0 (ji3)) = 0 then (poly_trimmed.l0 k1 l0 ji3) else (if 0 ≤ x3_1 then (if x3_1 ≤ (l0.length : Int) then (some (l0.take (x3_1 : Int).toNat)) else (none)) else (none))) else (none)) else (none)) = some r := by first | (rw [hji3] at H; exact H) | (simp only [hji3] at H ⊢; exact H)
    have hji3w : (IntKind.i64.wrap (x3_1 - 1)) = ji3 := (i64_w _).trans hji3
    by_cases c4 : 0 ≤ (ji3)
    ·rw [if_pos c4] at H
     have c4b0 : decide (0 ≤ (ji3)) = true := decide_eq_true c4
     clear c4
     by_cases c5 : (ji3) < (l0.length : Int)
     ·rw [if_pos c5] at H
      have c5b0 : decide ((ji3) < (l0.length : Int)) = true := decide_eq_true c5
      clear c5
      have HC6 := Aside0.mk H
      clear H
      have p286 : 0 ≤ ((ji3) : Int) := of_decide_eq_true (by first | (with_reducible assumption) | assumption)
      have q286 : (ji3) < (l0.length : Int) := of_decide_eq_true (by first | (with_reducible assumption) | assumption)
      obtain ⟨ad286, e286, hx286_0⟩ := Kd.at_int (Kd.V_reads' HO_0.out).2.2 (ji3) p286 q286
      cases e286
      replace p286 := eq_true p286
      replace q286 := eq_true q286
      go_upto_if 15 with (fail)
      have H := HC6.out
      clear HC6
      by_cases c7 : (rd l0 (ji3)) = 0
      ·rw [if_pos c7] at H
       have c7b0 : ((rd l0 (ji3)) == 0) = true := beq_iff_eq.mpr c7
       have c7b1 : ((rd l0 (ji3)) != 0) = false := bne_eq_false_iff_eq.mpr c7
       clear c7
       (first | rw [c7b0] | rw [c7b1] | (simp only [i64_w, i32_w]; first | rw [c7b0] | rw [c7b1]) | skip)
       have H' := Aside0.mk H
       clear H
       go_wp2
       go_roundg k1
       case measure => have := HK1.out; omega
       case rel => exact ⟨(ji3), (by first | rfl | (simp; done) | (simp only [← hji3] <;> (first | rfl | simp)) | (simp [*]; done)), H', ⟨by have := HK1.out; omega⟩, ⟨mV_ HO_0.out⟩, ⟨by repeat (first | (with_reducible first | exact HB.out | apply below_alloc | apply pw_below_drewN | apply below_drew1) | exact HB.out)⟩⟩
      ·rw [if_neg c7] at H
       have c7b0 : ((rd l0 (ji3)) == 0) = false := beq_eq_false_iff_ne.mpr c7
       have c7b1 : ((rd l0 (ji3)) != 0) = true := bne_iff_ne.mpr c7
       (first | rw [c7b0] | rw [c7b1] | (simp only [i64_w, i32_w]; first | rw [c7b0] | rw [c7b1]) | skip)
       by_cases c8 : 0 ≤ x3_1
       ·rw [if_pos c8] at H
        have c8b0 := eq_true c8
        have c8b1 : decide (0 ≤ x3_1) = true := decide_eq_true c8
        clear c8
        by_cases c9 : x3_1 ≤ (l0.length : Int)
        ·rw [if_pos c9] at H
         have c9b0 := eq_true c9
         have c9b1 : decide (x3_1 ≤ (l0.length : Int)) = true := decide_eq_true c9
         clear c9
         obtain ⟨y287, hy287⟩ : ∃ y_ : List Int, y_ = (l0.take (x3_1 : Int).toNat) := ⟨_, rfl⟩
         replace H : (some y287) = some r := by first | (rw [hy287]; with_reducible exact H) | (have H2_ := (Option.bind_some _ _).symm.trans H; rw [hy287]; with_reducible exact H2_) | (have H2_ := (Option.bind_some _ _).symm.trans H; with_reducible exact H2_) | with_reducible exact H | (rw [hy287]; exact H) | exact H
         have Ny287 := Aside0.mk hy287
         clear hy287
         obtain rfl := Option.some.inj H
         have q10 : (x3_1 : Int) ≤ ((l0.length : Int) : Int) := of_decide_eq_true (by first | (with_reducible assumption) | assumption)
         obtain ⟨i010, hi010, _, hsz10, _⟩ := info_parts info33
         have hroom10 : l0.length ≤ c0 := (Kd.V_reads' HO_0.out).2.1
         have hC10 : Kd.F (Kd.int .u64) _ _ (some ad286) l0.length l0 := (Kd.V_at (base := w.heap.size) HO_0.out).2.2
         have hcut10 := cut_to (P := Try.prog) 22 33 .i64 Try.underlying22 hi010 (some ad286) l0.length c0 x3_1 (of_decide_eq_true (by first | (with_reducible assumption) | assumption)) q10 hroom10
         have hr10 := Kd.F_take (m := (x3_1 : Int).toNat) hC10 (by omega)
         have hy10 : y287.length = (x3_1 : Int).toNat := (by rw [Ny287.out, List.length_take]; omega)
         rw [← Ny287.out] at hr10
         rw [← hy10] at hcut10
         have HO291 := A_ (show Kd.V (Kd.int .u64) 33 _ w.heap.size _ (.slice (some ad286) y287.length c0) y287 from Kd.V_mk (by omega) hr10)
         have HC291 := A_ (show y287.length ≤ c0 from by omega)
         clear hr10 hC10 hroom10 hi010 hsz10
         have KY10 := Aside0.mk hy10
         clear hy10
         replace q10 := eq_true q10
         go_wp2
         go_ret
         exact ⟨_, by first | rfl | (simp [errW_none, errW_some] <;> rfl) | (simp only [← hji3]; first | rfl | (simp [errW_none, errW_some] <;> rfl)) | (simp [*, errW_none, errW_some] <;> rfl), nV_ HO291, hb_⟩
        ·rw [if_neg c9] at H
         exact absurd H (by simp)
       ·rw [if_neg c8] at H
        exact absurd H (by simp)
     ·rw [if_neg c5] at H
      exact absurd H (by simp)
    ·rw [if_neg c4] at H
     exact absurd H (by simp)
   ·rw [if_neg c2] at H
    have c2b0 : decide (0 < x3_1) = false := decide_eq_false c2
    clear c2
    by_cases c11 : 0 ≤ x3_1
    ·rw [if_pos c11] at H
     have c11b0 := eq_true c11
     have c11b1 : decide (0 ≤ x3_1) = true := decide_eq_true c11
     clear c11
     by_cases c12 : x3_1 ≤ (l0.length : Int)
     ·rw [if_pos c12] at H
      have c12b0 := eq_true c12
      have c12b1 : decide (x3_1 ≤ (l0.length : Int)) = true := decide_eq_true c12
      clear c12
      obtain ⟨y292, hy292⟩ : ∃ y_ : List Int, y_ = (l0.take (x3_1 : Int).toNat) := ⟨_, rfl⟩
      replace H : (some y292) = some r := by first | (rw [hy292]; with_reducible exact H) | (have H2_ := (Option.bind_some _ _).symm.trans H; rw [hy292]; with_reducible exact H2_) | (have H2_ := (Option.bind_some _ _).symm.trans H; with_reducible exact H2_) | with_reducible exact H | (rw [hy292]; exact H) | exact H
      have Ny292 := Aside0.mk hy292
      clear hy292
      obtain rfl := Option.some.inj H
      have q13 : (x3_1 : Int) ≤ ((l0.length : Int) : Int) := of_decide_eq_true (by first | (with_reducible assumption) | assumption)
      obtain ⟨i013, hi013, _, hsz13, _⟩ := info_parts info33
      have hroom13 : l0.length ≤ c0 := (Kd.V_reads' HO_0.out).2.1
      have hC13 : Kd.F (Kd.int .u64) _ _ A0 l0.length l0 := (Kd.V_at (base := w.heap.size) HO_0.out).2.2
      have hcut13 := cut_to (P := Try.prog) 22 33 .i64 Try.underlying22 hi013 A0 l0.length c0 x3_1 (of_decide_eq_true (by first | (with_reducible assumption) | assumption)) q13 hroom13
      have hr13 := Kd.F_take (m := (x3_1 : Int).toNat) hC13 (by omega)
      have hy13 : y292.length = (x3_1 : Int).toNat := (by rw [Ny292.out, List.length_take]; omega)
      rw [← Ny292.out] at hr13
      rw [← hy13] at hcut13
      have HO296 := A_ (show Kd.V (Kd.int .u64) 33 _ w.heap.size _ (.slice A0 y292.length c0) y292 from Kd.V_mk (by omega) hr13)
      have HC296 := A_ (show y292.length ≤ c0 from by omega)
      clear hr13 hC13 hroom13 hi013 hsz13
      have KY13 := Aside0.mk hy13
      clear hy13
      replace q13 := eq_true q13
      go_wp2
      go_ret
      exact ⟨_, fr_, nV_ HO296, hb_⟩
     ·rw [if_neg c12] at H
      exact absurd H (by simp)
    ·rw [if_neg c11] at H
     exact absurd H (by simp)
/-! ### poly_trimmed_own: function 44 -/
def poly_trimmed_own.l0 : Nat → List Int → Int → Option (List Int)
 | 0, _, _ => none
 | k + 1, x0, x3 => if x3 > 0 then (if 0 ≤ (wrap64 (x3 - 1)) then (if (wrap64 (x3 - 1)) < (x0.length : Int) then (if (rd x0 (wrap64 (x3 - 1))) = 0 then (poly_trimmed_own.l0 k x0 (wrap64 (x3 - 1))) else (if 0 ≤ x3 then (if x3 ≤ (x0.length : Int) then (some (x0.take (x3 : Int).toNat)) else (none)) else (none))) else (none)) else (none)) else (if 0 ≤ x3 then (if x3 ≤ (x0.length : Int) then (some (x0.take (x3 : Int).toNat)) else (none)) else (none))
def poly_trimmed_own.f (k : Nat) (l0 : List Int) : Option (List Int) := poly_trimmed_own.l0 k l0 (l0.length : Int)
theorem poly_trimmed_own.mono_l : ∀ k, (∀ y0 y1, LeO (poly_trimmed_own.l0 k y0 y1) (poly_trimmed_own.l0 (k + 1) y0 y1))
 | 0 => fun _ _ r h => by simp [poly_trimmed_own.l0] at h
 | k + 1 => by
  have ih0 := poly_trimmed_own.mono_l k
  ·intro y0 y1
   unfold poly_trimmed_own.l0
   repeat' first
   | (with_reducible exact ih0 _ _)
   | (with_reducible exact LeO.refl _)
   | (with_reducible exact LeO.none _)
   | (with_reducible refine LeO.ite ?_ ?_)
   | (with_reducible refine LeO.bind ?_ (fun _ => ?_))
   | exact ih0 _ _
   | exact LeO.none _
   | refine LeO.ite ?_ ?_
   | refine LeO.bind ?_ (fun _ => ?_)
theorem poly_trimmed_own.mono : ∀ a0 k, LeO (poly_trimmed_own.f k a0) (poly_trimmed_own.f (k + 1) a0) := by
 intro a0 k
 have ih0 := poly_trimmed_own.mono_l k
 unfold poly_trimmed_own.f
 repeat' first
   | (with_reducible exact ih0 _ _)
   | (with_reducible exact LeO.refl _)
   | (with_reducible exact LeO.none _)
   | (with_reducible refine LeO.ite ?_ ?_)
   | (with_reducible refine LeO.bind ?_ (fun _ => ?_))
   | exact ih0 _ _
   | exact LeO.none _
   | refine LeO.ite ?_ ?_
   | refine LeO.bind ?_ (fun _ => ?_)
set_option maxHeartbeats 8000000 in
set_option maxRecDepth 100000 in
theorem poly_trimmed_own.calls (k : Nat) (P0_ : Nat → Prop) (u9000_ : Value) (l0 : List Int) (r : List Int) (w0 w : World) (hB : Below w0.heap.size w0 w) (ho0 : Kd.R (Kd.int .u64) 33 w w0.heap.size P0_ u9000_ l0) (h : poly_trimmed_own.f k l0 = some r) :
  Calls Try.prog 44 #[u9000_] w fun e w' => ∃ v0_ : Value, e = .returned (v0_) ∧ Kd.R (Kd.int .u64) 33 w' w0.heap.size (fun k_ => (P0_ k_ ∨ w.heap.size ≤ k_)) v0_ r ∧ Below w0.heap.size w0 w' ∧ Kept w w' (fun k_ => P0_ k_) := by
 have HO0 := A_ (show Kd.R (Kd.int .u64) 33 w w0.heap.size (fun k_ => (P0_ k_ ∨ w.heap.size ≤ k_)) u9000_ l0 from Kd.R_mono ho0 (fun k_ hk => (.inl hk)))
 have HK := A_ (Kept.refl w (fun k_ => P0_ k_))
 have HW0 := Aside0.mk hB.size
 have HB := Aside0.mk hB
 clear hB
 have H : (poly_trimmed_own.l0 k l0 (l0.length : Int)) = some r := h
 clear h
 have H' := Aside0.mk H
 clear H
 obtain ⟨Ao2, co2, eo2⟩ := Kd.R_slice HO0.out
 subst eo2
 go_enter Try.func44, Try.ntmps44
 go_wp2
 go_loopg [3] k (fun kq v3 w' => ∃ (x3_1 : Int), v3 = .int .i64 x3_1 ∧ Aside0 (poly_trimmed_own.l0 kq l0 x3_1 = some r) ∧ Aside0 (kq ≤ k) ∧ Aside0 (Kd.R (Kd.int .u64) 33 w' w0.heap.size (fun k_ => (P0_ k_ ∨ w.heap.size ≤ k_)) (.slice Ao2 l0.length co2) l0) ∧ Aside0 (Kept w w' (fun k_ => P0_ k_)) ∧ Aside0 (Below w0.heap.size w0 w'))
 case atStart => exact ⟨((l0.length : Int)), (fs_), H', ⟨Nat.le_refl _⟩, ⟨mR_ HO0.out⟩, ⟨by repeat (first | (with_reducible first | exact HK.out | apply Kept.alloc | apply Kept.drewN | apply Kept.drew) | exact HK.out)⟩, ⟨by repeat (first | (with_reducible first | exact HB.out | apply below_alloc | apply pw_below_drewN | apply below_drew1) | exact HB.out)⟩⟩
 case round =>
  clear H'
  try clear p2
  obtain ⟨x3_1, rfl, HA, HK1, HO_0, HK, HB⟩ := hrel
  cases gk with
  | zero => exact absurd HA.out (by simp [poly_trimmed_own.l0])
  | succ k1 =>
   have H := HA.out
   clear HA
   simp only [poly_trimmed_own.l0] at H
   by_cases c3 : x3_1 > 0
   ·rw [if_pos c3] at H
    have c3b0 : decide (0 < x3_1) = true := decide_eq_true c3
    clear c3
    obtain ⟨ji4, hji4⟩ : ∃ j_ : Int, (wrap64 (x3_1 - 1)) = j_ := ⟨_, rfl⟩
    replace H : (if 0 ≤ (ji4) then (if (ji4) < (l0.length : Int) then (if (rd l0 (ji4)) = 0 then (poly_trimmed_own.l0 k1 l0 ji4) else (if 0 ≤ x3_1 then (if x3_1 ≤ (l0.length : Int) then (some (l0.take (x3_1 : Int).toNat)) else (none)) else (none))) else (none)) else (none)) = some r := by first | (rw [hji4] at H; exact H) | (simp only [hji4] at H ⊢; exact H)
    have hji4w : (IntKind.i64.wrap (x3_1 - 1)) = ji4 := (i64_w _).trans hji4
    by_cases c5 : 0 ≤ (ji4)
    ·rw [if_pos c5] at H
     have c5b0 : decide (0 ≤ (ji4)) = true := decide_eq_true c5
     clear c5
     by_cases c6 : (ji4) < (l0.length : Int)
     ·rw [if_pos c6] at H
      have c6b0 : decide ((ji4) < (l0.length : Int)) = true := decide_eq_true c6
      clear c6
      have HC7 := Aside0.mk H
      clear H
      have p297 : 0 ≤ ((ji4) : Int) := of_decide_eq_true (by first | (with_reducible assumption) | assumption)
      have q297 : (ji4) < (l0.length : Int) := of_decide_eq_true (by first | (with_reducible assumption) | assumption)
      obtain ⟨ad297, e297, hx297_0⟩ := Kd.at_int (Kd.R_reads' HO_0.out).2.2 (ji4) p297 q297
      cases e297
      replace p297 := eq_true p297
      replace q297 := eq_true q297
      go_upto_if 15 with (fail)
      have H := HC7.out
      clear HC7
      by_cases c8 : (rd l0 (ji4)) = 0
      ·rw [if_pos c8] at H
       have c8b0 : ((rd l0 (ji4)) == 0) = true := beq_iff_eq.mpr c8
       have c8b1 : ((rd l0 (ji4)) != 0) = false := bne_eq_false_iff_eq.mpr c8
       clear c8
       (first | rw [c8b0] | rw [c8b1] | (simp only [i64_w, i32_w]; first | rw [c8b0] | rw [c8b1]) | skip)
       have H' := Aside0.mk H
       clear H
       go_wp2
       go_roundg k1
       case measure => have := HK1.out; omega
       case rel => exact ⟨(ji4), (by first | rfl | (simp; done) | (simp only [← hji4] <;> (first | rfl | simp)) | (simp [*]; done)), H', ⟨by have := HK1.out; omega⟩, ⟨mR_ HO_0.out⟩, ⟨by repeat (first | (with_reducible first | exact HK.out | apply Kept.alloc | apply Kept.drewN | apply Kept.drew) | exact HK.out)⟩, ⟨by repeat (first | (with_reducible first | exact HB.out | apply below_alloc | apply pw_below_drewN | apply below_drew1) | exact HB.out)⟩⟩
      ·rw [if_neg c8] at H
       have c8b0 : ((rd l0 (ji4)) == 0) = false := beq_eq_false_iff_ne.mpr c8
       have c8b1 : ((rd l0 (ji4)) != 0) = true := bne_iff_ne.mpr c8
       (first | rw [c8b0] | rw [c8b1] | (simp only [i64_w, i32_w]; first | rw [c8b0] | rw [c8b1]) | skip)
       by_cases c9 : 0 ≤ x3_1
       ·rw [if_pos c9] at H
        have c9b0 := eq_true c9
        have c9b1 : decide (0 ≤ x3_1) = true := decide_eq_true c9
        clear c9
        by_cases c10 : x3_1 ≤ (l0.length : Int)
        ·rw [if_pos c10] at H
         have c10b0 := eq_true c10
         have c10b1 : decide (x3_1 ≤ (l0.length : Int)) = true := decide_eq_true c10
         clear c10
         obtain ⟨y298, hy298⟩ : ∃ y_ : List Int, y_ = (l0.take (x3_1 : Int).toNat) := ⟨_, rfl⟩
         replace H : (some y298) = some r := by first | (rw [hy298]; with_reducible exact H) | (have H2_ := (Option.bind_some _ _).symm.trans H; rw [hy298]; with_reducible exact H2_) | (have H2_ := (Option.bind_some _ _).symm.trans H; with_reducible exact H2_) | with_reducible exact H | (rw [hy298]; exact H) | exact H
         have Ny298 := Aside0.mk hy298
         clear hy298
         obtain rfl := Option.some.inj H
         have q11 : (x3_1 : Int) ≤ ((l0.length : Int) : Int) := of_decide_eq_true (by first | (with_reducible assumption) | assumption)
         obtain ⟨i011, hi011, _, hsz11, _⟩ := info_parts info33
         have hcut11 := cut_to (P := Try.prog) 22 33 .i64 Try.underlying22 hi011 (some ad297) l0.length co2 x3_1 (of_decide_eq_true (by first | (with_reducible assumption) | assumption)) q11 (Kd.R_reads' HO_0.out).2.1
         have hr11 := Kd.R_take (m := (x3_1 : Int).toNat) HO_0.out (by omega)
         have hy11 : y298.length = (x3_1 : Int).toNat := (by rw [Ny298.out, List.length_take]; omega)
         rw [← Ny298.out] at hr11
         rw [← hy11] at hr11 hcut11
         clear hy11 hi011 hsz11 HO_0
         have HO300 := Aside0.mk hr11
         clear hr11
         replace q11 := eq_true q11
         go_wp2
         go_ret
         exact ⟨_, by first | rfl | (simp [errW_none, errW_some] <;> rfl) | (simp only [← hji4]; first | rfl | (simp [errW_none, errW_some] <;> rfl)) | (simp [*, errW_none, errW_some] <;> rfl), nR_ HO300, by repeat (first | (with_reducible first | exact HB.out | apply below_alloc | apply pw_below_drewN | apply below_drew1) | exact HB.out), by repeat (first | (with_reducible first | exact HK.out | apply Kept.alloc | apply Kept.drewN | apply Kept.drew) | exact HK.out)⟩
        ·rw [if_neg c10] at H
         exact absurd H (by simp)
       ·rw [if_neg c9] at H
        exact absurd H (by simp)
     ·rw [if_neg c6] at H
      exact absurd H (by simp)
    ·rw [if_neg c5] at H
     exact absurd H (by simp)
   ·rw [if_neg c3] at H
    have c3b0 : decide (0 < x3_1) = false := decide_eq_false c3
    clear c3
    by_cases c12 : 0 ≤ x3_1
    ·rw [if_pos c12] at H
     have c12b0 := eq_true c12
     have c12b1 : decide (0 ≤ x3_1) = true := decide_eq_true c12
     clear c12
     by_cases c13 : x3_1 ≤ (l0.length : Int)
     ·rw [if_pos c13] at H
      have c13b0 := eq_true c13
      have c13b1 : decide (x3_1 ≤ (l0.length : Int)) = true := decide_eq_true c13
      clear c13
      obtain ⟨y301, hy301⟩ : ∃ y_ : List Int, y_ = (l0.take (x3_1 : Int).toNat) := ⟨_, rfl⟩
      replace H : (some y301) = some r := by first | (rw [hy301]; with_reducible exact H) | (have H2_ := (Option.bind_some _ _).symm.trans H; rw [hy301]; with_reducible exact H2_) | (have H2_ := (Option.bind_some _ _).symm.trans H; with_reducible exact H2_) | with_reducible exact H | (rw [hy301]; exact H) | exact H
      have Ny301 := Aside0.mk hy301
      clear hy301
      obtain rfl := Option.some.inj H
      have q14 : (x3_1 : Int) ≤ ((l0.length : Int) : Int) := of_decide_eq_true (by first | (with_reducible assumption) | assumption)
      obtain ⟨i014, hi014, _, hsz14, _⟩ := info_parts info33
      have hcut14 := cut_to (P := Try.prog) 22 33 .i64 Try.underlying22 hi014 Ao2 l0.length co2 x3_1 (of_decide_eq_true (by first | (with_reducible assumption) | assumption)) q14 (Kd.R_reads' HO_0.out).2.1
      have hr14 := Kd.R_take (m := (x3_1 : Int).toNat) HO_0.out (by omega)
      have hy14 : y301.length = (x3_1 : Int).toNat := (by rw [Ny301.out, List.length_take]; omega)
      rw [← Ny301.out] at hr14
      rw [← hy14] at hr14 hcut14
      clear hy14 hi014 hsz14 HO_0
      have HO303 := Aside0.mk hr14
      clear hr14
      replace q14 := eq_true q14
      go_wp2
      go_ret
      exact ⟨_, fr_, nR_ HO303, by repeat (first | (with_reducible first | exact HB.out | apply below_alloc | apply pw_below_drewN | apply below_drew1) | exact HB.out), by repeat (first | (with_reducible first | exact HK.out | apply Kept.alloc | apply Kept.drewN | apply Kept.drew) | exact HK.out)⟩
     ·rw [if_neg c13] at H
      exact absurd H (by simp)
    ·rw [if_neg c12] at H
     exact absurd H (by simp)
/-! ### poly_Trim: function 29 -/
def poly_Trim.f (k : Nat) (l0 : List Int) : Option (List Int) := (poly_trimmed.f k l0).bind fun t304 => ((slices_Clone_uint64_uint64.f t304).bind fun t307 => (some t307))
theorem poly_Trim.mono : ∀ a0 k, LeO (poly_Trim.f k a0) (poly_Trim.f (k + 1) a0) := by
 intro a0 k
 unfold poly_Trim.f
 repeat' first
   | (with_reducible exact poly_trimmed.mono _ _)
   | (with_reducible exact LeO.refl _)
   | (with_reducible exact LeO.none _)
   | (with_reducible refine LeO.ite ?_ ?_)
   | (with_reducible refine LeO.bind ?_ (fun _ => ?_))
   | exact poly_trimmed.mono _ _
   | exact LeO.none _
   | refine LeO.ite ?_ ?_
   | refine LeO.bind ?_ (fun _ => ?_)
set_option maxHeartbeats 8000000 in
set_option maxRecDepth 100000 in
theorem poly_Trim.calls (k : Nat) (A0 : Option Addr) (c0 : Nat) (l0 : List Int) (r : List Int) (w : World) (hr0 : Kd.C (Kd.int .u64) w A0 l0.length l0) (hc0 : l0.length ≤ c0) (h : poly_Trim.f k l0 = some r) :
  Calls Try.prog 29 #[.slice A0 l0.length c0] w fun e w' => ∃ v0_ : Value, e = .returned (v0_) ∧ Kd.R (Kd.int .u64) 33 w' w.heap.size (fun _ => True) v0_ r ∧ Below w.heap.size w w' := by
 have HR0 := Aside0.mk hr0
 have HC0 := Aside0.mk hc0
 clear hr0 hc0
 have HB := A_ (Below.refl w.heap.size w)
 have H : ((poly_trimmed.f k l0).bind fun t304 => ((slices_Clone_uint64_uint64.f t304).bind fun t307 => (some t307))) = some r := h
 clear h
 replace H := Option.bind_eq_some_iff.mp H
 obtain ⟨t304, A20, H⟩ := H
 replace H : ((slices_Clone_uint64_uint64.f t304).bind fun t307 => (some t307)) = some r := H
 have A2 := Aside0.mk A20
 clear A20
 replace H := Option.bind_eq_some_iff.mp H
 obtain ⟨t307, A30, H⟩ := H
 replace H : (some t307) = some r := H
 have A3 := Aside0.mk A30
 clear A30
 obtain rfl := Option.some.inj H
 go_enter Try.func29, Try.ntmps29
 go_wp2_with (first | ((with_reducible refine gate_callee (f := 44) rfl ?_); refine goesM_ (some 4) Try.func44 #[.slice A0 l0.length c0] ?_; (with_reducible refine (poly_trimmed.calls k (fun k_ => k_ < w.heap.size) _ _ l0 t304 _ ?side1 A2.out).mono ?_); (case side1 => exact Kd.V_mk HC0.out (Kd.F_below (Kd.C_F (Kd.heap_int .u64) HR0.out) hb_)); rintro e w4 ⟨v305, rfl, ho0, hb⟩; refine ⟨_, rfl, ?_⟩; have n0_ := A_ (Kd.V_lower (Kd.V_mono (ok' := fun k_ => True) ho0 (fun k_ hk_ => trivial)) (below_size hb_)); have n1_ := A_ (below_step hb_ hb); clear HB; have HO306 := n0_; have HB := n1_; clear n0_ n1_; (try clear hb); (try clear ho0); obtain ⟨Ao5, co5, eo5⟩ := Kd.V_slice HO306.out; subst eo5) | ((with_reducible refine gate_callee (f := 46) rfl ?_); refine goesM_ (some 5) Try.func46 #[.slice Ao5 t304.length co5] ?_; (with_reducible refine (slices_Clone_uint64_uint64.calls _ _ t304 t307 _ ?side1 ?side2 A3.out).mono ?_); (case side1 => repeat (first | exact (Kd.V_reads' HO306.out).2.2 | (with_reducible refine Kd.C_alloc ?_ _) | (with_reducible refine Kd.C_drewN ?_ _) | (with_reducible refine Kd.C_drew ?_))); (case side2 => exact (Kd.V_reads' HO306.out).2.1); rintro e w6 ⟨v308, rfl, ho0, hb⟩; refine ⟨_, rfl, ?_⟩; have n0_ := A_ (Kd.V_elder' (nV_ HO306) (Kd.R_base ho0) hb); have n1_ := A_ (Kd.R_lower ho0 (below_size hb_)); have n2_ := A_ (below_step hb_ hb); clear HO306 HB; have HO306 := n0_; have HO309 := n1_; have HB := n2_; clear n0_ n1_ n2_; (try clear hb); (try clear ho0)))
 go_ret
 exact ⟨_, fr_, nR_ HO309, hb_⟩
/-! ### fast_checked: function 27 -/
def fast_checked.f (k : Nat) (a0 : Int) (l1 : List Int) (l2 : List Int) : Option (List Int × List Int × Int) := (fast_may.f k a0 (([l1, l2] : List (List Int)))).bind fun t313 => (if t313 = 0 then ((poly_Trim.f k l1).bind fun t314 => ((poly_Trim.f k l2).bind fun t317 => (if (t314.length : Int) > 0 then (if (t317.length : Int) > 0 then (if (wrap64 ((wrap64 ((t314.length : Int) + (t317.length : Int))) - 1)) > 4096 then (some (([] : List Int), ([] : List Int), 4)) else (some (t314, t317, 0))) else (some (t314, t317, 0))) else (some (t314, t317, 0))))) else (some (([] : List Int), ([] : List Int), t313)))
theorem fast_checked.mono : ∀ a0 a1 a2 k, LeO (fast_checked.f k a0 a1 a2) (fast_checked.f (k + 1) a0 a1 a2) := by
 intro a0 a1 a2 k
 unfold fast_checked.f
 repeat' first
   | (with_reducible exact fast_may.mono _ _ _)
   | (with_reducible exact poly_Trim.mono _ _)
   | (with_reducible exact LeO.refl _)
   | (with_reducible exact LeO.none _)
   | (with_reducible refine LeO.ite ?_ ?_)
   | (with_reducible refine LeO.bind ?_ (fun _ => ?_))
   | exact fast_may.mono _ _ _
   | exact poly_Trim.mono _ _
   | exact LeO.none _
   | refine LeO.ite ?_ ?_
   | refine LeO.bind ?_ (fun _ => ?_)
set_option maxHeartbeats 8000000 in
set_option maxRecDepth 100000 in
theorem fast_checked.calls (k : Nat) (a0 : Int) (P1_ : Nat → Prop) (A1 : Option Addr) (c1 : Nat) (l1 : List Int) (P2_ : Nat → Prop) (A2 : Option Addr) (c2 : Nat) (l2 : List Int) (r1 : List Int) (r2 : List Int) (r3 : Int) (w : World) (hs1 : Kd.V (Kd.int .u64) 33 w w.heap.size (fun k_ => P1_ k_) (.slice A1 l1.length c1) l1) (hs2 : Kd.V (Kd.int .u64) 33 w w.heap.size (fun k_ => P2_ k_) (.slice A2 l2.length c2) l2) (h : fast_checked.f k a0 l1 l2 = some (r1, r2, r3)) :
  Calls Try.prog 27 #[.int .u8 a0, .slice A1 l1.length c1, .slice A2 l2.length c2] w fun e w' => ∃ v0_ v1_ : Value, e = .returned (.tuple #[v0_, v1_, .int .i64 r3]) ∧ Kd.R (Kd.int .u64) 33 w' w.heap.size (fun k_ => (w.heap.size ≤ k_) ∧ some k_ ≠ (v1_ : Value).ownBlock) v0_ r1 ∧ Kd.R (Kd.int .u64) 33 w' w.heap.size (fun k_ => (w.heap.size ≤ k_) ∧ some k_ ≠ (v0_ : Value).ownBlock) v1_ r2 ∧ Below w.heap.size w w' := by
 have HO1 := A_ (show Kd.V (Kd.int .u64) 33 w w.heap.size (fun k_ => ((P1_ k_ ∨ P2_ k_) ∨ w.heap.size ≤ k_)) (.slice A1 l1.length c1) l1 from Kd.V_mono hs1 (fun k_ hk => .inl (.inl hk)))
 have HO2 := A_ (show Kd.V (Kd.int .u64) 33 w w.heap.size (fun k_ => ((P1_ k_ ∨ P2_ k_) ∨ w.heap.size ≤ k_)) (.slice A2 l2.length c2) l2 from Kd.V_mono hs2 (fun k_ hk => .inl (.inr hk)))
 have HB := A_ (Below.refl w.heap.size w)
 have H : ((fast_may.f k a0 (([l1, l2] : List (List Int)))).bind fun t313 => (if t313 = 0 then ((poly_Trim.f k l1).bind fun t314 => ((poly_Trim.f k l2).bind fun t317 => (if (t314.length : Int) > 0 then (if (t317.length : Int) > 0 then (if (wrap64 ((wrap64 ((t314.length : Int) + (t317.length : Int))) - 1)) > 4096 then (some (([] : List Int), ([] : List Int), 4)) else (some (t314, t317, 0))) else (some (t314, t317, 0))) else (some (t314, t317, 0))))) else (some (([] : List Int), ([] : List Int), t313)))) = some (r1, r2, r3) := h
 clear h
 obtain ⟨y310, hy310⟩ : ∃ y_ : List (List Int), y_ = (([l1, l2] : List (List Int))) := ⟨_, rfl⟩
 replace H : ((fast_may.f k a0 y310).bind fun t313 => (if t313 = 0 then ((poly_Trim.f k l1).bind fun t314 => ((poly_Trim.f k l2).bind fun t317 => (if (t314.length : Int) > 0 then (if (t317.length : Int) > 0 then (if (wrap64 ((wrap64 ((t314.length : Int) + (t317.length : Int))) - 1)) > 4096 then (some (([] : List Int), ([] : List Int), 4)) else (some (t314, t317, 0))) else (some (t314, t317, 0))) else (some (t314, t317, 0))))) else (some (([] : List Int), ([] : List Int), t313)))) = some (r1, r2, r3) := by first | (rw [hy310]; with_reducible exact H) | (have H2_ := (Option.bind_some _ _).symm.trans H; rw [hy310]; with_reducible exact H2_) | (have H2_ := (Option.bind_some _ _).symm.trans H; with_reducible exact H2_) | with_reducible exact H | (rw [hy310]; exact H) | exact H
 have Ny310 := Aside0.mk hy310
 clear hy310
 replace H := Option.bind_eq_some_iff.mp H
 obtain ⟨t313, A40, H⟩ := H
 (try dsimp only at H)
 have A4 := Aside0.mk A40
 clear A40
 have HC5 := Aside0.mk H
 clear H
 go_enter Try.func27, Try.ntmps27
 go_upto_if 16 with (first | ((with_reducible refine gate_dst (N := 13) rfl ?_); (try (refine gate_guard (by rfl) ?_; dsimp only)); refine Kd.N_lit (Kd.slice 33 (Kd.int .u64)) _ 22 ?hg (N' := 13) ?hd (xs := ([l1, l2] : List (List Int))) (inner := [.slice A1 l1.length c1, .slice A2 l2.length c2]) (ok := (fun k_ => ((P1_ k_ ∨ P2_ k_) ∨ w.heap.size ≤ k_))) (okp := (fun k_ => ((P1_ k_ ∨ P2_ k_) ∨ w.heap.size ≤ k_))) ?hr ?hp (fun _ hk => hk) ((show ∀ k_, w.heap.size ≤ k_ → (fun k_ => ((P1_ k_ ∨ P2_ k_) ∨ w.heap.size ≤ k_)) k_ from fun k_ hk => (.inr (Nat.le_trans (below_size hb_) hk))) _ (Nat.le_refl _)) (Below.refl _ _) (Nat.le_refl _) (by simp) ?_; (case hd => rfl); (case hg => rfl); (case hr => first | (go_simp; done) | (go_simp; rfl)); (case hp => exact (Reps.one (show Kd.FK (Kd.slice 33 (Kd.int .u64)) _ _ l1 [.slice A1 l1.length c1] from (Kd.FK_slice_mk (Kd.V_reads' (Kd.V_mono (ok' := (fun k_ => ((P1_ k_ ∨ P2_ k_) ∨ w.heap.size ≤ k_))) (HO1.out) (fun k_ hk => hk))).2.1 (Kd.V_F (Kd.V_mono (ok' := (fun k_ => ((P1_ k_ ∨ P2_ k_) ∨ w.heap.size ≤ k_))) (HO1.out) (fun k_ hk => hk))))) (Reps.one (show Kd.FK (Kd.slice 33 (Kd.int .u64)) _ _ l2 [.slice A2 l2.length c2] from (Kd.FK_slice_mk (Kd.V_reads' (Kd.V_mono (ok' := (fun k_ => ((P1_ k_ ∨ P2_ k_) ∨ w.heap.size ≤ k_))) (HO2.out) (fun k_ hk => hk))).2.1 (Kd.V_F (Kd.V_mono (ok' := (fun k_ => ((P1_ k_ ∨ P2_ k_) ∨ w.heap.size ≤ k_))) (HO2.out) (fun k_ hk => hk))))) (Reps.none _ _)))); intro v311 w6 ho7 hb hg_ hnew_; clear hg_ hnew_; (first | rw [← Ny310.out] at ho7 | (simp only [Int.reduceToNat] at ho7; rw [← Ny310.out] at ho7)); have n0_ := A_ (Kd.V_elder' (nV_ HO1) (Kd.N_base ho7) hb); have n1_ := A_ (Kd.V_elder' (nV_ HO2) (Kd.N_base ho7) hb); have n2_ := A_ (Kd.N_lower ho7 (below_size hb_)); have n3_ := A_ (below_step hb_ hb); clear HO1 HO2 HB; have HO1 := n0_; have HO2 := n1_; have HO312 := n2_; have HB := n3_; clear n0_ n1_ n2_ n3_; clear hb ho7; obtain ⟨Ao8, co8, eo8⟩ := Kd.N_slice HO312.out; subst eo8) | ((with_reducible refine gate_callee (f := 35) rfl ?_); refine goesM_ (some 14) Try.func35 #[.int .u8 a0, .slice Ao8 y310.length co8] ?_; (with_reducible refine (fast_may.calls k a0 _ _ y310 t313 _ ?side1 ?side2 A4.out).mono ?_); (case side1 => repeat (first | exact (Kd.N_reads' HO312.out).2.2 | (with_reducible refine Kd.C_alloc ?_ _) | (with_reducible refine Kd.C_drewN ?_ _) | (with_reducible refine Kd.C_drew ?_))); (case side2 => exact (Kd.N_reads' HO312.out).2.1); rintro e w9 ⟨rfl, hb⟩; refine ⟨_, rfl, ?_⟩; have n0_ := A_ (Kd.V_below (nV_ HO1) hb); have n1_ := A_ (Kd.V_below (nV_ HO2) hb); have n2_ := A_ (Kd.N_below (nN_ HO312) hb); have n3_ := A_ (below_step hb_ hb); clear HO1 HO2 HO312 HB; have HO1 := n0_; have HO2 := n1_; have HO312 := n2_; have HB := n3_; clear n0_ n1_ n2_ n3_; (try clear hb)))
 (try simp only [Act.put, List.setIfInBounds_toArray, List.set_cons_zero, List.set_cons_succ])
 have H := HC5.out
 clear HC5
 by_cases c10 : t313 = 0
 ·rw [if_pos c10] at H
  have c10b0 : (t313 == 0) = true := beq_iff_eq.mpr c10
  have c10b1 : (t313 != 0) = false := bne_eq_false_iff_eq.mpr c10
  clear c10
  (first | rw [c10b0] | rw [c10b1] | (simp only [i64_w, i32_w]; first | rw [c10b0] | rw [c10b1]) | skip)
  replace H := Option.bind_eq_some_iff.mp H
  obtain ⟨t314, A110, H⟩ := H
  (try dsimp only at H)
  have A11 := Aside0.mk A110
  clear A110
  replace H := Option.bind_eq_some_iff.mp H
  obtain ⟨t317, A120, H⟩ := H
  replace H : (if (t314.length : Int) > 0 then (if (t317.length : Int) > 0 then (if (wrap64 ((wrap64 ((t314.length : Int) + (t317.length : Int))) - 1)) > 4096 then (some (([] : List Int), ([] : List Int), 4)) else (some (t314, t317, 0))) else (some (t314, t317, 0))) else (some (t314, t317, 0))) = some (r1, r2, r3) := H
  have A12 := Aside0.mk A120
  clear A120
  by_cases c13 : (t314.length : Int) > 0
  ·rw [if_pos c13] at H
   have c13b0 : decide (0 < (t314.length : Int)) = true := decide_eq_true c13
   have c13b1 : decide (0 < t314.length) = true := decide_eq_true (by omega)
   clear c13
   by_cases c14 : (t317.length : Int) > 0
   ·rw [if_pos c14] at H
    have c14b0 : decide (0 < (t317.length : Int)) = true := decide_eq_true c14
    have c14b1 : decide (0 < t317.length) = true := decide_eq_true (by omega)
    clear c14
    have HC15 := Aside0.mk H
    clear H
    go_upto_if 38 with (first | ((with_reducible refine gate_callee (f := 29) rfl ?_); refine goesM_ (some 19) Try.func29 #[.slice A1 l1.length c1] ?_; (with_reducible refine (poly_Trim.calls k _ _ l1 t314 _ ?side1 ?side2 A11.out).mono ?_); (case side1 => repeat (first | exact (Kd.V_reads' HO1.out).2.2 | (with_reducible refine Kd.C_alloc ?_ _) | (with_reducible refine Kd.C_drewN ?_ _) | (with_reducible refine Kd.C_drew ?_))); (case side2 => exact (Kd.V_reads' HO1.out).2.1); rintro e w16 ⟨v315, rfl, ho0, hb⟩; refine ⟨_, rfl, ?_⟩; have n0_ := A_ (Kd.V_elder' (nV_ HO1) (Kd.R_base ho0) hb); have n1_ := A_ (Kd.V_elder' (nV_ HO2) (Kd.R_base ho0) hb); have n2_ := A_ (Kd.N_elder' (nN_ HO312) (Kd.R_base ho0) hb); have n3_ := A_ (Kd.R_lower (Kd.R_newM (M := fun k_ => (w.heap.size ≤ k_)) ho0 (below_size hb_) (fun k_ h_ => h_)) (below_size hb_)); have n4_ := A_ (below_step hb_ hb); clear HO1 HO2 HO312 HB; have HO1 := n0_; have HO2 := n1_; have HO312 := n2_; have HO316 := n3_; have HB := n4_; clear n0_ n1_ n2_ n3_ n4_; (try clear hb); (try clear ho0)) | ((with_reducible refine gate_callee (f := 29) rfl ?_); refine goesM_ (some 21) Try.func29 #[.slice A2 l2.length c2] ?_; (with_reducible refine (poly_Trim.calls k _ _ l2 t317 _ ?side1 ?side2 A12.out).mono ?_); (case side1 => repeat (first | exact (Kd.V_reads' HO2.out).2.2 | (with_reducible refine Kd.C_alloc ?_ _) | (with_reducible refine Kd.C_drewN ?_ _) | (with_reducible refine Kd.C_drew ?_))); (case side2 => exact (Kd.V_reads' HO2.out).2.1); rintro e w17 ⟨v318, rfl, ho0, hb⟩; refine ⟨_, rfl, ?_⟩; have n0_ := A_ (Kd.V_elder' (nV_ HO1) (Kd.R_base ho0) hb); have n1_ := A_ (Kd.V_elder' (nV_ HO2) (Kd.R_base ho0) hb); have n2_ := A_ (Kd.N_elder' (nN_ HO312) (Kd.R_base ho0) hb); have n3_ := A_ (Kd.R_elder' (nR_ HO316) (Kd.R_base ho0) hb); have n4_ := A_ (Kd.R_lower (Kd.R_new' (Kd.R_newM (M := fun k_ => (w.heap.size ≤ k_)) ho0 (below_size hb_) (fun k_ h_ => h_)) (Kd.R_lt (nR_ HO316))) (below_size hb_)); have n5_ := A_ (below_step hb_ hb); clear HO1 HO2 HO312 HO316 HB; have HO1 := n0_; have HO2 := n1_; have HO312 := n2_; have HO316 := n3_; have HO319 := n4_; have HB := n5_; clear n0_ n1_ n2_ n3_ n4_ n5_; (try clear hb); (try clear ho0); obtain ⟨Ao18, co18, eo18⟩ := Kd.R_slice HO316.out; subst eo18; obtain ⟨Ao19, co19, eo19⟩ := Kd.R_slice HO319.out; subst eo19))
    (try simp only [Act.put, List.setIfInBounds_toArray, List.set_cons_zero, List.set_cons_succ])
    have H := HC15.out
    clear HC15
    by_cases c20 : (wrap64 ((wrap64 ((t314.length : Int) + (t317.length : Int))) - 1)) > 4096
    ·rw [if_pos c20] at H
     have c20b0 : decide (4096 < (wrap64 ((wrap64 ((t314.length : Int) + (t317.length : Int))) - 1))) = true := decide_eq_true c20
     clear c20
     (first | rw [c20b0] | (simp only [i64_w, i32_w]; first | rw [c20b0]) | skip)
     simp only [Option.some.injEq, Prod.mk.injEq] at H
     obtain ⟨rfl, rfl, rfl⟩ := H
     go_wp2
     go_ret3
     exact ⟨_, _, fr_, by first | exact Kd.R_nil _ _ _ _ _ | exact Kd.N_nil _ _ _ _ _ | exact Kd.V_nil _ _ _ _ _ | exact Kd.Q_nil _ _ _ _ _ | exact Kd.S_nil _ _ _ _ _, by first | exact Kd.R_nil _ _ _ _ _ | exact Kd.N_nil _ _ _ _ _ | exact Kd.V_nil _ _ _ _ _ | exact Kd.Q_nil _ _ _ _ _ | exact Kd.S_nil _ _ _ _ _, hb_⟩
    ·rw [if_neg c20] at H
     have c20b0 : decide (4096 < (wrap64 ((wrap64 ((t314.length : Int) + (t317.length : Int))) - 1))) = false := decide_eq_false c20
     clear c20
     (first | rw [c20b0] | (simp only [i64_w, i32_w]; first | rw [c20b0]) | skip)
     simp only [Option.some.injEq, Prod.mk.injEq] at H
     obtain ⟨rfl, rfl, rfl⟩ := H
     go_wp2
     go_ret3
     exact ⟨_, _, fr_, by (with_reducible repeat (first | apply Kd.R_alloc | apply Kd.R_drewN | apply Kd.R_drew)); exact Kd.R_mono HO316.out (fun _ hk => ⟨hk.1.1, hk.2⟩), by (with_reducible repeat (first | apply Kd.R_alloc | apply Kd.R_drewN | apply Kd.R_drew)); exact Kd.R_mono HO319.out (fun _ hk => ⟨hk.1.1, hk.2⟩), hb_⟩
   ·rw [if_neg c14] at H
    have c14b0 : decide (0 < (t317.length : Int)) = false := decide_eq_false c14
    have c14b1 : decide (0 < t317.length) = false := decide_eq_false (by omega)
    clear c14
    simp only [Option.some.injEq, Prod.mk.injEq] at H
    obtain ⟨rfl, rfl, rfl⟩ := H
    go_wp2_with (first | ((with_reducible refine gate_callee (f := 29) rfl ?_); refine goesM_ (some 19) Try.func29 #[.slice A1 l1.length c1] ?_; (with_reducible refine (poly_Trim.calls k _ _ l1 t314 _ ?side1 ?side2 A11.out).mono ?_); (case side1 => repeat (first | exact (Kd.V_reads' HO1.out).2.2 | (with_reducible refine Kd.C_alloc ?_ _) | (with_reducible refine Kd.C_drewN ?_ _) | (with_reducible refine Kd.C_drew ?_))); (case side2 => exact (Kd.V_reads' HO1.out).2.1); rintro e w21 ⟨v315, rfl, ho0, hb⟩; refine ⟨_, rfl, ?_⟩; have n0_ := A_ (Kd.V_elder' (nV_ HO1) (Kd.R_base ho0) hb); have n1_ := A_ (Kd.V_elder' (nV_ HO2) (Kd.R_base ho0) hb); have n2_ := A_ (Kd.N_elder' (nN_ HO312) (Kd.R_base ho0) hb); have n3_ := A_ (Kd.R_lower (Kd.R_newM (M := fun k_ => (w.heap.size ≤ k_)) ho0 (below_size hb_) (fun k_ h_ => h_)) (below_size hb_)); have n4_ := A_ (below_step hb_ hb); clear HO1 HO2 HO312 HB; have HO1 := n0_; have HO2 := n1_; have HO312 := n2_; have HO316 := n3_; have HB := n4_; clear n0_ n1_ n2_ n3_ n4_; (try clear hb); (try clear ho0)) | ((with_reducible refine gate_callee (f := 29) rfl ?_); refine goesM_ (some 21) Try.func29 #[.slice A2 l2.length c2] ?_; (with_reducible refine (poly_Trim.calls k _ _ l2 t317 _ ?side1 ?side2 A12.out).mono ?_); (case side1 => repeat (first | exact (Kd.V_reads' HO2.out).2.2 | (with_reducible refine Kd.C_alloc ?_ _) | (with_reducible refine Kd.C_drewN ?_ _) | (with_reducible refine Kd.C_drew ?_))); (case side2 => exact (Kd.V_reads' HO2.out).2.1); rintro e w22 ⟨v318, rfl, ho0, hb⟩; refine ⟨_, rfl, ?_⟩; have n0_ := A_ (Kd.V_elder' (nV_ HO1) (Kd.R_base ho0) hb); have n1_ := A_ (Kd.V_elder' (nV_ HO2) (Kd.R_base ho0) hb); have n2_ := A_ (Kd.N_elder' (nN_ HO312) (Kd.R_base ho0) hb); have n3_ := A_ (Kd.R_elder' (nR_ HO316) (Kd.R_base ho0) hb); have n4_ := A_ (Kd.R_lower (Kd.R_new' (Kd.R_newM (M := fun k_ => (w.heap.size ≤ k_)) ho0 (below_size hb_) (fun k_ h_ => h_)) (Kd.R_lt (nR_ HO316))) (below_size hb_)); have n5_ := A_ (below_step hb_ hb); clear HO1 HO2 HO312 HO316 HB; have HO1 := n0_; have HO2 := n1_; have HO312 := n2_; have HO316 := n3_; have HO319 := n4_; have HB := n5_; clear n0_ n1_ n2_ n3_ n4_ n5_; (try clear hb); (try clear ho0); obtain ⟨Ao23, co23, eo23⟩ := Kd.R_slice HO316.out; subst eo23; obtain ⟨Ao24, co24, eo24⟩ := Kd.R_slice HO319.out; subst eo24))
    go_ret3
    exact ⟨_, _, fr_, by (with_reducible repeat (first | apply Kd.R_alloc | apply Kd.R_drewN | apply Kd.R_drew)); exact Kd.R_mono HO316.out (fun _ hk => ⟨hk.1.1, hk.2⟩), by (with_reducible repeat (first | apply Kd.R_alloc | apply Kd.R_drewN | apply Kd.R_drew)); exact Kd.R_mono HO319.out (fun _ hk => ⟨hk.1.1, hk.2⟩), hb_⟩
  ·rw [if_neg c13] at H
   have c13b0 : decide (0 < (t314.length : Int)) = false := decide_eq_false c13
   have c13b1 : decide (0 < t314.length) = false := decide_eq_false (by omega)
   clear c13
   simp only [Option.some.injEq, Prod.mk.injEq] at H
   obtain ⟨rfl, rfl, rfl⟩ := H
   go_wp2_with (first | ((with_reducible refine gate_callee (f := 29) rfl ?_); refine goesM_ (some 19) Try.func29 #[.slice A1 l1.length c1] ?_; (with_reducible refine (poly_Trim.calls k _ _ l1 t314 _ ?side1 ?side2 A11.out).mono ?_); (case side1 => repeat (first | exact (Kd.V_reads' HO1.out).2.2 | (with_reducible refine Kd.C_alloc ?_ _) | (with_reducible refine Kd.C_drewN ?_ _) | (with_reducible refine Kd.C_drew ?_))); (case side2 => exact (Kd.V_reads' HO1.out).2.1); rintro e w25 ⟨v315, rfl, ho0, hb⟩; refine ⟨_, rfl, ?_⟩; have n0_ := A_ (Kd.V_elder' (nV_ HO1) (Kd.R_base ho0) hb); have n1_ := A_ (Kd.V_elder' (nV_ HO2) (Kd.R_base ho0) hb); have n2_ := A_ (Kd.N_elder' (nN_ HO312) (Kd.R_base ho0) hb); have n3_ := A_ (Kd.R_lower (Kd.R_newM (M := fun k_ => (w.heap.size ≤ k_)) ho0 (below_size hb_) (fun k_ h_ => h_)) (below_size hb_)); have n4_ := A_ (below_step hb_ hb); clear HO1 HO2 HO312 HB; have HO1 := n0_; have HO2 := n1_; have HO312 := n2_; have HO316 := n3_; have HB := n4_; clear n0_ n1_ n2_ n3_ n4_; (try clear hb); (try clear ho0)) | ((with_reducible refine gate_callee (f := 29) rfl ?_); refine goesM_ (some 21) Try.func29 #[.slice A2 l2.length c2] ?_; (with_reducible refine (poly_Trim.calls k _ _ l2 t317 _ ?side1 ?side2 A12.out).mono ?_); (case side1 => repeat (first | exact (Kd.V_reads' HO2.out).2.2 | (with_reducible refine Kd.C_alloc ?_ _) | (with_reducible refine Kd.C_drewN ?_ _) | (with_reducible refine Kd.C_drew ?_))); (case side2 => exact (Kd.V_reads' HO2.out).2.1); rintro e w26 ⟨v318, rfl, ho0, hb⟩; refine ⟨_, rfl, ?_⟩; have n0_ := A_ (Kd.V_elder' (nV_ HO1) (Kd.R_base ho0) hb); have n1_ := A_ (Kd.V_elder' (nV_ HO2) (Kd.R_base ho0) hb); have n2_ := A_ (Kd.N_elder' (nN_ HO312) (Kd.R_base ho0) hb); have n3_ := A_ (Kd.R_elder' (nR_ HO316) (Kd.R_base ho0) hb); have n4_ := A_ (Kd.R_lower (Kd.R_new' (Kd.R_newM (M := fun k_ => (w.heap.size ≤ k_)) ho0 (below_size hb_) (fun k_ h_ => h_)) (Kd.R_lt (nR_ HO316))) (below_size hb_)); have n5_ := A_ (below_step hb_ hb); clear HO1 HO2 HO312 HO316 HB; have HO1 := n0_; have HO2 := n1_; have HO312 := n2_; have HO316 := n3_; have HO319 := n4_; have HB := n5_; clear n0_ n1_ n2_ n3_ n4_ n5_; (try clear hb); (try clear ho0); obtain ⟨Ao27, co27, eo27⟩ := Kd.R_slice HO316.out; subst eo27))
   go_ret3
   exact ⟨_, _, fr_, by (with_reducible repeat (first | apply Kd.R_alloc | apply Kd.R_drewN | apply Kd.R_drew)); exact Kd.R_mono HO316.out (fun _ hk => ⟨hk.1.1, hk.2⟩), by (with_reducible repeat (first | apply Kd.R_alloc | apply Kd.R_drewN | apply Kd.R_drew)); exact Kd.R_mono HO319.out (fun _ hk => ⟨hk.1.1, hk.2⟩), hb_⟩
 ·rw [if_neg c10] at H
  have c10b0 : (t313 == 0) = false := beq_eq_false_iff_ne.mpr c10
  have c10b1 : (t313 != 0) = true := bne_iff_ne.mpr c10
  (first | rw [c10b0] | rw [c10b1] | (simp only [i64_w, i32_w]; first | rw [c10b0] | rw [c10b1]) | skip)
  simp only [Option.some.injEq, Prod.mk.injEq] at H
  obtain ⟨rfl, rfl, rfl⟩ := H
  go_wp2
  go_ret3
  exact ⟨_, _, fr_, by first | exact Kd.R_nil _ _ _ _ _ | exact Kd.N_nil _ _ _ _ _ | exact Kd.V_nil _ _ _ _ _ | exact Kd.Q_nil _ _ _ _ _ | exact Kd.S_nil _ _ _ _ _, by first | exact Kd.R_nil _ _ _ _ _ | exact Kd.N_nil _ _ _ _ _ | exact Kd.V_nil _ _ _ _ _ | exact Kd.Q_nil _ _ _ _ _ | exact Kd.S_nil _ _ _ _ _, hb_⟩
/-! ### poly_may: function 43 -/
def poly_may.l0 : Nat → Int → Int → List (List Int) → Int → Int → Option (Int)
 | 0, _, _, _, _, _ => none
 | k + 1, x0, x5, x11, x12, x13 => if x13 < x12 then (if 0 ≤ x13 then (if x13 < (x11.length : Int) then ((field_In.f k x0 (rd_L1 x11 x13)).bind fun t322 => (if t322 = true then (if ((rd_L1 x11 x13).length : Int) > 4096 then (poly_may.l0 k x0 4 x11 x12 (wrap64 (x13 + 1))) else (poly_may.l0 k x0 x5 x11 x12 (wrap64 (x13 + 1)))) else (some 2))) else (none)) else (none)) else (some x5)
def poly_may.f (k : Nat) (a0 : Int) (l1 : List (List Int)) : Option (Int) := (field_In.f k a0 ([] : List Int)).bind fun t320 => (if t320 = true then (poly_may.l0 k a0 0 l1 (l1.length : Int) 0) else (some 2))
theorem poly_may.mono_l : ∀ k, (∀ y0 y1 y2 y3 y4, LeO (poly_may.l0 k y0 y1 y2 y3 y4) (poly_may.l0 (k + 1) y0 y1 y2 y3 y4))
 | 0 => fun _ _ _ _ _ r h => by simp [poly_may.l0] at h
 | k + 1 => by
  have ih0 := poly_may.mono_l k
  ·intro y0 y1 y2 y3 y4
   unfold poly_may.l0
   repeat' first
   | (with_reducible exact ih0 _ _ _ _ _)
   | (with_reducible exact field_In.mono _ _ _)
   | (with_reducible exact LeO.refl _)
   | (with_reducible exact LeO.none _)
   | (with_reducible refine LeO.ite ?_ ?_)
   | (with_reducible refine LeO.bind ?_ (fun _ => ?_))
   | exact ih0 _ _ _ _ _
   | exact field_In.mono _ _ _
   | exact LeO.none _
   | refine LeO.ite ?_ ?_
   | refine LeO.bind ?_ (fun _ => ?_)
theorem poly_may.mono : ∀ a0 a1 k, LeO (poly_may.f k a0 a1) (poly_may.f (k + 1) a0 a1) := by
 intro a0 a1 k
 have ih0 := poly_may.mono_l k
 unfold poly_may.f
 repeat' first
   | (with_reducible exact ih0 _ _ _ _ _)
   | (with_reducible exact field_In.mono _ _ _)
   | (with_reducible exact LeO.refl _)
   | (with_reducible exact LeO.none _)
   | (with_reducible refine LeO.ite ?_ ?_)
   | (with_reducible refine LeO.bind ?_ (fun _ => ?_))
   | exact ih0 _ _ _ _ _
   | exact field_In.mono _ _ _
   | exact LeO.none _
   | refine LeO.ite ?_ ?_
   | refine LeO.bind ?_ (fun _ => ?_)
set_option maxHeartbeats 8000000 in
set_option maxRecDepth 100000 in
theorem poly_may.calls (k : Nat) (a0 : Int) (A1 : Option Addr) (c1 : Nat) (l1 : List (List Int)) (r : Int) (w : World) (hr1 : Kd.C (Kd.slice 33 (Kd.int .u64)) w A1 l1.length l1) (hc1 : l1.length ≤ c1) (h : poly_may.f k a0 l1 = some r) :
  Calls Try.prog 43 #[.int .u8 a0, .slice A1 l1.length c1] w fun e w' => e = .returned (.int .i64 r) ∧ Below w.heap.size w w' := by
 have HR1 := Aside0.mk hr1
 have HC1 := Aside0.mk hc1
 clear hr1 hc1
 have HB := A_ (Below.refl w.heap.size w)
 have H : ((field_In.f k a0 ([] : List Int)).bind fun t320 => (if t320 = true then (poly_may.l0 k a0 0 l1 (l1.length : Int) 0) else (some 2))) = some r := h
 clear h
 replace H := Option.bind_eq_some_iff.mp H
 obtain ⟨t320, A30, H⟩ := H
 replace H : (if t320 = true then (poly_may.l0 k a0 0 l1 (l1.length : Int) 0) else (some 2)) = some r := H
 have A3 := Aside0.mk A30
 clear A30
 have HC4 := Aside0.mk H
 clear H
 go_enter Try.func43, Try.ntmps43
 go_upto_if 10 with (first | ((with_reducible refine gate_callee (f := 53) rfl ?_); refine goesM_ (some 9) Try.func53 #[.int .u8 a0, .slice none 0 0] ?_; (refine (field_In.calls k a0 _ _ ([] : List Int) t320 _ ?side1 ?side2 A3.out).mono ?_); (case side1 => exact Kd.C_nil _ _); (case side2 => exact Nat.le_refl _); rintro e w5 ⟨rfl, hb⟩; refine ⟨_, rfl, ?_⟩; have n0_ := A_ (below_step hb_ hb); clear HB; have HB := n0_; clear n0_; (try clear hb)))
 (try simp only [Act.put, List.setIfInBounds_toArray, List.set_cons_zero, List.set_cons_succ])
 have H := HC4.out
 clear HC4
 by_cases c6 : t320 = true
 ·subst c6
  have H1 : (poly_may.l0 k a0 0 l1 (l1.length : Int) 0) = some r := by rw [if_pos rfl] at H; exact H
  clear H
  have H := H1
  clear H1
  have H' := Aside0.mk H
  clear H
  go_wp2
  go_loopg [5, 13] k (fun kq v5 v13 w' => ∃ (x5_1 : Int) (x13_1 : Int), v5 = .int .i64 x5_1 ∧ v13 = .int .i64 x13_1 ∧ Aside0 (poly_may.l0 kq a0 x5_1 l1 (l1.length : Int) x13_1 = some r) ∧ Aside0 (kq ≤ k) ∧ Aside0 (Below w.heap.size w w'))
  case atStart => exact ⟨(0), (0), (fs_), (fs_), H', ⟨Nat.le_refl _⟩, ⟨by repeat (first | (with_reducible first | exact HB.out | apply below_alloc | apply pw_below_drewN | apply below_drew1) | exact HB.out)⟩⟩
  case round =>
   clear H'
   try clear c1
   try clear p2
   try clear c4
   try clear c5
   try clear c6
   obtain ⟨x5_1, x13_1, rfl, rfl, HA, HK1, HB⟩ := hrel
   cases gk with
   | zero => exact absurd HA.out (by simp [poly_may.l0])
   | succ k1 =>
    have H := HA.out
    clear HA
    simp only [poly_may.l0] at H
    by_cases c7 : x13_1 < (l1.length : Int)
    ·rw [if_pos c7] at H
     have c7b0 : decide (x13_1 < (l1.length : Int)) = true := decide_eq_true c7
     clear c7
     (first | rw [c7b0] | (simp only [i64_w, i32_w]; first | rw [c7b0]) | skip)
     by_cases c8 : 0 ≤ x13_1
     ·rw [if_pos c8] at H
      have c8b0 : decide (0 ≤ x13_1) = true := decide_eq_true c8
      clear c8
      by_cases c9 : x13_1 < (l1.length : Int)
      ·rw [if_pos c9] at H
       have c9b0 : decide (x13_1 < (l1.length : Int)) = true := decide_eq_true c9
       clear c9
       replace H := Option.bind_eq_some_iff.mp H
       obtain ⟨t322, A100, H⟩ := H
       replace H : (if t322 = true then (if ((rd_L1 l1 x13_1).length : Int) > 4096 then (poly_may.l0 k1 a0 4 l1 (l1.length : Int) (wrap64 (x13_1 + 1))) else (poly_may.l0 k1 a0 x5_1 l1 (l1.length : Int) (wrap64 (x13_1 + 1)))) else (some 2)) = some r := H
       have A10 := Aside0.mk A100
       clear A100
       have HC11 := Aside0.mk H
       clear H
       have p321 : 0 ≤ (x13_1 : Int) := of_decide_eq_true (by first | (with_reducible assumption) | assumption)
       have q321 : x13_1 < (l1.length : Int) := of_decide_eq_true (by first | (with_reducible assumption) | assumption)
       obtain ⟨ad321, A321_0, c321_0, e321, hx321_0, hl321_0, hi321_0⟩ := at_L1 HR1.out x13_1 p321 q321
       cases e321
       replace hx321_0 := (HB.out.cell (World.block_lt_of_cell? w _ hx321_0)).trans hx321_0
       have HR321_0 := Aside0.mk hi321_0
       have HC321_0 := Aside0.mk hl321_0
       clear hi321_0 hl321_0
       replace p321 := eq_true p321
       replace q321 := eq_true q321
       go_upto_if 20 with (first | ((with_reducible refine gate_callee (f := 53) rfl ?_); refine goesM_ (some 19) Try.func53 #[.int .u8 a0, .slice A321_0 (rd_L1 l1 x13_1).length c321_0] ?_; (with_reducible refine (field_In.calls k1 a0 _ _ (rd_L1 l1 x13_1) t322 _ ?side1 ?side2 A10.out).mono ?_); (case side1 => repeat (first | exact (Kd.C_below HR321_0.out HB.out) | (with_reducible refine Kd.C_alloc ?_ _) | (with_reducible refine Kd.C_drewN ?_ _) | (with_reducible refine Kd.C_drew ?_))); (case side2 => exact HC321_0.out); rintro e w12 ⟨rfl, hb⟩; refine ⟨_, rfl, ?_⟩; have n0_ := A_ (below_step hb_ hb); clear HB; have HB := n0_; clear n0_; (try clear hb)))
       (try simp only [Act.put, List.setIfInBounds_toArray, List.set_cons_zero, List.set_cons_succ])
       have H := HC11.out
       clear HC11
       by_cases c13 : t322 = true
       ·subst c13
        have H1 : (if ((rd_L1 l1 x13_1).length : Int) > 4096 then (poly_may.l0 k1 a0 4 l1 (l1.length : Int) (wrap64 (x13_1 + 1))) else (poly_may.l0 k1 a0 x5_1 l1 (l1.length : Int) (wrap64 (x13_1 + 1)))) = some r := by rw [if_pos rfl] at H; exact H
        clear H
        have H := H1
        clear H1
        by_cases c14 : ((rd_L1 l1 x13_1).length : Int) > 4096
        ·rw [if_pos c14] at H
         have c14b0 : decide (4096 < ((rd_L1 l1 x13_1).length : Int)) = true := decide_eq_true c14
         have c14b1 : decide (4096 < (rd_L1 l1 x13_1).length) = true := decide_eq_true (by omega)
         clear c14
         (first | rw [c14b0] | rw [c14b1] | (simp only [i64_w, i32_w]; first | rw [c14b0] | rw [c14b1]) | skip)
         have H' := Aside0.mk H
         clear H
         go_wp2
         go_roundg k1
         case measure => have := HK1.out; omega
         case rel => exact ⟨(4), (wrap64 (x13_1 + 1)), (fs_), (fs_), H', ⟨by have := HK1.out; omega⟩, ⟨by repeat (first | (with_reducible first | exact HB.out | apply below_alloc | apply pw_below_drewN | apply below_drew1) | exact HB.out)⟩⟩
        ·rw [if_neg c14] at H
         have c14b0 : decide (4096 < ((rd_L1 l1 x13_1).length : Int)) = false := decide_eq_false c14
         have c14b1 : decide (4096 < (rd_L1 l1 x13_1).length) = false := decide_eq_false (by omega)
         clear c14
         (first | rw [c14b0] | rw [c14b1] | (simp only [i64_w, i32_w]; first | rw [c14b0] | rw [c14b1]) | skip)
         have H' := Aside0.mk H
         clear H
         go_wp2
         go_roundg k1
         case measure => have := HK1.out; omega
         case rel => exact ⟨(x5_1), (wrap64 (x13_1 + 1)), (fs_), (fs_), H', ⟨by have := HK1.out; omega⟩, ⟨by repeat (first | (with_reducible first | exact HB.out | apply below_alloc | apply pw_below_drewN | apply below_drew1) | exact HB.out)⟩⟩
       ·replace c13 := Bool.eq_false_iff.mpr c13
        subst c13
        have H1 : (some 2) = some r := by rw [if_neg (show ¬ (false = true) by decide)] at H; exact H
        clear H
        have H := H1
        clear H1
        obtain rfl := Option.some.inj H
        go_wp2
        go_ret
        exact ⟨fr_, hb_⟩
      ·rw [if_neg c9] at H
       exact absurd H (by simp)
     ·rw [if_neg c8] at H
      exact absurd H (by simp)
    ·rw [if_neg c7] at H
     have c7b0 : decide (x13_1 < (l1.length : Int)) = false := decide_eq_false c7
     clear c7
     (first | rw [c7b0] | (simp only [i64_w, i32_w]; first | rw [c7b0]) | skip)
     obtain rfl := Option.some.inj H
     go_wp2
     go_ret
     exact ⟨fr_, hb_⟩
 ·replace c6 := Bool.eq_false_iff.mpr c6
  subst c6
  have H1 : (some 2) = some r := by rw [if_neg (show ¬ (false = true) by decide)] at H; exact H
  clear H
  have H := H1
  clear H1
  obtain rfl := Option.some.inj H
  go_wp2
  go_ret
  exact ⟨fr_, hb_⟩
/-! ### poly_reckoner_add: function 63 -/
def poly_reckoner_add.f (k : Nat) (a0_0 : Int) (a1 : Int) (a2 : Int) : Option (Int) := (field_Add.f k a0_0 a1 a2).bind fun bt324 => (some bt324.1)
theorem poly_reckoner_add.mono : ∀ a0 a1 a2 k, LeO (poly_reckoner_add.f k a0 a1 a2) (poly_reckoner_add.f (k + 1) a0 a1 a2) := by
 intro a0 a1 a2 k
 unfold poly_reckoner_add.f
 repeat' first
   | (with_reducible exact field_Add.mono _ _ _ _)
   | (with_reducible exact LeO.refl _)
   | (with_reducible exact LeO.none _)
   | (with_reducible refine LeO.ite ?_ ?_)
   | (with_reducible refine LeO.bind ?_ (fun _ => ?_))
   | exact field_Add.mono _ _ _ _
   | exact LeO.none _
   | refine LeO.ite ?_ ?_
   | refine LeO.bind ?_ (fun _ => ?_)
set_option maxHeartbeats 8000000 in
set_option maxRecDepth 100000 in
theorem poly_reckoner_add.calls (k : Nat) (a0_0 : Int) (a1 : Int) (a2 : Int) (r : Int) (w : World) (h : poly_reckoner_add.f k a0_0 a1 a2 = some r) :
  Calls Try.prog 63 #[.agg #[.int .u8 a0_0], .int .u64 a1, .int .u64 a2] w fun e w' => e = .returned (.int .u64 r) ∧ Below w.heap.size w w' := by
 have hu61 := Try.underlying61
 have HB := A_ (Below.refl w.heap.size w)
 have H : ((field_Add.f k a0_0 a1 a2).bind fun bt324 => (some bt324.1)) = some r := h
 clear h
 replace H := Option.bind_eq_some_iff.mp H
 obtain ⟨⟨t324, t325⟩, A40, H⟩ := H
 replace H : (some t324) = some r := H
 have A4 := Aside0.mk A40
 clear A40
 obtain rfl := Option.some.inj H
 go_enter Try.func63, Try.ntmps63
 go_wp2_with (first | ((with_reducible refine gate_dst (N := 3) rfl ?_); refine box_event ?hg (N := 3) ?hd (cs := #[.int .u8 a0_0]) (t := 61) ?hr ?_; (case hd => rfl); (case hg => rfl); (case hr => first | (go_simp; done) | (go_simp; rfl)); intro gb323 hg w5 hbox hb; have n0_ := A_ (below_step hb_ hb); have n1_ := A_ (hbox); have n2_ := A_ ((by rw [hg]; exact (below_size hb_) : w.heap.size ≤ gb323)); have n3_ := A_ ((by rw [hg]; exact (below_size hb_) : w.heap.size ≤ gb323)); clear HB; have HB := n0_; have BK323 := n1_; have GW323 := n2_; have GE323 := n3_; clear n0_ n1_ n2_ n3_; clear hb hbox hg; have hcz6_0 : w5.cell? ⟨gb323, 0, none⟩ = some (.int .u8 a0_0) := (blk_cell BK323.out 0).trans rfl; have hfz6_0 := blk_frozen BK323.out 0) | ((with_reducible refine gate_callee (f := 65) rfl ?_); refine goesM_ (some 14) Try.func65 #[.int .u8 a0_0, .int .u64 a1, .int .u64 a2] ?_; (with_reducible refine (field_Add.calls k a0_0 a1 a2 t324 t325 _ A4.out).mono ?_); rintro e w7 ⟨rfl, hb⟩; refine ⟨_, rfl, ?_⟩; have n0_ := A_ (blk_below (g := gb323) (o := .cells #[.int .u8 a0_0] 61 (0, 0)) (nb_ BK323) hb); have n1_ := A_ (below_step hs_ hb); clear BK323 HB; have BK323 := n0_; have HB := n1_; clear n0_ n1_; (try clear hb)))
 go_ret
 exact ⟨fr_, hs_⟩
/-! ### poly_reckoner_mul: function 64 -/
def poly_reckoner_mul.f (k : Nat) (a0_0 : Int) (a1 : Int) (a2 : Int) : Option (Int) := (field_Mul.f k a0_0 a1 a2).bind fun bt327 => (some bt327.1)
theorem poly_reckoner_mul.mono : ∀ a0 a1 a2 k, LeO (poly_reckoner_mul.f k a0 a1 a2) (poly_reckoner_mul.f (k + 1) a0 a1 a2) := by
 intro a0 a1 a2 k
 unfold poly_reckoner_mul.f
 repeat' first
   | (with_reducible exact field_Mul.mono _ _ _ _)
   | (with_reducible exact LeO.refl _)
   | (with_reducible exact LeO.none _)
   | (with_reducible refine LeO.ite ?_ ?_)
   | (with_reducible refine LeO.bind ?_ (fun _ => ?_))
   | exact field_Mul.mono _ _ _ _
   | exact LeO.none _
   | refine LeO.ite ?_ ?_
   | refine LeO.bind ?_ (fun _ => ?_)
set_option maxHeartbeats 8000000 in
set_option maxRecDepth 100000 in
theorem poly_reckoner_mul.calls (k : Nat) (a0_0 : Int) (a1 : Int) (a2 : Int) (r : Int) (w : World) (h : poly_reckoner_mul.f k a0_0 a1 a2 = some r) :
  Calls Try.prog 64 #[.agg #[.int .u8 a0_0], .int .u64 a1, .int .u64 a2] w fun e w' => e = .returned (.int .u64 r) ∧ Below w.heap.size w w' := by
 have hu61 := Try.underlying61
 have HB := A_ (Below.refl w.heap.size w)
 have H : ((field_Mul.f k a0_0 a1 a2).bind fun bt327 => (some bt327.1)) = some r := h
 clear h
 replace H := Option.bind_eq_some_iff.mp H
 obtain ⟨⟨t327, t328⟩, A40, H⟩ := H
 replace H : (some t327) = some r := H
 have A4 := Aside0.mk A40
 clear A40
 obtain rfl := Option.some.inj H
 go_enter Try.func64, Try.ntmps64
 go_wp2_with (first | ((with_reducible refine gate_dst (N := 3) rfl ?_); refine box_event ?hg (N := 3) ?hd (cs := #[.int .u8 a0_0]) (t := 61) ?hr ?_; (case hd => rfl); (case hg => rfl); (case hr => first | (go_simp; done) | (go_simp; rfl)); intro gb326 hg w5 hbox hb; have n0_ := A_ (below_step hb_ hb); have n1_ := A_ (hbox); have n2_ := A_ ((by rw [hg]; exact (below_size hb_) : w.heap.size ≤ gb326)); have n3_ := A_ ((by rw [hg]; exact (below_size hb_) : w.heap.size ≤ gb326)); clear HB; have HB := n0_; have BK326 := n1_; have GW326 := n2_; have GE326 := n3_; clear n0_ n1_ n2_ n3_; clear hb hbox hg; have hcz6_0 : w5.cell? ⟨gb326, 0, none⟩ = some (.int .u8 a0_0) := (blk_cell BK326.out 0).trans rfl; have hfz6_0 := blk_frozen BK326.out 0) | ((with_reducible refine gate_callee (f := 62) rfl ?_); refine goesM_ (some 14) Try.func62 #[.int .u8 a0_0, .int .u64 a1, .int .u64 a2] ?_; (with_reducible refine (field_Mul.calls k a0_0 a1 a2 t327 t328 _ A4.out).mono ?_); rintro e w7 ⟨rfl, hb⟩; refine ⟨_, rfl, ?_⟩; have n0_ := A_ (blk_below (g := gb326) (o := .cells #[.int .u8 a0_0] 61 (0, 0)) (nb_ BK326) hb); have n1_ := A_ (below_step hs_ hb); clear BK326 HB; have BK326 := n0_; have HB := n1_; clear n0_ n1_; (try clear hb)))
 go_ret
 exact ⟨fr_, hs_⟩
end Go.Proofs.Ytaegmhniepfdaaa.PFastFresh
