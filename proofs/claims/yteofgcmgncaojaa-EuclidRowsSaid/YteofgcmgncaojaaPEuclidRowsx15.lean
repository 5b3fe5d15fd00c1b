/- The Go functions as Lean functions, each with the proof that its call comes to just that; written by a program of this session, by the words of the print. -/
import Derived.Test.YteofgcmgncaojaaPEuclidRowsx0
import Derived.Test.YteofgcmgncaojaaPEuclidRowsx10
import Derived.Test.YteofgcmgncaojaaPEuclidRowsx11
import Derived.Test.YteofgcmgncaojaaPEuclidRowsx13
import Derived.Test.YteofgcmgncaojaaPEuclidRowsx14
namespace Go.Proofs.Yteofgcmgncaojaa.PEuclidRows
open Go.RowKit Go.Proofs.YteofgcmgncaojaaW.PrintWords Go.Proofs.YteofgcmgncaojaaW.PrintLast Go.Proofs.YteofgcmgncaojaaW.PrintMore
attribute [local go_sem] max2_int min2_int max_two min_two max_three min_three max_four min_four   -- for this text's walks alone
set_option linter.unusedVariables false
set_option linter.unusedSimpArgs false
/-! ### cr5_Partial: function 22 -/
mutual
def cr5_Partial.j0 : Nat → Int → List Int → List Int → Int → Bool → Option (List Int × List Int × List Int × Int)
 | 0, _, _, _, _, _ => none
 | k + 1, x0, x1, x2, x3, x32 => if x32 = true then (some (([] : List Int), ([] : List Int), ([] : List Int), 2)) else ((cr5_bad.f k x0 x1 x2).bind fun t561 => (if t561 = 0 then ((cr3_Trim.f k x1).bind fun t562 => ((cr3_Trim.f k x2).bind fun t568 => (cr5_Partial.l0 k x0 x3 t562 (([1] : List Int)) ([] : List Int) t568 ([] : List Int) (([1] : List Int))))) else (some (([] : List Int), ([] : List Int), ([] : List Int), t561))))
def cr5_Partial.l0 : Nat → Int → Int → List Int → List Int → List Int → List Int → List Int → List Int → Option (List Int × List Int × List Int × Int)
 | 0, _, _, _, _, _, _, _, _ => none
 | k + 1, x0, x3, x575000, x575001, x575002, x576000, x576001, x576002 => if (x575000.length : Int) > x3 then (if (x576000.length : Int) ≤ x3 then (some (x576000, x576001, x576002, 0)) else ((cr3_DivMod.f k x0 x575000 x576000).bind fun bt576 => ((cr3_Mul.f k x0 bt576.1 x576000).bind fun bt584 => ((cr3_Sub.f k x0 x575000 bt584.1).bind fun bt588 => ((cr3_Mul.f k x0 bt576.1 x576001).bind fun bt592 => ((cr3_Sub.f k x0 x575001 bt592.1).bind fun bt596 => ((cr3_Mul.f k x0 bt576.1 x576002).bind fun bt600 => ((cr3_Sub.f k x0 x575002 bt600.1).bind fun bt604 => (cr5_Partial.l0 k x0 x3 x576000 x576001 x576002 bt588.1 bt596.1 bt604.1))))))))) else (some (x575000, x575001, x575002, 0))
end
def cr5_Partial.f (k : Nat) (a0 : Int) (l1 : List Int) (l2 : List Int) (a3 : Int) : Option (List Int × List Int × List Int × Int) := (cr5_bad.f k a0 l1 l2).bind fun t560 => (if t560 = 2 then (cr5_Partial.j0 k a0 l1 l2 a3 true) else (cr5_Partial.j0 k a0 l1 l2 a3 (decide (a3 < 0))))
theorem cr5_Partial.mono_l : ∀ k, (∀ y0 y1 y2 y3 y4, LeO (cr5_Partial.j0 k y0 y1 y2 y3 y4) (cr5_Partial.j0 (k + 1) y0 y1 y2 y3 y4)) ∧ (∀ y0 y1 y2 y3 y4 y5 y6 y7, LeO (cr5_Partial.l0 k y0 y1 y2 y3 y4 y5 y6 y7) (cr5_Partial.l0 (k + 1) y0 y1 y2 y3 y4 y5 y6 y7))
 | 0 => ⟨fun _ _ _ _ _ r h => by simp [cr5_Partial.j0] at h, fun _ _ _ _ _ _ _ _ r h => by simp [cr5_Partial.l0] at h⟩
 | k + 1 => by
  obtain ⟨ih0, ih1⟩ := cr5_Partial.mono_l k
  refine ⟨?_, ?_⟩
  ·intro y0 y1 y2 y3 y4
   unfold cr5_Partial.j0
   repeat' first
   | (with_reducible exact ih0 _ _ _ _ _)
   | (with_reducible exact ih1 _ _ _ _ _ _ _ _)
   | (with_reducible exact cr3_DivMod.mono _ _ _ _)
   | (with_reducible exact cr3_Mul.mono _ _ _ _)
   | (with_reducible exact cr3_Sub.mono _ _ _ _)
   | (with_reducible exact cr3_Trim.mono _ _)
   | (with_reducible exact cr5_bad.mono _ _ _ _)
   | (with_reducible exact LeO.refl _)
   | (with_reducible exact LeO.none _)
   | (with_reducible refine LeO.ite ?_ ?_)
   | (with_reducible refine LeO.bind ?_ (fun _ => ?_))
   | exact ih0 _ _ _ _ _
   | exact ih1 _ _ _ _ _ _ _ _
   | exact cr3_DivMod.mono _ _ _ _
   | exact cr3_Mul.mono _ _ _ _
   | exact cr3_Sub.mono _ _ _ _
   | exact cr3_Trim.mono _ _
   | exact cr5_bad.mono _ _ _ _
   | exact LeO.none _
   | refine LeO.ite ?_ ?_
   | refine LeO.bind ?_ (fun _ => ?_)
  ·intro y0 y1 y2 y3 y4 y5 y6 y7
   unfold cr5_Partial.l0
   repeat' first
   | (with_reducible exact ih0 _ _ _ _ _)
   | (with_reducible exact ih1 _ _ _ _ _ _ _ _)
   | (with_reducible exact cr3_DivMod.mono _ _ _ _)
   | (with_reducible exact cr3_Mul.mono _ _ _ _)
   | (with_reducible exact cr3_Sub.mono _ _ _ _)
   | (with_reducible exact cr3_Trim.mono _ _)
   | (with_reducible exact cr5_bad.mono _ _ _ _)
   | (with_reducible exact LeO.refl _)
   | (with_reducible exact LeO.none _)
   | (with_reducible refine LeO.ite ?_ ?_)
   | (with_reducible refine LeO.bind ?_ (fun _ => ?_))
   | exact ih0 _ _ _ _ _
   | exact ih1 _ _ _ _ _ _ _ _
   | exact cr3_DivMod.mono _ _ _ _
   | exact cr3_Mul.mono _ _ _ _
   | exact cr3_Sub.mono _ _ _ _
   | exact cr3_Trim.mono _ _
   | exact cr5_bad.mono _ _ _ _
   | exact LeO.none _
   | refine LeO.ite ?_ ?_
   | refine LeO.bind ?_ (fun _ => ?_)
theorem cr5_Partial.mono : ∀ a0 a1 a2 a3 k, LeO (cr5_Partial.f k a0 a1 a2 a3) (cr5_Partial.f (k + 1) a0 a1 a2 a3) := by
 intro a0 a1 a2 a3 k
 obtain ⟨ih0, ih1⟩ := cr5_Partial.mono_l k
 unfold cr5_Partial.f
 repeat' first
   | (with_reducible exact ih0 _ _ _ _ _)
   | (with_reducible exact ih1 _ _ _ _ _ _ _ _)
   | (with_reducible exact cr3_DivMod.mono _ _ _ _)
   | (with_reducible exact cr3_Mul.mono _ _ _ _)
   | (with_reducible exact cr3_Sub.mono _ _ _ _)
   | (with_reducible exact cr3_Trim.mono _ _)
   | (with_reducible exact cr5_bad.mono _ _ _ _)
   | (with_reducible exact LeO.refl _)
   | (with_reducible exact LeO.none _)
   | (with_reducible refine LeO.ite ?_ ?_)
   | (with_reducible refine LeO.bind ?_ (fun _ => ?_))
   | exact ih0 _ _ _ _ _
   | exact ih1 _ _ _ _ _ _ _ _
   | exact cr3_DivMod.mono _ _ _ _
   | exact cr3_Mul.mono _ _ _ _
   | exact cr3_Sub.mono _ _ _ _
   | exact cr3_Trim.mono _ _
   | exact cr5_bad.mono _ _ _ _
   | exact LeO.none _
   | refine LeO.ite ?_ ?_
   | refine LeO.bind ?_ (fun _ => ?_)
def cr5_Partial.T10 : Bool × List (List Nat × List Nat) := (true, [([], []), ([0], [0]), ([], []), ([2], [2]), ([], []), ([4], [4]), ([1, 0, 1], [1]), ([3, 6, 0, 1, 2, 3, 6], [3]), ([5, 7, 0, 1, 2, 3, 4, 5, 6, 7], [5]), ([8, 0, 1, 2, 3, 4, 5, 6, 7, 8], [])])
def cr5_Partial.B10 : List Nat := [0, 1, 0, 4, 0, 16, 3, 79, 255, 511]
theorem cr5_Partial.tab10 : rtab .any (opsOf Try.f22 10) = cr5_Partial.T10 := by kernel_rfl
theorem cr5_Partial.bits10 : waitsOk cr5_Partial.T10.2 cr5_Partial.B10 = true := by kernel_rfl
def cr5_Partial.T19 : Bool × List (List Nat × List Nat) := (true, [([], []), ([0], [0]), ([], []), ([2], [2]), ([], []), ([4], [4]), ([1, 0, 1], [1]), ([3, 6, 0, 1, 2, 3, 6], [3]), ([5, 7, 0, 1, 2, 3, 4, 5, 6, 7], [5]), ([8, 0, 1, 2, 3, 4, 5, 6, 7, 8], [])])
def cr5_Partial.B19 : List Nat := [0, 1, 0, 4, 0, 16, 3, 79, 255, 511]
theorem cr5_Partial.tab19 : rtab .any (opsOf Try.f22 19) = cr5_Partial.T19 := by kernel_rfl
theorem cr5_Partial.bits19 : waitsOk cr5_Partial.T19.2 cr5_Partial.B19 = true := by kernel_rfl
set_option maxHeartbeats 8000000 in
set_option maxRecDepth 100000 in
theorem cr5_Partial.calls (k : Nat) (a0 : Int) (A1 : Option Addr) (c1 : Nat) (l1 : List Int) (A2 : Option Addr) (c2 : Nat) (l2 : List Int) (a3 : Int) (r1 : List Int) (r2 : List Int) (r3 : List Int) (r4 : Int) (w : World) (hr1 : Kd.C (Kd.int .u64) w A1 l1.length l1) (hc1 : l1.length ≤ c1) (hr2 : Kd.C (Kd.int .u64) w A2 l2.length l2) (hc2 : l2.length ≤ c2) (h : cr5_Partial.f k a0 l1 l2 a3 = some (r1, r2, r3, r4)) :
  Calls Try.prog 22 #[.int .u8 a0, .slice A1 l1.length c1, .slice A2 l2.length c2, .int .i64 a3] w fun e w' => ∃ v0_ v1_ v2_ : Value, e = .returned (.tuple #[v0_, v1_, v2_, .int .i64 r4]) ∧ Kd.R (Kd.int .u64) 40 w' w.heap.size (fun _ => True) v0_ r1 ∧ Kd.R (Kd.int .u64) 40 w' w.heap.size (fun _ => True) v1_ r2 ∧ Kd.R (Kd.int .u64) 40 w' w.heap.size (fun _ => True) v2_ r3 ∧ Below w.heap.size w w' := by
 have hu72 := Try.underlying72
 have HR1 := Aside0.mk hr1
 have HC1 := Aside0.mk hc1
 clear hr1 hc1
 have HR2 := Aside0.mk hr2
 have HC2 := Aside0.mk hc2
 clear hr2 hc2
 have HB := A_ (Below.refl w.heap.size w)
 have H : ((cr5_bad.f k a0 l1 l2).bind fun t560 => (if t560 = 2 then (cr5_Partial.j0 k a0 l1 l2 a3 true) else (cr5_Partial.j0 k a0 l1 l2 a3 (decide (a3 < 0))))) = some (r1, r2, r3, r4) := h
 clear h
 replace H := Option.bind_eq_some_iff.mp H
 obtain ⟨t560, A50, H⟩ := H
 replace H : (if t560 = 2 then (cr5_Partial.j0 k a0 l1 l2 a3 true) else (cr5_Partial.j0 k a0 l1 l2 a3 (decide (a3 < 0)))) = some (r1, r2, r3, r4) := H
 have A5 := Aside0.mk A50
 clear A50
 have HC6 := Aside0.mk H
 clear H
 go_enter Try.func22, Try.ntmps22
 go_upto_region 2 with (first | ((with_reducible refine gate_callee (f := 31) rfl ?_); refine goesM_ (some 26) Try.func31 #[.int .u8 a0, .slice A1 l1.length c1, .slice A2 l2.length c2] ?_; (with_reducible refine (cr5_bad.calls k a0 _ _ l1 _ _ l2 t560 _ ?side1 ?side2 ?side3 ?side4 A5.out).mono ?_); (case side1 => exact nC_ HR1.out); (case side2 => exact HC1.out); (case side3 => exact nC_ HR2.out); (case side4 => exact HC2.out); rintro e w' ⟨rfl, ⟨nd, rfl⟩⟩; refine ⟨_, rfl, ?_⟩))
 (try simp only [Act.put, List.setIfInBounds_toArray, List.set_cons_zero, List.set_cons_succ])
 go_cut [32] (fun v32 wc => ∃ (kq : Nat) (x32_5 : Bool), v32 = .bool x32_5 ∧ Aside0 (cr5_Partial.j0 kq a0 l1 l2 a3 x32_5 = some (r1, r2, r3, r4)) ∧ Aside0 (kq ≤ k) ∧ Aside0 (Below w.heap.size w wc))
 case first =>
  have H := HC6.out
  clear HC6
  by_cases c7 : t560 = 2
  ·rw [if_pos c7] at H
   have c7b0 : (t560 == 2) = true := beq_iff_eq.mpr c7
   have c7b1 : (t560 != 2) = false := bne_eq_false_iff_eq.mpr c7
   clear c7
   (first | rw [c7b0] | rw [c7b1] | (simp only [i64_w, i32_w]; first | rw [c7b0] | rw [c7b1]) | skip)
   have H' := Aside0.mk H
   clear H
   go_wp2
   go_meet
   case rel => exact ⟨_, (true), (fs_), H', ⟨fo_⟩, ⟨by repeat (first | (with_reducible first | exact HB.out | apply below_alloc | apply pw_below_drewN | apply below_drew1) | exact HB.out)⟩⟩
  ·rw [if_neg c7] at H
   have c7b0 : (t560 == 2) = false := beq_eq_false_iff_ne.mpr c7
   have c7b1 : (t560 != 2) = true := bne_iff_ne.mpr c7
   (first | rw [c7b0] | rw [c7b1] | (simp only [i64_w, i32_w]; first | rw [c7b0] | rw [c7b1]) | skip)
   have H' := Aside0.mk H
   clear H
   go_wp2
   go_meet
   case rel => exact ⟨_, (decide (a3 < 0)), (fs_), H', ⟨fo_⟩, ⟨by repeat (first | (with_reducible first | exact HB.out | apply below_alloc | apply pw_below_drewN | apply below_drew1) | exact HB.out)⟩⟩
 case rest =>
  clear HC6
  try clear c1
  try clear c2
  try clear p2
  try clear c3
  try clear c7
  try clear c7b0
  try clear c7b1
  obtain ⟨kq, x32_5, rfl, HA, HJ5, HB⟩ := hcut
  cases kq with
  | zero => exact absurd HA.out (by simp [cr5_Partial.j0])
  | succ kj5 =>
   have H := HA.out
   clear HA
   simp only [cr5_Partial.j0] at H
   by_cases c8 : x32_5 = true
   ·subst c8
    have H1 : (some (([] : List Int), ([] : List Int), ([] : List Int), 2)) = some (r1, r2, r3, r4) := by rw [if_pos rfl] at H; exact H
    clear H
    have H := H1
    clear H1
    simp only [Option.some.injEq, Prod.mk.injEq] at H
    obtain ⟨rfl, rfl, rfl, rfl⟩ := H
    go_wp2
    refine bodyPost_ret (results_list (rs := [.tmp 8, .tmp 9, .tmp 10, .tmp 11]) rfl (by simp) (.tmp (.tmp (.tmp (.tmp .nil))))) rfl ?_
    exact ⟨_, _, _, fr_, by first | exact Kd.R_nil _ _ _ _ _ | exact Kd.N_nil _ _ _ _ _ | exact Kd.V_nil _ _ _ _ _ | exact Kd.Q_nil _ _ _ _ _ | exact Kd.S_nil _ _ _ _ _, by first | exact Kd.R_nil _ _ _ _ _ | exact Kd.N_nil _ _ _ _ _ | exact Kd.V_nil _ _ _ _ _ | exact Kd.Q_nil _ _ _ _ _ | exact Kd.S_nil _ _ _ _ _, by first | exact Kd.R_nil _ _ _ _ _ | exact Kd.N_nil _ _ _ _ _ | exact Kd.V_nil _ _ _ _ _ | exact Kd.Q_nil _ _ _ _ _ | exact Kd.S_nil _ _ _ _ _, hb_⟩
   ·replace c8 := Bool.eq_false_iff.mpr c8
    subst c8
    have H1 : ((cr5_bad.f kj5 a0 l1 l2).bind fun t561 => (if t561 = 0 then ((cr3_Trim.f kj5 l1).bind fun t562 => ((cr3_Trim.f kj5 l2).bind fun t568 => (cr5_Partial.l0 kj5 a0 a3 t562 (([1] : List Int)) ([] : List Int) t568 ([] : List Int) (([1] : List Int))))) else (some (([] : List Int), ([] : List Int), ([] : List Int), t561)))) = some (r1, r2, r3, r4) := by rw [if_neg (show ¬ (false = true) by decide)] at H; exact H
    clear H
    have H := H1
    clear H1
    replace H := Option.bind_eq_some_iff.mp H
    obtain ⟨t561, A90, H⟩ := H
    (try dsimp only at H)
    have A9 := Aside0.mk A90
    clear A90
    have HC10 := Aside0.mk H
    clear H
    go_upto_if 38 with (first | ((with_reducible refine gate_callee (f := 31) rfl ?_); refine goesM_ (some 36) Try.func31 #[.int .u8 a0, .slice A1 l1.length c1, .slice A2 l2.length c2] ?_; (with_reducible refine (cr5_bad.calls kj5 a0 _ _ l1 _ _ l2 t561 _ ?side1 ?side2 ?side3 ?side4 A9.out).mono ?_); (case side1 => repeat (first | exact (Kd.C_below HR1.out HB.out) | (with_reducible refine Kd.C_alloc ?_ _) | (with_reducible refine Kd.C_drewN ?_ _) | (with_reducible refine Kd.C_drew ?_))); (case side2 => exact HC1.out); (case side3 => repeat (first | exact (Kd.C_below HR2.out HB.out) | (with_reducible refine Kd.C_alloc ?_ _) | (with_reducible refine Kd.C_drewN ?_ _) | (with_reducible refine Kd.C_drew ?_))); (case side4 => exact HC2.out); rintro e w' ⟨rfl, ⟨nd, rfl⟩⟩; refine ⟨_, rfl, ?_⟩))
    (try simp only [Act.put, List.setIfInBounds_toArray, List.set_cons_zero, List.set_cons_succ])
    have H := HC10.out
    clear HC10
    by_cases c11 : t561 = 0
    ·rw [if_pos c11] at H
     have c11b0 : (t561 == 0) = true := beq_iff_eq.mpr c11
     have c11b1 : (t561 != 0) = false := bne_eq_false_iff_eq.mpr c11
     clear c11
     (first | rw [c11b0] | rw [c11b1] | (simp only [i64_w, i32_w]; first | rw [c11b0] | rw [c11b1]) | skip)
     replace H := Option.bind_eq_some_iff.mp H
     obtain ⟨t562, A120, H⟩ := H
     replace H : ((cr3_Trim.f kj5 l2).bind fun t568 => (cr5_Partial.l0 kj5 a0 a3 t562 (([1] : List Int)) ([] : List Int) t568 ([] : List Int) (([1] : List Int)))) = some (r1, r2, r3, r4) := H
     have A12 := Aside0.mk A120
     clear A120
     obtain ⟨y565, hy565⟩ : ∃ y_ : List Int, y_ = (([1] : List Int)) := ⟨_, rfl⟩
     replace H : ((cr3_Trim.f kj5 l2).bind fun t568 => (cr5_Partial.l0 kj5 a0 a3 t562 y565 ([] : List Int) t568 ([] : List Int) (([1] : List Int)))) = some (r1, r2, r3, r4) := by first | (rw [hy565]; with_reducible exact H) | (have H2_ := (Option.bind_some _ _).symm.trans H; rw [hy565]; with_reducible exact H2_) | (have H2_ := (Option.bind_some _ _).symm.trans H; with_reducible exact H2_) | with_reducible exact H | (rw [hy565]; exact H) | exact H
     have Ny565 := Aside0.mk hy565
     clear hy565
     replace H := Option.bind_eq_some_iff.mp H
     obtain ⟨t568, A130, H⟩ := H
     replace H : (cr5_Partial.l0 kj5 a0 a3 t562 y565 ([] : List Int) t568 ([] : List Int) (([1] : List Int))) = some (r1, r2, r3, r4) := H
     have A13 := Aside0.mk A130
     clear A130
     obtain ⟨y571, hy571⟩ : ∃ y_ : List Int, y_ = (([1] : List Int)) := ⟨_, rfl⟩
     replace H : (cr5_Partial.l0 kj5 a0 a3 t562 y565 ([] : List Int) t568 ([] : List Int) y571) = some (r1, r2, r3, r4) := by first | (rw [hy571]; with_reducible exact H) | (have H2_ := (Option.bind_some _ _).symm.trans H; rw [hy571]; with_reducible exact H2_) | (have H2_ := (Option.bind_some _ _).symm.trans H; with_reducible exact H2_) | with_reducible exact H | (rw [hy571]; exact H) | exact H
     have Ny571 := Aside0.mk hy571
     clear hy571
     have H' := Aside0.mk H
     clear H
     go_wp2_with (first | ((with_reducible refine gate_callee (f := 20) rfl ?_); refine goesM_ (some 41) Try.func20 #[.slice A1 l1.length c1] ?_; (with_reducible refine (cr3_Trim.calls kj5 _ _ l1 t562 _ ?side1 ?side2 A12.out).mono ?_); (case side1 => repeat (first | exact (Kd.C_below HR1.out HB.out) | (with_reducible refine Kd.C_alloc ?_ _) | (with_reducible refine Kd.C_drewN ?_ _) | (with_reducible refine Kd.C_drew ?_))); (case side2 => exact HC1.out); rintro e w14 ⟨v563, rfl, ho0, hb⟩; refine ⟨_, rfl, ?_⟩; have n0_ := A_ (Kd.R_lower (Kd.R_mono (ok' := fun _ => True) ho0 (fun _ _ => trivial)) (below_size hb_)); have n1_ := A_ (below_step hb_ hb); clear HB; have HO564 := n0_; have HB := n1_; clear n0_ n1_; (try clear hb); (try clear ho0)) | ((with_reducible refine gate_dst (N := 42) rfl ?_); refine Kd.R_lit (Kd.int .u64) _ 40 ?hg (N := 42) ?hd (xs := ([1] : List Int)) (inner := [.int .u64 1]) (ok := fun _ => True) (okp := fun _ => True) ?hr ?hp (fun _ hk => hk) trivial (Below.refl _ _) (Nat.le_refl _) (by simp) ?_; (case hd => rfl); (case hg => rfl); (case hr => first | (go_simp; done) | (go_simp; rfl)); (case hp => exact (Reps.one (show Kd.M (Kd.int .u64) _ _ _ 1 [.int .u64 1] from rfl) (Reps.none _ _))); intro v566 w15 ho16 hb hg_ hnew_; clear hg_ hnew_; (first | rw [← Ny565.out] at ho16 | (simp only [Int.reduceToNat] at ho16; rw [← Ny565.out] at ho16)); have n0_ := A_ (Kd.R_below (nR_ HO564) hb); have n1_ := A_ (Kd.R_lower (Kd.R_mono (ok' := fun _ => True) ho16 (fun _ _ => trivial)) (below_size hb_)); have n2_ := A_ (below_step hb_ hb); clear HO564 HB; have HO564 := n0_; have HO567 := n1_; have HB := n2_; clear n0_ n1_ n2_; clear hb ho16; obtain ⟨Ao17, co17, eo17⟩ := Kd.R_slice HO567.out; subst eo17; obtain ⟨Ao18, co18, eo18⟩ := Kd.R_slice HO564.out; subst eo18) | ((with_reducible refine gate_callee (f := 20) rfl ?_); refine goesM_ (some 45) Try.func20 #[.slice A2 l2.length c2] ?_; (with_reducible refine (cr3_Trim.calls kj5 _ _ l2 t568 _ ?side1 ?side2 A13.out).mono ?_); (case side1 => repeat (first | exact (Kd.C_below HR2.out HB.out) | (with_reducible refine Kd.C_alloc ?_ _) | (with_reducible refine Kd.C_drewN ?_ _) | (with_reducible refine Kd.C_drew ?_))); (case side2 => exact HC2.out); rintro e w19 ⟨v569, rfl, ho0, hb⟩; refine ⟨_, rfl, ?_⟩; have n0_ := A_ (Kd.R_below (nR_ HO564) hb); have n1_ := A_ (Kd.R_below (nR_ HO567) hb); have n2_ := A_ (Kd.R_lower (Kd.R_mono (ok' := fun _ => True) ho0 (fun _ _ => trivial)) (below_size hb_)); have n3_ := A_ (below_step hb_ hb); clear HO564 HO567 HB; have HO564 := n0_; have HO567 := n1_; have HO570 := n2_; have HB := n3_; clear n0_ n1_ n2_ n3_; (try clear hb); (try clear ho0)) | ((with_reducible refine gate_dst (N := 46) rfl ?_); refine Kd.R_lit (Kd.int .u64) _ 40 ?hg (N := 46) ?hd (xs := ([1] : List Int)) (inner := [.int .u64 1]) (ok := fun _ => True) (okp := fun _ => True) ?hr ?hp (fun _ hk => hk) trivial (Below.refl _ _) (Nat.le_refl _) (by simp) ?_; (case hd => rfl); (case hg => rfl); (case hr => first | (go_simp; done) | (go_simp; rfl)); (case hp => exact (Reps.one (show Kd.M (Kd.int .u64) _ _ _ 1 [.int .u64 1] from rfl) (Reps.none _ _))); intro v572 w20 ho21 hb hg_ hnew_; clear hg_ hnew_; (first | rw [← Ny571.out] at ho21 | (simp only [Int.reduceToNat] at ho21; rw [← Ny571.out] at ho21)); have n0_ := A_ (Kd.R_below (nR_ HO564) hb); have n1_ := A_ (Kd.R_below (nR_ HO567) hb); have n2_ := A_ (Kd.R_below (nR_ HO570) hb); have n3_ := A_ (Kd.R_lower (Kd.R_mono (ok' := fun _ => True) ho21 (fun _ _ => trivial)) (below_size hb_)); have n4_ := A_ (below_step hb_ hb); clear HO564 HO567 HO570 HB; have HO564 := n0_; have HO567 := n1_; have HO570 := n2_; have HO573 := n3_; have HB := n4_; clear n0_ n1_ n2_ n3_ n4_; clear hb ho21; obtain ⟨Ao22, co22, eo22⟩ := Kd.R_slice HO573.out; subst eo22; obtain ⟨Ao23, co23, eo23⟩ := Kd.R_slice HO570.out; subst eo23) | ((with_reducible refine gate_dst (N := 14) rfl ?_); refine box_event ?hg (N := 14) ?hd (cs := #[.slice none 0 0, .slice none 0 0, .slice none 0 0]) (t := 72) ?hr ?_; (case hd => rfl); (case hg => rfl); (case hr => first | (go_simp; done) | (go_simp; rfl)); intro gb574 hg w24 hbox hb; have n0_ := A_ (Kd.R_below (nR_ HO564) hb); have n1_ := A_ (Kd.R_below (nR_ HO567) hb); have n2_ := A_ (Kd.R_below (nR_ HO570) hb); have n3_ := A_ (Kd.R_below (nR_ HO573) hb); have n4_ := A_ (below_step hb_ hb); have n5_ := A_ (hbox); have n6_ := A_ ((by rw [hg]; exact (below_size hb_) : w.heap.size ≤ gb574)); have n7_ := A_ ((by rw [hg]; exact (below_size hb_) : w.heap.size ≤ gb574)); clear HO564 HO567 HO570 HO573 HB; have HO564 := n0_; have HO567 := n1_; have HO570 := n2_; have HO573 := n3_; have HB := n4_; have BK574 := n5_; have GW574 := n6_; have GE574 := n7_; clear n0_ n1_ n2_ n3_ n4_ n5_ n6_ n7_; clear hb hbox hg) | ((with_reducible refine gate_dst (N := 15) rfl ?_); refine box_event ?hg (N := 15) ?hd (cs := #[.slice none 0 0, .slice none 0 0, .slice none 0 0]) (t := 72) ?hr ?_; (case hd => rfl); (case hg => rfl); (case hr => first | (go_simp; done) | (go_simp; rfl)); intro gb575 hg w25 hbox hb; have n0_ := A_ (Kd.R_below (nR_ HO564) hb); have n1_ := A_ (Kd.R_below (nR_ HO567) hb); have n2_ := A_ (Kd.R_below (nR_ HO570) hb); have n3_ := A_ (Kd.R_below (nR_ HO573) hb); have n4_ := A_ (blk_below (g := gb574) (o := .cells #[.slice none 0 0, .slice none 0 0, .slice none 0 0] 72 (0, 0)) (nb_ BK574) hb); have n5_ := A_ (below_step hs_ hb); have n6_ := A_ (hbox); have n7_ := A_ ((by rw [hg]; exact (below_size hs_) : w.heap.size ≤ gb575)); have n8_ := A_ ((by rw [hg]; exact (below_size hs_) : w.heap.size ≤ gb575)); have n9_ := A_ ((by rw [hg]; exact Nat.ne_of_lt (blk_lt (g := gb574) (o := .cells #[.slice none 0 0, .slice none 0 0, .slice none 0 0] 72 (0, 0)) (nb_ BK574)) : gb574 ≠ gb575)); have n10_ := A_ ((by rw [hg]; exact Nat.ne_of_gt (blk_lt (g := gb574) (o := .cells #[.slice none 0 0, .slice none 0 0, .slice none 0 0] 72 (0, 0)) (nb_ BK574)) : gb575 ≠ gb574)); clear HO564 HO567 HO570 HO573 BK574 HB; have HO564 := n0_; have HO567 := n1_; have HO570 := n2_; have HO573 := n3_; have BK574 := n4_; have HB := n5_; have BK575 := n6_; have GW575 := n7_; have GE575 := n8_; have NB574_575 := n9_; have NB575_574 := n10_; clear n0_ n1_ n2_ n3_ n4_ n5_ n6_ n7_ n8_ n9_ n10_; clear hb hbox hg; have hnb26 := NB574_575.out; have hnc26 := NB575_574.out; have hcz27_0 : w25.cell? ⟨gb574, 0, none⟩ = some (.slice none 0 0) := (blk_cell BK574.out 0).trans rfl; have hcz27_1 : w25.cell? ⟨gb574, 1, none⟩ = some (.slice none 0 0) := (blk_cell BK574.out 1).trans rfl; have hcz27_2 : w25.cell? ⟨gb574, 2, none⟩ = some (.slice none 0 0) := (blk_cell BK574.out 2).trans rfl; have hfz27_0 := blk_frozen BK574.out 0; have hfz27_1 := blk_frozen BK574.out 1; have hfz27_2 := blk_frozen BK574.out 2; have hcz28_0 : w25.cell? ⟨gb575, 0, none⟩ = some (.slice none 0 0) := (blk_cell BK575.out 0).trans rfl; have hcz28_1 : w25.cell? ⟨gb575, 1, none⟩ = some (.slice none 0 0) := (blk_cell BK575.out 1).trans rfl; have hcz28_2 : w25.cell? ⟨gb575, 2, none⟩ = some (.slice none 0 0) := (blk_cell BK575.out 2).trans rfl; have hfz28_0 := blk_frozen BK575.out 0; have hfz28_1 := blk_frozen BK575.out 1; have hfz28_2 := blk_frozen BK575.out 2))
     go_loopg [] kj5 (fun kq w' => ∃ (x575000_2 : List Int) (x575001_2 : List Int) (x575002_2 : List Int) (x576000_2 : List Int) (x576001_2 : List Int) (x576002_2 : List Int) (u575000 : Value) (u575001 : Value) (u575002 : Value) (u576000 : Value) (u576001 : Value) (u576002 : Value), Aside0 (cr5_Partial.l0 kq a0 a3 x575000_2 x575001_2 x575002_2 x576000_2 x576001_2 x576002_2 = some (r1, r2, r3, r4)) ∧ Aside0 (kq ≤ kj5) ∧ Aside0 (Kd.R (Kd.int .u64) 40 w' w.heap.size (fun _ => True) u575000 x575000_2) ∧ Aside0 (Kd.R (Kd.int .u64) 40 w' w.heap.size (fun _ => True) u575001 x575001_2) ∧ Aside0 (Kd.R (Kd.int .u64) 40 w' w.heap.size (fun _ => True) u575002 x575002_2) ∧ Aside0 (Kd.R (Kd.int .u64) 40 w' w.heap.size (fun _ => True) u576000 x576000_2) ∧ Aside0 (Kd.R (Kd.int .u64) 40 w' w.heap.size (fun _ => True) u576001 x576001_2) ∧ Aside0 (Kd.R (Kd.int .u64) 40 w' w.heap.size (fun _ => True) u576002 x576002_2) ∧ Aside0 (w'.heap[gb574]? = some (.cells #[u575000, u575001, u575002] 72 (0, 0))) ∧ Aside0 (w'.heap[gb575]? = some (.cells #[u576000, u576001, u576002] 72 (0, 0))) ∧ Aside0 (Below w.heap.size w w'))
     case atStart => exact ⟨(t562), (y565), (([] : List Int)), (t568), (([] : List Int)), (y571), (.slice Ao18 t562.length co18), (.slice Ao17 y565.length co17), (.slice none 0 0), (.slice Ao23 t568.length co23), (.slice none 0 0), (.slice Ao22 y571.length co22), H', ⟨Nat.le_refl _⟩, ⟨by (with_reducible repeat (first | apply Kd.R_alloc | apply Kd.R_drewN | apply Kd.R_drew)); exact Kd.R_mono (Kd.R_far (p := ⟨gb575, 2, none⟩) (Kd.R_far (p := ⟨gb575, 1, none⟩) (Kd.R_far (p := ⟨gb575, 0, none⟩) (Kd.R_far (p := ⟨gb574, 2, none⟩) (Kd.R_far (p := ⟨gb574, 1, none⟩) (Kd.R_far (p := ⟨gb574, 0, none⟩) (Kd.R_types (Kd.R_types HO564.out BK574.out (by decide)) BK575.out (by decide)) (fun _ hk => hk.1.2) (.slice Ao18 t562.length co18)) (fun _ hk => hk.1.2) (.slice Ao17 y565.length co17)) (fun _ hk => hk.1.2) (.slice none 0 0)) (fun _ hk => hk.2) (.slice Ao23 t568.length co23)) (fun _ hk => hk.2) (.slice none 0 0)) (fun _ hk => hk.2) (.slice Ao22 y571.length co22)) (fun _ hk => trivial)⟩, ⟨by (with_reducible repeat (first | apply Kd.R_alloc | apply Kd.R_drewN | apply Kd.R_drew)); exact Kd.R_mono (Kd.R_far (p := ⟨gb575, 2, none⟩) (Kd.R_far (p := ⟨gb575, 1, none⟩) (Kd.R_far (p := ⟨gb575, 0, none⟩) (Kd.R_far (p := ⟨gb574, 2, none⟩) (Kd.R_far (p := ⟨gb574, 1, none⟩) (Kd.R_far (p := ⟨gb574, 0, none⟩) (Kd.R_types (Kd.R_types HO567.out BK574.out (by decide)) BK575.out (by decide)) (fun _ hk => hk.1.2) (.slice Ao18 t562.length co18)) (fun _ hk => hk.1.2) (.slice Ao17 y565.length co17)) (fun _ hk => hk.1.2) (.slice none 0 0)) (fun _ hk => hk.2) (.slice Ao23 t568.length co23)) (fun _ hk => hk.2) (.slice none 0 0)) (fun _ hk => hk.2) (.slice Ao22 y571.length co22)) (fun _ hk => trivial)⟩, ⟨by first | exact Kd.R_nil _ _ _ _ _ | exact Kd.N_nil _ _ _ _ _ | exact Kd.V_nil _ _ _ _ _ | exact Kd.Q_nil _ _ _ _ _ | exact Kd.S_nil _ _ _ _ _⟩, ⟨by (with_reducible repeat (first | apply Kd.R_alloc | apply Kd.R_drewN | apply Kd.R_drew)); exact Kd.R_mono (Kd.R_far (p := ⟨gb575, 2, none⟩) (Kd.R_far (p := ⟨gb575, 1, none⟩) (Kd.R_far (p := ⟨gb575, 0, none⟩) (Kd.R_far (p := ⟨gb574, 2, none⟩) (Kd.R_far (p := ⟨gb574, 1, none⟩) (Kd.R_far (p := ⟨gb574, 0, none⟩) (Kd.R_types (Kd.R_types HO570.out BK574.out (by decide)) BK575.out (by decide)) (fun _ hk => hk.1.2) (.slice Ao18 t562.length co18)) (fun _ hk => hk.1.2) (.slice Ao17 y565.length co17)) (fun _ hk => hk.1.2) (.slice none 0 0)) (fun _ hk => hk.2) (.slice Ao23 t568.length co23)) (fun _ hk => hk.2) (.slice none 0 0)) (fun _ hk => hk.2) (.slice Ao22 y571.length co22)) (fun _ hk => trivial)⟩, ⟨by first | exact Kd.R_nil _ _ _ _ _ | exact Kd.N_nil _ _ _ _ _ | exact Kd.V_nil _ _ _ _ _ | exact Kd.Q_nil _ _ _ _ _ | exact Kd.S_nil _ _ _ _ _⟩, ⟨by (with_reducible repeat (first | apply Kd.R_alloc | apply Kd.R_drewN | apply Kd.R_drew)); exact Kd.R_mono (Kd.R_far (p := ⟨gb575, 2, none⟩) (Kd.R_far (p := ⟨gb575, 1, none⟩) (Kd.R_far (p := ⟨gb575, 0, none⟩) (Kd.R_far (p := ⟨gb574, 2, none⟩) (Kd.R_far (p := ⟨gb574, 1, none⟩) (Kd.R_far (p := ⟨gb574, 0, none⟩) (Kd.R_types (Kd.R_types HO573.out BK574.out (by decide)) BK575.out (by decide)) (fun _ hk => hk.1.2) (.slice Ao18 t562.length co18)) (fun _ hk => hk.1.2) (.slice Ao17 y565.length co17)) (fun _ hk => hk.1.2) (.slice none 0 0)) (fun _ hk => hk.2) (.slice Ao23 t568.length co23)) (fun _ hk => hk.2) (.slice none 0 0)) (fun _ hk => hk.2) (.slice Ao22 y571.length co22)) (fun _ hk => trivial)⟩, ⟨by (with_reducible repeat (first | refine blk_drewN ?_ _ | refine blk_drew ?_ | refine blk_alloc ?_ _)); refine blk_far ?_ NB574_575.out _; (with_reducible repeat (first | refine blk_drewN ?_ _ | refine blk_drew ?_ | refine blk_alloc ?_ _)); refine blk_far ?_ NB574_575.out _; (with_reducible repeat (first | refine blk_drewN ?_ _ | refine blk_drew ?_ | refine blk_alloc ?_ _)); refine blk_far ?_ NB574_575.out _; (with_reducible repeat (first | refine blk_drewN ?_ _ | refine blk_drew ?_ | refine blk_alloc ?_ _)); refine blk_put (cs := #[.slice Ao18 t562.length co18, .slice Ao17 y565.length co17, .slice none 0 0]) ?_ 2 _ rfl; (with_reducible repeat (first | refine blk_drewN ?_ _ | refine blk_drew ?_ | refine blk_alloc ?_ _)); refine blk_put (cs := #[.slice Ao18 t562.length co18, .slice none 0 0, .slice none 0 0]) ?_ 1 _ rfl; (with_reducible repeat (first | refine blk_drewN ?_ _ | refine blk_drew ?_ | refine blk_alloc ?_ _)); refine blk_put (cs := #[.slice none 0 0, .slice none 0 0, .slice none 0 0]) ?_ 0 _ rfl; (with_reducible repeat (first | refine blk_drewN ?_ _ | refine blk_drew ?_ | refine blk_alloc ?_ _)); exact BK574.out⟩, ⟨by (with_reducible repeat (first | refine blk_drewN ?_ _ | refine blk_drew ?_ | refine blk_alloc ?_ _)); refine blk_put (cs := #[.slice Ao23 t568.length co23, .slice none 0 0, .slice none 0 0]) ?_ 2 _ rfl; (with_reducible repeat (first | refine blk_drewN ?_ _ | refine blk_drew ?_ | refine blk_alloc ?_ _)); refine blk_put (cs := #[.slice Ao23 t568.length co23, .slice none 0 0, .slice none 0 0]) ?_ 1 _ rfl; (with_reducible repeat (first | refine blk_drewN ?_ _ | refine blk_drew ?_ | refine blk_alloc ?_ _)); refine blk_put (cs := #[.slice none 0 0, .slice none 0 0, .slice none 0 0]) ?_ 0 _ rfl; (with_reducible repeat (first | refine blk_drewN ?_ _ | refine blk_drew ?_ | refine blk_alloc ?_ _)); refine blk_far ?_ NB575_574.out _; (with_reducible repeat (first | refine blk_drewN ?_ _ | refine blk_drew ?_ | refine blk_alloc ?_ _)); refine blk_far ?_ NB575_574.out _; (with_reducible repeat (first | refine blk_drewN ?_ _ | refine blk_drew ?_ | refine blk_alloc ?_ _)); refine blk_far ?_ NB575_574.out _; (with_reducible repeat (first | refine blk_drewN ?_ _ | refine blk_drew ?_ | refine blk_alloc ?_ _)); exact BK575.out⟩, ⟨hs_⟩⟩
     case round =>
      clear H'
      try clear c1
      try clear c2
      try clear p2
      try clear c3
      try clear c7
      try clear c7b0
      try clear c7b1
      try clear c8
      try clear c11
      try clear c11b0
      try clear c11b1
      try clear c20
      try clear c22
      try clear c26
      try clear hcz27_0
      try clear hcz27_1
      try clear hcz27_2
      try clear hcz28_0
      try clear hcz28_1
      try clear hcz28_2
      try clear hfz27_0
      try clear hfz27_1
      try clear hfz27_2
      try clear hfz28_0
      try clear hfz28_1
      try clear hfz28_2
      try clear p2
      obtain ⟨x575000_2, x575001_2, x575002_2, x576000_2, x576001_2, x576002_2, u575000, u575001, u575002, u576000, u576001, u576002, HA, HK2, HO_575000, HO_575001, HO_575002, HO_576000, HO_576001, HO_576002, BK574, BK575, HB⟩ := hrel
      cases gk with
      | zero => exact absurd HA.out (by simp [cr5_Partial.l0])
      | succ k2 =>
       have H := HA.out
       clear HA
       simp only [cr5_Partial.l0] at H
       by_cases c29 : (x575000_2.length : Int) > a3
       ·rw [if_pos c29] at H
        have c29b0 : decide (a3 < (x575000_2.length : Int)) = true := decide_eq_true c29
        clear c29
        by_cases c30 : (x576000_2.length : Int) ≤ a3
        ·rw [if_pos c30] at H
         have c30b0 : decide ((x576000_2.length : Int) ≤ a3) = true := decide_eq_true c30
         clear c30
         simp only [Option.some.injEq, Prod.mk.injEq] at H
         obtain ⟨rfl, rfl, rfl, rfl⟩ := H
         have hnb31 := NB574_575.out
         have hnc31 := NB575_574.out
         have hcz32_0 : wr.cell? ⟨gb574, 0, none⟩ = some (u575000) := (blk_cell BK574.out 0).trans rfl
         have hcz32_1 : wr.cell? ⟨gb574, 1, none⟩ = some (u575001) := (blk_cell BK574.out 1).trans rfl
         have hcz32_2 : wr.cell? ⟨gb574, 2, none⟩ = some (u575002) := (blk_cell BK574.out 2).trans rfl
         have hfz32_0 := blk_frozen BK574.out 0
         have hfz32_1 := blk_frozen BK574.out 1
         have hfz32_2 := blk_frozen BK574.out 2
         obtain ⟨Ao33, co33, eo33⟩ := Kd.R_slice HO_575000.out
         subst eo33
         have hcz34_0 : wr.cell? ⟨gb575, 0, none⟩ = some (u576000) := (blk_cell BK575.out 0).trans rfl
         have hcz34_1 : wr.cell? ⟨gb575, 1, none⟩ = some (u576001) := (blk_cell BK575.out 1).trans rfl
         have hcz34_2 : wr.cell? ⟨gb575, 2, none⟩ = some (u576002) := (blk_cell BK575.out 2).trans rfl
         have hfz34_0 := blk_frozen BK575.out 0
         have hfz34_1 := blk_frozen BK575.out 1
         have hfz34_2 := blk_frozen BK575.out 2
         obtain ⟨Ao35, co35, eo35⟩ := Kd.R_slice HO_576000.out
         subst eo35
         try go_wp2
         have n0_ := A_ (Kd.R_drew HO_575000.out)
         have n1_ := A_ (Kd.R_drew HO_575001.out)
         have n2_ := A_ (Kd.R_drew HO_575002.out)
         have n3_ := A_ (Kd.R_drew HO_576000.out)
         have n4_ := A_ (Kd.R_drew HO_576001.out)
         have n5_ := A_ (Kd.R_drew HO_576002.out)
         have n6_ := A_ (blk_drew BK574.out)
         have n7_ := A_ (blk_drew BK575.out)
         have n8_ := A_ (below_drew1 HB.out)
         clear HO_575000
         clear HO_575001
         clear HO_575002
         clear HO_576000
         clear HO_576001
         clear HO_576002
         clear BK574
         clear BK575
         clear HB
         have HO_575000 := n0_
         have HO_575001 := n1_
         have HO_575002 := n2_
         have HO_576000 := n3_
         have HO_576001 := n4_
         have HO_576002 := n5_
         have BK574 := n6_
         have BK575 := n7_
         have HB := n8_
         clear n0_ n1_ n2_ n3_ n4_ n5_ n6_ n7_ n8_
         refine start_ (n := 10) (S := fun w' => w'.cell? ⟨gb575, 0, none⟩ = some (.slice Ao35 x576000_2.length co35) ∧ w'.cell? ⟨gb575, 1, none⟩ = some (u576001) ∧ w'.cell? ⟨gb575, 2, none⟩ = some (u576002)) (ds := []) #[false, false, false, false, false, false, false, false, false, false] (by kernel_rfl) rfl rfl ⟨(blk_cell BK575.out 0).trans rfl, (blk_cell BK575.out 1).trans rfl, (blk_cell BK575.out 2).trans rfl⟩ (fun hHeld => ?_); refine with_tabW cr5_Partial.tab10 cr5_Partial.bits10 (fun HT_ HW_ => ?_)
         generalize wr.drew = w36 at HO_575000 HO_575001 HO_575002 HO_576000 HO_576001 HO_576002 BK574 BK575 HB hHeld ⊢
         refine pure_ (i := 0) (N := some 58) (v := ?_) (a' := ?_) #[true, false, false, false, false, false, false, false, false, false] rfl rfl (any_of HT_.out (by kernel_rfl)) (fun _ _ _ h => h) (Or.inl ⟨by rfl, ?_⟩) ?_ ?_
         rotate_left
         ·intro w'
          go_simp
          with_reducible rfl
         rotate_left
         ·simp only [Act.put, List.setIfInBounds_toArray, List.set_cons_zero, List.set_cons_succ, i64_w, i32_w]
          rfl
         refine pure_ (i := 2) (N := some 60) (v := ?_) (a' := ?_) #[true, false, true, false, false, false, false, false, false, false] rfl rfl (any_of HT_.out (by kernel_rfl)) (fun _ _ _ h => h) (Or.inl ⟨by rfl, ?_⟩) ?_ ?_
         rotate_left
         ·intro w'
          go_simp
          with_reducible rfl
         rotate_left
         ·simp only [Act.put, List.setIfInBounds_toArray, List.set_cons_zero, List.set_cons_succ, i64_w, i32_w]
          rfl
         refine pure_ (i := 4) (N := some 62) (v := ?_) (a' := ?_) #[true, false, true, false, true, false, false, false, false, false] rfl rfl (any_of HT_.out (by kernel_rfl)) (fun _ _ _ h => h) (Or.inl ⟨by rfl, ?_⟩) ?_ ?_
         rotate_left
         ·intro w'
          go_simp
          with_reducible rfl
         rotate_left
         ·simp only [Act.put, List.setIfInBounds_toArray, List.set_cons_zero, List.set_cons_succ, i64_w, i32_w]
          rfl
         refine take_ (i := 1) (N := some 59) (v := ?_) (a' := ?_) #[true, true, true, false, true, false, false, false, false, false] rfl rfl (take_ofW HT_.out HW_.out (by kernel_rfl)) (fun _ _ _ h => h) (Or.inl ⟨by rfl, ?_⟩) hHeld ?_ ?_
         rotate_left
         ·rintro w' ⟨s0, s1, s2⟩
          go_simp
          with_reducible rfl
         rotate_left
         ·simp only [Act.put, List.setIfInBounds_toArray, List.set_cons_zero, List.set_cons_succ, i64_w, i32_w]
          rfl
         refine pure_ (i := 6) (N := some 8) (v := ?_) (a' := ?_) #[true, true, true, false, true, false, true, false, false, false] rfl rfl (any_of HT_.out (by kernel_rfl)) (fun _ _ _ h => h) (Or.inl ⟨by rfl, ?_⟩) ?_ ?_
         rotate_left
         ·intro w'
          go_simp
          with_reducible rfl
         rotate_left
         ·simp only [Act.put, List.setIfInBounds_toArray, List.set_cons_zero, List.set_cons_succ, i64_w, i32_w]
          rfl
         refine take_ (i := 3) (N := some 61) (v := ?_) (a' := ?_) #[true, true, true, true, true, false, true, false, false, false] rfl rfl (take_ofW HT_.out HW_.out (by kernel_rfl)) (fun _ _ _ h => h) (Or.inl ⟨by rfl, ?_⟩) hHeld ?_ ?_
         rotate_left
         ·rintro w' ⟨s0, s1, s2⟩
          go_simp
          with_reducible rfl
         rotate_left
         ·simp only [Act.put, List.setIfInBounds_toArray, List.set_cons_zero, List.set_cons_succ, i64_w, i32_w]
          rfl
         refine pure_ (i := 7) (N := some 9) (v := ?_) (a' := ?_) #[true, true, true, true, true, false, true, true, false, false] rfl rfl (any_of HT_.out (by kernel_rfl)) (fun _ _ _ h => h) (Or.inl ⟨by rfl, ?_⟩) ?_ ?_
         rotate_left
         ·intro w'
          go_simp
          with_reducible rfl
         rotate_left
         ·simp only [Act.put, List.setIfInBounds_toArray, List.set_cons_zero, List.set_cons_succ, i64_w, i32_w]
          rfl
         refine take_ (i := 5) (N := some 63) (v := ?_) (a' := ?_) #[true, true, true, true, true, true, true, true, false, false] rfl rfl (take_ofW HT_.out HW_.out (by kernel_rfl)) (fun _ _ _ h => h) (Or.inl ⟨by rfl, ?_⟩) hHeld ?_ ?_
         rotate_left
         ·rintro w' ⟨s0, s1, s2⟩
          go_simp
          with_reducible rfl
         rotate_left
         ·simp only [Act.put, List.setIfInBounds_toArray, List.set_cons_zero, List.set_cons_succ, i64_w, i32_w]
          rfl
         refine pure_ (i := 8) (N := some 10) (v := ?_) (a' := ?_) #[true, true, true, true, true, true, true, true, true, false] rfl rfl (any_of HT_.out (by kernel_rfl)) (fun _ _ _ h => h) (Or.inl ⟨by rfl, ?_⟩) ?_ ?_
         rotate_left
         ·intro w'
          go_simp
          with_reducible rfl
         rotate_left
         ·simp only [Act.put, List.setIfInBounds_toArray, List.set_cons_zero, List.set_cons_succ, i64_w, i32_w]
          rfl
         refine pure_ (i := 9) (N := some 11) (v := ?_) (a' := ?_) #[true, true, true, true, true, true, true, true, true, true] rfl rfl (any_of HT_.out (by kernel_rfl)) (fun _ _ _ h => h) (Or.inl ⟨by rfl, ?_⟩) ?_ ?_
         rotate_left
         ·intro w'
          go_simp
          with_reducible rfl
         rotate_left
         ·simp only [Act.put, List.setIfInBounds_toArray, List.set_cons_zero, List.set_cons_succ, i64_w, i32_w]
          rfl
         refine done_ (done_of HT_.out (by kernel_rfl)) ?_
         try go_wp2
         refine bodyPost_ret (results_list (rs := [.tmp 8, .tmp 9, .tmp 10, .tmp 11]) rfl (by simp) (.tmp (.tmp (.tmp (.tmp .nil))))) rfl ?_
         exact ⟨_, _, _, fr_, nR_ HO_576000, nR_ HO_576001, nR_ HO_576002, hs_⟩
        ·rw [if_neg c30] at H
         have c30b0 : decide ((x576000_2.length : Int) ≤ a3) = false := decide_eq_false c30
         clear c30
         replace H := Option.bind_eq_some_iff.mp H
         obtain ⟨⟨t576, t577, t578⟩, A370, H⟩ := H
         (try dsimp only at H)
         have A37 := Aside0.mk A370
         clear A370
         replace H := Option.bind_eq_some_iff.mp H
         obtain ⟨⟨t584, t585⟩, A380, H⟩ := H
         (try dsimp only at H)
         have A38 := Aside0.mk A380
         clear A380
         replace H := Option.bind_eq_some_iff.mp H
         obtain ⟨⟨t588, t589⟩, A390, H⟩ := H
         (try dsimp only at H)
         have A39 := Aside0.mk A390
         clear A390
         replace H := Option.bind_eq_some_iff.mp H
         obtain ⟨⟨t592, t593⟩, A400, H⟩ := H
         replace H : ((cr3_Sub.f k2 a0 x575001_2 t592).bind fun bt596 => ((cr3_Mul.f k2 a0 t576 x576002_2).bind fun bt600 => ((cr3_Sub.f k2 a0 x575002_2 bt600.1).bind fun bt604 => (cr5_Partial.l0 k2 a0 a3 x576000_2 x576001_2 x576002_2 t588 bt596.1 bt604.1)))) = some (r1, r2, r3, r4) := H
         have A40 := Aside0.mk A400
         clear A400
         replace H := Option.bind_eq_some_iff.mp H
         obtain ⟨⟨t596, t597⟩, A410, H⟩ := H
         replace H : ((cr3_Mul.f k2 a0 t576 x576002_2).bind fun bt600 => ((cr3_Sub.f k2 a0 x575002_2 bt600.1).bind fun bt604 => (cr5_Partial.l0 k2 a0 a3 x576000_2 x576001_2 x576002_2 t588 t596 bt604.1))) = some (r1, r2, r3, r4) := H
         have A41 := Aside0.mk A410
         clear A410
         replace H := Option.bind_eq_some_iff.mp H
         obtain ⟨⟨t600, t601⟩, A420, H⟩ := H
         replace H : ((cr3_Sub.f k2 a0 x575002_2 t600).bind fun bt604 => (cr5_Partial.l0 k2 a0 a3 x576000_2 x576001_2 x576002_2 t588 t596 bt604.1)) = some (r1, r2, r3, r4) := H
         have A42 := Aside0.mk A420
         clear A420
         replace H := Option.bind_eq_some_iff.mp H
         obtain ⟨⟨t604, t605⟩, A430, H⟩ := H
         replace H : (cr5_Partial.l0 k2 a0 a3 x576000_2 x576001_2 x576002_2 t588 t596 t604) = some (r1, r2, r3, r4) := H
         have A43 := Aside0.mk A430
         clear A430
         have H' := Aside0.mk H
         clear H
         have hnb44 := NB574_575.out
         have hnc44 := NB575_574.out
         have hcz45_0 : wr.cell? ⟨gb574, 0, none⟩ = some (u575000) := (blk_cell BK574.out 0).trans rfl
         have hcz45_1 : wr.cell? ⟨gb574, 1, none⟩ = some (u575001) := (blk_cell BK574.out 1).trans rfl
         have hcz45_2 : wr.cell? ⟨gb574, 2, none⟩ = some (u575002) := (blk_cell BK574.out 2).trans rfl
         have hfz45_0 := blk_frozen BK574.out 0
         have hfz45_1 := blk_frozen BK574.out 1
         have hfz45_2 := blk_frozen BK574.out 2
         obtain ⟨Ao46, co46, eo46⟩ := Kd.R_slice HO_575000.out
         subst eo46
         have hcz47_0 : wr.cell? ⟨gb575, 0, none⟩ = some (u576000) := (blk_cell BK575.out 0).trans rfl
         have hcz47_1 : wr.cell? ⟨gb575, 1, none⟩ = some (u576001) := (blk_cell BK575.out 1).trans rfl
         have hcz47_2 : wr.cell? ⟨gb575, 2, none⟩ = some (u576002) := (blk_cell BK575.out 2).trans rfl
         have hfz47_0 := blk_frozen BK575.out 0
         have hfz47_1 := blk_frozen BK575.out 1
         have hfz47_2 := blk_frozen BK575.out 2
         obtain ⟨Ao48, co48, eo48⟩ := Kd.R_slice HO_576000.out
         subst eo48
         try go_wp2_with (first | ((with_reducible refine gate_callee (f := 19) rfl ?_); refine goesM_ (some 70) Try.func19 #[.int .u8 a0, .slice Ao46 x575000_2.length co46, .slice Ao48 x576000_2.length co48] ?_; (with_reducible refine (cr3_DivMod.calls k2 a0 _ _ x575000_2 _ _ x576000_2 t576 t577 t578 _ ?side1 ?side2 ?side3 ?side4 A37.out).mono ?_); (case side1 => repeat (first | exact (Kd.R_reads' HO_575000.out).2.2 | (with_reducible refine Kd.C_alloc ?_ _) | (with_reducible refine Kd.C_drewN ?_ _) | (with_reducible refine Kd.C_drew ?_))); (case side2 => exact (Kd.R_reads' HO_575000.out).2.1); (case side3 => repeat (first | exact (Kd.R_reads' HO_576000.out).2.2 | (with_reducible refine Kd.C_alloc ?_ _) | (with_reducible refine Kd.C_drewN ?_ _) | (with_reducible refine Kd.C_drew ?_))); (case side4 => exact (Kd.R_reads' HO_576000.out).2.1); rintro e w49 ⟨v579, v581, rfl, ho0, ho1, hb⟩; refine ⟨_, rfl, ?_⟩; have n0_ := A_ (Kd.R_below (nR_ HO_575000) hb); have n1_ := A_ (Kd.R_below (nR_ HO_575001) hb); have n2_ := A_ (Kd.R_below (nR_ HO_575002) hb); have n3_ := A_ (Kd.R_below (nR_ HO_576000) hb); have n4_ := A_ (Kd.R_below (nR_ HO_576001) hb); have n5_ := A_ (Kd.R_below (nR_ HO_576002) hb); have n6_ := A_ (Kd.R_lower (Kd.R_mono (ok' := fun _ => True) ho0 (fun _ _ => trivial)) (below_size hs_)); have n7_ := A_ (Kd.R_lower (Kd.R_mono (ok' := fun _ => True) ho1 (fun _ _ => trivial)) (below_size hs_)); have n8_ := A_ (blk_below (g := gb574) (o := .cells #[.slice Ao46 x575000_2.length co46, u575001, u575002] 72 (0, 0)) (nb_ BK574) hb); have n9_ := A_ (blk_below (g := gb575) (o := .cells #[.slice Ao48 x576000_2.length co48, u576001, u576002] 72 (0, 0)) (nb_ BK575) hb); have n10_ := A_ (below_step hs_ hb); clear HO_575000 HO_575001 HO_575002 HO_576000 HO_576001 HO_576002 BK574 BK575 HB; have HO_575000 := n0_; have HO_575001 := n1_; have HO_575002 := n2_; have HO_576000 := n3_; have HO_576001 := n4_; have HO_576002 := n5_; have HO580 := n6_; have HO582 := n7_; have BK574 := n8_; have BK575 := n9_; have HB := n10_; clear n0_ n1_ n2_ n3_ n4_ n5_ n6_ n7_ n8_ n9_ n10_; (try clear hb); (try clear ho0); (try clear ho1)) | ((with_reducible refine gate_dst (N := 19) rfl ?_); refine box_event ?hg (N := 19) ?hd (cs := #[.slice none 0 0, .slice none 0 0, .slice none 0 0]) (t := 72) ?hr ?_; (case hd => rfl); (case hg => rfl); (case hr => first | (go_simp; done) | (go_simp; rfl)); intro gb583 hg w50 hbox hb; have n0_ := A_ (Kd.R_below (nR_ HO_575000) hb); have n1_ := A_ (Kd.R_below (nR_ HO_575001) hb); have n2_ := A_ (Kd.R_below (nR_ HO_575002) hb); have n3_ := A_ (Kd.R_below (nR_ HO_576000) hb); have n4_ := A_ (Kd.R_below (nR_ HO_576001) hb); have n5_ := A_ (Kd.R_below (nR_ HO_576002) hb); have n6_ := A_ (Kd.R_below (nR_ HO580) hb); have n7_ := A_ (Kd.R_below (nR_ HO582) hb); have n8_ := A_ (blk_below (g := gb574) (o := .cells #[.slice Ao46 x575000_2.length co46, u575001, u575002] 72 (0, 0)) (nb_ BK574) hb); have n9_ := A_ (blk_below (g := gb575) (o := .cells #[.slice Ao48 x576000_2.length co48, u576001, u576002] 72 (0, 0)) (nb_ BK575) hb); have n10_ := A_ (below_step hs_ hb); have n11_ := A_ (hbox); have n12_ := A_ ((by rw [hg]; exact (below_size hs_) : w.heap.size ≤ gb583)); have n13_ := A_ ((by rw [hg]; exact (below_size hs_) : w.heap.size ≤ gb583)); have n14_ := A_ ((by rw [hg]; exact Nat.ne_of_lt (blk_lt (g := gb574) (o := .cells #[.slice Ao46 x575000_2.length co46, u575001, u575002] 72 (0, 0)) (nb_ BK574)) : gb574 ≠ gb583)); have n15_ := A_ ((by rw [hg]; exact Nat.ne_of_gt (blk_lt (g := gb574) (o := .cells #[.slice Ao46 x575000_2.length co46, u575001, u575002] 72 (0, 0)) (nb_ BK574)) : gb583 ≠ gb574)); have n16_ := A_ ((by rw [hg]; exact Nat.ne_of_lt (blk_lt (g := gb575) (o := .cells #[.slice Ao48 x576000_2.length co48, u576001, u576002] 72 (0, 0)) (nb_ BK575)) : gb575 ≠ gb583)); have n17_ := A_ ((by rw [hg]; exact Nat.ne_of_gt (blk_lt (g := gb575) (o := .cells #[.slice Ao48 x576000_2.length co48, u576001, u576002] 72 (0, 0)) (nb_ BK575)) : gb583 ≠ gb575)); clear HO_575000 HO_575001 HO_575002 HO_576000 HO_576001 HO_576002 HO580 HO582 BK574 BK575 HB; have HO_575000 := n0_; have HO_575001 := n1_; have HO_575002 := n2_; have HO_576000 := n3_; have HO_576001 := n4_; have HO_576002 := n5_; have HO580 := n6_; have HO582 := n7_; have BK574 := n8_; have BK575 := n9_; have HB := n10_; have BK583 := n11_; have GW583 := n12_; have GE583 := n13_; have NB574_583 := n14_; have NB583_574 := n15_; have NB575_583 := n16_; have NB583_575 := n17_; clear n0_ n1_ n2_ n3_ n4_ n5_ n6_ n7_ n8_ n9_ n10_ n11_ n12_ n13_ n14_ n15_ n16_ n17_; clear hb hbox hg; have hnb51 := NB575_583.out; have hnc51 := NB583_575.out; have hcz52_0 : w50.cell? ⟨gb575, 0, none⟩ = some (.slice Ao48 x576000_2.length co48) := (blk_cell BK575.out 0).trans rfl; have hcz52_1 : w50.cell? ⟨gb575, 1, none⟩ = some (u576001) := (blk_cell BK575.out 1).trans rfl; have hcz52_2 : w50.cell? ⟨gb575, 2, none⟩ = some (u576002) := (blk_cell BK575.out 2).trans rfl; have hfz52_0 := blk_frozen BK575.out 0; have hfz52_1 := blk_frozen BK575.out 1; have hfz52_2 := blk_frozen BK575.out 2; obtain ⟨Ao53, co53, eo53⟩ := Kd.R_slice HO580.out; subst eo53))
         refine wp_loop_rounds 4 ?_
         rw [rounds_succ]
         try go_wp2_with (first | ((with_reducible refine gate_callee (f := 18) rfl ?_); refine goesM_ (some 84) Try.func18 #[.int .u8 a0, .slice Ao53 t576.length co53, .slice Ao48 x576000_2.length co48] ?_; (with_reducible refine (cr3_Mul.calls k2 a0 _ _ t576 _ _ x576000_2 t584 t585 _ ?side1 ?side2 ?side3 ?side4 A38.out).mono ?_); (case side1 => repeat (first | exact (Kd.R_reads' HO580.out).2.2 | (with_reducible refine Kd.C_alloc ?_ _) | (with_reducible refine Kd.C_drewN ?_ _) | (with_reducible refine Kd.C_drew ?_))); (case side2 => exact (Kd.R_reads' HO580.out).2.1); (case side3 => repeat (first | exact (Kd.R_reads' HO_576000.out).2.2 | (with_reducible refine Kd.C_alloc ?_ _) | (with_reducible refine Kd.C_drewN ?_ _) | (with_reducible refine Kd.C_drew ?_))); (case side4 => exact (Kd.R_reads' HO_576000.out).2.1); rintro e w54 ⟨v586, rfl, ho0, hb⟩; refine ⟨_, rfl, ?_⟩; have n0_ := A_ (Kd.R_below (nR_ HO_575000) hb); have n1_ := A_ (Kd.R_below (nR_ HO_575001) hb); have n2_ := A_ (Kd.R_below (nR_ HO_575002) hb); have n3_ := A_ (Kd.R_below (nR_ HO_576000) hb); have n4_ := A_ (Kd.R_below (nR_ HO_576001) hb); have n5_ := A_ (Kd.R_below (nR_ HO_576002) hb); have n6_ := A_ (Kd.R_below (nR_ HO580) hb); have n7_ := A_ (Kd.R_below (nR_ HO582) hb); have n8_ := A_ (Kd.R_lower (Kd.R_mono (ok' := fun _ => True) ho0 (fun _ _ => trivial)) (below_size hs_)); have n9_ := A_ (blk_below (g := gb574) (o := .cells #[.slice Ao46 x575000_2.length co46, u575001, u575002] 72 (0, 0)) (nb_ BK574) hb); have n10_ := A_ (blk_below (g := gb575) (o := .cells #[.slice Ao48 x576000_2.length co48, u576001, u576002] 72 (0, 0)) (nb_ BK575) hb); have n11_ := A_ (blk_below (g := gb583) (o := .cells #[.slice none 0 0, .slice none 0 0, .slice none 0 0] 72 (0, 0)) (nb_ BK583) hb); have n12_ := A_ (below_step hs_ hb); clear HO_575000 HO_575001 HO_575002 HO_576000 HO_576001 HO_576002 HO580 HO582 BK574 BK575 BK583 HB; have HO_575000 := n0_; have HO_575001 := n1_; have HO_575002 := n2_; have HO_576000 := n3_; have HO_576001 := n4_; have HO_576002 := n5_; have HO580 := n6_; have HO582 := n7_; have HO587 := n8_; have BK574 := n9_; have BK575 := n10_; have BK583 := n11_; have HB := n12_; clear n0_ n1_ n2_ n3_ n4_ n5_ n6_ n7_ n8_ n9_ n10_ n11_ n12_; (try clear hb); (try clear ho0); have hnb55 := NB574_583.out; have hnc55 := NB583_574.out; have hcz56_0 : w54.cell? ⟨gb574, 0, none⟩ = some (.slice Ao46 x575000_2.length co46) := (blk_cell BK574.out 0).trans rfl; have hcz56_1 : w54.cell? ⟨gb574, 1, none⟩ = some (u575001) := (blk_cell BK574.out 1).trans rfl; have hcz56_2 : w54.cell? ⟨gb574, 2, none⟩ = some (u575002) := (blk_cell BK574.out 2).trans rfl; have hfz56_0 := blk_frozen BK574.out 0; have hfz56_1 := blk_frozen BK574.out 1; have hfz56_2 := blk_frozen BK574.out 2; obtain ⟨Ao57, co57, eo57⟩ := Kd.R_slice HO587.out; subst eo57) | ((with_reducible refine gate_callee (f := 26) rfl ?_); refine goesM_ (some 94) Try.func26 #[.int .u8 a0, .slice Ao46 x575000_2.length co46, .slice Ao57 t584.length co57] ?_; (with_reducible refine (cr3_Sub.calls k2 a0 _ _ x575000_2 _ _ t584 t588 t589 _ ?side1 ?side2 ?side3 ?side4 A39.out).mono ?_); (case side1 => repeat (first | exact (Kd.R_reads' HO_575000.out).2.2 | (with_reducible refine Kd.C_alloc ?_ _) | (with_reducible refine Kd.C_drewN ?_ _) | (with_reducible refine Kd.C_drew ?_))); (case side2 => exact (Kd.R_reads' HO_575000.out).2.1); (case side3 => repeat (first | exact (Kd.R_reads' HO587.out).2.2 | (with_reducible refine Kd.C_alloc ?_ _) | (with_reducible refine Kd.C_drewN ?_ _) | (with_reducible refine Kd.C_drew ?_))); (case side4 => exact (Kd.R_reads' HO587.out).2.1); rintro e w58 ⟨v590, rfl, ho0, hb⟩; refine ⟨_, rfl, ?_⟩; have n0_ := A_ (Kd.R_below (nR_ HO_575000) hb); have n1_ := A_ (Kd.R_below (nR_ HO_575001) hb); have n2_ := A_ (Kd.R_below (nR_ HO_575002) hb); have n3_ := A_ (Kd.R_below (nR_ HO_576000) hb); have n4_ := A_ (Kd.R_below (nR_ HO_576001) hb); have n5_ := A_ (Kd.R_below (nR_ HO_576002) hb); have n6_ := A_ (Kd.R_below (nR_ HO580) hb); have n7_ := A_ (Kd.R_below (nR_ HO582) hb); have n8_ := A_ (Kd.R_below (nR_ HO587) hb); have n9_ := A_ (Kd.R_lower (Kd.R_mono (ok' := fun _ => True) ho0 (fun _ _ => trivial)) (below_size hs_)); have n10_ := A_ (blk_below (g := gb574) (o := .cells #[.slice Ao46 x575000_2.length co46, u575001, u575002] 72 (0, 0)) (nb_ BK574) hb); have n11_ := A_ (blk_below (g := gb575) (o := .cells #[.slice Ao48 x576000_2.length co48, u576001, u576002] 72 (0, 0)) (nb_ BK575) hb); have n12_ := A_ (blk_below (g := gb583) (o := .cells #[.slice none 0 0, .slice none 0 0, .slice none 0 0] 72 (0, 0)) (nb_ BK583) hb); have n13_ := A_ (below_step hs_ hb); clear HO_575000 HO_575001 HO_575002 HO_576000 HO_576001 HO_576002 HO580 HO582 HO587 BK574 BK575 BK583 HB; have HO_575000 := n0_; have HO_575001 := n1_; have HO_575002 := n2_; have HO_576000 := n3_; have HO_576001 := n4_; have HO_576002 := n5_; have HO580 := n6_; have HO582 := n7_; have HO587 := n8_; have HO591 := n9_; have BK574 := n10_; have BK575 := n11_; have BK583 := n12_; have HB := n13_; clear n0_ n1_ n2_ n3_ n4_ n5_ n6_ n7_ n8_ n9_ n10_ n11_ n12_ n13_; (try clear hb); (try clear ho0); obtain ⟨Ao59, co59, eo59⟩ := Kd.R_slice HO591.out; subst eo59; have hcz60_0 : w58.cell? ⟨gb583, 0, none⟩ = some (.slice none 0 0) := (blk_cell BK583.out 0).trans rfl; have hcz60_1 : w58.cell? ⟨gb583, 1, none⟩ = some (.slice none 0 0) := (blk_cell BK583.out 1).trans rfl; have hcz60_2 : w58.cell? ⟨gb583, 2, none⟩ = some (.slice none 0 0) := (blk_cell BK583.out 2).trans rfl; have hfz60_0 := blk_frozen BK583.out 0; have hfz60_1 := blk_frozen BK583.out 1; have hfz60_2 := blk_frozen BK583.out 2))
         have n0_ : Aside0 (Kd.R (Kd.int .u64) 40 (w58.setCell ⟨gb583, 0, none⟩ (.slice Ao59 t588.length co59)) w.heap.size (fun _ => True) (.slice Ao46 x575000_2.length co46) x575000_2) := ⟨by (with_reducible repeat (first | apply Kd.R_alloc | apply Kd.R_drewN | apply Kd.R_drew)); exact Kd.R_mono (Kd.R_far (p := ⟨gb583, 0, none⟩) (Kd.R_types HO_575000.out BK583.out (by decide)) (fun _ hk => hk.2) (.slice Ao59 t588.length co59)) (fun _ hk => trivial)⟩
         have n1_ : Aside0 (Kd.R (Kd.int .u64) 40 (w58.setCell ⟨gb583, 0, none⟩ (.slice Ao59 t588.length co59)) w.heap.size (fun _ => True) u575001 x575001_2) := ⟨by (with_reducible repeat (first | apply Kd.R_alloc | apply Kd.R_drewN | apply Kd.R_drew)); exact Kd.R_mono (Kd.R_far (p := ⟨gb583, 0, none⟩) (Kd.R_types HO_575001.out BK583.out (by decide)) (fun _ hk => hk.2) (.slice Ao59 t588.length co59)) (fun _ hk => trivial)⟩
         have n2_ : Aside0 (Kd.R (Kd.int .u64) 40 (w58.setCell ⟨gb583, 0, none⟩ (.slice Ao59 t588.length co59)) w.heap.size (fun _ => True) u575002 x575002_2) := ⟨by (with_reducible repeat (first | apply Kd.R_alloc | apply Kd.R_drewN | apply Kd.R_drew)); exact Kd.R_mono (Kd.R_far (p := ⟨gb583, 0, none⟩) (Kd.R_types HO_575002.out BK583.out (by decide)) (fun _ hk => hk.2) (.slice Ao59 t588.length co59)) (fun _ hk => trivial)⟩
         have n3_ : Aside0 (Kd.R (Kd.int .u64) 40 (w58.setCell ⟨gb583, 0, none⟩ (.slice Ao59 t588.length co59)) w.heap.size (fun _ => True) (.slice Ao48 x576000_2.length co48) x576000_2) := ⟨by (with_reducible repeat (first | apply Kd.R_alloc | apply Kd.R_drewN | apply Kd.R_drew)); exact Kd.R_mono (Kd.R_far (p := ⟨gb583, 0, none⟩) (Kd.R_types HO_576000.out BK583.out (by decide)) (fun _ hk => hk.2) (.slice Ao59 t588.length co59)) (fun _ hk => trivial)⟩
         have n4_ : Aside0 (Kd.R (Kd.int .u64) 40 (w58.setCell ⟨gb583, 0, none⟩ (.slice Ao59 t588.length co59)) w.heap.size (fun _ => True) u576001 x576001_2) := ⟨by (with_reducible repeat (first | apply Kd.R_alloc | apply Kd.R_drewN | apply Kd.R_drew)); exact Kd.R_mono (Kd.R_far (p := ⟨gb583, 0, none⟩) (Kd.R_types HO_576001.out BK583.out (by decide)) (fun _ hk => hk.2) (.slice Ao59 t588.length co59)) (fun _ hk => trivial)⟩
         have n5_ : Aside0 (Kd.R (Kd.int .u64) 40 (w58.setCell ⟨gb583, 0, none⟩ (.slice Ao59 t588.length co59)) w.heap.size (fun _ => True) u576002 x576002_2) := ⟨by (with_reducible repeat (first | apply Kd.R_alloc | apply Kd.R_drewN | apply Kd.R_drew)); exact Kd.R_mono (Kd.R_far (p := ⟨gb583, 0, none⟩) (Kd.R_types HO_576002.out BK583.out (by decide)) (fun _ hk => hk.2) (.slice Ao59 t588.length co59)) (fun _ hk => trivial)⟩
         have n6_ : Aside0 (Kd.R (Kd.int .u64) 40 (w58.setCell ⟨gb583, 0, none⟩ (.slice Ao59 t588.length co59)) w.heap.size (fun _ => True) (.slice Ao53 t576.length co53) t576) := ⟨by (with_reducible repeat (first | apply Kd.R_alloc | apply Kd.R_drewN | apply Kd.R_drew)); exact Kd.R_mono (Kd.R_far (p := ⟨gb583, 0, none⟩) (Kd.R_types HO580.out BK583.out (by decide)) (fun _ hk => hk.2) (.slice Ao59 t588.length co59)) (fun _ hk => trivial)⟩
         have n7_ : Aside0 (Kd.R (Kd.int .u64) 40 (w58.setCell ⟨gb583, 0, none⟩ (.slice Ao59 t588.length co59)) w.heap.size (fun _ => True) v581 t577) := ⟨by (with_reducible repeat (first | apply Kd.R_alloc | apply Kd.R_drewN | apply Kd.R_drew)); exact Kd.R_mono (Kd.R_far (p := ⟨gb583, 0, none⟩) (Kd.R_types HO582.out BK583.out (by decide)) (fun _ hk => hk.2) (.slice Ao59 t588.length co59)) (fun _ hk => trivial)⟩
         have n8_ : Aside0 (Kd.R (Kd.int .u64) 40 (w58.setCell ⟨gb583, 0, none⟩ (.slice Ao59 t588.length co59)) w.heap.size (fun _ => True) (.slice Ao57 t584.length co57) t584) := ⟨by (with_reducible repeat (first | apply Kd.R_alloc | apply Kd.R_drewN | apply Kd.R_drew)); exact Kd.R_mono (Kd.R_far (p := ⟨gb583, 0, none⟩) (Kd.R_types HO587.out BK583.out (by decide)) (fun _ hk => hk.2) (.slice Ao59 t588.length co59)) (fun _ hk => trivial)⟩
         have n9_ : Aside0 (Kd.R (Kd.int .u64) 40 (w58.setCell ⟨gb583, 0, none⟩ (.slice Ao59 t588.length co59)) w.heap.size (fun _ => True) (.slice Ao59 t588.length co59) t588) := ⟨by (with_reducible repeat (first | apply Kd.R_alloc | apply Kd.R_drewN | apply Kd.R_drew)); exact Kd.R_mono (Kd.R_far (p := ⟨gb583, 0, none⟩) (Kd.R_types HO591.out BK583.out (by decide)) (fun _ hk => hk.2) (.slice Ao59 t588.length co59)) (fun _ hk => trivial)⟩
         have n10_ : Aside0 ((w58.setCell ⟨gb583, 0, none⟩ (.slice Ao59 t588.length co59)).heap[gb574]? = some (.cells #[.slice Ao46 x575000_2.length co46, u575001, u575002] 72 (0, 0))) := ⟨by (with_reducible repeat (first | refine blk_drewN ?_ _ | refine blk_drew ?_ | refine blk_alloc ?_ _)); refine blk_far ?_ NB574_583.out _; (with_reducible repeat (first | refine blk_drewN ?_ _ | refine blk_drew ?_ | refine blk_alloc ?_ _)); exact BK574.out⟩
         have n11_ : Aside0 ((w58.setCell ⟨gb583, 0, none⟩ (.slice Ao59 t588.length co59)).heap[gb575]? = some (.cells #[.slice Ao48 x576000_2.length co48, u576001, u576002] 72 (0, 0))) := ⟨by (with_reducible repeat (first | refine blk_drewN ?_ _ | refine blk_drew ?_ | refine blk_alloc ?_ _)); refine blk_far ?_ NB575_583.out _; (with_reducible repeat (first | refine blk_drewN ?_ _ | refine blk_drew ?_ | refine blk_alloc ?_ _)); exact BK575.out⟩
         have n12_ : Aside0 ((w58.setCell ⟨gb583, 0, none⟩ (.slice Ao59 t588.length co59)).heap[gb583]? = some (.cells #[.slice Ao59 t588.length co59, .slice none 0 0, .slice none 0 0] 72 (0, 0))) := ⟨by (with_reducible repeat (first | refine blk_drewN ?_ _ | refine blk_drew ?_ | refine blk_alloc ?_ _)); refine blk_put (cs := #[.slice none 0 0, .slice none 0 0, .slice none 0 0]) ?_ 0 _ rfl; (with_reducible repeat (first | refine blk_drewN ?_ _ | refine blk_drew ?_ | refine blk_alloc ?_ _)); exact BK583.out⟩
         have n13_ : Aside0 (Below w.heap.size w (w58.setCell ⟨gb583, 0, none⟩ (.slice Ao59 t588.length co59))) := ⟨hs_⟩
         (try clear HO_575000)
         (try clear HO_575001)
         (try clear HO_575002)
         (try clear HO_576000)
         (try clear HO_576001)
         (try clear HO_576002)
         (try clear HO580)
         (try clear HO582)
         (try clear HO587)
         (try clear HO591)
         (try clear BK574)
         (try clear BK575)
         (try clear BK583)
         (try clear HB)
         generalize (w58.setCell ⟨gb583, 0, none⟩ (.slice Ao59 t588.length co59)) = w61 at n0_ n1_ n2_ n3_ n4_ n5_ n6_ n7_ n8_ n9_ n10_ n11_ n12_ n13_ ⊢
         have HO_575000 := n0_
         have HO_575001 := n1_
         have HO_575002 := n2_
         have HO_576000 := n3_
         have HO_576001 := n4_
         have HO_576002 := n5_
         have HO580 := n6_
         have HO582 := n7_
         have HO587 := n8_
         have HO591 := n9_
         have BK574 := n10_
         have BK575 := n11_
         have BK583 := n12_
         have HB := n13_
         clear n0_ n1_ n2_ n3_ n4_ n5_ n6_ n7_ n8_ n9_ n10_ n11_ n12_ n13_
         have hcz62_0 : w61.cell? ⟨gb575, 0, none⟩ = some (.slice Ao48 x576000_2.length co48) := (blk_cell BK575.out 0).trans rfl
         have hcz62_1 : w61.cell? ⟨gb575, 1, none⟩ = some (u576001) := (blk_cell BK575.out 1).trans rfl
         have hcz62_2 : w61.cell? ⟨gb575, 2, none⟩ = some (u576002) := (blk_cell BK575.out 2).trans rfl
         have hfz62_0 := blk_frozen BK575.out 0
         have hfz62_1 := blk_frozen BK575.out 1
         have hfz62_2 := blk_frozen BK575.out 2
         obtain ⟨Ao63, co63, eo63⟩ := Kd.R_slice HO_576001.out
         subst eo63
         rw [rounds_succ]
         try go_wp2_with (first | ((with_reducible refine gate_callee (f := 18) rfl ?_); refine goesM_ (some 84) Try.func18 #[.int .u8 a0, .slice Ao53 t576.length co53, .slice Ao63 x576001_2.length co63] ?_; (with_reducible refine (cr3_Mul.calls k2 a0 _ _ t576 _ _ x576001_2 t592 t593 _ ?side1 ?side2 ?side3 ?side4 A40.out).mono ?_); (case side1 => repeat (first | exact (Kd.R_reads' HO580.out).2.2 | (with_reducible refine Kd.C_alloc ?_ _) | (with_reducible refine Kd.C_drewN ?_ _) | (with_reducible refine Kd.C_drew ?_))); (case side2 => exact (Kd.R_reads' HO580.out).2.1); (case side3 => repeat (first | exact (Kd.R_reads' HO_576001.out).2.2 | (with_reducible refine Kd.C_alloc ?_ _) | (with_reducible refine Kd.C_drewN ?_ _) | (with_reducible refine Kd.C_drew ?_))); (case side4 => exact (Kd.R_reads' HO_576001.out).2.1); rintro e w64 ⟨v594, rfl, ho0, hb⟩; refine ⟨_, rfl, ?_⟩; have n0_ := A_ (Kd.R_below (nR_ HO_575000) hb); have n1_ := A_ (Kd.R_below (nR_ HO_575001) hb); have n2_ := A_ (Kd.R_below (nR_ HO_575002) hb); have n3_ := A_ (Kd.R_below (nR_ HO_576000) hb); have n4_ := A_ (Kd.R_below (nR_ HO_576001) hb); have n5_ := A_ (Kd.R_below (nR_ HO_576002) hb); have n6_ := A_ (Kd.R_below (nR_ HO580) hb); have n7_ := A_ (Kd.R_below (nR_ HO582) hb); have n8_ := A_ (Kd.R_below (nR_ HO587) hb); have n9_ := A_ (Kd.R_below (nR_ HO591) hb); have n10_ := A_ (Kd.R_lower (Kd.R_mono (ok' := fun _ => True) ho0 (fun _ _ => trivial)) (below_size hs_)); have n11_ := A_ (blk_below (g := gb574) (o := .cells #[.slice Ao46 x575000_2.length co46, u575001, u575002] 72 (0, 0)) (nb_ BK574) hb); have n12_ := A_ (blk_below (g := gb575) (o := .cells #[.slice Ao48 x576000_2.length co48, .slice Ao63 x576001_2.length co63, u576002] 72 (0, 0)) (nb_ BK575) hb); have n13_ := A_ (blk_below (g := gb583) (o := .cells #[.slice Ao59 t588.length co59, .slice none 0 0, .slice none 0 0] 72 (0, 0)) (nb_ BK583) hb); have n14_ := A_ (below_step hs_ hb); clear HO_575000 HO_575001 HO_575002 HO_576000 HO_576001 HO_576002 HO580 HO582 HO587 HO591 BK574 BK575 BK583 HB; have HO_575000 := n0_; have HO_575001 := n1_; have HO_575002 := n2_; have HO_576000 := n3_; have HO_576001 := n4_; have HO_576002 := n5_; have HO580 := n6_; have HO582 := n7_; have HO587 := n8_; have HO591 := n9_; have HO595 := n10_; have BK574 := n11_; have BK575 := n12_; have BK583 := n13_; have HB := n14_; clear n0_ n1_ n2_ n3_ n4_ n5_ n6_ n7_ n8_ n9_ n10_ n11_ n12_ n13_ n14_; (try clear hb); (try clear ho0); have hcz65_0 : w64.cell? ⟨gb574, 0, none⟩ = some (.slice Ao46 x575000_2.length co46) := (blk_cell BK574.out 0).trans rfl; have hcz65_1 : w64.cell? ⟨gb574, 1, none⟩ = some (u575001) := (blk_cell BK574.out 1).trans rfl; have hcz65_2 : w64.cell? ⟨gb574, 2, none⟩ = some (u575002) := (blk_cell BK574.out 2).trans rfl; have hfz65_0 := blk_frozen BK574.out 0; have hfz65_1 := blk_frozen BK574.out 1; have hfz65_2 := blk_frozen BK574.out 2; obtain ⟨Ao66, co66, eo66⟩ := Kd.R_slice HO_575001.out; subst eo66; obtain ⟨Ao67, co67, eo67⟩ := Kd.R_slice HO595.out; subst eo67) | ((with_reducible refine gate_callee (f := 26) rfl ?_); refine goesM_ (some 94) Try.func26 #[.int .u8 a0, .slice Ao66 x575001_2.length co66, .slice Ao67 t592.length co67] ?_; (with_reducible refine (cr3_Sub.calls k2 a0 _ _ x575001_2 _ _ t592 t596 t597 _ ?side1 ?side2 ?side3 ?side4 A41.out).mono ?_); (case side1 => repeat (first | exact (Kd.R_reads' HO_575001.out).2.2 | (with_reducible refine Kd.C_alloc ?_ _) | (with_reducible refine Kd.C_drewN ?_ _) | (with_reducible refine Kd.C_drew ?_))); (case side2 => exact (Kd.R_reads' HO_575001.out).2.1); (case side3 => repeat (first | exact (Kd.R_reads' HO595.out).2.2 | (with_reducible refine Kd.C_alloc ?_ _) | (with_reducible refine Kd.C_drewN ?_ _) | (with_reducible refine Kd.C_drew ?_))); (case side4 => exact (Kd.R_reads' HO595.out).2.1); rintro e w68 ⟨v598, rfl, ho0, hb⟩; refine ⟨_, rfl, ?_⟩; have n0_ := A_ (Kd.R_below (nR_ HO_575000) hb); have n1_ := A_ (Kd.R_below (nR_ HO_575001) hb); have n2_ := A_ (Kd.R_below (nR_ HO_575002) hb); have n3_ := A_ (Kd.R_below (nR_ HO_576000) hb); have n4_ := A_ (Kd.R_below (nR_ HO_576001) hb); have n5_ := A_ (Kd.R_below (nR_ HO_576002) hb); have n6_ := A_ (Kd.R_below (nR_ HO580) hb); have n7_ := A_ (Kd.R_below (nR_ HO582) hb); have n8_ := A_ (Kd.R_below (nR_ HO587) hb); have n9_ := A_ (Kd.R_below (nR_ HO591) hb); have n10_ := A_ (Kd.R_below (nR_ HO595) hb); have n11_ := A_ (Kd.R_lower (Kd.R_mono (ok' := fun _ => True) ho0 (fun _ _ => trivial)) (below_size hs_)); have n12_ := A_ (blk_below (g := gb574) (o := .cells #[.slice Ao46 x575000_2.length co46, .slice Ao66 x575001_2.length co66, u575002] 72 (0, 0)) (nb_ BK574) hb); have n13_ := A_ (blk_below (g := gb575) (o := .cells #[.slice Ao48 x576000_2.length co48, .slice Ao63 x576001_2.length co63, u576002] 72 (0, 0)) (nb_ BK575) hb); have n14_ := A_ (blk_below (g := gb583) (o := .cells #[.slice Ao59 t588.length co59, .slice none 0 0, .slice none 0 0] 72 (0, 0)) (nb_ BK583) hb); have n15_ := A_ (below_step hs_ hb); clear HO_575000 HO_575001 HO_575002 HO_576000 HO_576001 HO_576002 HO580 HO582 HO587 HO591 HO595 BK574 BK575 BK583 HB; have HO_575000 := n0_; have HO_575001 := n1_; have HO_575002 := n2_; have HO_576000 := n3_; have HO_576001 := n4_; have HO_576002 := n5_; have HO580 := n6_; have HO582 := n7_; have HO587 := n8_; have HO591 := n9_; have HO595 := n10_; have HO599 := n11_; have BK574 := n12_; have BK575 := n13_; have BK583 := n14_; have HB := n15_; clear n0_ n1_ n2_ n3_ n4_ n5_ n6_ n7_ n8_ n9_ n10_ n11_ n12_ n13_ n14_ n15_; (try clear hb); (try clear ho0); obtain ⟨Ao69, co69, eo69⟩ := Kd.R_slice HO599.out; subst eo69; have hcz70_0 : w68.cell? ⟨gb583, 0, none⟩ = some (.slice Ao59 t588.length co59) := (blk_cell BK583.out 0).trans rfl; have hcz70_1 : w68.cell? ⟨gb583, 1, none⟩ = some (.slice none 0 0) := (blk_cell BK583.out 1).trans rfl; have hcz70_2 : w68.cell? ⟨gb583, 2, none⟩ = some (.slice none 0 0) := (blk_cell BK583.out 2).trans rfl; have hfz70_0 := blk_frozen BK583.out 0; have hfz70_1 := blk_frozen BK583.out 1; have hfz70_2 := blk_frozen BK583.out 2))
         have n0_ : Aside0 (Kd.R (Kd.int .u64) 40 (w68.setCell ⟨gb583, 1, none⟩ (.slice Ao69 t596.length co69)) w.heap.size (fun _ => True) (.slice Ao46 x575000_2.length co46) x575000_2) := ⟨by (with_reducible repeat (first | apply Kd.R_alloc | apply Kd.R_drewN | apply Kd.R_drew)); exact Kd.R_mono (Kd.R_far (p := ⟨gb583, 1, none⟩) (Kd.R_types HO_575000.out BK583.out (by decide)) (fun _ hk => hk.2) (.slice Ao69 t596.length co69)) (fun _ hk => trivial)⟩
         have n1_ : Aside0 (Kd.R (Kd.int .u64) 40 (w68.setCell ⟨gb583, 1, none⟩ (.slice Ao69 t596.length co69)) w.heap.size (fun _ => True) (.slice Ao66 x575001_2.length co66) x575001_2) := ⟨by (with_reducible repeat (first | apply Kd.R_alloc | apply Kd.R_drewN | apply Kd.R_drew)); exact Kd.R_mono (Kd.R_far (p := ⟨gb583, 1, none⟩) (Kd.R_types HO_575001.out BK583.out (by decide)) (fun _ hk => hk.2) (.slice Ao69 t596.length co69)) (fun _ hk => trivial)⟩
         have n2_ : Aside0 (Kd.R (Kd.int .u64) 40 (w68.setCell ⟨gb583, 1, none⟩ (.slice Ao69 t596.length co69)) w.heap.size (fun _ => True) u575002 x575002_2) := ⟨by (with_reducible repeat (first | apply Kd.R_alloc | apply Kd.R_drewN | apply Kd.R_drew)); exact Kd.R_mono (Kd.R_far (p := ⟨gb583, 1, none⟩) (Kd.R_types HO_575002.out BK583.out (by decide)) (fun _ hk => hk.2) (.slice Ao69 t596.length co69)) (fun _ hk => trivial)⟩
         have n3_ : Aside0 (Kd.R (Kd.int .u64) 40 (w68.setCell ⟨gb583, 1, none⟩ (.slice Ao69 t596.length co69)) w.heap.size (fun _ => True) (.slice Ao48 x576000_2.length co48) x576000_2) := ⟨by (with_reducible repeat (first | apply Kd.R_alloc | apply Kd.R_drewN | apply Kd.R_drew)); exact Kd.R_mono (Kd.R_far (p := ⟨gb583, 1, none⟩) (Kd.R_types HO_576000.out BK583.out (by decide)) (fun _ hk => hk.2) (.slice Ao69 t596.length co69)) (fun _ hk => trivial)⟩
         have n4_ : Aside0 (Kd.R (Kd.int .u64) 40 (w68.setCell ⟨gb583, 1, none⟩ (.slice Ao69 t596.length co69)) w.heap.size (fun _ => True) (.slice Ao63 x576001_2.length co63) x576001_2) := ⟨by (with_reducible repeat (first | apply Kd.R_alloc | apply Kd.R_drewN | apply Kd.R_drew)); exact Kd.R_mono (Kd.R_far (p := ⟨gb583, 1, none⟩) (Kd.R_types HO_576001.out BK583.out (by decide)) (fun _ hk => hk.2) (.slice Ao69 t596.length co69)) (fun _ hk => trivial)⟩
         have n5_ : Aside0 (Kd.R (Kd.int .u64) 40 (w68.setCell ⟨gb583, 1, none⟩ (.slice Ao69 t596.length co69)) w.heap.size (fun _ => True) u576002 x576002_2) := ⟨by (with_reducible repeat (first | apply Kd.R_alloc | apply Kd.R_drewN | apply Kd.R_drew)); exact Kd.R_mono (Kd.R_far (p := ⟨gb583, 1, none⟩) (Kd.R_types HO_576002.out BK583.out (by decide)) (fun _ hk => hk.2) (.slice Ao69 t596.length co69)) (fun _ hk => trivial)⟩
         have n6_ : Aside0 (Kd.R (Kd.int .u64) 40 (w68.setCell ⟨gb583, 1, none⟩ (.slice Ao69 t596.length co69)) w.heap.size (fun _ => True) (.slice Ao53 t576.length co53) t576) := ⟨by (with_reducible repeat (first | apply Kd.R_alloc | apply Kd.R_drewN | apply Kd.R_drew)); exact Kd.R_mono (Kd.R_far (p := ⟨gb583, 1, none⟩) (Kd.R_types HO580.out BK583.out (by decide)) (fun _ hk => hk.2) (.slice Ao69 t596.length co69)) (fun _ hk => trivial)⟩
         have n7_ : Aside0 (Kd.R (Kd.int .u64) 40 (w68.setCell ⟨gb583, 1, none⟩ (.slice Ao69 t596.length co69)) w.heap.size (fun _ => True) v581 t577) := ⟨by (with_reducible repeat (first | apply Kd.R_alloc | apply Kd.R_drewN | apply Kd.R_drew)); exact Kd.R_mono (Kd.R_far (p := ⟨gb583, 1, none⟩) (Kd.R_types HO582.out BK583.out (by decide)) (fun _ hk => hk.2) (.slice Ao69 t596.length co69)) (fun _ hk => trivial)⟩
         have n8_ : Aside0 (Kd.R (Kd.int .u64) 40 (w68.setCell ⟨gb583, 1, none⟩ (.slice Ao69 t596.length co69)) w.heap.size (fun _ => True) (.slice Ao57 t584.length co57) t584) := ⟨by (with_reducible repeat (first | apply Kd.R_alloc | apply Kd.R_drewN | apply Kd.R_drew)); exact Kd.R_mono (Kd.R_far (p := ⟨gb583, 1, none⟩) (Kd.R_types HO587.out BK583.out (by decide)) (fun _ hk => hk.2) (.slice Ao69 t596.length co69)) (fun _ hk => trivial)⟩
         have n9_ : Aside0 (Kd.R (Kd.int .u64) 40 (w68.setCell ⟨gb583, 1, none⟩ (.slice Ao69 t596.length co69)) w.heap.size (fun _ => True) (.slice Ao59 t588.length co59) t588) := ⟨by (with_reducible repeat (first | apply Kd.R_alloc | apply Kd.R_drewN | apply Kd.R_drew)); exact Kd.R_mono (Kd.R_far (p := ⟨gb583, 1, none⟩) (Kd.R_types HO591.out BK583.out (by decide)) (fun _ hk => hk.2) (.slice Ao69 t596.length co69)) (fun _ hk => trivial)⟩
         have n10_ : Aside0 (Kd.R (Kd.int .u64) 40 (w68.setCell ⟨gb583, 1, none⟩ (.slice Ao69 t596.length co69)) w.heap.size (fun _ => True) (.slice Ao67 t592.length co67) t592) := ⟨by (with_reducible repeat (first | apply Kd.R_alloc | apply Kd.R_drewN | apply Kd.R_drew)); exact Kd.R_mono (Kd.R_far (p := ⟨gb583, 1, none⟩) (Kd.R_types HO595.out BK583.out (by decide)) (fun _ hk => hk.2) (.slice Ao69 t596.length co69)) (fun _ hk => trivial)⟩
         have n11_ : Aside0 (Kd.R (Kd.int .u64) 40 (w68.setCell ⟨gb583, 1, none⟩ (.slice Ao69 t596.length co69)) w.heap.size (fun _ => True) (.slice Ao69 t596.length co69) t596) := ⟨by (with_reducible repeat (first | apply Kd.R_alloc | apply Kd.R_drewN | apply Kd.R_drew)); exact Kd.R_mono (Kd.R_far (p := ⟨gb583, 1, none⟩) (Kd.R_types HO599.out BK583.out (by decide)) (fun _ hk => hk.2) (.slice Ao69 t596.length co69)) (fun _ hk => trivial)⟩
         have n12_ : Aside0 ((w68.setCell ⟨gb583, 1, none⟩ (.slice Ao69 t596.length co69)).heap[gb574]? = some (.cells #[.slice Ao46 x575000_2.length co46, .slice Ao66 x575001_2.length co66, u575002] 72 (0, 0))) := ⟨by (with_reducible repeat (first | refine blk_drewN ?_ _ | refine blk_drew ?_ | refine blk_alloc ?_ _)); refine blk_far ?_ NB574_583.out _; (with_reducible repeat (first | refine blk_drewN ?_ _ | refine blk_drew ?_ | refine blk_alloc ?_ _)); exact BK574.out⟩
         have n13_ : Aside0 ((w68.setCell ⟨gb583, 1, none⟩ (.slice Ao69 t596.length co69)).heap[gb575]? = some (.cells #[.slice Ao48 x576000_2.length co48, .slice Ao63 x576001_2.length co63, u576002] 72 (0, 0))) := ⟨by (with_reducible repeat (first | refine blk_drewN ?_ _ | refine blk_drew ?_ | refine blk_alloc ?_ _)); refine blk_far ?_ NB575_583.out _; (with_reducible repeat (first | refine blk_drewN ?_ _ | refine blk_drew ?_ | refine blk_alloc ?_ _)); exact BK575.out⟩
         have n14_ : Aside0 ((w68.setCell ⟨gb583, 1, none⟩ (.slice Ao69 t596.length co69)).heap[gb583]? = some (.cells #[.slice Ao59 t588.length co59, .slice Ao69 t596.length co69, .slice none 0 0] 72 (0, 0))) := ⟨by (with_reducible repeat (first | refine blk_drewN ?_ _ | refine blk_drew ?_ | refine blk_alloc ?_ _)); refine blk_put (cs := #[.slice Ao59 t588.length co59, .slice none 0 0, .slice none 0 0]) ?_ 1 _ rfl; (with_reducible repeat (first | refine blk_drewN ?_ _ | refine blk_drew ?_ | refine blk_alloc ?_ _)); exact BK583.out⟩
         have n15_ : Aside0 (Below w.heap.size w (w68.setCell ⟨gb583, 1, none⟩ (.slice Ao69 t596.length co69))) := ⟨hs_⟩
         (try clear HO_575000)
         (try clear HO_575001)
         (try clear HO_575002)
         (try clear HO_576000)
         (try clear HO_576001)
         (try clear HO_576002)
         (try clear HO580)
         (try clear HO582)
         (try clear HO587)
         (try clear HO591)
         (try clear HO595)
         (try clear HO599)
         (try clear BK574)
         (try clear BK575)
         (try clear BK583)
         (try clear HB)
         generalize (w68.setCell ⟨gb583, 1, none⟩ (.slice Ao69 t596.length co69)) = w71 at n0_ n1_ n2_ n3_ n4_ n5_ n6_ n7_ n8_ n9_ n10_ n11_ n12_ n13_ n14_ n15_ ⊢
         have HO_575000 := n0_
         have HO_575001 := n1_
         have HO_575002 := n2_
         have HO_576000 := n3_
         have HO_576001 := n4_
         have HO_576002 := n5_
         have HO580 := n6_
         have HO582 := n7_
         have HO587 := n8_
         have HO591 := n9_
         have HO595 := n10_
         have HO599 := n11_
         have BK574 := n12_
         have BK575 := n13_
         have BK583 := n14_
         have HB := n15_
         clear n0_ n1_ n2_ n3_ n4_ n5_ n6_ n7_ n8_ n9_ n10_ n11_ n12_ n13_ n14_ n15_
         have hcz72_0 : w71.cell? ⟨gb575, 0, none⟩ = some (.slice Ao48 x576000_2.length co48) := (blk_cell BK575.out 0).trans rfl
         have hcz72_1 : w71.cell? ⟨gb575, 1, none⟩ = some (.slice Ao63 x576001_2.length co63) := (blk_cell BK575.out 1).trans rfl
         have hcz72_2 : w71.cell? ⟨gb575, 2, none⟩ = some (u576002) := (blk_cell BK575.out 2).trans rfl
         have hfz72_0 := blk_frozen BK575.out 0
         have hfz72_1 := blk_frozen BK575.out 1
         have hfz72_2 := blk_frozen BK575.out 2
         obtain ⟨Ao73, co73, eo73⟩ := Kd.R_slice HO_576002.out
         subst eo73
         rw [rounds_succ]
         try go_wp2_with (first | ((with_reducible refine gate_callee (f := 18) rfl ?_); refine goesM_ (some 84) Try.func18 #[.int .u8 a0, .slice Ao53 t576.length co53, .slice Ao73 x576002_2.length co73] ?_; (with_reducible refine (cr3_Mul.calls k2 a0 _ _ t576 _ _ x576002_2 t600 t601 _ ?side1 ?side2 ?side3 ?side4 A42.out).mono ?_); (case side1 => repeat (first | exact (Kd.R_reads' HO580.out).2.2 | (with_reducible refine Kd.C_alloc ?_ _) | (with_reducible refine Kd.C_drewN ?_ _) | (with_reducible refine Kd.C_drew ?_))); (case side2 => exact (Kd.R_reads' HO580.out).2.1); (case side3 => repeat (first | exact (Kd.R_reads' HO_576002.out).2.2 | (with_reducible refine Kd.C_alloc ?_ _) | (with_reducible refine Kd.C_drewN ?_ _) | (with_reducible refine Kd.C_drew ?_))); (case side4 => exact (Kd.R_reads' HO_576002.out).2.1); rintro e w74 ⟨v602, rfl, ho0, hb⟩; refine ⟨_, rfl, ?_⟩; have n0_ := A_ (Kd.R_below (nR_ HO_575000) hb); have n1_ := A_ (Kd.R_below (nR_ HO_575001) hb); have n2_ := A_ (Kd.R_below (nR_ HO_575002) hb); have n3_ := A_ (Kd.R_below (nR_ HO_576000) hb); have n4_ := A_ (Kd.R_below (nR_ HO_576001) hb); have n5_ := A_ (Kd.R_below (nR_ HO_576002) hb); have n6_ := A_ (Kd.R_below (nR_ HO580) hb); have n7_ := A_ (Kd.R_below (nR_ HO582) hb); have n8_ := A_ (Kd.R_below (nR_ HO587) hb); have n9_ := A_ (Kd.R_below (nR_ HO591) hb); have n10_ := A_ (Kd.R_below (nR_ HO595) hb); have n11_ := A_ (Kd.R_below (nR_ HO599) hb); have n12_ := A_ (Kd.R_lower (Kd.R_mono (ok' := fun _ => True) ho0 (fun _ _ => trivial)) (below_size hs_)); have n13_ := A_ (blk_below (g := gb574) (o := .cells #[.slice Ao46 x575000_2.length co46, .slice Ao66 x575001_2.length co66, u575002] 72 (0, 0)) (nb_ BK574) hb); have n14_ := A_ (blk_below (g := gb575) (o := .cells #[.slice Ao48 x576000_2.length co48, .slice Ao63 x576001_2.length co63, .slice Ao73 x576002_2.length co73] 72 (0, 0)) (nb_ BK575) hb); have n15_ := A_ (blk_below (g := gb583) (o := .cells #[.slice Ao59 t588.length co59, .slice Ao69 t596.length co69, .slice none 0 0] 72 (0, 0)) (nb_ BK583) hb); have n16_ := A_ (below_step hs_ hb); clear HO_575000 HO_575001 HO_575002 HO_576000 HO_576001 HO_576002 HO580 HO582 HO587 HO591 HO595 HO599 BK574 BK575 BK583 HB; have HO_575000 := n0_; have HO_575001 := n1_; have HO_575002 := n2_; have HO_576000 := n3_; have HO_576001 := n4_; have HO_576002 := n5_; have HO580 := n6_; have HO582 := n7_; have HO587 := n8_; have HO591 := n9_; have HO595 := n10_; have HO599 := n11_; have HO603 := n12_; have BK574 := n13_; have BK575 := n14_; have BK583 := n15_; have HB := n16_; clear n0_ n1_ n2_ n3_ n4_ n5_ n6_ n7_ n8_ n9_ n10_ n11_ n12_ n13_ n14_ n15_ n16_; (try clear hb); (try clear ho0); have hcz75_0 : w74.cell? ⟨gb574, 0, none⟩ = some (.slice Ao46 x575000_2.length co46) := (blk_cell BK574.out 0).trans rfl; have hcz75_1 : w74.cell? ⟨gb574, 1, none⟩ = some (.slice Ao66 x575001_2.length co66) := (blk_cell BK574.out 1).trans rfl; have hcz75_2 : w74.cell? ⟨gb574, 2, none⟩ = some (u575002) := (blk_cell BK574.out 2).trans rfl; have hfz75_0 := blk_frozen BK574.out 0; have hfz75_1 := blk_frozen BK574.out 1; have hfz75_2 := blk_frozen BK574.out 2; obtain ⟨Ao76, co76, eo76⟩ := Kd.R_slice HO_575002.out; subst eo76; obtain ⟨Ao77, co77, eo77⟩ := Kd.R_slice HO603.out; subst eo77) | ((with_reducible refine gate_callee (f := 26) rfl ?_); refine goesM_ (some 94) Try.func26 #[.int .u8 a0, .slice Ao76 x575002_2.length co76, .slice Ao77 t600.length co77] ?_; (with_reducible refine (cr3_Sub.calls k2 a0 _ _ x575002_2 _ _ t600 t604 t605 _ ?side1 ?side2 ?side3 ?side4 A43.out).mono ?_); (case side1 => repeat (first | exact (Kd.R_reads' HO_575002.out).2.2 | (with_reducible refine Kd.C_alloc ?_ _) | (with_reducible refine Kd.C_drewN ?_ _) | (with_reducible refine Kd.C_drew ?_))); (case side2 => exact (Kd.R_reads' HO_575002.out).2.1); (case side3 => repeat (first | exact (Kd.R_reads' HO603.out).2.2 | (with_reducible refine Kd.C_alloc ?_ _) | (with_reducible refine Kd.C_drewN ?_ _) | (with_reducible refine Kd.C_drew ?_))); (case side4 => exact (Kd.R_reads' HO603.out).2.1); rintro e w78 ⟨v606, rfl, ho0, hb⟩; refine ⟨_, rfl, ?_⟩; have n0_ := A_ (Kd.R_below (nR_ HO_575000) hb); have n1_ := A_ (Kd.R_below (nR_ HO_575001) hb); have n2_ := A_ (Kd.R_below (nR_ HO_575002) hb); have n3_ := A_ (Kd.R_below (nR_ HO_576000) hb); have n4_ := A_ (Kd.R_below (nR_ HO_576001) hb); have n5_ := A_ (Kd.R_below (nR_ HO_576002) hb); have n6_ := A_ (Kd.R_below (nR_ HO580) hb); have n7_ := A_ (Kd.R_below (nR_ HO582) hb); have n8_ := A_ (Kd.R_below (nR_ HO587) hb); have n9_ := A_ (Kd.R_below (nR_ HO591) hb); have n10_ := A_ (Kd.R_below (nR_ HO595) hb); have n11_ := A_ (Kd.R_below (nR_ HO599) hb); have n12_ := A_ (Kd.R_below (nR_ HO603) hb); have n13_ := A_ (Kd.R_lower (Kd.R_mono (ok' := fun _ => True) ho0 (fun _ _ => trivial)) (below_size hs_)); have n14_ := A_ (blk_below (g := gb574) (o := .cells #[.slice Ao46 x575000_2.length co46, .slice Ao66 x575001_2.length co66, .slice Ao76 x575002_2.length co76] 72 (0, 0)) (nb_ BK574) hb); have n15_ := A_ (blk_below (g := gb575) (o := .cells #[.slice Ao48 x576000_2.length co48, .slice Ao63 x576001_2.length co63, .slice Ao73 x576002_2.length co73] 72 (0, 0)) (nb_ BK575) hb); have n16_ := A_ (blk_below (g := gb583) (o := .cells #[.slice Ao59 t588.length co59, .slice Ao69 t596.length co69, .slice none 0 0] 72 (0, 0)) (nb_ BK583) hb); have n17_ := A_ (below_step hs_ hb); clear HO_575000 HO_575001 HO_575002 HO_576000 HO_576001 HO_576002 HO580 HO582 HO587 HO591 HO595 HO599 HO603 BK574 BK575 BK583 HB; have HO_575000 := n0_; have HO_575001 := n1_; have HO_575002 := n2_; have HO_576000 := n3_; have HO_576001 := n4_; have HO_576002 := n5_; have HO580 := n6_; have HO582 := n7_; have HO587 := n8_; have HO591 := n9_; have HO595 := n10_; have HO599 := n11_; have HO603 := n12_; have HO607 := n13_; have BK574 := n14_; have BK575 := n15_; have BK583 := n16_; have HB := n17_; clear n0_ n1_ n2_ n3_ n4_ n5_ n6_ n7_ n8_ n9_ n10_ n11_ n12_ n13_ n14_ n15_ n16_ n17_; (try clear hb); (try clear ho0); obtain ⟨Ao79, co79, eo79⟩ := Kd.R_slice HO607.out; subst eo79; have hcz80_0 : w78.cell? ⟨gb583, 0, none⟩ = some (.slice Ao59 t588.length co59) := (blk_cell BK583.out 0).trans rfl; have hcz80_1 : w78.cell? ⟨gb583, 1, none⟩ = some (.slice Ao69 t596.length co69) := (blk_cell BK583.out 1).trans rfl; have hcz80_2 : w78.cell? ⟨gb583, 2, none⟩ = some (.slice none 0 0) := (blk_cell BK583.out 2).trans rfl; have hfz80_0 := blk_frozen BK583.out 0; have hfz80_1 := blk_frozen BK583.out 1; have hfz80_2 := blk_frozen BK583.out 2))
         have n0_ : Aside0 (Kd.R (Kd.int .u64) 40 (w78.setCell ⟨gb583, 2, none⟩ (.slice Ao79 t604.length co79)) w.heap.size (fun _ => True) (.slice Ao46 x575000_2.length co46) x575000_2) := ⟨by (with_reducible repeat (first | apply Kd.R_alloc | apply Kd.R_drewN | apply Kd.R_drew)); exact Kd.R_mono (Kd.R_far (p := ⟨gb583, 2, none⟩) (Kd.R_types HO_575000.out BK583.out (by decide)) (fun _ hk => hk.2) (.slice Ao79 t604.length co79)) (fun _ hk => trivial)⟩
         have n1_ : Aside0 (Kd.R (Kd.int .u64) 40 (w78.setCell ⟨gb583, 2, none⟩ (.slice Ao79 t604.length co79)) w.heap.size (fun _ => True) (.slice Ao66 x575001_2.length co66) x575001_2) := ⟨by (with_reducible repeat (first | apply Kd.R_alloc | apply Kd.R_drewN | apply Kd.R_drew)); exact Kd.R_mono (Kd.R_far (p := ⟨gb583, 2, none⟩) (Kd.R_types HO_575001.out BK583.out (by decide)) (fun _ hk => hk.2) (.slice Ao79 t604.length co79)) (fun _ hk => trivial)⟩
         have n2_ : Aside0 (Kd.R (Kd.int .u64) 40 (w78.setCell ⟨gb583, 2, none⟩ (.slice Ao79 t604.length co79)) w.heap.size (fun _ => True) (.slice Ao76 x575002_2.length co76) x575002_2) := ⟨by (with_reducible repeat (first | apply Kd.R_alloc | apply Kd.R_drewN | apply Kd.R_drew)); exact Kd.R_mono (Kd.R_far (p := ⟨gb583, 2, none⟩) (Kd.R_types HO_575002.out BK583.out (by decide)) (fun _ hk => hk.2) (.slice Ao79 t604.length co79)) (fun _ hk => trivial)⟩
         have n3_ : Aside0 (Kd.R (Kd.int .u64) 40 (w78.setCell ⟨gb583, 2, none⟩ (.slice Ao79 t604.length co79)) w.heap.size (fun _ => True) (.slice Ao48 x576000_2.length co48) x576000_2) := ⟨by (with_reducible repeat (first | apply Kd.R_alloc | apply Kd.R_drewN | apply Kd.R_drew)); exact Kd.R_mono (Kd.R_far (p := ⟨gb583, 2, none⟩) (Kd.R_types HO_576000.out BK583.out (by decide)) (fun _ hk => hk.2) (.slice Ao79 t604.length co79)) (fun _ hk => trivial)⟩
         have n4_ : Aside0 (Kd.R (Kd.int .u64) 40 (w78.setCell ⟨gb583, 2, none⟩ (.slice Ao79 t604.length co79)) w.heap.size (fun _ => True) (.slice Ao63 x576001_2.length co63) x576001_2) := ⟨by (with_reducible repeat (first | apply Kd.R_alloc | apply Kd.R_drewN | apply Kd.R_drew)); exact Kd.R_mono (Kd.R_far (p := ⟨gb583, 2, none⟩) (Kd.R_types HO_576001.out BK583.out (by decide)) (fun _ hk => hk.2) (.slice Ao79 t604.length co79)) (fun _ hk => trivial)⟩
         have n5_ : Aside0 (Kd.R (Kd.int .u64) 40 (w78.setCell ⟨gb583, 2, none⟩ (.slice Ao79 t604.length co79)) w.heap.size (fun _ => True) (.slice Ao73 x576002_2.length co73) x576002_2) := ⟨by (with_reducible repeat (first | apply Kd.R_alloc | apply Kd.R_drewN | apply Kd.R_drew)); exact Kd.R_mono (Kd.R_far (p := ⟨gb583, 2, none⟩) (Kd.R_types HO_576002.out BK583.out (by decide)) (fun _ hk => hk.2) (.slice Ao79 t604.length co79)) (fun _ hk => trivial)⟩
         have n6_ : Aside0 (Kd.R (Kd.int .u64) 40 (w78.setCell ⟨gb583, 2, none⟩ (.slice Ao79 t604.length co79)) w.heap.size (fun _ => True) (.slice Ao53 t576.length co53) t576) := ⟨by (with_reducible repeat (first | apply Kd.R_alloc | apply Kd.R_drewN | apply Kd.R_drew)); exact Kd.R_mono (Kd.R_far (p := ⟨gb583, 2, none⟩) (Kd.R_types HO580.out BK583.out (by decide)) (fun _ hk => hk.2) (.slice Ao79 t604.length co79)) (fun _ hk => trivial)⟩
         have n7_ : Aside0 (Kd.R (Kd.int .u64) 40 (w78.setCell ⟨gb583, 2, none⟩ (.slice Ao79 t604.length co79)) w.heap.size (fun _ => True) v581 t577) := ⟨by (with_reducible repeat (first | apply Kd.R_alloc | apply Kd.R_drewN | apply Kd.R_drew)); exact Kd.R_mono (Kd.R_far (p := ⟨gb583, 2, none⟩) (Kd.R_types HO582.out BK583.out (by decide)) (fun _ hk => hk.2) (.slice Ao79 t604.length co79)) (fun _ hk => trivial)⟩
         have n8_ : Aside0 (Kd.R (Kd.int .u64) 40 (w78.setCell ⟨gb583, 2, none⟩ (.slice Ao79 t604.length co79)) w.heap.size (fun _ => True) (.slice Ao57 t584.length co57) t584) := ⟨by (with_reducible repeat (first | apply Kd.R_alloc | apply Kd.R_drewN | apply Kd.R_drew)); exact Kd.R_mono (Kd.R_far (p := ⟨gb583, 2, none⟩) (Kd.R_types HO587.out BK583.out (by decide)) (fun _ hk => hk.2) (.slice Ao79 t604.length co79)) (fun _ hk => trivial)⟩
         have n9_ : Aside0 (Kd.R (Kd.int .u64) 40 (w78.setCell ⟨gb583, 2, none⟩ (.slice Ao79 t604.length co79)) w.heap.size (fun _ => True) (.slice Ao59 t588.length co59) t588) := ⟨by (with_reducible repeat (first | apply Kd.R_alloc | apply Kd.R_drewN | apply Kd.R_drew)); exact Kd.R_mono (Kd.R_far (p := ⟨gb583, 2, none⟩) (Kd.R_types HO591.out BK583.out (by decide)) (fun _ hk => hk.2) (.slice Ao79 t604.length co79)) (fun _ hk => trivial)⟩
         have n10_ : Aside0 (Kd.R (Kd.int .u64) 40 (w78.setCell ⟨gb583, 2, none⟩ (.slice Ao79 t604.length co79)) w.heap.size (fun _ => True) (.slice Ao67 t592.length co67) t592) := ⟨by (with_reducible repeat (first | apply Kd.R_alloc | apply Kd.R_drewN | apply Kd.R_drew)); exact Kd.R_mono (Kd.R_far (p := ⟨gb583, 2, none⟩) (Kd.R_types HO595.out BK583.out (by decide)) (fun _ hk => hk.2) (.slice Ao79 t604.length co79)) (fun _ hk => trivial)⟩
         have n11_ : Aside0 (Kd.R (Kd.int .u64) 40 (w78.setCell ⟨gb583, 2, none⟩ (.slice Ao79 t604.length co79)) w.heap.size (fun _ => True) (.slice Ao69 t596.length co69) t596) := ⟨by (with_reducible repeat (first | apply Kd.R_alloc | apply Kd.R_drewN | apply Kd.R_drew)); exact Kd.R_mono (Kd.R_far (p := ⟨gb583, 2, none⟩) (Kd.R_types HO599.out BK583.out (by decide)) (fun _ hk => hk.2) (.slice Ao79 t604.length co79)) (fun _ hk => trivial)⟩
         have n12_ : Aside0 (Kd.R (Kd.int .u64) 40 (w78.setCell ⟨gb583, 2, none⟩ (.slice Ao79 t604.length co79)) w.heap.size (fun _ => True) (.slice Ao77 t600.length co77) t600) := ⟨by (with_reducible repeat (first | apply Kd.R_alloc | apply Kd.R_drewN | apply Kd.R_drew)); exact Kd.R_mono (Kd.R_far (p := ⟨gb583, 2, none⟩) (Kd.R_types HO603.out BK583.out (by decide)) (fun _ hk => hk.2) (.slice Ao79 t604.length co79)) (fun _ hk => trivial)⟩
         have n13_ : Aside0 (Kd.R (Kd.int .u64) 40 (w78.setCell ⟨gb583, 2, none⟩ (.slice Ao79 t604.length co79)) w.heap.size (fun _ => True) (.slice Ao79 t604.length co79) t604) := ⟨by (with_reducible repeat (first | apply Kd.R_alloc | apply Kd.R_drewN | apply Kd.R_drew)); exact Kd.R_mono (Kd.R_far (p := ⟨gb583, 2, none⟩) (Kd.R_types HO607.out BK583.out (by decide)) (fun _ hk => hk.2) (.slice Ao79 t604.length co79)) (fun _ hk => trivial)⟩
         have n14_ : Aside0 ((w78.setCell ⟨gb583, 2, none⟩ (.slice Ao79 t604.length co79)).heap[gb574]? = some (.cells #[.slice Ao46 x575000_2.length co46, .slice Ao66 x575001_2.length co66, .slice Ao76 x575002_2.length co76] 72 (0, 0))) := ⟨by (with_reducible repeat (first | refine blk_drewN ?_ _ | refine blk_drew ?_ | refine blk_alloc ?_ _)); refine blk_far ?_ NB574_583.out _; (with_reducible repeat (first | refine blk_drewN ?_ _ | refine blk_drew ?_ | refine blk_alloc ?_ _)); exact BK574.out⟩
         have n15_ : Aside0 ((w78.setCell ⟨gb583, 2, none⟩ (.slice Ao79 t604.length co79)).heap[gb575]? = some (.cells #[.slice Ao48 x576000_2.length co48, .slice Ao63 x576001_2.length co63, .slice Ao73 x576002_2.length co73] 72 (0, 0))) := ⟨by (with_reducible repeat (first | refine blk_drewN ?_ _ | refine blk_drew ?_ | refine blk_alloc ?_ _)); refine blk_far ?_ NB575_583.out _; (with_reducible repeat (first | refine blk_drewN ?_ _ | refine blk_drew ?_ | refine blk_alloc ?_ _)); exact BK575.out⟩
         have n16_ : Aside0 ((w78.setCell ⟨gb583, 2, none⟩ (.slice Ao79 t604.length co79)).heap[gb583]? = some (.cells #[.slice Ao59 t588.length co59, .slice Ao69 t596.length co69, .slice Ao79 t604.length co79] 72 (0, 0))) := ⟨by (with_reducible repeat (first | refine blk_drewN ?_ _ | refine blk_drew ?_ | refine blk_alloc ?_ _)); refine blk_put (cs := #[.slice Ao59 t588.length co59, .slice Ao69 t596.length co69, .slice none 0 0]) ?_ 2 _ rfl; (with_reducible repeat (first | refine blk_drewN ?_ _ | refine blk_drew ?_ | refine blk_alloc ?_ _)); exact BK583.out⟩
         have n17_ : Aside0 (Below w.heap.size w (w78.setCell ⟨gb583, 2, none⟩ (.slice Ao79 t604.length co79))) := ⟨hs_⟩
         (try clear HO_575000)
         (try clear HO_575001)
         (try clear HO_575002)
         (try clear HO_576000)
         (try clear HO_576001)
         (try clear HO_576002)
         (try clear HO580)
         (try clear HO582)
         (try clear HO587)
         (try clear HO591)
         (try clear HO595)
         (try clear HO599)
         (try clear HO603)
         (try clear HO607)
         (try clear BK574)
         (try clear BK575)
         (try clear BK583)
         (try clear HB)
         generalize (w78.setCell ⟨gb583, 2, none⟩ (.slice Ao79 t604.length co79)) = w81 at n0_ n1_ n2_ n3_ n4_ n5_ n6_ n7_ n8_ n9_ n10_ n11_ n12_ n13_ n14_ n15_ n16_ n17_ ⊢
         have HO_575000 := n0_
         have HO_575001 := n1_
         have HO_575002 := n2_
         have HO_576000 := n3_
         have HO_576001 := n4_
         have HO_576002 := n5_
         have HO580 := n6_
         have HO582 := n7_
         have HO587 := n8_
         have HO591 := n9_
         have HO595 := n10_
         have HO599 := n11_
         have HO603 := n12_
         have HO607 := n13_
         have BK574 := n14_
         have BK575 := n15_
         have BK583 := n16_
         have HB := n17_
         clear n0_ n1_ n2_ n3_ n4_ n5_ n6_ n7_ n8_ n9_ n10_ n11_ n12_ n13_ n14_ n15_ n16_ n17_
         rw [rounds_succ]
         try go_wp2
         have n0_ := A_ (Kd.R_drew HO_575000.out)
         have n1_ := A_ (Kd.R_drew HO_575001.out)
         have n2_ := A_ (Kd.R_drew HO_575002.out)
         have n3_ := A_ (Kd.R_drew HO_576000.out)
         have n4_ := A_ (Kd.R_drew HO_576001.out)
         have n5_ := A_ (Kd.R_drew HO_576002.out)
         have n6_ := A_ (Kd.R_drew HO580.out)
         have n7_ := A_ (Kd.R_drew HO582.out)
         have n8_ := A_ (Kd.R_drew HO587.out)
         have n9_ := A_ (Kd.R_drew HO591.out)
         have n10_ := A_ (Kd.R_drew HO595.out)
         have n11_ := A_ (Kd.R_drew HO599.out)
         have n12_ := A_ (Kd.R_drew HO603.out)
         have n13_ := A_ (Kd.R_drew HO607.out)
         have n14_ := A_ (blk_drew BK574.out)
         have n15_ := A_ (blk_drew BK575.out)
         have n16_ := A_ (blk_drew BK583.out)
         have n17_ := A_ (below_drew1 HB.out)
         clear HO_575000
         clear HO_575001
         clear HO_575002
         clear HO_576000
         clear HO_576001
         clear HO_576002
         clear HO580
         clear HO582
         clear HO587
         clear HO591
         clear HO595
         clear HO599
         clear HO603
         clear HO607
         clear BK574
         clear BK575
         clear BK583
         clear HB
         have HO_575000 := n0_
         have HO_575001 := n1_
         have HO_575002 := n2_
         have HO_576000 := n3_
         have HO_576001 := n4_
         have HO_576002 := n5_
         have HO580 := n6_
         have HO582 := n7_
         have HO587 := n8_
         have HO591 := n9_
         have HO595 := n10_
         have HO599 := n11_
         have HO603 := n12_
         have HO607 := n13_
         have BK574 := n14_
         have BK575 := n15_
         have BK583 := n16_
         have HB := n17_
         clear n0_ n1_ n2_ n3_ n4_ n5_ n6_ n7_ n8_ n9_ n10_ n11_ n12_ n13_ n14_ n15_ n16_ n17_
         refine start_ (n := 4) (S := fun w' => w'.cell? ⟨gb575, 0, none⟩ = some (.slice Ao48 x576000_2.length co48) ∧ w'.cell? ⟨gb575, 1, none⟩ = some (.slice Ao63 x576001_2.length co63) ∧ w'.cell? ⟨gb575, 2, none⟩ = some (.slice Ao73 x576002_2.length co73) ∧ w'.cell? ⟨gb583, 0, none⟩ = some (.slice Ao59 t588.length co59) ∧ w'.cell? ⟨gb583, 1, none⟩ = some (.slice Ao69 t596.length co69) ∧ w'.cell? ⟨gb583, 2, none⟩ = some (.slice Ao79 t604.length co79)) (ds := [3]) #[false, false, false, false] (by kernel_rfl) rfl rfl ⟨(blk_cell BK575.out 0).trans rfl, (blk_cell BK575.out 1).trans rfl, (blk_cell BK575.out 2).trans rfl, (blk_cell BK583.out 0).trans rfl, (blk_cell BK583.out 1).trans rfl, (blk_cell BK583.out 2).trans rfl⟩ (fun hHeld => ?_)
         generalize w81.drew = w82 at HO_575000 HO_575001 HO_575002 HO_576000 HO_576001 HO_576002 HO580 HO582 HO587 HO591 HO595 HO599 HO603 HO607 BK574 BK575 BK583 HB hHeld ⊢
         refine take_ (i := 0) (N := some 98) (v := ?_) (a' := ?_) #[true, false, false, false] rfl rfl (by kernel_rfl) (fun _ _ _ h => h) (Or.inl ⟨by rfl, ?_⟩) hHeld ?_ ?_
         rotate_left
         ·rintro w' ⟨s0, s1, s2, s3, s4, s5⟩
          go_simp
          with_reducible rfl
         rotate_left
         ·simp only [Act.put, List.setIfInBounds_toArray, List.set_cons_zero, List.set_cons_succ, i64_w, i32_w]
          rfl
         refine take_ (i := 1) (N := some 99) (v := ?_) (a' := ?_) #[true, true, false, false] rfl rfl (by kernel_rfl) (fun _ _ _ h => h) (Or.inl ⟨by rfl, ?_⟩) hHeld ?_ ?_
         rotate_left
         ·rintro w' ⟨s0, s1, s2, s3, s4, s5⟩
          go_simp
          with_reducible rfl
         rotate_left
         ·simp only [Act.put, List.setIfInBounds_toArray, List.set_cons_zero, List.set_cons_succ, i64_w, i32_w]
          rfl
         refine one_ (i := 2) (N := none) #[true, true, true, false] rfl rfl (by kernel_rfl) (by decide) (fun K hK => ?_)
         have hs83 : w82.cell? ⟨gb574, 0, none⟩ = some (.slice Ao46 x575000_2.length co46) := (blk_cell BK574.out 0).trans rfl
         have hfs83 := blk_frozen BK574.out 0
         have hns83_1 := NB575_574.out
         have hns83_2 := NB583_574.out
         have hms83_1 := NB574_575.out
         have hms83_2 := NB574_583.out
         have hs84 : w82.cell? ⟨gb574, 1, none⟩ = some (.slice Ao66 x575001_2.length co66) := (blk_cell BK574.out 1).trans rfl
         have hfs84 := blk_frozen BK574.out 1
         have hns84_1 := NB575_574.out
         have hns84_2 := NB583_574.out
         have hms84_1 := NB574_575.out
         have hms84_2 := NB574_583.out
         have hs85 : w82.cell? ⟨gb574, 2, none⟩ = some (.slice Ao76 x575002_2.length co76) := (blk_cell BK574.out 2).trans rfl
         have hfs85 := blk_frozen BK574.out 2
         have hns85_1 := NB575_574.out
         have hns85_2 := NB583_574.out
         have hms85_1 := NB574_575.out
         have hms85_2 := NB574_583.out
         refine skip_ (w1 := ?_) (by rfl) rfl ?_ ?_
         rotate_left
         ·go_simp
          rfl
         refine hK.out _ _ ⟨((cell_far (p := ⟨gb574, _, none⟩) NB575_574.out _).trans (((cell_far (p := ⟨gb574, _, none⟩) NB575_574.out _).trans (((cell_far (p := ⟨gb574, _, none⟩) NB575_574.out _).trans (hHeld.1)))))), ((cell_far (p := ⟨gb574, _, none⟩) NB575_574.out _).trans (((cell_far (p := ⟨gb574, _, none⟩) NB575_574.out _).trans (((cell_far (p := ⟨gb574, _, none⟩) NB575_574.out _).trans (hHeld.2.1)))))), ((cell_far (p := ⟨gb574, _, none⟩) NB575_574.out _).trans (((cell_far (p := ⟨gb574, _, none⟩) NB575_574.out _).trans (((cell_far (p := ⟨gb574, _, none⟩) NB575_574.out _).trans (hHeld.2.2.1)))))), ((cell_far (p := ⟨gb574, _, none⟩) NB583_574.out _).trans (((cell_far (p := ⟨gb574, _, none⟩) NB583_574.out _).trans (((cell_far (p := ⟨gb574, _, none⟩) NB583_574.out _).trans (hHeld.2.2.2.1)))))), ((cell_far (p := ⟨gb574, _, none⟩) NB583_574.out _).trans (((cell_far (p := ⟨gb574, _, none⟩) NB583_574.out _).trans (((cell_far (p := ⟨gb574, _, none⟩) NB583_574.out _).trans (hHeld.2.2.2.2.1)))))), ((cell_far (p := ⟨gb574, _, none⟩) NB583_574.out _).trans (((cell_far (p := ⟨gb574, _, none⟩) NB583_574.out _).trans (((cell_far (p := ⟨gb574, _, none⟩) NB583_574.out _).trans (hHeld.2.2.2.2.2))))))⟩ (fun hHeld => ?_)
         clear hK K
         refine last_ (i := 3) (N := none) #[true, true, true, true] rfl rfl (by kernel_rfl) (by decide) (fun K hK => ?_)
         have hs86 : w82.cell? ⟨gb575, 0, none⟩ = some (.slice Ao48 x576000_2.length co48) := (blk_cell BK575.out 0).trans rfl
         have hfs86 := blk_frozen BK575.out 0
         have hns86_0 := NB574_575.out
         have hns86_2 := NB583_575.out
         have hms86_0 := NB575_574.out
         have hms86_2 := NB575_583.out
         have hs87 : w82.cell? ⟨gb575, 1, none⟩ = some (.slice Ao63 x576001_2.length co63) := (blk_cell BK575.out 1).trans rfl
         have hfs87 := blk_frozen BK575.out 1
         have hns87_0 := NB574_575.out
         have hns87_2 := NB583_575.out
         have hms87_0 := NB575_574.out
         have hms87_2 := NB575_583.out
         have hs88 : w82.cell? ⟨gb575, 2, none⟩ = some (.slice Ao73 x576002_2.length co73) := (blk_cell BK575.out 2).trans rfl
         have hfs88 := blk_frozen BK575.out 2
         have hns88_0 := NB574_575.out
         have hns88_2 := NB583_575.out
         have hms88_0 := NB575_574.out
         have hms88_2 := NB575_583.out
         refine skip_ (w1 := ?_) (by rfl) rfl ?_ ?_
         rotate_left
         ·go_simp
          rfl
         refine hK.out _ _ ?_
         clear hK K
         refine done_ (by kernel_rfl) ?_
         try go_wp2
         go_roundg k2
         case measure => have := HJ5.out; have := HK2.out; omega
         case rel => exact ⟨(x576000_2), (x576001_2), (x576002_2), (t588), (t596), (t604), (.slice Ao48 x576000_2.length co48), (.slice Ao63 x576001_2.length co63), (.slice Ao73 x576002_2.length co73), (.slice Ao59 t588.length co59), (.slice Ao69 t596.length co69), (.slice Ao79 t604.length co79), H', ⟨by have := HJ5.out; have := HK2.out; omega⟩, ⟨by (with_reducible repeat (first | apply Kd.R_alloc | apply Kd.R_drewN | apply Kd.R_drew)); exact Kd.R_mono (Kd.R_far (p := ⟨gb575, 2, none⟩) (Kd.R_far (p := ⟨gb575, 1, none⟩) (Kd.R_far (p := ⟨gb575, 0, none⟩) (Kd.R_far (p := ⟨gb574, 2, none⟩) (Kd.R_far (p := ⟨gb574, 1, none⟩) (Kd.R_far (p := ⟨gb574, 0, none⟩) (Kd.R_types (Kd.R_types HO_576000.out BK574.out (by decide)) BK575.out (by decide)) (fun _ hk => hk.1.2) (.slice Ao48 x576000_2.length co48)) (fun _ hk => hk.1.2) (.slice Ao63 x576001_2.length co63)) (fun _ hk => hk.1.2) (.slice Ao73 x576002_2.length co73)) (fun _ hk => hk.2) (.slice Ao59 t588.length co59)) (fun _ hk => hk.2) (.slice Ao69 t596.length co69)) (fun _ hk => hk.2) (.slice Ao79 t604.length co79)) (fun _ hk => trivial)⟩, ⟨by (with_reducible repeat (first | apply Kd.R_alloc | apply Kd.R_drewN | apply Kd.R_drew)); exact Kd.R_mono (Kd.R_far (p := ⟨gb575, 2, none⟩) (Kd.R_far (p := ⟨gb575, 1, none⟩) (Kd.R_far (p := ⟨gb575, 0, none⟩) (Kd.R_far (p := ⟨gb574, 2, none⟩) (Kd.R_far (p := ⟨gb574, 1, none⟩) (Kd.R_far (p := ⟨gb574, 0, none⟩) (Kd.R_types (Kd.R_types HO_576001.out BK574.out (by decide)) BK575.out (by decide)) (fun _ hk => hk.1.2) (.slice Ao48 x576000_2.length co48)) (fun _ hk => hk.1.2) (.slice Ao63 x576001_2.length co63)) (fun _ hk => hk.1.2) (.slice Ao73 x576002_2.length co73)) (fun _ hk => hk.2) (.slice Ao59 t588.length co59)) (fun _ hk => hk.2) (.slice Ao69 t596.length co69)) (fun _ hk => hk.2) (.slice Ao79 t604.length co79)) (fun _ hk => trivial)⟩, ⟨by (with_reducible repeat (first | apply Kd.R_alloc | apply Kd.R_drewN | apply Kd.R_drew)); exact Kd.R_mono (Kd.R_far (p := ⟨gb575, 2, none⟩) (Kd.R_far (p := ⟨gb575, 1, none⟩) (Kd.R_far (p := ⟨gb575, 0, none⟩) (Kd.R_far (p := ⟨gb574, 2, none⟩) (Kd.R_far (p := ⟨gb574, 1, none⟩) (Kd.R_far (p := ⟨gb574, 0, none⟩) (Kd.R_types (Kd.R_types HO_576002.out BK574.out (by decide)) BK575.out (by decide)) (fun _ hk => hk.1.2) (.slice Ao48 x576000_2.length co48)) (fun _ hk => hk.1.2) (.slice Ao63 x576001_2.length co63)) (fun _ hk => hk.1.2) (.slice Ao73 x576002_2.length co73)) (fun _ hk => hk.2) (.slice Ao59 t588.length co59)) (fun _ hk => hk.2) (.slice Ao69 t596.length co69)) (fun _ hk => hk.2) (.slice Ao79 t604.length co79)) (fun _ hk => trivial)⟩, ⟨by (with_reducible repeat (first | apply Kd.R_alloc | apply Kd.R_drewN | apply Kd.R_drew)); exact Kd.R_mono (Kd.R_far (p := ⟨gb575, 2, none⟩) (Kd.R_far (p := ⟨gb575, 1, none⟩) (Kd.R_far (p := ⟨gb575, 0, none⟩) (Kd.R_far (p := ⟨gb574, 2, none⟩) (Kd.R_far (p := ⟨gb574, 1, none⟩) (Kd.R_far (p := ⟨gb574, 0, none⟩) (Kd.R_types (Kd.R_types HO591.out BK574.out (by decide)) BK575.out (by decide)) (fun _ hk => hk.1.2) (.slice Ao48 x576000_2.length co48)) (fun _ hk => hk.1.2) (.slice Ao63 x576001_2.length co63)) (fun _ hk => hk.1.2) (.slice Ao73 x576002_2.length co73)) (fun _ hk => hk.2) (.slice Ao59 t588.length co59)) (fun _ hk => hk.2) (.slice Ao69 t596.length co69)) (fun _ hk => hk.2) (.slice Ao79 t604.length co79)) (fun _ hk => trivial)⟩, ⟨by (with_reducible repeat (first | apply Kd.R_alloc | apply Kd.R_drewN | apply Kd.R_drew)); exact Kd.R_mono (Kd.R_far (p := ⟨gb575, 2, none⟩) (Kd.R_far (p := ⟨gb575, 1, none⟩) (Kd.R_far (p := ⟨gb575, 0, none⟩) (Kd.R_far (p := ⟨gb574, 2, none⟩) (Kd.R_far (p := ⟨gb574, 1, none⟩) (Kd.R_far (p := ⟨gb574, 0, none⟩) (Kd.R_types (Kd.R_types HO599.out BK574.out (by decide)) BK575.out (by decide)) (fun _ hk => hk.1.2) (.slice Ao48 x576000_2.length co48)) (fun _ hk => hk.1.2) (.slice Ao63 x576001_2.length co63)) (fun _ hk => hk.1.2) (.slice Ao73 x576002_2.length co73)) (fun _ hk => hk.2) (.slice Ao59 t588.length co59)) (fun _ hk => hk.2) (.slice Ao69 t596.length co69)) (fun _ hk => hk.2) (.slice Ao79 t604.length co79)) (fun _ hk => trivial)⟩, ⟨by (with_reducible repeat (first | apply Kd.R_alloc | apply Kd.R_drewN | apply Kd.R_drew)); exact Kd.R_mono (Kd.R_far (p := ⟨gb575, 2, none⟩) (Kd.R_far (p := ⟨gb575, 1, none⟩) (Kd.R_far (p := ⟨gb575, 0, none⟩) (Kd.R_far (p := ⟨gb574, 2, none⟩) (Kd.R_far (p := ⟨gb574, 1, none⟩) (Kd.R_far (p := ⟨gb574, 0, none⟩) (Kd.R_types (Kd.R_types HO607.out BK574.out (by decide)) BK575.out (by decide)) (fun _ hk => hk.1.2) (.slice Ao48 x576000_2.length co48)) (fun _ hk => hk.1.2) (.slice Ao63 x576001_2.length co63)) (fun _ hk => hk.1.2) (.slice Ao73 x576002_2.length co73)) (fun _ hk => hk.2) (.slice Ao59 t588.length co59)) (fun _ hk => hk.2) (.slice Ao69 t596.length co69)) (fun _ hk => hk.2) (.slice Ao79 t604.length co79)) (fun _ hk => trivial)⟩, ⟨by (with_reducible repeat (first | refine blk_drewN ?_ _ | refine blk_drew ?_ | refine blk_alloc ?_ _)); refine blk_far ?_ NB574_575.out _; (with_reducible repeat (first | refine blk_drewN ?_ _ | refine blk_drew ?_ | refine blk_alloc ?_ _)); refine blk_far ?_ NB574_575.out _; (with_reducible repeat (first | refine blk_drewN ?_ _ | refine blk_drew ?_ | refine blk_alloc ?_ _)); refine blk_far ?_ NB574_575.out _; (with_reducible repeat (first | refine blk_drewN ?_ _ | refine blk_drew ?_ | refine blk_alloc ?_ _)); refine blk_put (cs := #[.slice Ao48 x576000_2.length co48, .slice Ao63 x576001_2.length co63, .slice Ao76 x575002_2.length co76]) ?_ 2 _ rfl; (with_reducible repeat (first | refine blk_drewN ?_ _ | refine blk_drew ?_ | refine blk_alloc ?_ _)); refine blk_put (cs := #[.slice Ao48 x576000_2.length co48, .slice Ao66 x575001_2.length co66, .slice Ao76 x575002_2.length co76]) ?_ 1 _ rfl; (with_reducible repeat (first | refine blk_drewN ?_ _ | refine blk_drew ?_ | refine blk_alloc ?_ _)); refine blk_put (cs := #[.slice Ao46 x575000_2.length co46, .slice Ao66 x575001_2.length co66, .slice Ao76 x575002_2.length co76]) ?_ 0 _ rfl; (with_reducible repeat (first | refine blk_drewN ?_ _ | refine blk_drew ?_ | refine blk_alloc ?_ _)); exact BK574.out⟩, ⟨by (with_reducible repeat (first | refine blk_drewN ?_ _ | refine blk_drew ?_ | refine blk_alloc ?_ _)); refine blk_put (cs := #[.slice Ao59 t588.length co59, .slice Ao69 t596.length co69, .slice Ao73 x576002_2.length co73]) ?_ 2 _ rfl; (with_reducible repeat (first | refine blk_drewN ?_ _ | refine blk_drew ?_ | refine blk_alloc ?_ _)); refine blk_put (cs := #[.slice Ao59 t588.length co59, .slice Ao63 x576001_2.length co63, .slice Ao73 x576002_2.length co73]) ?_ 1 _ rfl; (with_reducible repeat (first | refine blk_drewN ?_ _ | refine blk_drew ?_ | refine blk_alloc ?_ _)); refine blk_put (cs := #[.slice Ao48 x576000_2.length co48, .slice Ao63 x576001_2.length co63, .slice Ao73 x576002_2.length co73]) ?_ 0 _ rfl; (with_reducible repeat (first | refine blk_drewN ?_ _ | refine blk_drew ?_ | refine blk_alloc ?_ _)); refine blk_far ?_ NB575_574.out _; (with_reducible repeat (first | refine blk_drewN ?_ _ | refine blk_drew ?_ | refine blk_alloc ?_ _)); refine blk_far ?_ NB575_574.out _; (with_reducible repeat (first | refine blk_drewN ?_ _ | refine blk_drew ?_ | refine blk_alloc ?_ _)); refine blk_far ?_ NB575_574.out _; (with_reducible repeat (first | refine blk_drewN ?_ _ | refine blk_drew ?_ | refine blk_alloc ?_ _)); exact BK575.out⟩, ⟨hs_⟩⟩
       ·rw [if_neg c29] at H
        have c29b0 : decide (a3 < (x575000_2.length : Int)) = false := decide_eq_false c29
        clear c29
        simp only [Option.some.injEq, Prod.mk.injEq] at H
        obtain ⟨rfl, rfl, rfl, rfl⟩ := H
        have hnb89 := NB574_575.out
        have hnc89 := NB575_574.out
        have hcz90_0 : wr.cell? ⟨gb574, 0, none⟩ = some (u575000) := (blk_cell BK574.out 0).trans rfl
        have hcz90_1 : wr.cell? ⟨gb574, 1, none⟩ = some (u575001) := (blk_cell BK574.out 1).trans rfl
        have hcz90_2 : wr.cell? ⟨gb574, 2, none⟩ = some (u575002) := (blk_cell BK574.out 2).trans rfl
        have hfz90_0 := blk_frozen BK574.out 0
        have hfz90_1 := blk_frozen BK574.out 1
        have hfz90_2 := blk_frozen BK574.out 2
        obtain ⟨Ao91, co91, eo91⟩ := Kd.R_slice HO_575000.out
        subst eo91
        try go_wp2
        have n0_ := A_ (Kd.R_drew HO_575000.out)
        have n1_ := A_ (Kd.R_drew HO_575001.out)
        have n2_ := A_ (Kd.R_drew HO_575002.out)
        have n3_ := A_ (Kd.R_drew HO_576000.out)
        have n4_ := A_ (Kd.R_drew HO_576001.out)
        have n5_ := A_ (Kd.R_drew HO_576002.out)
        have n6_ := A_ (blk_drew BK574.out)
        have n7_ := A_ (blk_drew BK575.out)
        have n8_ := A_ (below_drew1 HB.out)
        clear HO_575000
        clear HO_575001
        clear HO_575002
        clear HO_576000
        clear HO_576001
        clear HO_576002
        clear BK574
        clear BK575
        clear HB
        have HO_575000 := n0_
        have HO_575001 := n1_
        have HO_575002 := n2_
        have HO_576000 := n3_
        have HO_576001 := n4_
        have HO_576002 := n5_
        have BK574 := n6_
        have BK575 := n7_
        have HB := n8_
        clear n0_ n1_ n2_ n3_ n4_ n5_ n6_ n7_ n8_
        refine start_ (n := 10) (S := fun w' => w'.cell? ⟨gb574, 0, none⟩ = some (.slice Ao91 x575000_2.length co91) ∧ w'.cell? ⟨gb574, 1, none⟩ = some (u575001) ∧ w'.cell? ⟨gb574, 2, none⟩ = some (u575002)) (ds := []) #[false, false, false, false, false, false, false, false, false, false] (by kernel_rfl) rfl rfl ⟨(blk_cell BK574.out 0).trans rfl, (blk_cell BK574.out 1).trans rfl, (blk_cell BK574.out 2).trans rfl⟩ (fun hHeld => ?_); refine with_tabW cr5_Partial.tab19 cr5_Partial.bits19 (fun HT_ HW_ => ?_)
        generalize wr.drew = w92 at HO_575000 HO_575001 HO_575002 HO_576000 HO_576001 HO_576002 BK574 BK575 HB hHeld ⊢
        refine pure_ (i := 0) (N := some 100) (v := ?_) (a' := ?_) #[true, false, false, false, false, false, false, false, false, false] rfl rfl (any_of HT_.out (by kernel_rfl)) (fun _ _ _ h => h) (Or.inl ⟨by rfl, ?_⟩) ?_ ?_
        rotate_left
        ·intro w'
         go_simp
         with_reducible rfl
        rotate_left
        ·simp only [Act.put, List.setIfInBounds_toArray, List.set_cons_zero, List.set_cons_succ, i64_w, i32_w]
         rfl
        refine pure_ (i := 2) (N := some 102) (v := ?_) (a' := ?_) #[true, false, true, false, false, false, false, false, false, false] rfl rfl (any_of HT_.out (by kernel_rfl)) (fun _ _ _ h => h) (Or.inl ⟨by rfl, ?_⟩) ?_ ?_
        rotate_left
        ·intro w'
         go_simp
         with_reducible rfl
        rotate_left
        ·simp only [Act.put, List.setIfInBounds_toArray, List.set_cons_zero, List.set_cons_succ, i64_w, i32_w]
         rfl
        refine pure_ (i := 4) (N := some 104) (v := ?_) (a' := ?_) #[true, false, true, false, true, false, false, false, false, false] rfl rfl (any_of HT_.out (by kernel_rfl)) (fun _ _ _ h => h) (Or.inl ⟨by rfl, ?_⟩) ?_ ?_
        rotate_left
        ·intro w'
         go_simp
         with_reducible rfl
        rotate_left
        ·simp only [Act.put, List.setIfInBounds_toArray, List.set_cons_zero, List.set_cons_succ, i64_w, i32_w]
         rfl
        refine take_ (i := 1) (N := some 101) (v := ?_) (a' := ?_) #[true, true, true, false, true, false, false, false, false, false] rfl rfl (take_ofW HT_.out HW_.out (by kernel_rfl)) (fun _ _ _ h => h) (Or.inl ⟨by rfl, ?_⟩) hHeld ?_ ?_
        rotate_left
        ·rintro w' ⟨s0, s1, s2⟩
         go_simp
         with_reducible rfl
        rotate_left
        ·simp only [Act.put, List.setIfInBounds_toArray, List.set_cons_zero, List.set_cons_succ, i64_w, i32_w]
         rfl
        refine pure_ (i := 6) (N := some 8) (v := ?_) (a' := ?_) #[true, true, true, false, true, false, true, false, false, false] rfl rfl (any_of HT_.out (by kernel_rfl)) (fun _ _ _ h => h) (Or.inl ⟨by rfl, ?_⟩) ?_ ?_
        rotate_left
        ·intro w'
         go_simp
         with_reducible rfl
        rotate_left
        ·simp only [Act.put, List.setIfInBounds_toArray, List.set_cons_zero, List.set_cons_succ, i64_w, i32_w]
         rfl
        refine take_ (i := 3) (N := some 103) (v := ?_) (a' := ?_) #[true, true, true, true, true, false, true, false, false, false] rfl rfl (take_ofW HT_.out HW_.out (by kernel_rfl)) (fun _ _ _ h => h) (Or.inl ⟨by rfl, ?_⟩) hHeld ?_ ?_
        rotate_left
        ·rintro w' ⟨s0, s1, s2⟩
         go_simp
         with_reducible rfl
        rotate_left
        ·simp only [Act.put, List.setIfInBounds_toArray, List.set_cons_zero, List.set_cons_succ, i64_w, i32_w]
         rfl
        refine pure_ (i := 7) (N := some 9) (v := ?_) (a' := ?_) #[true, true, true, true, true, false, true, true, false, false] rfl rfl (any_of HT_.out (by kernel_rfl)) (fun _ _ _ h => h) (Or.inl ⟨by rfl, ?_⟩) ?_ ?_
        rotate_left
        ·intro w'
         go_simp
         with_reducible rfl
        rotate_left
        ·simp only [Act.put, List.setIfInBounds_toArray, List.set_cons_zero, List.set_cons_succ, i64_w, i32_w]
         rfl
        refine take_ (i := 5) (N := some 105) (v := ?_) (a' := ?_) #[true, true, true, true, true, true, true, true, false, false] rfl rfl (take_ofW HT_.out HW_.out (by kernel_rfl)) (fun _ _ _ h => h) (Or.inl ⟨by rfl, ?_⟩) hHeld ?_ ?_
        rotate_left
        ·rintro w' ⟨s0, s1, s2⟩
         go_simp
         with_reducible rfl
        rotate_left
        ·simp only [Act.put, List.setIfInBounds_toArray, List.set_cons_zero, List.set_cons_succ, i64_w, i32_w]
         rfl
        refine pure_ (i := 8) (N := some 10) (v := ?_) (a' := ?_) #[true, true, true, true, true, true, true, true, true, false] rfl rfl (any_of HT_.out (by kernel_rfl)) (fun _ _ _ h => h) (Or.inl ⟨by rfl, ?_⟩) ?_ ?_
        rotate_left
        ·intro w'
         go_simp
         with_reducible rfl
        rotate_left
        ·simp only [Act.put, List.setIfInBounds_toArray, List.set_cons_zero, List.set_cons_succ, i64_w, i32_w]
         rfl
        refine pure_ (i := 9) (N := some 11) (v := ?_) (a' := ?_) #[true, true, true, true, true, true, true, true, true, true] rfl rfl (any_of HT_.out (by kernel_rfl)) (fun _ _ _ h => h) (Or.inl ⟨by rfl, ?_⟩) ?_ ?_
        rotate_left
        ·intro w'
         go_simp
         with_reducible rfl
        rotate_left
        ·simp only [Act.put, List.setIfInBounds_toArray, List.set_cons_zero, List.set_cons_succ, i64_w, i32_w]
         rfl
        refine done_ (done_of HT_.out (by kernel_rfl)) ?_
        try go_wp2
        refine bodyPost_ret (results_list (rs := [.tmp 8, .tmp 9, .tmp 10, .tmp 11]) rfl (by simp) (.tmp (.tmp (.tmp (.tmp .nil))))) rfl ?_
        exact ⟨_, _, _, fr_, nR_ HO_575000, nR_ HO_575001, nR_ HO_575002, hs_⟩
    ·rw [if_neg c11] at H
     have c11b0 : (t561 == 0) = false := beq_eq_false_iff_ne.mpr c11
     have c11b1 : (t561 != 0) = true := bne_iff_ne.mpr c11
     (first | rw [c11b0] | rw [c11b1] | (simp only [i64_w, i32_w]; first | rw [c11b0] | rw [c11b1]) | skip)
     simp only [Option.some.injEq, Prod.mk.injEq] at H
     obtain ⟨rfl, rfl, rfl, rfl⟩ := H
     go_wp2
     refine bodyPost_ret (results_list (rs := [.tmp 8, .tmp 9, .tmp 10, .tmp 11]) rfl (by simp) (.tmp (.tmp (.tmp (.tmp .nil))))) rfl ?_
     exact ⟨_, _, _, fr_, by first | exact Kd.R_nil _ _ _ _ _ | exact Kd.N_nil _ _ _ _ _ | exact Kd.V_nil _ _ _ _ _ | exact Kd.Q_nil _ _ _ _ _ | exact Kd.S_nil _ _ _ _ _, by first | exact Kd.R_nil _ _ _ _ _ | exact Kd.N_nil _ _ _ _ _ | exact Kd.V_nil _ _ _ _ _ | exact Kd.Q_nil _ _ _ _ _ | exact Kd.S_nil _ _ _ _ _, by first | exact Kd.R_nil _ _ _ _ _ | exact Kd.N_nil _ _ _ _ _ | exact Kd.V_nil _ _ _ _ _ | exact Kd.Q_nil _ _ _ _ _ | exact Kd.S_nil _ _ _ _ _, hb_⟩
end Go.Proofs.Yteofgcmgncaojaa.PEuclidRows
