/- The Go functions as Lean functions, each with the proof that its call comes to just that; written by a program of this session, by the words of the print. -/
import Derived.Test.YteofgcmgncaojaaPEuclidInvertsx0
import Derived.Test.YteofgcmgncaojaaPEuclidInvertsx1
import Derived.Test.YteofgcmgncaojaaPEuclidInvertsx3
import Derived.Test.YteofgcmgncaojaaPEuclidInvertsx4
import Derived.Test.YteofgcmgncaojaaPEuclidInvertsx6
namespace Go.Proofs.Yteofgcmgncaojaa.PEuclidInverts
open Go.RowKit Go.Proofs.YteofgcmgncaojaaW.PrintWords Go.Proofs.YteofgcmgncaojaaW.PrintLast Go.Proofs.YteofgcmgncaojaaW.PrintMore
attribute [local go_sem] max2_int min2_int max_two min_two max_three min_three max_four min_four   -- for this text's walks alone
set_option linter.unusedVariables false
set_option linter.unusedSimpArgs false
/-! ### poly_placed_sub: function 54 -/
def poly_placed_sub.l0 : Nat → List Int → Int → List Int → Int → Int → Option (List Int × Int)
 | 0, _, _, _, _, _ => none
 | k + 1, x2, x3, x11, x32, x33 => if x33 < x32 then (if x33 < (x2.length : Int) then (if 0 ≤ x33 then (if x33 < (x11.length : Int) then ((poly_reckoner_sub.f k x3 (rd x11 x33) (rd x2 x33)).bind fun t327 => (poly_placed_sub.l0 k x2 x3 (x11.set (x33 : Int).toNat t327) x32 (wrap64 (x33 + 1)))) else (none)) else (none)) else (if 0 ≤ x33 then (if x33 < (x11.length : Int) then ((poly_reckoner_sub.f k x3 (rd x11 x33) 0).bind fun t330 => (poly_placed_sub.l0 k x2 x3 (x11.set (x33 : Int).toNat t330) x32 (wrap64 (x33 + 1)))) else (none)) else (none))) else ((poly_trimmed_own.f k x11).bind fun t332 => (some (t332, 0)))
def poly_placed_sub.f (k : Nat) (a0 : Int) (l1 : List Int) (l2 : List Int) (a3 : Int) : Option (List Int × Int) := (poly_may.f k a0 (([l1, l2] : List (List Int)))).bind fun t320 => (if t320 = 0 then (if 0 ≤ (mx (l1.length : Int) (l2.length : Int)) then (if (mx (l1.length : Int) (l2.length : Int) : Int).toNat ≤ 35184372088832 then ((some (List.replicate (mx (l1.length : Int) (l2.length : Int) : Int).toNat 0 : List Int)).bind fun y321 => ((some (l1.take y321.length ++ y321.drop l1.length : List Int)).bind fun y324 => (poly_placed_sub.l0 k l2 a3 y324 (y324.length : Int) 0))) else (none)) else (none)) else (some (([] : List Int), t320)))
theorem poly_placed_sub.mono_l : ∀ k, (∀ y0 y1 y2 y3 y4, LeO (poly_placed_sub.l0 k y0 y1 y2 y3 y4) (poly_placed_sub.l0 (k + 1) y0 y1 y2 y3 y4))
 | 0 => fun _ _ _ _ _ r h => by simp [poly_placed_sub.l0] at h
 | k + 1 => by
  have ih0 := poly_placed_sub.mono_l k
  ·intro y0 y1 y2 y3 y4
   unfold poly_placed_sub.l0
   repeat' first
   | (with_reducible exact ih0 _ _ _ _ _)
   | (with_reducible exact poly_may.mono _ _ _)
   | (with_reducible exact poly_reckoner_sub.mono _ _ _ _)
   | (with_reducible exact poly_trimmed_own.mono _ _)
   | (with_reducible exact LeO.refl _)
   | (with_reducible exact LeO.none _)
   | (with_reducible refine LeO.ite ?_ ?_)
   | (with_reducible refine LeO.bind ?_ (fun _ => ?_))
   | exact ih0 _ _ _ _ _
   | exact poly_may.mono _ _ _
   | exact poly_reckoner_sub.mono _ _ _ _
   | exact poly_trimmed_own.mono _ _
   | exact LeO.none _
   | refine LeO.ite ?_ ?_
   | refine LeO.bind ?_ (fun _ => ?_)
theorem poly_placed_sub.mono : ∀ a0 a1 a2 a3 k, LeO (poly_placed_sub.f k a0 a1 a2 a3) (poly_placed_sub.f (k + 1) a0 a1 a2 a3) := by
 intro a0 a1 a2 a3 k
 have ih0 := poly_placed_sub.mono_l k
 unfold poly_placed_sub.f
 repeat' first
   | (with_reducible exact ih0 _ _ _ _ _)
   | (with_reducible exact poly_may.mono _ _ _)
   | (with_reducible exact poly_reckoner_sub.mono _ _ _ _)
   | (with_reducible exact poly_trimmed_own.mono _ _)
   | (with_reducible exact LeO.refl _)
   | (with_reducible exact LeO.none _)
   | (with_reducible refine LeO.ite ?_ ?_)
   | (with_reducible refine LeO.bind ?_ (fun _ => ?_))
   | exact ih0 _ _ _ _ _
   | exact poly_may.mono _ _ _
   | exact poly_reckoner_sub.mono _ _ _ _
   | exact poly_trimmed_own.mono _ _
   | exact LeO.none _
   | refine LeO.ite ?_ ?_
   | refine LeO.bind ?_ (fun _ => ?_)
set_option maxHeartbeats 8000000 in
set_option maxRecDepth 100000 in
theorem poly_placed_sub.calls (k : Nat) (a0 : Int) (P1_ : Nat → Prop) (A1 : Option Addr) (c1 : Nat) (l1 : List Int) (P2_ : Nat → Prop) (A2 : Option Addr) (c2 : Nat) (l2 : List Int) (a3 : Int) (r1 : List Int) (r2 : Int) (w : World) (hs1 : Kd.V (Kd.int .u64) 40 w w.heap.size (fun k_ => P1_ k_) (.slice A1 l1.length c1) l1) (hs2 : Kd.V (Kd.int .u64) 40 w w.heap.size (fun k_ => P2_ k_) (.slice A2 l2.length c2) l2) (h : poly_placed_sub.f k a0 l1 l2 a3 = some (r1, r2)) :
  Calls Try.prog 54 #[.int .u8 a0, .slice A1 l1.length c1, .slice A2 l2.length c2, .func (.func 51) #[.agg #[.int .u8 a3]] #[]] w fun e w' => ∃ v0_ : Value, e = .returned (.tuple #[v0_, .int .i64 r2]) ∧ Kd.R (Kd.int .u64) 40 w' w.heap.size (fun k_ => (w.heap.size ≤ k_)) v0_ r1 ∧ Below w.heap.size w w' := by
 have hu77 := Try.underlying77
 have HO1 := A_ (show Kd.V (Kd.int .u64) 40 w w.heap.size (fun k_ => ((P1_ k_ ∨ P2_ k_) ∨ w.heap.size ≤ k_)) (.slice A1 l1.length c1) l1 from Kd.V_mono hs1 (fun k_ hk => .inl (.inl hk)))
 have HO2 := A_ (show Kd.V (Kd.int .u64) 40 w w.heap.size (fun k_ => ((P1_ k_ ∨ P2_ k_) ∨ w.heap.size ≤ k_)) (.slice A2 l2.length c2) l2 from Kd.V_mono hs2 (fun k_ hk => .inl (.inr hk)))
 have HB := A_ (Below.refl w.heap.size w)
 have H : ((poly_may.f k a0 (([l1, l2] : List (List Int)))).bind fun t320 => (if t320 = 0 then (if 0 ≤ (mx (l1.length : Int) (l2.length : Int)) then (if (mx (l1.length : Int) (l2.length : Int) : Int).toNat ≤ 35184372088832 then ((some (List.replicate (mx (l1.length : Int) (l2.length : Int) : Int).toNat 0 : List Int)).bind fun y321 => ((some (l1.take y321.length ++ y321.drop l1.length : List Int)).bind fun y324 => (poly_placed_sub.l0 k l2 a3 y324 (y324.length : Int) 0))) else (none)) else (none)) else (some (([] : List Int), t320)))) = some (r1, r2) := h
 clear h
 obtain ⟨y317, hy317⟩ : ∃ y_ : List (List Int), y_ = (([l1, l2] : List (List Int))) := ⟨_, rfl⟩
 replace H : ((poly_may.f k a0 y317).bind fun t320 => (if t320 = 0 then (if 0 ≤ (mx (l1.length : Int) (l2.length : Int)) then (if (mx (l1.length : Int) (l2.length : Int) : Int).toNat ≤ 35184372088832 then ((some (List.replicate (mx (l1.length : Int) (l2.length : Int) : Int).toNat 0 : List Int)).bind fun y321 => ((some (l1.take y321.length ++ y321.drop l1.length : List Int)).bind fun y324 => (poly_placed_sub.l0 k l2 a3 y324 (y324.length : Int) 0))) else (none)) else (none)) else (some (([] : List Int), t320)))) = some (r1, r2) := by first | (rw [hy317]; with_reducible exact H) | (have H2_ := (Option.bind_some _ _).symm.trans H; rw [hy317]; with_reducible exact H2_) | (have H2_ := (Option.bind_some _ _).symm.trans H; with_reducible exact H2_) | with_reducible exact H | (rw [hy317]; exact H) | exact H
 have Ny317 := Aside0.mk hy317
 clear hy317
 replace H := Option.bind_eq_some_iff.mp H
 obtain ⟨t320, A50, H⟩ := H
 (try dsimp only at H)
 have A5 := Aside0.mk A50
 clear A50
 have HC6 := Aside0.mk H
 clear H
 go_enter Try.func54, Try.ntmps54
 go_upto_if 20 with (first | ((with_reducible refine gate_dst (N := 17) rfl ?_); refine Kd.N_lit (Kd.slice 40 (Kd.int .u64)) _ 22 ?hg (N' := 17) ?hd (xs := ([l1, l2] : List (List Int))) (inner := [.slice A1 l1.length c1, .slice A2 l2.length c2]) (ok := (fun k_ => ((P1_ k_ ∨ P2_ k_) ∨ w.heap.size ≤ k_))) (okp := (fun k_ => ((P1_ k_ ∨ P2_ k_) ∨ w.heap.size ≤ k_))) ?hr ?hp (fun _ hk => hk) ((show ∀ k_, w.heap.size ≤ k_ → (fun k_ => ((P1_ k_ ∨ P2_ k_) ∨ w.heap.size ≤ k_)) k_ from fun k_ hk => (.inr (Nat.le_trans (below_size hb_) hk))) _ (Nat.le_refl _)) (Below.refl _ _) (Nat.le_refl _) (by simp) ?_; (case hd => rfl); (case hg => rfl); (case hr => first | (go_simp; done) | (go_simp; rfl)); (case hp => exact (Reps.one (show Kd.FK (Kd.slice 40 (Kd.int .u64)) _ _ l1 [.slice A1 l1.length c1] from (Kd.FK_slice_mk (Kd.V_reads' (Kd.V_mono (ok' := (fun k_ => ((P1_ k_ ∨ P2_ k_) ∨ w.heap.size ≤ k_))) (HO1.out) (fun k_ hk => hk))).2.1 (Kd.V_F (Kd.V_mono (ok' := (fun k_ => ((P1_ k_ ∨ P2_ k_) ∨ w.heap.size ≤ k_))) (HO1.out) (fun k_ hk => hk))))) (Reps.one (show Kd.FK (Kd.slice 40 (Kd.int .u64)) _ _ l2 [.slice A2 l2.length c2] from (Kd.FK_slice_mk (Kd.V_reads' (Kd.V_mono (ok' := (fun k_ => ((P1_ k_ ∨ P2_ k_) ∨ w.heap.size ≤ k_))) (HO2.out) (fun k_ hk => hk))).2.1 (Kd.V_F (Kd.V_mono (ok' := (fun k_ => ((P1_ k_ ∨ P2_ k_) ∨ w.heap.size ≤ k_))) (HO2.out) (fun k_ hk => hk))))) (Reps.none _ _)))); intro v318 w7 ho8 hb hg_ hnew_; clear hg_ hnew_; (first | rw [← Ny317.out] at ho8 | (simp only [Int.reduceToNat] at ho8; rw [← Ny317.out] at ho8)); have n0_ := A_ (Kd.V_elder' (nV_ HO1) (Kd.N_base ho8) hb); have n1_ := A_ (Kd.V_elder' (nV_ HO2) (Kd.N_base ho8) hb); have n2_ := A_ (Kd.N_lower ho8 (below_size hb_)); have n3_ := A_ (below_step hb_ hb); clear HO1 HO2 HB; have HO1 := n0_; have HO2 := n1_; have HO319 := n2_; have HB := n3_; clear n0_ n1_ n2_ n3_; clear hb ho8; obtain ⟨Ao9, co9, eo9⟩ := Kd.N_slice HO319.out; subst eo9) | ((with_reducible refine gate_callee (f := 49) rfl ?_); refine goesM_ (some 18) Try.func49 #[.int .u8 a0, .slice Ao9 y317.length co9] ?_; (with_reducible refine (poly_may.calls k a0 _ _ y317 t320 _ ?side1 ?side2 A5.out).mono ?_); (case side1 => repeat (first | exact (Kd.N_reads' HO319.out).2.2 | (with_reducible refine Kd.C_alloc ?_ _) | (with_reducible refine Kd.C_drewN ?_ _) | (with_reducible refine Kd.C_drew ?_))); (case side2 => exact (Kd.N_reads' HO319.out).2.1); rintro e w10 ⟨rfl, hb⟩; refine ⟨_, rfl, ?_⟩; have n0_ := A_ (Kd.V_below (nV_ HO1) hb); have n1_ := A_ (Kd.V_below (nV_ HO2) hb); have n2_ := A_ (Kd.N_below (nN_ HO319) hb); have n3_ := A_ (below_step hb_ hb); clear HO1 HO2 HO319 HB; have HO1 := n0_; have HO2 := n1_; have HO319 := n2_; have HB := n3_; clear n0_ n1_ n2_ n3_; (try clear hb)))
 (try simp only [Act.put, List.setIfInBounds_toArray, List.set_cons_zero, List.set_cons_succ])
 have H := HC6.out
 clear HC6
 by_cases c11 : t320 = 0
 ·rw [if_pos c11] at H
  have c11b0 : (t320 == 0) = true := beq_iff_eq.mpr c11
  have c11b1 : (t320 != 0) = false := bne_eq_false_iff_eq.mpr c11
  clear c11
  (first | rw [c11b0] | rw [c11b1] | (simp only [i64_w, i32_w]; first | rw [c11b0] | rw [c11b1]) | skip)
  obtain ⟨ji12, hji12⟩ : ∃ j_ : Int, (mx (l1.length : Int) (l2.length : Int)) = j_ := ⟨_, rfl⟩
  replace H : (if 0 ≤ (ji12) then (if (ji12 : Int).toNat ≤ 35184372088832 then ((some (List.replicate (ji12 : Int).toNat 0 : List Int)).bind fun y321 => ((some (l1.take y321.length ++ y321.drop l1.length : List Int)).bind fun y324 => (poly_placed_sub.l0 k l2 a3 y324 (y324.length : Int) 0))) else (none)) else (none)) = some (r1, r2) := by first | (rw [hji12] at H; exact H) | (simp only [hji12] at H ⊢; exact H)
  (try (have hji12l : 0 ≤ ji12 := by (rw [← hji12]; unfold mx; (repeat' split) <;> omega)))
  (try (have hji12m : 0 ≤ ji12 := by omega))
  have hji12N : (if l1.length < l2.length then (l2.length : Int) else (l1.length : Int)) = ji12 := by have h_ := hji12; unfold mx at h_; simp only [Int.ofNat_lt] at h_; exact h_
  have hji12_ : (if (l1.length : Int) < (l2.length : Int) then (l2.length : Int) else (l1.length : Int)) = ji12 := hji12
  by_cases c13 : 0 ≤ (ji12)
  ·rw [if_pos c13] at H
   have c13b0 := eq_true c13
   have c13b1 : decide (0 ≤ (ji12)) = true := decide_eq_true c13
   clear c13
   by_cases c14 : (ji12 : Int).toNat ≤ 35184372088832
   ·rw [if_pos c14] at H
    have c14b0 := eq_true c14
    have c14b1 : decide ((ji12 : Int).toNat ≤ 35184372088832) = true := decide_eq_true c14
    clear c14
    obtain ⟨y321, hy321⟩ : ∃ y_ : List Int, y_ = (List.replicate (ji12 : Int).toNat 0) := ⟨_, rfl⟩
    replace H : ((some (l1.take y321.length ++ y321.drop l1.length : List Int)).bind fun y324 => (poly_placed_sub.l0 k l2 a3 y324 (y324.length : Int) 0)) = some (r1, r2) := by first | (rw [hy321]; with_reducible exact H) | (have H2_ := (Option.bind_some _ _).symm.trans H; rw [hy321]; with_reducible exact H2_) | (have H2_ := (Option.bind_some _ _).symm.trans H; with_reducible exact H2_) | with_reducible exact H | (rw [hy321]; exact H) | exact H
    have Ny321 := Aside0.mk hy321
    clear hy321
    obtain ⟨y324, hy324⟩ : ∃ y_ : List Int, y_ = (l1.take y321.length ++ y321.drop l1.length) := ⟨_, rfl⟩
    replace H : (poly_placed_sub.l0 k l2 a3 y324 (y324.length : Int) 0) = some (r1, r2) := by first | (rw [hy324]; with_reducible exact H) | (have H2_ := (Option.bind_some _ _).symm.trans H; rw [hy324]; with_reducible exact H2_) | (have H2_ := (Option.bind_some _ _).symm.trans H; with_reducible exact H2_) | with_reducible exact H | (rw [hy324]; exact H) | exact H
    have Ny324 := Aside0.mk hy324
    clear hy324
    have H' := Aside0.mk H
    clear H
    go_wp2_with (first | ((with_reducible refine gate_dst (N := 27) rfl ?_); refine Kd.R_make (Kd.int .u64) _ 40 rfl (N := 27) rfl 22 _ _ rfl ji12 rfl rfl Try.underlying22 (.int .u64 0) 8 info40 rfl (by decide) (by omega) 0 (ok := fun _ => True) (okp := fun _ => True) rfl (fun _ hk => hk) trivial (of_decide_eq_true (by first | (with_reducible assumption) | assumption)) (Nat.le_trans (Nat.mul_le_mul_right _ (of_decide_eq_true (by first | (with_reducible assumption) | assumption) : ji12.toNat ≤ 35184372088832)) (by omega)) (Below.refl _ _) (Nat.le_refl _) ?_; intro v322 w15 ho16 hb hg_ hnew_; clear hg_ hnew_; (first | rw [← Ny321.out] at ho16 | (simp only [Int.reduceToNat] at ho16; rw [← Ny321.out] at ho16)); have n0_ := A_ (Kd.V_elder' (nV_ HO1) (Kd.R_base ho16) hb); have n1_ := A_ (Kd.V_elder' (nV_ HO2) (Kd.R_base ho16) hb); have n2_ := A_ (Kd.N_elder' (nN_ HO319) (Kd.R_base ho16) hb); have n3_ := A_ (Kd.R_lower (Kd.R_newM (M := fun k_ => (w.heap.size ≤ k_)) ho16 (below_size hb_) (fun k_ h_ => h_)) (below_size hb_)); have n4_ := A_ (below_step hb_ hb); clear HO1 HO2 HO319 HB; have HO1 := n0_; have HO2 := n1_; have HO319 := n2_; have HO323 := n3_; have HB := n4_; clear n0_ n1_ n2_ n3_ n4_; clear hb ho16; have n_ := A_ (Kd.R_mono (ok' := (fun k_ => (w.heap.size ≤ k_))) HO323.out (fun k_ hk => hk.1)); clear HO323; have HO323 := n_; clear n_) | ((with_reducible refine gate_builtin (b := .copy) (xs := #[.tmp 28, (.tmp 29)]) rfl ?_); refine R_copyI rfl (.tmp 28) (.tmp 29) 22 rfl 40 Try.underlying22 (by kernel_rfl) (nv := mn (l1.length : Int) (y321.length : Int)) (nR_ HO323) rfl rfl (by repeat (first | exact (Kd.V_reads' HO1.out).2.2 | (with_reducible refine Kd.C_alloc ?_ _) | (with_reducible refine Kd.C_drewN ?_ _) | (with_reducible refine Kd.C_drew ?_))) (by unfold mn; split <;> omega) ?_; intro w17 hp_ hg hb2; rw [← Ny324.out] at hp_; have n0_ := A_ (Kd.V_afterv (v := v322) (v1 := v322) (ok := (fun k_ => ((P1_ k_ ∨ P2_ k_) ∨ w.heap.size ≤ k_) ∧ some k_ ≠ (.slice Ao9 y317.length co9 : Value).ownBlock)) (nV_ HO1) hg (.inl rfl)); have n1_ := A_ (Kd.V_afterv (v := v322) (v1 := v322) (ok := (fun k_ => ((P1_ k_ ∨ P2_ k_) ∨ w.heap.size ≤ k_) ∧ some k_ ≠ (.slice Ao9 y317.length co9 : Value).ownBlock)) (nV_ HO2) hg (.inl rfl)); have n2_ := A_ (Kd.N_afterv (v := v322) (v1 := v322) (ok := (fun k_ => ((P1_ k_ ∨ P2_ k_) ∨ w.heap.size ≤ k_))) (nN_ HO319) hg (.inl rfl)); have n3_ := A_ (hp_); have n4_ := A_ ((Below.trans hb_ hb2 : Below w.heap.size w w17)); clear HO1 HO2 HO319 HO323 HB; have HO1 := n0_; have HO2 := n1_; have HO319 := n2_; have HO323 := n3_; have HB := n4_; clear n0_ n1_ n2_ n3_ n4_; clear hg hb2 hp_; obtain ⟨Ao18, co18, eo18⟩ := Kd.R_slice HO323.out; subst eo18))
    go_loopg [33] k (fun kq v33 w' => ∃ (x11_1 : List Int) (x33_1 : Int), v33 = .int .i64 x33_1 ∧ Aside0 (poly_placed_sub.l0 kq l2 a3 x11_1 (y324.length : Int) x33_1 = some (r1, r2)) ∧ Aside0 (kq ≤ k) ∧ Aside0 (Kd.V (Kd.int .u64) 40 w' w.heap.size (fun k_ => ((P1_ k_ ∨ P2_ k_) ∨ w.heap.size ≤ k_) ∧ some k_ ≠ ((.slice Ao18 y324.length co18) : Value).ownBlock) (.slice A2 l2.length c2) l2) ∧ Aside0 (Kd.R (Kd.int .u64) 40 w' w.heap.size (fun k_ => (w.heap.size ≤ k_)) (.slice Ao18 y324.length co18) x11_1) ∧ Aside0 (Below w.heap.size w w'))
    case atStart => exact ⟨(y324), (0), (fs_), H', ⟨Nat.le_refl _⟩, ⟨by (with_reducible repeat (first | apply Kd.V_alloc | apply Kd.V_drewN | apply Kd.V_drew)); exact Kd.V_mono HO2.out (fun _ hk => ⟨hk.1.1, hk.2⟩)⟩, ⟨mR_ HO323.out⟩, ⟨by repeat (first | (with_reducible first | exact HB.out | apply below_alloc | apply pw_below_drewN | apply below_drew1) | exact HB.out)⟩⟩
    case round =>
     clear H'
     try clear c1
     try clear c2
     try clear p2
     try clear c4
     try clear c7
     try clear c11
     try clear c11b0
     try clear c11b1
     try clear c13
     try clear c13b0
     try clear c13b1
     try clear c14
     try clear c14b0
     try clear c14b1
     obtain ⟨x11_1, x33_1, rfl, HA, HK1, HO_2, HO_11, HB⟩ := hrel
     have hl11_1 := (Kd.R_reads' HO_11.out).1
     rw [hl11_1] at HO_11
     (try simp only [hl11_1])
     (try simp only [hl11_1] at HO_2)
     cases gk with
     | zero => exact absurd HA.out (by simp [poly_placed_sub.l0])
     | succ k1 =>
      have H := HA.out
      clear HA
      simp only [poly_placed_sub.l0] at H
      by_cases c19 : x33_1 < (y324.length : Int)
      ·rw [if_pos c19] at H
       have c19b0 : decide (x33_1 < (y324.length : Int)) = true := decide_eq_true c19
       (try simp only [hl11_1] at c19b0)
       clear c19
       by_cases c20 : x33_1 < (l2.length : Int)
       ·rw [if_pos c20] at H
        have c20b0 : decide (x33_1 < (l2.length : Int)) = true := decide_eq_true c20
        (try simp only [hl11_1] at c20b0)
        clear c20
        by_cases c21 : 0 ≤ x33_1
        ·rw [if_pos c21] at H
         have c21b0 : decide (0 ≤ x33_1) = true := decide_eq_true c21
         clear c21
         by_cases c22 : x33_1 < (x11_1.length : Int)
         ·rw [if_pos c22] at H
          have c22b0 : decide (x33_1 < (x11_1.length : Int)) = true := decide_eq_true c22
          (try simp only [hl11_1] at c22b0)
          clear c22
          replace H := Option.bind_eq_some_iff.mp H
          obtain ⟨t327, A230, H⟩ := H
          replace H : (poly_placed_sub.l0 k1 l2 a3 (x11_1.set (x33_1 : Int).toNat t327) (y324.length : Int) (wrap64 (x33_1 + 1))) = some (r1, r2) := H
          have A23 := Aside0.mk A230
          clear A230
          obtain ⟨y328, hy328⟩ : ∃ y_ : List Int, y_ = (x11_1.set (x33_1 : Int).toNat t327) := ⟨_, rfl⟩
          replace H : (poly_placed_sub.l0 k1 l2 a3 y328 (y324.length : Int) (wrap64 (x33_1 + 1))) = some (r1, r2) := by first | (rw [hy328]; with_reducible exact H) | (have H2_ := (Option.bind_some _ _).symm.trans H; rw [hy328]; with_reducible exact H2_) | (have H2_ := (Option.bind_some _ _).symm.trans H; with_reducible exact H2_) | with_reducible exact H | (rw [hy328]; exact H) | exact H
          have Ny328 := Aside0.mk hy328
          clear hy328
          have H' := Aside0.mk H
          clear H
          have p325 : 0 ≤ (x33_1 : Int) := of_decide_eq_true (by first | (with_reducible assumption) | assumption)
          have q325 : x33_1 < (l2.length : Int) := of_decide_eq_true (by first | (with_reducible assumption) | assumption)
          obtain ⟨ad325, e325, hx325_0⟩ := Kd.at_int (Kd.V_reads' HO_2.out).2.2 x33_1 p325 q325
          cases e325
          replace p325 := eq_true p325
          replace q325 := eq_true q325
          have p326 : 0 ≤ (x33_1 : Int) := of_decide_eq_true (by first | (with_reducible assumption) | assumption)
          have q326 : x33_1 < (x11_1.length : Int) := of_decide_eq_true (by first | (with_reducible assumption) | assumption)
          obtain ⟨ad326, e326, hx326_0⟩ := Kd.at_int (Kd.R_reads' HO_11.out).2.2 x33_1 p326 q326
          cases e326
          replace p326 := eq_true p326
          replace q326 := eq_true q326
          go_wp2_with (first | ((with_reducible refine gate_dst (N := 52) rfl ?_); refine goesV_ (some 52) rfl rfl Try.func51 (by kernel_rfl) rfl #[.agg #[.int .u8 a3], .int .u64 (rd x11_1 x33_1), .int .u64 (rd l2 x33_1)] rfl rfl (by (try simp only [List.map_toArray, List.map_cons, List.map_nil]); first | done | rfl | (simp only [List.length_drop, List.length_take]; rfl)) ?_; (with_reducible refine (poly_reckoner_sub.calls k1 a3 (rd x11_1 x33_1) (rd l2 x33_1) t327 _ A23.out).mono ?_); rintro e w25 ⟨rfl, hb⟩; refine ⟨_, rfl, ?_⟩; have n0_ := A_ (Kd.V_below (nV_ HO_2) hb); have n1_ := A_ (Kd.R_below (nR_ HO_11) hb); have n2_ := A_ (below_step hb_ hb); clear HO_2 HO_11 HB; have HO_2 := n0_; have HO_11 := n1_; have HB := n2_; clear n0_ n1_ n2_; (try clear hb); (try clear hb2); (try clear hk); (try clear hi); have p24 : 0 ≤ (x33_1 : Int) := of_decide_eq_true (by first | (with_reducible assumption) | assumption); have q24 : (x33_1 : Int) < ((x11_1.length : Int) : Int) := of_decide_eq_true (by first | (with_reducible assumption) | assumption); obtain ⟨go24, co24, eo24, gb24, gl24, cl24, HG24⟩ := Kd.R_form HO_11.out (by omega); (first | cases eo24 | (injection eo24 with ea_ en_ ec_; (first | subst ea_ | (injection ea_ with ea_; subst ea_)); subst ec_; clear en_)); have GB24 := Aside0.mk gb24; have GG24 := Aside0.mk HG24; clear gb24 gl24 HG24; (first | simp only [add_plain] at hx326_0 | skip); obtain ⟨hx24_0, hf24_0⟩ := Kd.R_celln 0 HO_11.out (x33_1 : Int) p24 q24; replace p24 := eq_true p24; replace q24 := eq_true q24; obtain ⟨hy26_, hz26_⟩ := Kd.R_celln 0 HO_11.out (x33_1 : Int) (of_decide_eq_true (by first | (with_reducible assumption) | assumption)) (of_decide_eq_true (by first | (with_reducible assumption) | assumption)); have HP26 := Kd.R_putg HO_11.out (x33_1 : Int) t327) | ((with_reducible refine gate_store (t := 40) (p := 53) rfl ?_); refine store_event (t := 40) (p := 53) (v := ?vo_w27) (w1 := (w25.setCell ⟨go24, (x33_1 : Int).toNat, none⟩ (.int .u64 t327))) ?hg ?ho ?hn ?hr ?_; (case ho => rfl); (case hg => rfl); (case hn => rfl); (case hr => first | (go_simp; done) | (go_simp; rfl)); intro w27 hw; have hg : w25.grownBy w27 (some go24) := (by rw [hw]; exact HP26.2); have hp_ : Kd.R (Kd.int .u64) 40 w27 w.heap.size (fun k_ => (w.heap.size ≤ k_)) (.slice (some ⟨go24, 0, none⟩) x11_1.length co18) y328 := (by rw [hw, Ny328.out]; exact HP26.1); clear HP26; have n0_ := A_ (Kd.V_afterv (v := (.slice (some ⟨go24, 0, none⟩) x11_1.length co18)) (v1 := (.slice (some ⟨go24, 0, none⟩) x11_1.length co18)) (ok := (fun k_ => ((P1_ k_ ∨ P2_ k_) ∨ w.heap.size ≤ k_))) (nV_ HO_2) hg (.inl rfl)); have n1_ := A_ (hp_); have n2_ := A_ ((by rw [hw]; exact below_set (HB.out) GB24.out : Below w.heap.size w w27)); clear HO_2 HO_11 HB; have HO_2 := n0_; have HO_11 := n1_; have HB := n2_; clear n0_ n1_ n2_; clear hg hw hp_))
          (try simp only [← hl11_1])
          go_roundg k1
          case measure => have := HK1.out; omega
          case rel => exact ⟨(y328), (wrap64 (x33_1 + 1)), (fs_), H', ⟨by have := HK1.out; omega⟩, ⟨by (try simp only [hl11_1]); (with_reducible repeat (first | apply Kd.V_alloc | apply Kd.V_drewN | apply Kd.V_drew)); exact HO_2.out⟩, ⟨by (try simp only [hl11_1]); (with_reducible repeat (first | apply Kd.R_alloc | apply Kd.R_drewN | apply Kd.R_drew)); exact HO_11.out⟩, ⟨by repeat (first | (with_reducible first | exact HB.out | apply below_alloc | apply pw_below_drewN | apply below_drew1) | exact HB.out)⟩⟩
         ·rw [if_neg c22] at H
          exact absurd H (by simp)
        ·rw [if_neg c21] at H
         exact absurd H (by simp)
       ·rw [if_neg c20] at H
        have c20b0 : decide (x33_1 < (l2.length : Int)) = false := decide_eq_false c20
        (try simp only [hl11_1] at c20b0)
        clear c20
        by_cases c28 : 0 ≤ x33_1
        ·rw [if_pos c28] at H
         have c28b0 : decide (0 ≤ x33_1) = true := decide_eq_true c28
         clear c28
         by_cases c29 : x33_1 < (x11_1.length : Int)
         ·rw [if_pos c29] at H
          have c29b0 : decide (x33_1 < (x11_1.length : Int)) = true := decide_eq_true c29
          (try simp only [hl11_1] at c29b0)
          clear c29
          replace H := Option.bind_eq_some_iff.mp H
          obtain ⟨t330, A300, H⟩ := H
          replace H : (poly_placed_sub.l0 k1 l2 a3 (x11_1.set (x33_1 : Int).toNat t330) (y324.length : Int) (wrap64 (x33_1 + 1))) = some (r1, r2) := H
          have A30 := Aside0.mk A300
          clear A300
          obtain ⟨y331, hy331⟩ : ∃ y_ : List Int, y_ = (x11_1.set (x33_1 : Int).toNat t330) := ⟨_, rfl⟩
          replace H : (poly_placed_sub.l0 k1 l2 a3 y331 (y324.length : Int) (wrap64 (x33_1 + 1))) = some (r1, r2) := by first | (rw [hy331]; with_reducible exact H) | (have H2_ := (Option.bind_some _ _).symm.trans H; rw [hy331]; with_reducible exact H2_) | (have H2_ := (Option.bind_some _ _).symm.trans H; with_reducible exact H2_) | with_reducible exact H | (rw [hy331]; exact H) | exact H
          have Ny331 := Aside0.mk hy331
          clear hy331
          have H' := Aside0.mk H
          clear H
          have p329 : 0 ≤ (x33_1 : Int) := of_decide_eq_true (by first | (with_reducible assumption) | assumption)
          have q329 : x33_1 < (x11_1.length : Int) := of_decide_eq_true (by first | (with_reducible assumption) | assumption)
          obtain ⟨ad329, e329, hx329_0⟩ := Kd.at_int (Kd.R_reads' HO_11.out).2.2 x33_1 p329 q329
          cases e329
          replace p329 := eq_true p329
          replace q329 := eq_true q329
          go_wp2_with (first | ((with_reducible refine gate_dst (N := 52) rfl ?_); refine goesV_ (some 52) rfl rfl Try.func51 (by kernel_rfl) rfl #[.agg #[.int .u8 a3], .int .u64 (rd x11_1 x33_1), .int .u64 0] rfl rfl (by (try simp only [List.map_toArray, List.map_cons, List.map_nil]); first | done | rfl | (simp only [List.length_drop, List.length_take]; rfl)) ?_; (with_reducible refine (poly_reckoner_sub.calls k1 a3 (rd x11_1 x33_1) 0 t330 _ A30.out).mono ?_); rintro e w32 ⟨rfl, hb⟩; refine ⟨_, rfl, ?_⟩; have n0_ := A_ (Kd.V_below (nV_ HO_2) hb); have n1_ := A_ (Kd.R_below (nR_ HO_11) hb); have n2_ := A_ (below_step hb_ hb); clear HO_2 HO_11 HB; have HO_2 := n0_; have HO_11 := n1_; have HB := n2_; clear n0_ n1_ n2_; (try clear hb); (try clear hb2); (try clear hk); (try clear hi); have p31 : 0 ≤ (x33_1 : Int) := of_decide_eq_true (by first | (with_reducible assumption) | assumption); have q31 : (x33_1 : Int) < ((x11_1.length : Int) : Int) := of_decide_eq_true (by first | (with_reducible assumption) | assumption); obtain ⟨go31, co31, eo31, gb31, gl31, cl31, HG31⟩ := Kd.R_form HO_11.out (by omega); (first | cases eo31 | (injection eo31 with ea_ en_ ec_; (first | subst ea_ | (injection ea_ with ea_; subst ea_)); subst ec_; clear en_)); have GB31 := Aside0.mk gb31; have GG31 := Aside0.mk HG31; clear gb31 gl31 HG31; (first | simp only [add_plain] at hx329_0 | skip); obtain ⟨hx31_0, hf31_0⟩ := Kd.R_celln 0 HO_11.out (x33_1 : Int) p31 q31; replace p31 := eq_true p31; replace q31 := eq_true q31; obtain ⟨hy33_, hz33_⟩ := Kd.R_celln 0 HO_11.out (x33_1 : Int) (of_decide_eq_true (by first | (with_reducible assumption) | assumption)) (of_decide_eq_true (by first | (with_reducible assumption) | assumption)); have HP33 := Kd.R_putg HO_11.out (x33_1 : Int) t330) | ((with_reducible refine gate_store (t := 40) (p := 53) rfl ?_); refine store_event (t := 40) (p := 53) (v := ?vo_w34) (w1 := (w32.setCell ⟨go31, (x33_1 : Int).toNat, none⟩ (.int .u64 t330))) ?hg ?ho ?hn ?hr ?_; (case ho => rfl); (case hg => rfl); (case hn => rfl); (case hr => first | (go_simp; done) | (go_simp; rfl)); intro w34 hw; have hg : w32.grownBy w34 (some go31) := (by rw [hw]; exact HP33.2); have hp_ : Kd.R (Kd.int .u64) 40 w34 w.heap.size (fun k_ => (w.heap.size ≤ k_)) (.slice (some ⟨go31, 0, none⟩) x11_1.length co18) y331 := (by rw [hw, Ny331.out]; exact HP33.1); clear HP33; have n0_ := A_ (Kd.V_afterv (v := (.slice (some ⟨go31, 0, none⟩) x11_1.length co18)) (v1 := (.slice (some ⟨go31, 0, none⟩) x11_1.length co18)) (ok := (fun k_ => ((P1_ k_ ∨ P2_ k_) ∨ w.heap.size ≤ k_))) (nV_ HO_2) hg (.inl rfl)); have n1_ := A_ (hp_); have n2_ := A_ ((by rw [hw]; exact below_set (HB.out) GB31.out : Below w.heap.size w w34)); clear HO_2 HO_11 HB; have HO_2 := n0_; have HO_11 := n1_; have HB := n2_; clear n0_ n1_ n2_; clear hg hw hp_))
          (try simp only [← hl11_1])
          go_roundg k1
          case measure => have := HK1.out; omega
          case rel => exact ⟨(y331), (wrap64 (x33_1 + 1)), (fs_), H', ⟨by have := HK1.out; omega⟩, ⟨by (try simp only [hl11_1]); (with_reducible repeat (first | apply Kd.V_alloc | apply Kd.V_drewN | apply Kd.V_drew)); exact HO_2.out⟩, ⟨by (try simp only [hl11_1]); (with_reducible repeat (first | apply Kd.R_alloc | apply Kd.R_drewN | apply Kd.R_drew)); exact HO_11.out⟩, ⟨by repeat (first | (with_reducible first | exact HB.out | apply below_alloc | apply pw_below_drewN | apply below_drew1) | exact HB.out)⟩⟩
         ·rw [if_neg c29] at H
          exact absurd H (by simp)
        ·rw [if_neg c28] at H
         exact absurd H (by simp)
      ·rw [if_neg c19] at H
       have c19b0 : decide (x33_1 < (y324.length : Int)) = false := decide_eq_false c19
       (try simp only [hl11_1] at c19b0)
       clear c19
       replace H := Option.bind_eq_some_iff.mp H
       obtain ⟨t332, A350, H⟩ := H
       replace H : (some (t332, 0)) = some (r1, r2) := H
       have A35 := Aside0.mk A350
       clear A350
       simp only [Option.some.injEq, Prod.mk.injEq] at H
       obtain ⟨rfl, rfl⟩ := H
       go_wp2_with (first | ((with_reducible refine gate_callee (f := 48) rfl ?_); refine goesM_ (some 56) Try.func48 #[.slice Ao18 x11_1.length co18] ?_; (with_reducible refine (poly_trimmed_own.calls k1 (fun k_ => some k_ = (.slice Ao18 x11_1.length co18 : Value).ownBlock) (.slice Ao18 x11_1.length co18) x11_1 t332 w _ ?side1 ?side2 A35.out).mono ?_); (case side1 => repeat (first | (with_reducible first | exact HB.out | apply below_alloc | apply pw_below_drewN | apply below_drew1) | exact HB.out)); (case side2 => exact Kd.R_tight rfl HO_11.out); rintro e w36 ⟨v333, rfl, ho0, hb, hkp⟩; refine ⟨_, rfl, ?_⟩; have n0_ := A_ (Kd.V_mono (ok' := fun k_ => ((P1_ k_ ∨ P2_ k_) ∨ w.heap.size ≤ k_) ∧ some k_ ≠ (v333 : Value).ownBlock) (Kd.V_keptB (HO_2.out) hkp (fun k_ hk_ hs_ => (hk_.2) hs_)) (fun k_ hk_ => ⟨hk_.1.1, fun e_ => Or.elim (ho0.1 k_ e_.symm) (fun hs_ => hk_.2.1 hs_) (fun hn_ => Nat.not_le.2 hk_.2.2 hn_)⟩)); have n1_ := A_ (Kd.R_mono (ok' := fun k_ => (w.heap.size ≤ k_)) ho0 (fun k_ hk_ => Or.elim hk_ (fun hs_ => (HO_11.out.1 k_ (hs_).symm)) (fun hn_ => (Nat.le_trans (below_size hb_) hn_)))); have n2_ := A_ (hb); clear HO_2 HB HO_11; have HO_2 := n0_; have HO334 := n1_; have HB := n2_; clear n0_ n1_ n2_; (try clear hb); (try clear hkp); (try clear ho0)))
       go_ret2
       exact ⟨_, by first | rfl | (simp [errW_none, errW_some] <;> rfl) | (simp only [← hji12]; first | rfl | (simp [errW_none, errW_some] <;> rfl)) | (simp [*, errW_none, errW_some] <;> rfl), nR_ HO334, hb_⟩
   ·rw [if_neg c14] at H
    exact absurd H (by simp)
  ·rw [if_neg c13] at H
   exact absurd H (by simp)
 ·rw [if_neg c11] at H
  have c11b0 : (t320 == 0) = false := beq_eq_false_iff_ne.mpr c11
  have c11b1 : (t320 != 0) = true := bne_iff_ne.mpr c11
  (first | rw [c11b0] | rw [c11b1] | (simp only [i64_w, i32_w]; first | rw [c11b0] | rw [c11b1]) | skip)
  simp only [Option.some.injEq, Prod.mk.injEq] at H
  obtain ⟨rfl, rfl⟩ := H
  go_wp2
  go_ret2
  exact ⟨_, fr_, by first | exact Kd.R_nil _ _ _ _ _ | exact Kd.N_nil _ _ _ _ _ | exact Kd.V_nil _ _ _ _ _ | exact Kd.Q_nil _ _ _ _ _ | exact Kd.S_nil _ _ _ _ _, hb_⟩
/-! ### poly_Sub: function 61 -/
def poly_Sub.f (k : Nat) (a0 : Int) (l1 : List Int) (l2 : List Int) : Option (List Int × Int) := (poly_placed_sub.f k a0 l1 l2 a0).bind fun bt335 => (some (bt335.1, bt335.2))
theorem poly_Sub.mono : ∀ a0 a1 a2 k, LeO (poly_Sub.f k a0 a1 a2) (poly_Sub.f (k + 1) a0 a1 a2) := by
 intro a0 a1 a2 k
 unfold poly_Sub.f
 repeat' first
   | (with_reducible exact poly_placed_sub.mono _ _ _ _ _)
   | (with_reducible exact LeO.refl _)
   | (with_reducible exact LeO.none _)
   | (with_reducible refine LeO.ite ?_ ?_)
   | (with_reducible refine LeO.bind ?_ (fun _ => ?_))
   | exact poly_placed_sub.mono _ _ _ _ _
   | exact LeO.none _
   | refine LeO.ite ?_ ?_
   | refine LeO.bind ?_ (fun _ => ?_)
set_option maxHeartbeats 8000000 in
set_option maxRecDepth 100000 in
theorem poly_Sub.calls (k : Nat) (a0 : Int) (A1 : Option Addr) (c1 : Nat) (l1 : List Int) (A2 : Option Addr) (c2 : Nat) (l2 : List Int) (r1 : List Int) (r2 : Int) (w : World) (hr1 : Kd.C (Kd.int .u64) w A1 l1.length l1) (hc1 : l1.length ≤ c1) (hr2 : Kd.C (Kd.int .u64) w A2 l2.length l2) (hc2 : l2.length ≤ c2) (h : poly_Sub.f k a0 l1 l2 = some (r1, r2)) :
  Calls Try.prog 61 #[.int .u8 a0, .slice A1 l1.length c1, .slice A2 l2.length c2] w fun e w' => ∃ v0_ : Value, e = .returned (.tuple #[v0_, .int .i64 r2]) ∧ Kd.R (Kd.int .u64) 40 w' w.heap.size (fun _ => True) v0_ r1 ∧ Below w.heap.size w w' := by
 have hu77 := Try.underlying77
 have HR1 := Aside0.mk hr1
 have HC1 := Aside0.mk hc1
 clear hr1 hc1
 have HR2 := Aside0.mk hr2
 have HC2 := Aside0.mk hc2
 clear hr2 hc2
 have HB := A_ (Below.refl w.heap.size w)
 have H : ((poly_placed_sub.f k a0 l1 l2 a0).bind fun bt335 => (some (bt335.1, bt335.2))) = some (r1, r2) := h
 clear h
 replace H := Option.bind_eq_some_iff.mp H
 obtain ⟨⟨t335, t338⟩, A40, H⟩ := H
 replace H : (some (t335, t338)) = some (r1, r2) := H
 have A4 := Aside0.mk A40
 clear A40
 simp only [Option.some.injEq, Prod.mk.injEq] at H
 obtain ⟨rfl, rfl⟩ := H
 go_enter Try.func61, Try.ntmps61
 go_wp2_with (first | ((with_reducible refine gate_callee (f := 54) rfl ?_); refine goesM_ (some 14) Try.func54 #[.int .u8 a0, .slice A1 l1.length c1, .slice A2 l2.length c2, .func (.func 51) #[.agg #[.int .u8 a0]] #[]] ?_; (with_reducible refine (poly_placed_sub.calls k a0 (fun k_ => k_ < w.heap.size) _ _ l1 (fun k_ => k_ < w.heap.size) _ _ l2 a0 t335 t338 _ ?side1 ?side2 A4.out).mono ?_); (case side1 => exact Kd.V_mk HC1.out (Kd.F_below (Kd.C_F (Kd.heap_int .u64) HR1.out) hb_)); (case side2 => exact Kd.V_mk HC2.out (Kd.F_below (Kd.C_F (Kd.heap_int .u64) HR2.out) hb_)); rintro e w5 ⟨v336, rfl, ho0, hb⟩; refine ⟨_, rfl, ?_⟩; have n0_ := A_ (Kd.R_lower (Kd.R_mono (ok' := fun k_ => True) ho0 (fun _ hk_ => trivial)) (below_size hb_)); have n1_ := A_ (below_step hb_ hb); clear HB; have HO337 := n0_; have HB := n1_; clear n0_ n1_; (try clear hb); (try clear ho0)))
 go_ret2
 exact ⟨_, fr_, nR_ HO337, hb_⟩
/-! ### euclid_next: function 52 -/
def euclid_next.f (k : Nat) (a0 : Int) (l1_0 : List Int) (l1_1 : List Int) (l1_2 : List Int) (l2_0 : List Int) (l2_1 : List Int) (l2_2 : List Int) : Option (List Int × List Int × List Int × Int) := (poly_DivMod.f k a0 l1_0 l2_0).bind fun bt342 => (if bt342.2.2 = 0 then ((poly_Mul.f k a0 bt342.1 l2_1).bind fun bt350 => (if bt350.2 = 0 then ((poly_Sub.f k a0 l1_1 bt350.1).bind fun bt354 => (if bt354.2 = 0 then ((poly_Mul.f k a0 bt342.1 l2_2).bind fun bt358 => (if bt358.2 = 0 then ((poly_Sub.f k a0 l1_2 bt358.1).bind fun bt362 => (if bt362.2 = 0 then (some (bt342.2.1, bt354.1, bt362.1, 0)) else (some (([] : List Int), ([] : List Int), ([] : List Int), bt362.2)))) else (some (([] : List Int), ([] : List Int), ([] : List Int), bt358.2)))) else (some (([] : List Int), ([] : List Int), ([] : List Int), bt354.2)))) else (some (([] : List Int), ([] : List Int), ([] : List Int), bt350.2)))) else (some (([] : List Int), ([] : List Int), ([] : List Int), bt342.2.2)))
theorem euclid_next.mono : ∀ a0 a1 a2 a3 a4 a5 a6 k, LeO (euclid_next.f k a0 a1 a2 a3 a4 a5 a6) (euclid_next.f (k + 1) a0 a1 a2 a3 a4 a5 a6) := by
 intro a0 a1 a2 a3 a4 a5 a6 k
 unfold euclid_next.f
 repeat' first
   | (with_reducible exact poly_DivMod.mono _ _ _ _)
   | (with_reducible exact poly_Mul.mono _ _ _ _)
   | (with_reducible exact poly_Sub.mono _ _ _ _)
   | (with_reducible exact LeO.refl _)
   | (with_reducible exact LeO.none _)
   | (with_reducible refine LeO.ite ?_ ?_)
   | (with_reducible refine LeO.bind ?_ (fun _ => ?_))
   | exact poly_DivMod.mono _ _ _ _
   | exact poly_Mul.mono _ _ _ _
   | exact poly_Sub.mono _ _ _ _
   | exact LeO.none _
   | refine LeO.ite ?_ ?_
   | refine LeO.bind ?_ (fun _ => ?_)
set_option maxHeartbeats 8000000 in
set_option maxRecDepth 100000 in
theorem euclid_next.calls (k : Nat) (a0 : Int) (A1_0 : Option Addr) (c1_0 : Nat) (l1_0 : List Int) (A1_1 : Option Addr) (c1_1 : Nat) (l1_1 : List Int) (A1_2 : Option Addr) (c1_2 : Nat) (l1_2 : List Int) (A2_0 : Option Addr) (c2_0 : Nat) (l2_0 : List Int) (A2_1 : Option Addr) (c2_1 : Nat) (l2_1 : List Int) (A2_2 : Option Addr) (c2_2 : Nat) (l2_2 : List Int) (r1 : List Int) (r2 : List Int) (r3 : List Int) (r4 : Int) (w : World) (hr1_0 : Kd.C (Kd.int .u64) w A1_0 l1_0.length l1_0) (hc1_0 : l1_0.length ≤ c1_0) (hr1_1 : Kd.C (Kd.int .u64) w A1_1 l1_1.length l1_1) (hc1_1 : l1_1.length ≤ c1_1) (hr1_2 : Kd.C (Kd.int .u64) w A1_2 l1_2.length l1_2) (hc1_2 : l1_2.length ≤ c1_2) (hr2_0 : Kd.C (Kd.int .u64) w A2_0 l2_0.length l2_0) (hc2_0 : l2_0.length ≤ c2_0) (hr2_1 : Kd.C (Kd.int .u64) w A2_1 l2_1.length l2_1) (hc2_1 : l2_1.length ≤ c2_1) (hr2_2 : Kd.C (Kd.int .u64) w A2_2 l2_2.length l2_2) (hc2_2 : l2_2.length ≤ c2_2) (h : euclid_next.f k a0 l1_0 l1_1 l1_2 l2_0 l2_1 l2_2 = some (r1, r2, r3, r4)) :
  Calls Try.prog 52 #[.int .u8 a0, .agg #[.slice A1_0 l1_0.length c1_0, .slice A1_1 l1_1.length c1_1, .slice A1_2 l1_2.length c1_2], .agg #[.slice A2_0 l2_0.length c2_0, .slice A2_1 l2_1.length c2_1, .slice A2_2 l2_2.length c2_2]] w fun e w' => ∃ v0_ v1_ v2_ : Value, e = .returned (.tuple #[.agg #[v0_, v1_, v2_], .int .i64 r4]) ∧ Kd.R (Kd.int .u64) 40 w' w.heap.size (fun _ => True) v0_ r1 ∧ Kd.R (Kd.int .u64) 40 w' w.heap.size (fun _ => True) v1_ r2 ∧ Kd.R (Kd.int .u64) 40 w' w.heap.size (fun _ => True) v2_ r3 ∧ Below w.heap.size w w' := by
 have hu61 := Try.underlying61
 have HR1_0 := Aside0.mk hr1_0
 have HC1_0 := Aside0.mk hc1_0
 clear hr1_0 hc1_0
 have HR1_1 := Aside0.mk hr1_1
 have HC1_1 := Aside0.mk hc1_1
 clear hr1_1 hc1_1
 have HR1_2 := Aside0.mk hr1_2
 have HC1_2 := Aside0.mk hc1_2
 clear hr1_2 hc1_2
 have HR2_0 := Aside0.mk hr2_0
 have HC2_0 := Aside0.mk hc2_0
 clear hr2_0 hc2_0
 have HR2_1 := Aside0.mk hr2_1
 have HC2_1 := Aside0.mk hc2_1
 clear hr2_1 hc2_1
 have HR2_2 := Aside0.mk hr2_2
 have HC2_2 := Aside0.mk hc2_2
 clear hr2_2 hc2_2
 have HB := A_ (Below.refl w.heap.size w)
 have H : ((poly_DivMod.f k a0 l1_0 l2_0).bind fun bt342 => (if bt342.2.2 = 0 then ((poly_Mul.f k a0 bt342.1 l2_1).bind fun bt350 => (if bt350.2 = 0 then ((poly_Sub.f k a0 l1_1 bt350.1).bind fun bt354 => (if bt354.2 = 0 then ((poly_Mul.f k a0 bt342.1 l2_2).bind fun bt358 => (if bt358.2 = 0 then ((poly_Sub.f k a0 l1_2 bt358.1).bind fun bt362 => (if bt362.2 = 0 then (some (bt342.2.1, bt354.1, bt362.1, 0)) else (some (([] : List Int), ([] : List Int), ([] : List Int), bt362.2)))) else (some (([] : List Int), ([] : List Int), ([] : List Int), bt358.2)))) else (some (([] : List Int), ([] : List Int), ([] : List Int), bt354.2)))) else (some (([] : List Int), ([] : List Int), ([] : List Int), bt350.2)))) else (some (([] : List Int), ([] : List Int), ([] : List Int), bt342.2.2)))) = some (r1, r2, r3, r4) := h
 clear h
 replace H := Option.bind_eq_some_iff.mp H
 obtain ⟨⟨t342, t345, t348⟩, A40, H⟩ := H
 (try dsimp only at H)
 have A4 := Aside0.mk A40
 clear A40
 have HC5 := Aside0.mk H
 clear H
 go_enter Try.func52, Try.ntmps52
 go_upto_if 26 with (first | ((with_reducible refine gate_dst (N := 4) rfl ?_); refine box_event ?hg (N := 4) ?hd (cs := #[.slice A1_0 l1_0.length c1_0, .slice A1_1 l1_1.length c1_1, .slice A1_2 l1_2.length c1_2]) (t := 61) ?hr ?_; (case hd => rfl); (case hg => rfl); (case hr => first | (go_simp; done) | (go_simp; rfl)); intro gb339 hg w6 hbox hb; have n0_ := A_ (below_step hb_ hb); have n1_ := A_ (hbox); have n2_ := A_ ((by rw [hg]; exact (below_size hb_) : w.heap.size ≤ gb339)); have n3_ := A_ ((by rw [hg]; exact (below_size hb_) : w.heap.size ≤ gb339)); clear HB; have HB := n0_; have BK339 := n1_; have GW339 := n2_; have GE339 := n3_; clear n0_ n1_ n2_ n3_; clear hb hbox hg) | ((with_reducible refine gate_dst (N := 5) rfl ?_); refine box_event ?hg (N := 5) ?hd (cs := #[.slice A2_0 l2_0.length c2_0, .slice A2_1 l2_1.length c2_1, .slice A2_2 l2_2.length c2_2]) (t := 61) ?hr ?_; (case hd => rfl); (case hg => rfl); (case hr => first | (go_simp; done) | (go_simp; rfl)); intro gb340 hg w7 hbox hb; have n0_ := A_ (blk_below (g := gb339) (o := .cells #[.slice A1_0 l1_0.length c1_0, .slice A1_1 l1_1.length c1_1, .slice A1_2 l1_2.length c1_2] 61 (0, 0)) (nb_ BK339) hb); have n1_ := A_ (below_step hs_ hb); have n2_ := A_ (hbox); have n3_ := A_ ((by rw [hg]; exact (below_size hs_) : w.heap.size ≤ gb340)); have n4_ := A_ ((by rw [hg]; exact (below_size hs_) : w.heap.size ≤ gb340)); have n5_ := A_ ((by rw [hg]; exact Nat.ne_of_lt (blk_lt (g := gb339) (o := .cells #[.slice A1_0 l1_0.length c1_0, .slice A1_1 l1_1.length c1_1, .slice A1_2 l1_2.length c1_2] 61 (0, 0)) (nb_ BK339)) : gb339 ≠ gb340)); have n6_ := A_ ((by rw [hg]; exact Nat.ne_of_gt (blk_lt (g := gb339) (o := .cells #[.slice A1_0 l1_0.length c1_0, .slice A1_1 l1_1.length c1_1, .slice A1_2 l1_2.length c1_2] 61 (0, 0)) (nb_ BK339)) : gb340 ≠ gb339)); clear BK339 HB; have BK339 := n0_; have HB := n1_; have BK340 := n2_; have GW340 := n3_; have GE340 := n4_; have NB339_340 := n5_; have NB340_339 := n6_; clear n0_ n1_ n2_ n3_ n4_ n5_ n6_; clear hb hbox hg) | ((with_reducible refine gate_dst (N := 6) rfl ?_); refine box_event ?hg (N := 6) ?hd (cs := #[.slice none 0 0, .slice none 0 0, .slice none 0 0]) (t := 61) ?hr ?_; (case hd => rfl); (case hg => rfl); (case hr => first | (go_simp; done) | (go_simp; rfl)); intro gb341 hg w8 hbox hb; have n0_ := A_ (blk_below (g := gb339) (o := .cells #[.slice A1_0 l1_0.length c1_0, .slice A1_1 l1_1.length c1_1, .slice A1_2 l1_2.length c1_2] 61 (0, 0)) (nb_ BK339) hb); have n1_ := A_ (blk_below (g := gb340) (o := .cells #[.slice A2_0 l2_0.length c2_0, .slice A2_1 l2_1.length c2_1, .slice A2_2 l2_2.length c2_2] 61 (0, 0)) (nb_ BK340) hb); have n2_ := A_ (below_step hs_ hb); have n3_ := A_ (hbox); have n4_ := A_ ((by rw [hg]; exact (below_size hs_) : w.heap.size ≤ gb341)); have n5_ := A_ ((by rw [hg]; exact (below_size hs_) : w.heap.size ≤ gb341)); have n6_ := A_ ((by rw [hg]; exact Nat.ne_of_lt (blk_lt (g := gb339) (o := .cells #[.slice A1_0 l1_0.length c1_0, .slice A1_1 l1_1.length c1_1, .slice A1_2 l1_2.length c1_2] 61 (0, 0)) (nb_ BK339)) : gb339 ≠ gb341)); have n7_ := A_ ((by rw [hg]; exact Nat.ne_of_gt (blk_lt (g := gb339) (o := .cells #[.slice A1_0 l1_0.length c1_0, .slice A1_1 l1_1.length c1_1, .slice A1_2 l1_2.length c1_2] 61 (0, 0)) (nb_ BK339)) : gb341 ≠ gb339)); have n8_ := A_ ((by rw [hg]; exact Nat.ne_of_lt (blk_lt (g := gb340) (o := .cells #[.slice A2_0 l2_0.length c2_0, .slice A2_1 l2_1.length c2_1, .slice A2_2 l2_2.length c2_2] 61 (0, 0)) (nb_ BK340)) : gb340 ≠ gb341)); have n9_ := A_ ((by rw [hg]; exact Nat.ne_of_gt (blk_lt (g := gb340) (o := .cells #[.slice A2_0 l2_0.length c2_0, .slice A2_1 l2_1.length c2_1, .slice A2_2 l2_2.length c2_2] 61 (0, 0)) (nb_ BK340)) : gb341 ≠ gb340)); clear BK339 BK340 HB; have BK339 := n0_; have BK340 := n1_; have HB := n2_; have BK341 := n3_; have GW341 := n4_; have GE341 := n5_; have NB339_341 := n6_; have NB341_339 := n7_; have NB340_341 := n8_; have NB341_340 := n9_; clear n0_ n1_ n2_ n3_ n4_ n5_ n6_ n7_ n8_ n9_; clear hb hbox hg; have hnb9 := NB339_340.out; have hnc9 := NB340_339.out; have hnb10 := NB339_341.out; have hnc10 := NB341_339.out; have hcz11_0 : w8.cell? ⟨gb339, 0, none⟩ = some (.slice A1_0 l1_0.length c1_0) := (blk_cell BK339.out 0).trans rfl; have hcz11_1 : w8.cell? ⟨gb339, 1, none⟩ = some (.slice A1_1 l1_1.length c1_1) := (blk_cell BK339.out 1).trans rfl; have hcz11_2 : w8.cell? ⟨gb339, 2, none⟩ = some (.slice A1_2 l1_2.length c1_2) := (blk_cell BK339.out 2).trans rfl; have hfz11_0 := blk_frozen BK339.out 0; have hfz11_1 := blk_frozen BK339.out 1; have hfz11_2 := blk_frozen BK339.out 2; have hnb12 := NB340_341.out; have hnc12 := NB341_340.out; have hcz13_0 : w8.cell? ⟨gb340, 0, none⟩ = some (.slice A2_0 l2_0.length c2_0) := (blk_cell BK340.out 0).trans rfl; have hcz13_1 : w8.cell? ⟨gb340, 1, none⟩ = some (.slice A2_1 l2_1.length c2_1) := (blk_cell BK340.out 1).trans rfl; have hcz13_2 : w8.cell? ⟨gb340, 2, none⟩ = some (.slice A2_2 l2_2.length c2_2) := (blk_cell BK340.out 2).trans rfl; have hfz13_0 := blk_frozen BK340.out 0; have hfz13_1 := blk_frozen BK340.out 1; have hfz13_2 := blk_frozen BK340.out 2) | ((with_reducible refine gate_callee (f := 29) rfl ?_); refine goesM_ (some 21) Try.func29 #[.int .u8 a0, .slice A1_0 l1_0.length c1_0, .slice A2_0 l2_0.length c2_0] ?_; (with_reducible refine (poly_DivMod.calls k a0 (fun k_ => k_ < w.heap.size) _ _ l1_0 (fun k_ => k_ < w.heap.size) _ _ l2_0 t342 t345 t348 _ ?side1 ?side2 A4.out).mono ?_); (case side1 => exact Kd.V_mk HC1_0.out (Kd.F_below (Kd.C_F (Kd.heap_int .u64) HR1_0.out) hs_)); (case side2 => exact Kd.V_mk HC2_0.out (Kd.F_below (Kd.C_F (Kd.heap_int .u64) HR2_0.out) hs_)); rintro e w14 ⟨v343, v346, rfl, ho0, ho1, hb⟩; refine ⟨_, rfl, ?_⟩; have n0_ := A_ (Kd.R_lower (Kd.R_mono (ok' := fun k_ => True) ho0 (fun _ hk_ => trivial)) (below_size hs_)); have n1_ := A_ (Kd.R_lower (Kd.R_mono (ok' := fun k_ => True) ho1 (fun _ hk_ => trivial)) (below_size hs_)); have n2_ := A_ (blk_below (g := gb339) (o := .cells #[.slice A1_0 l1_0.length c1_0, .slice A1_1 l1_1.length c1_1, .slice A1_2 l1_2.length c1_2] 61 (0, 0)) (nb_ BK339) hb); have n3_ := A_ (blk_below (g := gb340) (o := .cells #[.slice A2_0 l2_0.length c2_0, .slice A2_1 l2_1.length c2_1, .slice A2_2 l2_2.length c2_2] 61 (0, 0)) (nb_ BK340) hb); have n4_ := A_ (blk_below (g := gb341) (o := .cells #[.slice none 0 0, .slice none 0 0, .slice none 0 0] 61 (0, 0)) (nb_ BK341) hb); have n5_ := A_ (below_step hs_ hb); clear BK339 BK340 BK341 HB; have HO344 := n0_; have HO347 := n1_; have BK339 := n2_; have BK340 := n3_; have BK341 := n4_; have HB := n5_; clear n0_ n1_ n2_ n3_ n4_ n5_; (try clear hb); (try clear ho0); (try clear ho1)))
 (try simp only [Act.put, List.setIfInBounds_toArray, List.set_cons_zero, List.set_cons_succ])
 have H := HC5.out
 clear HC5
 by_cases c15 : t348 = 0
 ·rw [if_pos c15] at H
  have c15b0 : (t348 == 0) = true := beq_iff_eq.mpr c15
  have c15b1 : (t348 != 0) = false := bne_eq_false_iff_eq.mpr c15
  clear c15
  (first | rw [c15b0] | rw [c15b1] | (simp only [i64_w, i32_w]; first | rw [c15b0] | rw [c15b1]) | skip)
  replace H := Option.bind_eq_some_iff.mp H
  obtain ⟨⟨t350, t353⟩, A160, H⟩ := H
  (try dsimp only at H)
  have A16 := Aside0.mk A160
  clear A160
  have HC17 := Aside0.mk H
  clear H
  obtain ⟨Ao18, co18, eo18⟩ := Kd.R_slice HO347.out
  subst eo18
  try go_wp2_with (first | ((with_reducible refine gate_dst (N := 11) rfl ?_); refine box_event ?hg (N := 11) ?hd (cs := #[.slice none 0 0, .slice none 0 0, .slice none 0 0]) (t := 61) ?hr ?_; (case hd => rfl); (case hg => rfl); (case hr => first | (go_simp; done) | (go_simp; rfl)); intro gb349 hg w19 hbox hb; have n0_ := A_ (Kd.R_below (nR_ HO344) hb); have n1_ := A_ (Kd.R_below (nR_ HO347) hb); have n2_ := A_ (blk_below (g := gb339) (o := .cells #[.slice A1_0 l1_0.length c1_0, .slice A1_1 l1_1.length c1_1, .slice A1_2 l1_2.length c1_2] 61 (0, 0)) (nb_ BK339) hb); have n3_ := A_ (blk_below (g := gb340) (o := .cells #[.slice A2_0 l2_0.length c2_0, .slice A2_1 l2_1.length c2_1, .slice A2_2 l2_2.length c2_2] 61 (0, 0)) (nb_ BK340) hb); have n4_ := A_ (blk_below (g := gb341) (o := .cells #[.slice none 0 0, .slice none 0 0, .slice none 0 0] 61 (0, 0)) (nb_ BK341) hb); have n5_ := A_ (below_step hs_ hb); have n6_ := A_ (hbox); have n7_ := A_ ((by rw [hg]; exact (below_size hs_) : w.heap.size ≤ gb349)); have n8_ := A_ ((by rw [hg]; exact (below_size hs_) : w.heap.size ≤ gb349)); have n9_ := A_ ((by rw [hg]; exact Nat.ne_of_lt (blk_lt (g := gb339) (o := .cells #[.slice A1_0 l1_0.length c1_0, .slice A1_1 l1_1.length c1_1, .slice A1_2 l1_2.length c1_2] 61 (0, 0)) (nb_ BK339)) : gb339 ≠ gb349)); have n10_ := A_ ((by rw [hg]; exact Nat.ne_of_gt (blk_lt (g := gb339) (o := .cells #[.slice A1_0 l1_0.length c1_0, .slice A1_1 l1_1.length c1_1, .slice A1_2 l1_2.length c1_2] 61 (0, 0)) (nb_ BK339)) : gb349 ≠ gb339)); have n11_ := A_ ((by rw [hg]; exact Nat.ne_of_lt (blk_lt (g := gb340) (o := .cells #[.slice A2_0 l2_0.length c2_0, .slice A2_1 l2_1.length c2_1, .slice A2_2 l2_2.length c2_2] 61 (0, 0)) (nb_ BK340)) : gb340 ≠ gb349)); have n12_ := A_ ((by rw [hg]; exact Nat.ne_of_gt (blk_lt (g := gb340) (o := .cells #[.slice A2_0 l2_0.length c2_0, .slice A2_1 l2_1.length c2_1, .slice A2_2 l2_2.length c2_2] 61 (0, 0)) (nb_ BK340)) : gb349 ≠ gb340)); have n13_ := A_ ((by rw [hg]; exact Nat.ne_of_lt (blk_lt (g := gb341) (o := .cells #[.slice none 0 0, .slice none 0 0, .slice none 0 0] 61 (0, 0)) (nb_ BK341)) : gb341 ≠ gb349)); have n14_ := A_ ((by rw [hg]; exact Nat.ne_of_gt (blk_lt (g := gb341) (o := .cells #[.slice none 0 0, .slice none 0 0, .slice none 0 0] 61 (0, 0)) (nb_ BK341)) : gb349 ≠ gb341)); clear HO344 HO347 BK339 BK340 BK341 HB; have HO344 := n0_; have HO347 := n1_; have BK339 := n2_; have BK340 := n3_; have BK341 := n4_; have HB := n5_; have BK349 := n6_; have GW349 := n7_; have GE349 := n8_; have NB339_349 := n9_; have NB349_339 := n10_; have NB340_349 := n11_; have NB349_340 := n12_; have NB341_349 := n13_; have NB349_341 := n14_; clear n0_ n1_ n2_ n3_ n4_ n5_ n6_ n7_ n8_ n9_ n10_ n11_ n12_ n13_ n14_; clear hb hbox hg; have hnb20 := NB349_339.out; have hnc20 := NB339_349.out; have hnb21 := NB349_340.out; have hnc21 := NB340_349.out; have hnb22 := NB349_341.out; have hnc22 := NB341_349.out; have hcz23_0 : w19.cell? ⟨gb349, 0, none⟩ = some (.slice none 0 0) := (blk_cell BK349.out 0).trans rfl; have hcz23_1 : w19.cell? ⟨gb349, 1, none⟩ = some (.slice none 0 0) := (blk_cell BK349.out 1).trans rfl; have hcz23_2 : w19.cell? ⟨gb349, 2, none⟩ = some (.slice none 0 0) := (blk_cell BK349.out 2).trans rfl; have hfz23_0 := blk_frozen BK349.out 0; have hfz23_1 := blk_frozen BK349.out 1; have hfz23_2 := blk_frozen BK349.out 2) | ((with_reducible refine gate_store (t := 61) (p := 11) rfl ?_); refine store_event (t := 61) (p := 11) (v := ?vo_w24) (w1 := (((w19.setCell ⟨gb349, 0, none⟩ (.slice Ao18 t345.length co18)).setCell ⟨gb349, 1, none⟩ (.slice none 0 0)).setCell ⟨gb349, 2, none⟩ (.slice none 0 0))) ?hg ?ho ?hn ?hr ?_; (case ho => rfl); (case hg => rfl); (case hn => rfl); (case hr => first | (go_simp; done) | (go_simp; rfl)); intro w24 hw; have n0_ : Aside0 (Kd.R (Kd.int .u64) 40 w24 w.heap.size (fun _ => True) v343 t342) := ⟨(by rw [hw]; exact (by (with_reducible repeat (first | apply Kd.R_alloc | apply Kd.R_drewN | apply Kd.R_drew)); exact Kd.R_mono (Kd.R_far (p := ⟨gb349, 2, none⟩) (Kd.R_far (p := ⟨gb349, 1, none⟩) (Kd.R_far (p := ⟨gb349, 0, none⟩) (Kd.R_types HO344.out BK349.out (by decide)) (fun _ hk => hk.2) (.slice Ao18 t345.length co18)) (fun _ hk => hk.2) (.slice none 0 0)) (fun _ hk => hk.2) (.slice none 0 0)) (fun _ hk => trivial)))⟩; have n1_ : Aside0 (Kd.R (Kd.int .u64) 40 w24 w.heap.size (fun _ => True) (.slice Ao18 t345.length co18) t345) := ⟨(by rw [hw]; exact (by (with_reducible repeat (first | apply Kd.R_alloc | apply Kd.R_drewN | apply Kd.R_drew)); exact Kd.R_mono (Kd.R_far (p := ⟨gb349, 2, none⟩) (Kd.R_far (p := ⟨gb349, 1, none⟩) (Kd.R_far (p := ⟨gb349, 0, none⟩) (Kd.R_types HO347.out BK349.out (by decide)) (fun _ hk => hk.2) (.slice Ao18 t345.length co18)) (fun _ hk => hk.2) (.slice none 0 0)) (fun _ hk => hk.2) (.slice none 0 0)) (fun _ hk => trivial)))⟩; have n2_ : Aside0 (w24.heap[gb339]? = some (.cells #[.slice A1_0 l1_0.length c1_0, .slice A1_1 l1_1.length c1_1, .slice A1_2 l1_2.length c1_2] 61 (0, 0))) := ⟨(by rw [hw]; exact (by (with_reducible repeat (first | refine blk_drewN ?_ _ | refine blk_drew ?_ | refine blk_alloc ?_ _)); refine blk_far ?_ NB339_349.out _; (with_reducible repeat (first | refine blk_drewN ?_ _ | refine blk_drew ?_ | refine blk_alloc ?_ _)); refine blk_far ?_ NB339_349.out _; (with_reducible repeat (first | refine blk_drewN ?_ _ | refine blk_drew ?_ | refine blk_alloc ?_ _)); refine blk_far ?_ NB339_349.out _; (with_reducible repeat (first | refine blk_drewN ?_ _ | refine blk_drew ?_ | refine blk_alloc ?_ _)); exact BK339.out))⟩; have n3_ : Aside0 (w24.heap[gb340]? = some (.cells #[.slice A2_0 l2_0.length c2_0, .slice A2_1 l2_1.length c2_1, .slice A2_2 l2_2.length c2_2] 61 (0, 0))) := ⟨(by rw [hw]; exact (by (with_reducible repeat (first | refine blk_drewN ?_ _ | refine blk_drew ?_ | refine blk_alloc ?_ _)); refine blk_far ?_ NB340_349.out _; (with_reducible repeat (first | refine blk_drewN ?_ _ | refine blk_drew ?_ | refine blk_alloc ?_ _)); refine blk_far ?_ NB340_349.out _; (with_reducible repeat (first | refine blk_drewN ?_ _ | refine blk_drew ?_ | refine blk_alloc ?_ _)); refine blk_far ?_ NB340_349.out _; (with_reducible repeat (first | refine blk_drewN ?_ _ | refine blk_drew ?_ | refine blk_alloc ?_ _)); exact BK340.out))⟩; have n4_ : Aside0 (w24.heap[gb341]? = some (.cells #[.slice none 0 0, .slice none 0 0, .slice none 0 0] 61 (0, 0))) := ⟨(by rw [hw]; exact (by (with_reducible repeat (first | refine blk_drewN ?_ _ | refine blk_drew ?_ | refine blk_alloc ?_ _)); refine blk_far ?_ NB341_349.out _; (with_reducible repeat (first | refine blk_drewN ?_ _ | refine blk_drew ?_ | refine blk_alloc ?_ _)); refine blk_far ?_ NB341_349.out _; (with_reducible repeat (first | refine blk_drewN ?_ _ | refine blk_drew ?_ | refine blk_alloc ?_ _)); refine blk_far ?_ NB341_349.out _; (with_reducible repeat (first | refine blk_drewN ?_ _ | refine blk_drew ?_ | refine blk_alloc ?_ _)); exact BK341.out))⟩; have n5_ : Aside0 (w24.heap[gb349]? = some (.cells #[.slice Ao18 t345.length co18, .slice none 0 0, .slice none 0 0] 61 (0, 0))) := ⟨(by rw [hw]; exact (by (with_reducible repeat (first | refine blk_drewN ?_ _ | refine blk_drew ?_ | refine blk_alloc ?_ _)); refine blk_put (cs := #[.slice Ao18 t345.length co18, .slice none 0 0, .slice none 0 0]) ?_ 2 _ rfl; (with_reducible repeat (first | refine blk_drewN ?_ _ | refine blk_drew ?_ | refine blk_alloc ?_ _)); refine blk_put (cs := #[.slice Ao18 t345.length co18, .slice none 0 0, .slice none 0 0]) ?_ 1 _ rfl; (with_reducible repeat (first | refine blk_drewN ?_ _ | refine blk_drew ?_ | refine blk_alloc ?_ _)); refine blk_put (cs := #[.slice none 0 0, .slice none 0 0, .slice none 0 0]) ?_ 0 _ rfl; (with_reducible repeat (first | refine blk_drewN ?_ _ | refine blk_drew ?_ | refine blk_alloc ?_ _)); exact BK349.out))⟩; have n6_ : Aside0 (Below w.heap.size w w24) := ⟨(by rw [hw]; exact hs_)⟩; clear hw HO344 HO347 BK339 BK340 BK341 BK349 HB; have HO344 := n0_; have HO347 := n1_; have BK339 := n2_; have BK340 := n3_; have BK341 := n4_; have BK349 := n5_; have HB := n6_; clear n0_ n1_ n2_ n3_ n4_ n5_ n6_; have hnb25 := NB340_339.out; have hnc25 := NB339_340.out; have hnb26 := NB340_341.out; have hnc26 := NB341_340.out; have hcz27_0 : w24.cell? ⟨gb340, 0, none⟩ = some (.slice A2_0 l2_0.length c2_0) := (blk_cell BK340.out 0).trans rfl; have hcz27_1 : w24.cell? ⟨gb340, 1, none⟩ = some (.slice A2_1 l2_1.length c2_1) := (blk_cell BK340.out 1).trans rfl; have hcz27_2 : w24.cell? ⟨gb340, 2, none⟩ = some (.slice A2_2 l2_2.length c2_2) := (blk_cell BK340.out 2).trans rfl; have hfz27_0 := blk_frozen BK340.out 0; have hfz27_1 := blk_frozen BK340.out 1; have hfz27_2 := blk_frozen BK340.out 2; obtain ⟨Ao28, co28, eo28⟩ := Kd.R_slice HO344.out; subst eo28))
  refine wp_loop_rounds 3 ?_
  rw [rounds_succ]
  go_upto_if 45 with (first | ((with_reducible refine gate_callee (f := 60) rfl ?_); refine goesM_ (some 41) Try.func60 #[.int .u8 a0, .slice Ao28 t342.length co28, .slice A2_1 l2_1.length c2_1] ?_; (with_reducible refine (poly_Mul.calls k a0 (fun k_ => some k_ = (.slice Ao28 t342.length co28 : Value).ownBlock) _ _ t342 (fun k_ => k_ < w.heap.size) _ _ l2_1 t350 t353 _ ?side1 ?side2 A16.out).mono ?_); (case side1 => exact Kd.R_V (Kd.R_tight rfl (HO344.out))); (case side2 => exact Kd.V_mk HC2_1.out (Kd.F_below (Kd.C_F (Kd.heap_int .u64) HR2_1.out) hs_)); rintro e w29 ⟨v351, rfl, ho0, hb⟩; refine ⟨_, rfl, ?_⟩; have n0_ := A_ (Kd.R_below (nR_ HO344) hb); have n1_ := A_ (Kd.R_below (nR_ HO347) hb); have n2_ := A_ (Kd.R_lower (Kd.R_mono (ok' := fun k_ => True) ho0 (fun _ hk_ => trivial)) (below_size hs_)); have n3_ := A_ (blk_below (g := gb339) (o := .cells #[.slice A1_0 l1_0.length c1_0, .slice A1_1 l1_1.length c1_1, .slice A1_2 l1_2.length c1_2] 61 (0, 0)) (nb_ BK339) hb); have n4_ := A_ (blk_below (g := gb340) (o := .cells #[.slice A2_0 l2_0.length c2_0, .slice A2_1 l2_1.length c2_1, .slice A2_2 l2_2.length c2_2] 61 (0, 0)) (nb_ BK340) hb); have n5_ := A_ (blk_below (g := gb341) (o := .cells #[.slice none 0 0, .slice none 0 0, .slice none 0 0] 61 (0, 0)) (nb_ BK341) hb); have n6_ := A_ (blk_below (g := gb349) (o := .cells #[.slice Ao18 t345.length co18, .slice none 0 0, .slice none 0 0] 61 (0, 0)) (nb_ BK349) hb); have n7_ := A_ (below_step hs_ hb); clear HO344 HO347 BK339 BK340 BK341 BK349 HB; have HO344 := n0_; have HO347 := n1_; have HO352 := n2_; have BK339 := n3_; have BK340 := n4_; have BK341 := n5_; have BK349 := n6_; have HB := n7_; clear n0_ n1_ n2_ n3_ n4_ n5_ n6_ n7_; (try clear hb); (try clear ho0)))
  (try simp only [Act.put, List.setIfInBounds_toArray, List.set_cons_zero, List.set_cons_succ])
  have H := HC17.out
  clear HC17
  by_cases c30 : t353 = 0
  ·rw [if_pos c30] at H
   have c30b0 : (t353 == 0) = true := beq_iff_eq.mpr c30
   have c30b1 : (t353 != 0) = false := bne_eq_false_iff_eq.mpr c30
   clear c30
   (first | rw [c30b0] | rw [c30b1] | (simp only [i64_w, i32_w]; first | rw [c30b0] | rw [c30b1]) | skip)
   replace H := Option.bind_eq_some_iff.mp H
   obtain ⟨⟨t354, t355⟩, A310, H⟩ := H
   (try dsimp only at H)
   have A31 := Aside0.mk A310
   clear A310
   have HC32 := Aside0.mk H
   clear H
   have hnb33 := NB339_340.out
   have hnc33 := NB340_339.out
   have hnb34 := NB339_341.out
   have hnc34 := NB341_339.out
   have hnb35 := NB339_349.out
   have hnc35 := NB349_339.out
   have hcz36_0 : w29.cell? ⟨gb339, 0, none⟩ = some (.slice A1_0 l1_0.length c1_0) := (blk_cell BK339.out 0).trans rfl
   have hcz36_1 : w29.cell? ⟨gb339, 1, none⟩ = some (.slice A1_1 l1_1.length c1_1) := (blk_cell BK339.out 1).trans rfl
   have hcz36_2 : w29.cell? ⟨gb339, 2, none⟩ = some (.slice A1_2 l1_2.length c1_2) := (blk_cell BK339.out 2).trans rfl
   have hfz36_0 := blk_frozen BK339.out 0
   have hfz36_1 := blk_frozen BK339.out 1
   have hfz36_2 := blk_frozen BK339.out 2
   obtain ⟨Ao37, co37, eo37⟩ := Kd.R_slice HO352.out
   subst eo37
   go_upto_if 60 with (first | ((with_reducible refine gate_callee (f := 61) rfl ?_); refine goesM_ (some 55) Try.func61 #[.int .u8 a0, .slice A1_1 l1_1.length c1_1, .slice Ao37 t350.length co37] ?_; (with_reducible refine (poly_Sub.calls k a0 _ _ l1_1 _ _ t350 t354 t355 _ ?side1 ?side2 ?side3 ?side4 A31.out).mono ?_); (case side1 => repeat (first | exact (Kd.C_below HR1_1.out HB.out) | (with_reducible refine Kd.C_alloc ?_ _) | (with_reducible refine Kd.C_drewN ?_ _) | (with_reducible refine Kd.C_drew ?_))); (case side2 => exact HC1_1.out); (case side3 => repeat (first | exact (Kd.R_reads' HO352.out).2.2 | (with_reducible refine Kd.C_alloc ?_ _) | (with_reducible refine Kd.C_drewN ?_ _) | (with_reducible refine Kd.C_drew ?_))); (case side4 => exact (Kd.R_reads' HO352.out).2.1); rintro e w38 ⟨v356, rfl, ho0, hb⟩; refine ⟨_, rfl, ?_⟩; have n0_ := A_ (Kd.R_below (nR_ HO344) hb); have n1_ := A_ (Kd.R_below (nR_ HO347) hb); have n2_ := A_ (Kd.R_below (nR_ HO352) hb); have n3_ := A_ (Kd.R_lower (Kd.R_mono (ok' := fun _ => True) ho0 (fun _ _ => trivial)) (below_size hs_)); have n4_ := A_ (blk_below (g := gb339) (o := .cells #[.slice A1_0 l1_0.length c1_0, .slice A1_1 l1_1.length c1_1, .slice A1_2 l1_2.length c1_2] 61 (0, 0)) (nb_ BK339) hb); have n5_ := A_ (blk_below (g := gb340) (o := .cells #[.slice A2_0 l2_0.length c2_0, .slice A2_1 l2_1.length c2_1, .slice A2_2 l2_2.length c2_2] 61 (0, 0)) (nb_ BK340) hb); have n6_ := A_ (blk_below (g := gb341) (o := .cells #[.slice none 0 0, .slice none 0 0, .slice none 0 0] 61 (0, 0)) (nb_ BK341) hb); have n7_ := A_ (blk_below (g := gb349) (o := .cells #[.slice Ao18 t345.length co18, .slice none 0 0, .slice none 0 0] 61 (0, 0)) (nb_ BK349) hb); have n8_ := A_ (below_step hs_ hb); clear HO344 HO347 HO352 BK339 BK340 BK341 BK349 HB; have HO344 := n0_; have HO347 := n1_; have HO352 := n2_; have HO357 := n3_; have BK339 := n4_; have BK340 := n5_; have BK341 := n6_; have BK349 := n7_; have HB := n8_; clear n0_ n1_ n2_ n3_ n4_ n5_ n6_ n7_ n8_; (try clear hb); (try clear ho0); obtain ⟨Ao39, co39, eo39⟩ := Kd.R_slice HO357.out; subst eo39; have hnb40 := NB349_340.out; have hnc40 := NB340_349.out; have hnb41 := NB349_341.out; have hnc41 := NB341_349.out; have hcz42_0 : w38.cell? ⟨gb349, 0, none⟩ = some (.slice Ao18 t345.length co18) := (blk_cell BK349.out 0).trans rfl; have hcz42_1 : w38.cell? ⟨gb349, 1, none⟩ = some (.slice none 0 0) := (blk_cell BK349.out 1).trans rfl; have hcz42_2 : w38.cell? ⟨gb349, 2, none⟩ = some (.slice none 0 0) := (blk_cell BK349.out 2).trans rfl; have hfz42_0 := blk_frozen BK349.out 0; have hfz42_1 := blk_frozen BK349.out 1; have hfz42_2 := blk_frozen BK349.out 2))
   (try simp only [Act.put, List.setIfInBounds_toArray, List.set_cons_zero, List.set_cons_succ])
   have H := HC32.out
   clear HC32
   by_cases c43 : t355 = 0
   ·rw [if_pos c43] at H
    have c43b0 : (t355 == 0) = true := beq_iff_eq.mpr c43
    have c43b1 : (t355 != 0) = false := bne_eq_false_iff_eq.mpr c43
    clear c43
    (first | rw [c43b0] | rw [c43b1] | (simp only [i64_w, i32_w]; first | rw [c43b0] | rw [c43b1]) | skip)
    replace H := Option.bind_eq_some_iff.mp H
    obtain ⟨⟨t358, t361⟩, A440, H⟩ := H
    replace H : (if t361 = 0 then ((poly_Sub.f k a0 l1_2 t358).bind fun bt362 => (if bt362.2 = 0 then (some (t345, t354, bt362.1, 0)) else (some (([] : List Int), ([] : List Int), ([] : List Int), bt362.2)))) else (some (([] : List Int), ([] : List Int), ([] : List Int), t361))) = some (r1, r2, r3, r4) := H
    have A44 := Aside0.mk A440
    clear A440
    have HC45 := Aside0.mk H
    clear H
    try go_wp2
    have n0_ : Aside0 (Kd.R (Kd.int .u64) 40 (w38.setCell ⟨gb349, 1, none⟩ (.slice Ao39 t354.length co39)) w.heap.size (fun _ => True) (.slice Ao28 t342.length co28) t342) := ⟨by (with_reducible repeat (first | apply Kd.R_alloc | apply Kd.R_drewN | apply Kd.R_drew)); exact Kd.R_mono (Kd.R_far (p := ⟨gb349, 1, none⟩) (Kd.R_types HO344.out BK349.out (by decide)) (fun _ hk => hk.2) (.slice Ao39 t354.length co39)) (fun _ hk => trivial)⟩
    have n1_ : Aside0 (Kd.R (Kd.int .u64) 40 (w38.setCell ⟨gb349, 1, none⟩ (.slice Ao39 t354.length co39)) w.heap.size (fun _ => True) (.slice Ao18 t345.length co18) t345) := ⟨by (with_reducible repeat (first | apply Kd.R_alloc | apply Kd.R_drewN | apply Kd.R_drew)); exact Kd.R_mono (Kd.R_far (p := ⟨gb349, 1, none⟩) (Kd.R_types HO347.out BK349.out (by decide)) (fun _ hk => hk.2) (.slice Ao39 t354.length co39)) (fun _ hk => trivial)⟩
    have n2_ : Aside0 (Kd.R (Kd.int .u64) 40 (w38.setCell ⟨gb349, 1, none⟩ (.slice Ao39 t354.length co39)) w.heap.size (fun _ => True) (.slice Ao37 t350.length co37) t350) := ⟨by (with_reducible repeat (first | apply Kd.R_alloc | apply Kd.R_drewN | apply Kd.R_drew)); exact Kd.R_mono (Kd.R_far (p := ⟨gb349, 1, none⟩) (Kd.R_types HO352.out BK349.out (by decide)) (fun _ hk => hk.2) (.slice Ao39 t354.length co39)) (fun _ hk => trivial)⟩
    have n3_ : Aside0 (Kd.R (Kd.int .u64) 40 (w38.setCell ⟨gb349, 1, none⟩ (.slice Ao39 t354.length co39)) w.heap.size (fun _ => True) (.slice Ao39 t354.length co39) t354) := ⟨by (with_reducible repeat (first | apply Kd.R_alloc | apply Kd.R_drewN | apply Kd.R_drew)); exact Kd.R_mono (Kd.R_far (p := ⟨gb349, 1, none⟩) (Kd.R_types HO357.out BK349.out (by decide)) (fun _ hk => hk.2) (.slice Ao39 t354.length co39)) (fun _ hk => trivial)⟩
    have n4_ : Aside0 ((w38.setCell ⟨gb349, 1, none⟩ (.slice Ao39 t354.length co39)).heap[gb339]? = some (.cells #[.slice A1_0 l1_0.length c1_0, .slice A1_1 l1_1.length c1_1, .slice A1_2 l1_2.length c1_2] 61 (0, 0))) := ⟨by (with_reducible repeat (first | refine blk_drewN ?_ _ | refine blk_drew ?_ | refine blk_alloc ?_ _)); refine blk_far ?_ NB339_349.out _; (with_reducible repeat (first | refine blk_drewN ?_ _ | refine blk_drew ?_ | refine blk_alloc ?_ _)); exact BK339.out⟩
    have n5_ : Aside0 ((w38.setCell ⟨gb349, 1, none⟩ (.slice Ao39 t354.length co39)).heap[gb340]? = some (.cells #[.slice A2_0 l2_0.length c2_0, .slice A2_1 l2_1.length c2_1, .slice A2_2 l2_2.length c2_2] 61 (0, 0))) := ⟨by (with_reducible repeat (first | refine blk_drewN ?_ _ | refine blk_drew ?_ | refine blk_alloc ?_ _)); refine blk_far ?_ NB340_349.out _; (with_reducible repeat (first | refine blk_drewN ?_ _ | refine blk_drew ?_ | refine blk_alloc ?_ _)); exact BK340.out⟩
    have n6_ : Aside0 ((w38.setCell ⟨gb349, 1, none⟩ (.slice Ao39 t354.length co39)).heap[gb341]? = some (.cells #[.slice none 0 0, .slice none 0 0, .slice none 0 0] 61 (0, 0))) := ⟨by (with_reducible repeat (first | refine blk_drewN ?_ _ | refine blk_drew ?_ | refine blk_alloc ?_ _)); refine blk_far ?_ NB341_349.out _; (with_reducible repeat (first | refine blk_drewN ?_ _ | refine blk_drew ?_ | refine blk_alloc ?_ _)); exact BK341.out⟩
    have n7_ : Aside0 ((w38.setCell ⟨gb349, 1, none⟩ (.slice Ao39 t354.length co39)).heap[gb349]? = some (.cells #[.slice Ao18 t345.length co18, .slice Ao39 t354.length co39, .slice none 0 0] 61 (0, 0))) := ⟨by (with_reducible repeat (first | refine blk_drewN ?_ _ | refine blk_drew ?_ | refine blk_alloc ?_ _)); refine blk_put (cs := #[.slice Ao18 t345.length co18, .slice none 0 0, .slice none 0 0]) ?_ 1 _ rfl; (with_reducible repeat (first | refine blk_drewN ?_ _ | refine blk_drew ?_ | refine blk_alloc ?_ _)); exact BK349.out⟩
    have n8_ : Aside0 (Below w.heap.size w (w38.setCell ⟨gb349, 1, none⟩ (.slice Ao39 t354.length co39))) := ⟨hs_⟩
    (try clear HO344)
    (try clear HO347)
    (try clear HO352)
    (try clear HO357)
    (try clear BK339)
    (try clear BK340)
    (try clear BK341)
    (try clear BK349)
    (try clear HB)
    generalize (w38.setCell ⟨gb349, 1, none⟩ (.slice Ao39 t354.length co39)) = w46 at n0_ n1_ n2_ n3_ n4_ n5_ n6_ n7_ n8_ ⊢
    have HO344 := n0_
    have HO347 := n1_
    have HO352 := n2_
    have HO357 := n3_
    have BK339 := n4_
    have BK340 := n5_
    have BK341 := n6_
    have BK349 := n7_
    have HB := n8_
    clear n0_ n1_ n2_ n3_ n4_ n5_ n6_ n7_ n8_
    have hnb47 := NB340_339.out
    have hnc47 := NB339_340.out
    have hnb48 := NB340_341.out
    have hnc48 := NB341_340.out
    have hnb49 := NB340_349.out
    have hnc49 := NB349_340.out
    have hcz50_0 : w46.cell? ⟨gb340, 0, none⟩ = some (.slice A2_0 l2_0.length c2_0) := (blk_cell BK340.out 0).trans rfl
    have hcz50_1 : w46.cell? ⟨gb340, 1, none⟩ = some (.slice A2_1 l2_1.length c2_1) := (blk_cell BK340.out 1).trans rfl
    have hcz50_2 : w46.cell? ⟨gb340, 2, none⟩ = some (.slice A2_2 l2_2.length c2_2) := (blk_cell BK340.out 2).trans rfl
    have hfz50_0 := blk_frozen BK340.out 0
    have hfz50_1 := blk_frozen BK340.out 1
    have hfz50_2 := blk_frozen BK340.out 2
    rw [rounds_succ]
    go_upto_if 45 with (first | ((with_reducible refine gate_callee (f := 60) rfl ?_); refine goesM_ (some 41) Try.func60 #[.int .u8 a0, .slice Ao28 t342.length co28, .slice A2_2 l2_2.length c2_2] ?_; (with_reducible refine (poly_Mul.calls k a0 (fun k_ => some k_ = (.slice Ao28 t342.length co28 : Value).ownBlock) _ _ t342 (fun k_ => k_ < w.heap.size) _ _ l2_2 t358 t361 _ ?side1 ?side2 A44.out).mono ?_); (case side1 => exact Kd.R_V (Kd.R_tight rfl (HO344.out))); (case side2 => exact Kd.V_mk HC2_2.out (Kd.F_below (Kd.C_F (Kd.heap_int .u64) HR2_2.out) hs_)); rintro e w51 ⟨v359, rfl, ho0, hb⟩; refine ⟨_, rfl, ?_⟩; have n0_ := A_ (Kd.R_below (nR_ HO344) hb); have n1_ := A_ (Kd.R_below (nR_ HO347) hb); have n2_ := A_ (Kd.R_below (nR_ HO352) hb); have n3_ := A_ (Kd.R_below (nR_ HO357) hb); have n4_ := A_ (Kd.R_lower (Kd.R_mono (ok' := fun k_ => True) ho0 (fun _ hk_ => trivial)) (below_size hs_)); have n5_ := A_ (blk_below (g := gb339) (o := .cells #[.slice A1_0 l1_0.length c1_0, .slice A1_1 l1_1.length c1_1, .slice A1_2 l1_2.length c1_2] 61 (0, 0)) (nb_ BK339) hb); have n6_ := A_ (blk_below (g := gb340) (o := .cells #[.slice A2_0 l2_0.length c2_0, .slice A2_1 l2_1.length c2_1, .slice A2_2 l2_2.length c2_2] 61 (0, 0)) (nb_ BK340) hb); have n7_ := A_ (blk_below (g := gb341) (o := .cells #[.slice none 0 0, .slice none 0 0, .slice none 0 0] 61 (0, 0)) (nb_ BK341) hb); have n8_ := A_ (blk_below (g := gb349) (o := .cells #[.slice Ao18 t345.length co18, .slice Ao39 t354.length co39, .slice none 0 0] 61 (0, 0)) (nb_ BK349) hb); have n9_ := A_ (below_step hs_ hb); clear HO344 HO347 HO352 HO357 BK339 BK340 BK341 BK349 HB; have HO344 := n0_; have HO347 := n1_; have HO352 := n2_; have HO357 := n3_; have HO360 := n4_; have BK339 := n5_; have BK340 := n6_; have BK341 := n7_; have BK349 := n8_; have HB := n9_; clear n0_ n1_ n2_ n3_ n4_ n5_ n6_ n7_ n8_ n9_; (try clear hb); (try clear ho0)))
    (try simp only [Act.put, List.setIfInBounds_toArray, List.set_cons_zero, List.set_cons_succ])
    have H := HC45.out
    clear HC45
    by_cases c52 : t361 = 0
    ·rw [if_pos c52] at H
     have c52b0 : (t361 == 0) = true := beq_iff_eq.mpr c52
     have c52b1 : (t361 != 0) = false := bne_eq_false_iff_eq.mpr c52
     clear c52
     (first | rw [c52b0] | rw [c52b1] | (simp only [i64_w, i32_w]; first | rw [c52b0] | rw [c52b1]) | skip)
     replace H := Option.bind_eq_some_iff.mp H
     obtain ⟨⟨t362, t363⟩, A530, H⟩ := H
     replace H : (if t363 = 0 then (some (t345, t354, t362, 0)) else (some (([] : List Int), ([] : List Int), ([] : List Int), t363))) = some (r1, r2, r3, r4) := H
     have A53 := Aside0.mk A530
     clear A530
     have HC54 := Aside0.mk H
     clear H
     have hnb55 := NB339_340.out
     have hnc55 := NB340_339.out
     have hnb56 := NB339_341.out
     have hnc56 := NB341_339.out
     have hnb57 := NB339_349.out
     have hnc57 := NB349_339.out
     have hcz58_0 : w51.cell? ⟨gb339, 0, none⟩ = some (.slice A1_0 l1_0.length c1_0) := (blk_cell BK339.out 0).trans rfl
     have hcz58_1 : w51.cell? ⟨gb339, 1, none⟩ = some (.slice A1_1 l1_1.length c1_1) := (blk_cell BK339.out 1).trans rfl
     have hcz58_2 : w51.cell? ⟨gb339, 2, none⟩ = some (.slice A1_2 l1_2.length c1_2) := (blk_cell BK339.out 2).trans rfl
     have hfz58_0 := blk_frozen BK339.out 0
     have hfz58_1 := blk_frozen BK339.out 1
     have hfz58_2 := blk_frozen BK339.out 2
     obtain ⟨Ao59, co59, eo59⟩ := Kd.R_slice HO360.out
     subst eo59
     go_upto_if 60 with (first | ((with_reducible refine gate_callee (f := 61) rfl ?_); refine goesM_ (some 55) Try.func61 #[.int .u8 a0, .slice A1_2 l1_2.length c1_2, .slice Ao59 t358.length co59] ?_; (with_reducible refine (poly_Sub.calls k a0 _ _ l1_2 _ _ t358 t362 t363 _ ?side1 ?side2 ?side3 ?side4 A53.out).mono ?_); (case side1 => repeat (first | exact (Kd.C_below HR1_2.out HB.out) | (with_reducible refine Kd.C_alloc ?_ _) | (with_reducible refine Kd.C_drewN ?_ _) | (with_reducible refine Kd.C_drew ?_))); (case side2 => exact HC1_2.out); (case side3 => repeat (first | exact (Kd.R_reads' HO360.out).2.2 | (with_reducible refine Kd.C_alloc ?_ _) | (with_reducible refine Kd.C_drewN ?_ _) | (with_reducible refine Kd.C_drew ?_))); (case side4 => exact (Kd.R_reads' HO360.out).2.1); rintro e w60 ⟨v364, rfl, ho0, hb⟩; refine ⟨_, rfl, ?_⟩; have n0_ := A_ (Kd.R_below (nR_ HO344) hb); have n1_ := A_ (Kd.R_below (nR_ HO347) hb); have n2_ := A_ (Kd.R_below (nR_ HO352) hb); have n3_ := A_ (Kd.R_below (nR_ HO357) hb); have n4_ := A_ (Kd.R_below (nR_ HO360) hb); have n5_ := A_ (Kd.R_lower (Kd.R_mono (ok' := fun _ => True) ho0 (fun _ _ => trivial)) (below_size hs_)); have n6_ := A_ (blk_below (g := gb339) (o := .cells #[.slice A1_0 l1_0.length c1_0, .slice A1_1 l1_1.length c1_1, .slice A1_2 l1_2.length c1_2] 61 (0, 0)) (nb_ BK339) hb); have n7_ := A_ (blk_below (g := gb340) (o := .cells #[.slice A2_0 l2_0.length c2_0, .slice A2_1 l2_1.length c2_1, .slice A2_2 l2_2.length c2_2] 61 (0, 0)) (nb_ BK340) hb); have n8_ := A_ (blk_below (g := gb341) (o := .cells #[.slice none 0 0, .slice none 0 0, .slice none 0 0] 61 (0, 0)) (nb_ BK341) hb); have n9_ := A_ (blk_below (g := gb349) (o := .cells #[.slice Ao18 t345.length co18, .slice Ao39 t354.length co39, .slice none 0 0] 61 (0, 0)) (nb_ BK349) hb); have n10_ := A_ (below_step hs_ hb); clear HO344 HO347 HO352 HO357 HO360 BK339 BK340 BK341 BK349 HB; have HO344 := n0_; have HO347 := n1_; have HO352 := n2_; have HO357 := n3_; have HO360 := n4_; have HO365 := n5_; have BK339 := n6_; have BK340 := n7_; have BK341 := n8_; have BK349 := n9_; have HB := n10_; clear n0_ n1_ n2_ n3_ n4_ n5_ n6_ n7_ n8_ n9_ n10_; (try clear hb); (try clear ho0); obtain ⟨Ao61, co61, eo61⟩ := Kd.R_slice HO365.out; subst eo61; have hnb62 := NB349_340.out; have hnc62 := NB340_349.out; have hnb63 := NB349_341.out; have hnc63 := NB341_349.out; have hcz64_0 : w60.cell? ⟨gb349, 0, none⟩ = some (.slice Ao18 t345.length co18) := (blk_cell BK349.out 0).trans rfl; have hcz64_1 : w60.cell? ⟨gb349, 1, none⟩ = some (.slice Ao39 t354.length co39) := (blk_cell BK349.out 1).trans rfl; have hcz64_2 : w60.cell? ⟨gb349, 2, none⟩ = some (.slice none 0 0) := (blk_cell BK349.out 2).trans rfl; have hfz64_0 := blk_frozen BK349.out 0; have hfz64_1 := blk_frozen BK349.out 1; have hfz64_2 := blk_frozen BK349.out 2))
     (try simp only [Act.put, List.setIfInBounds_toArray, List.set_cons_zero, List.set_cons_succ])
     have H := HC54.out
     clear HC54
     by_cases c65 : t363 = 0
     ·rw [if_pos c65] at H
      have c65b0 : (t363 == 0) = true := beq_iff_eq.mpr c65
      have c65b1 : (t363 != 0) = false := bne_eq_false_iff_eq.mpr c65
      clear c65
      (first | rw [c65b0] | rw [c65b1] | (simp only [i64_w, i32_w]; first | rw [c65b0] | rw [c65b1]) | skip)
      simp only [Option.some.injEq, Prod.mk.injEq] at H
      obtain ⟨rfl, rfl, rfl, rfl⟩ := H
      go_wp2
      have n0_ : Aside0 (Kd.R (Kd.int .u64) 40 (w60.setCell ⟨gb349, 2, none⟩ (.slice Ao61 t362.length co61)) w.heap.size (fun _ => True) (.slice Ao28 t342.length co28) t342) := ⟨by (with_reducible repeat (first | apply Kd.R_alloc | apply Kd.R_drewN | apply Kd.R_drew)); exact Kd.R_mono (Kd.R_far (p := ⟨gb349, 2, none⟩) (Kd.R_types HO344.out BK349.out (by decide)) (fun _ hk => hk.2) (.slice Ao61 t362.length co61)) (fun _ hk => trivial)⟩
      have n1_ : Aside0 (Kd.R (Kd.int .u64) 40 (w60.setCell ⟨gb349, 2, none⟩ (.slice Ao61 t362.length co61)) w.heap.size (fun _ => True) (.slice Ao18 t345.length co18) t345) := ⟨by (with_reducible repeat (first | apply Kd.R_alloc | apply Kd.R_drewN | apply Kd.R_drew)); exact Kd.R_mono (Kd.R_far (p := ⟨gb349, 2, none⟩) (Kd.R_types HO347.out BK349.out (by decide)) (fun _ hk => hk.2) (.slice Ao61 t362.length co61)) (fun _ hk => trivial)⟩
      have n2_ : Aside0 (Kd.R (Kd.int .u64) 40 (w60.setCell ⟨gb349, 2, none⟩ (.slice Ao61 t362.length co61)) w.heap.size (fun _ => True) (.slice Ao37 t350.length co37) t350) := ⟨by (with_reducible repeat (first | apply Kd.R_alloc | apply Kd.R_drewN | apply Kd.R_drew)); exact Kd.R_mono (Kd.R_far (p := ⟨gb349, 2, none⟩) (Kd.R_types HO352.out BK349.out (by decide)) (fun _ hk => hk.2) (.slice Ao61 t362.length co61)) (fun _ hk => trivial)⟩
      have n3_ : Aside0 (Kd.R (Kd.int .u64) 40 (w60.setCell ⟨gb349, 2, none⟩ (.slice Ao61 t362.length co61)) w.heap.size (fun _ => True) (.slice Ao39 t354.length co39) t354) := ⟨by (with_reducible repeat (first | apply Kd.R_alloc | apply Kd.R_drewN | apply Kd.R_drew)); exact Kd.R_mono (Kd.R_far (p := ⟨gb349, 2, none⟩) (Kd.R_types HO357.out BK349.out (by decide)) (fun _ hk => hk.2) (.slice Ao61 t362.length co61)) (fun _ hk => trivial)⟩
      have n4_ : Aside0 (Kd.R (Kd.int .u64) 40 (w60.setCell ⟨gb349, 2, none⟩ (.slice Ao61 t362.length co61)) w.heap.size (fun _ => True) (.slice Ao59 t358.length co59) t358) := ⟨by (with_reducible repeat (first | apply Kd.R_alloc | apply Kd.R_drewN | apply Kd.R_drew)); exact Kd.R_mono (Kd.R_far (p := ⟨gb349, 2, none⟩) (Kd.R_types HO360.out BK349.out (by decide)) (fun _ hk => hk.2) (.slice Ao61 t362.length co61)) (fun _ hk => trivial)⟩
      have n5_ : Aside0 (Kd.R (Kd.int .u64) 40 (w60.setCell ⟨gb349, 2, none⟩ (.slice Ao61 t362.length co61)) w.heap.size (fun _ => True) (.slice Ao61 t362.length co61) t362) := ⟨by (with_reducible repeat (first | apply Kd.R_alloc | apply Kd.R_drewN | apply Kd.R_drew)); exact Kd.R_mono (Kd.R_far (p := ⟨gb349, 2, none⟩) (Kd.R_types HO365.out BK349.out (by decide)) (fun _ hk => hk.2) (.slice Ao61 t362.length co61)) (fun _ hk => trivial)⟩
      have n6_ : Aside0 ((w60.setCell ⟨gb349, 2, none⟩ (.slice Ao61 t362.length co61)).heap[gb339]? = some (.cells #[.slice A1_0 l1_0.length c1_0, .slice A1_1 l1_1.length c1_1, .slice A1_2 l1_2.length c1_2] 61 (0, 0))) := ⟨by (with_reducible repeat (first | refine blk_drewN ?_ _ | refine blk_drew ?_ | refine blk_alloc ?_ _)); refine blk_far ?_ NB339_349.out _; (with_reducible repeat (first | refine blk_drewN ?_ _ | refine blk_drew ?_ | refine blk_alloc ?_ _)); exact BK339.out⟩
      have n7_ : Aside0 ((w60.setCell ⟨gb349, 2, none⟩ (.slice Ao61 t362.length co61)).heap[gb340]? = some (.cells #[.slice A2_0 l2_0.length c2_0, .slice A2_1 l2_1.length c2_1, .slice A2_2 l2_2.length c2_2] 61 (0, 0))) := ⟨by (with_reducible repeat (first | refine blk_drewN ?_ _ | refine blk_drew ?_ | refine blk_alloc ?_ _)); refine blk_far ?_ NB340_349.out _; (with_reducible repeat (first | refine blk_drewN ?_ _ | refine blk_drew ?_ | refine blk_alloc ?_ _)); exact BK340.out⟩
      have n8_ : Aside0 ((w60.setCell ⟨gb349, 2, none⟩ (.slice Ao61 t362.length co61)).heap[gb341]? = some (.cells #[.slice none 0 0, .slice none 0 0, .slice none 0 0] 61 (0, 0))) := ⟨by (with_reducible repeat (first | refine blk_drewN ?_ _ | refine blk_drew ?_ | refine blk_alloc ?_ _)); refine blk_far ?_ NB341_349.out _; (with_reducible repeat (first | refine blk_drewN ?_ _ | refine blk_drew ?_ | refine blk_alloc ?_ _)); exact BK341.out⟩
      have n9_ : Aside0 ((w60.setCell ⟨gb349, 2, none⟩ (.slice Ao61 t362.length co61)).heap[gb349]? = some (.cells #[.slice Ao18 t345.length co18, .slice Ao39 t354.length co39, .slice Ao61 t362.length co61] 61 (0, 0))) := ⟨by (with_reducible repeat (first | refine blk_drewN ?_ _ | refine blk_drew ?_ | refine blk_alloc ?_ _)); refine blk_put (cs := #[.slice Ao18 t345.length co18, .slice Ao39 t354.length co39, .slice none 0 0]) ?_ 2 _ rfl; (with_reducible repeat (first | refine blk_drewN ?_ _ | refine blk_drew ?_ | refine blk_alloc ?_ _)); exact BK349.out⟩
      have n10_ : Aside0 (Below w.heap.size w (w60.setCell ⟨gb349, 2, none⟩ (.slice Ao61 t362.length co61))) := ⟨hs_⟩
      (try clear HO344)
      (try clear HO347)
      (try clear HO352)
      (try clear HO357)
      (try clear HO360)
      (try clear HO365)
      (try clear BK339)
      (try clear BK340)
      (try clear BK341)
      (try clear BK349)
      (try clear HB)
      generalize (w60.setCell ⟨gb349, 2, none⟩ (.slice Ao61 t362.length co61)) = w66 at n0_ n1_ n2_ n3_ n4_ n5_ n6_ n7_ n8_ n9_ n10_ ⊢
      have HO344 := n0_
      have HO347 := n1_
      have HO352 := n2_
      have HO357 := n3_
      have HO360 := n4_
      have HO365 := n5_
      have BK339 := n6_
      have BK340 := n7_
      have BK341 := n8_
      have BK349 := n9_
      have HB := n10_
      clear n0_ n1_ n2_ n3_ n4_ n5_ n6_ n7_ n8_ n9_ n10_
      have hnb67 := NB349_339.out
      have hnc67 := NB339_349.out
      have hnb68 := NB349_340.out
      have hnc68 := NB340_349.out
      have hnb69 := NB349_341.out
      have hnc69 := NB341_349.out
      have hcz70_0 : w66.cell? ⟨gb349, 0, none⟩ = some (.slice Ao18 t345.length co18) := (blk_cell BK349.out 0).trans rfl
      have hcz70_1 : w66.cell? ⟨gb349, 1, none⟩ = some (.slice Ao39 t354.length co39) := (blk_cell BK349.out 1).trans rfl
      have hcz70_2 : w66.cell? ⟨gb349, 2, none⟩ = some (.slice Ao61 t362.length co61) := (blk_cell BK349.out 2).trans rfl
      have hfz70_0 := blk_frozen BK349.out 0
      have hfz70_1 := blk_frozen BK349.out 1
      have hfz70_2 := blk_frozen BK349.out 2
      have hnb71 := NB341_339.out
      have hnc71 := NB339_341.out
      have hnb72 := NB341_340.out
      have hnc72 := NB340_341.out
      have hcz73_0 : w66.cell? ⟨gb341, 0, none⟩ = some (.slice none 0 0) := (blk_cell BK341.out 0).trans rfl
      have hcz73_1 : w66.cell? ⟨gb341, 1, none⟩ = some (.slice none 0 0) := (blk_cell BK341.out 1).trans rfl
      have hcz73_2 : w66.cell? ⟨gb341, 2, none⟩ = some (.slice none 0 0) := (blk_cell BK341.out 2).trans rfl
      have hfz73_0 := blk_frozen BK341.out 0
      have hfz73_1 := blk_frozen BK341.out 1
      have hfz73_2 := blk_frozen BK341.out 2
      rw [rounds_succ]
      go_wp2
      refine bodyPost_ret (results_ct rfl _ _ gb341 61 #[.slice Ao18 t345.length co18, .slice Ao39 t354.length co39, .slice Ao61 t362.length co61] (0, 0) _ rfl (by (with_reducible repeat (first | refine blk_drewN ?_ _ | refine blk_drew ?_ | refine blk_alloc ?_ _)); refine blk_put (cs := #[.slice Ao18 t345.length co18, .slice Ao39 t354.length co39, .slice none 0 0]) ?_ 2 _ rfl; (with_reducible repeat (first | refine blk_drewN ?_ _ | refine blk_drew ?_ | refine blk_alloc ?_ _)); refine blk_put (cs := #[.slice Ao18 t345.length co18, .slice none 0 0, .slice none 0 0]) ?_ 1 _ rfl; (with_reducible repeat (first | refine blk_drewN ?_ _ | refine blk_drew ?_ | refine blk_alloc ?_ _)); refine blk_put (cs := #[.slice none 0 0, .slice none 0 0, .slice none 0 0]) ?_ 0 _ rfl; (with_reducible repeat (first | refine blk_drewN ?_ _ | refine blk_drew ?_ | refine blk_alloc ?_ _)); exact BK341.out) Try.underlying61 rfl (by kernel_rfl)) rfl ?_
      exact ⟨_, _, _, fr_, by (with_reducible repeat (first | apply Kd.R_alloc | apply Kd.R_drewN | apply Kd.R_drew)); exact Kd.R_mono (Kd.R_far (p := ⟨gb341, 2, none⟩) (Kd.R_far (p := ⟨gb341, 1, none⟩) (Kd.R_far (p := ⟨gb341, 0, none⟩) (Kd.R_types HO347.out BK341.out (by decide)) (fun _ hk => hk.2) (.slice Ao18 t345.length co18)) (fun _ hk => hk.2) (.slice Ao39 t354.length co39)) (fun _ hk => hk.2) (.slice Ao61 t362.length co61)) (fun _ hk => trivial), by (with_reducible repeat (first | apply Kd.R_alloc | apply Kd.R_drewN | apply Kd.R_drew)); exact Kd.R_mono (Kd.R_far (p := ⟨gb341, 2, none⟩) (Kd.R_far (p := ⟨gb341, 1, none⟩) (Kd.R_far (p := ⟨gb341, 0, none⟩) (Kd.R_types HO357.out BK341.out (by decide)) (fun _ hk => hk.2) (.slice Ao18 t345.length co18)) (fun _ hk => hk.2) (.slice Ao39 t354.length co39)) (fun _ hk => hk.2) (.slice Ao61 t362.length co61)) (fun _ hk => trivial), by (with_reducible repeat (first | apply Kd.R_alloc | apply Kd.R_drewN | apply Kd.R_drew)); exact Kd.R_mono (Kd.R_far (p := ⟨gb341, 2, none⟩) (Kd.R_far (p := ⟨gb341, 1, none⟩) (Kd.R_far (p := ⟨gb341, 0, none⟩) (Kd.R_types HO365.out BK341.out (by decide)) (fun _ hk => hk.2) (.slice Ao18 t345.length co18)) (fun _ hk => hk.2) (.slice Ao39 t354.length co39)) (fun _ hk => hk.2) (.slice Ao61 t362.length co61)) (fun _ hk => trivial), hs_⟩
     ·rw [if_neg c65] at H
      have c65b0 : (t363 == 0) = false := beq_eq_false_iff_ne.mpr c65
      have c65b1 : (t363 != 0) = true := bne_iff_ne.mpr c65
      (first | rw [c65b0] | rw [c65b1] | (simp only [i64_w, i32_w]; first | rw [c65b0] | rw [c65b1]) | skip)
      simp only [Option.some.injEq, Prod.mk.injEq] at H
      obtain ⟨rfl, rfl, rfl, rfl⟩ := H
      have hnb74 := NB341_339.out
      have hnc74 := NB339_341.out
      have hnb75 := NB341_340.out
      have hnc75 := NB340_341.out
      have hnb76 := NB341_349.out
      have hnc76 := NB349_341.out
      have hcz77_0 : w60.cell? ⟨gb341, 0, none⟩ = some (.slice none 0 0) := (blk_cell BK341.out 0).trans rfl
      have hcz77_1 : w60.cell? ⟨gb341, 1, none⟩ = some (.slice none 0 0) := (blk_cell BK341.out 1).trans rfl
      have hcz77_2 : w60.cell? ⟨gb341, 2, none⟩ = some (.slice none 0 0) := (blk_cell BK341.out 2).trans rfl
      have hfz77_0 := blk_frozen BK341.out 0
      have hfz77_1 := blk_frozen BK341.out 1
      have hfz77_2 := blk_frozen BK341.out 2
      go_wp2
      refine bodyPost_ret (results_ct rfl _ _ gb341 61 #[.slice none 0 0, .slice none 0 0, .slice none 0 0] (0, 0) _ rfl (by (with_reducible repeat (first | refine blk_drewN ?_ _ | refine blk_drew ?_ | refine blk_alloc ?_ _)); refine blk_put (cs := #[.slice none 0 0, .slice none 0 0, .slice none 0 0]) ?_ 2 _ rfl; (with_reducible repeat (first | refine blk_drewN ?_ _ | refine blk_drew ?_ | refine blk_alloc ?_ _)); refine blk_put (cs := #[.slice none 0 0, .slice none 0 0, .slice none 0 0]) ?_ 1 _ rfl; (with_reducible repeat (first | refine blk_drewN ?_ _ | refine blk_drew ?_ | refine blk_alloc ?_ _)); refine blk_put (cs := #[.slice none 0 0, .slice none 0 0, .slice none 0 0]) ?_ 0 _ rfl; (with_reducible repeat (first | refine blk_drewN ?_ _ | refine blk_drew ?_ | refine blk_alloc ?_ _)); refine blk_far ?_ NB341_349.out _; (with_reducible repeat (first | refine blk_drewN ?_ _ | refine blk_drew ?_ | refine blk_alloc ?_ _)); exact BK341.out) Try.underlying61 rfl (by kernel_rfl)) rfl ?_
      exact ⟨_, _, _, fr_, by first | exact Kd.R_nil _ _ _ _ _ | exact Kd.N_nil _ _ _ _ _ | exact Kd.V_nil _ _ _ _ _ | exact Kd.Q_nil _ _ _ _ _ | exact Kd.S_nil _ _ _ _ _, by first | exact Kd.R_nil _ _ _ _ _ | exact Kd.N_nil _ _ _ _ _ | exact Kd.V_nil _ _ _ _ _ | exact Kd.Q_nil _ _ _ _ _ | exact Kd.S_nil _ _ _ _ _, by first | exact Kd.R_nil _ _ _ _ _ | exact Kd.N_nil _ _ _ _ _ | exact Kd.V_nil _ _ _ _ _ | exact Kd.Q_nil _ _ _ _ _ | exact Kd.S_nil _ _ _ _ _, hs_⟩
    ·rw [if_neg c52] at H
     have c52b0 : (t361 == 0) = false := beq_eq_false_iff_ne.mpr c52
     have c52b1 : (t361 != 0) = true := bne_iff_ne.mpr c52
     (first | rw [c52b0] | rw [c52b1] | (simp only [i64_w, i32_w]; first | rw [c52b0] | rw [c52b1]) | skip)
     simp only [Option.some.injEq, Prod.mk.injEq] at H
     obtain ⟨rfl, rfl, rfl, rfl⟩ := H
     have hnb78 := NB341_339.out
     have hnc78 := NB339_341.out
     have hnb79 := NB341_340.out
     have hnc79 := NB340_341.out
     have hnb80 := NB341_349.out
     have hnc80 := NB349_341.out
     have hcz81_0 : w51.cell? ⟨gb341, 0, none⟩ = some (.slice none 0 0) := (blk_cell BK341.out 0).trans rfl
     have hcz81_1 : w51.cell? ⟨gb341, 1, none⟩ = some (.slice none 0 0) := (blk_cell BK341.out 1).trans rfl
     have hcz81_2 : w51.cell? ⟨gb341, 2, none⟩ = some (.slice none 0 0) := (blk_cell BK341.out 2).trans rfl
     have hfz81_0 := blk_frozen BK341.out 0
     have hfz81_1 := blk_frozen BK341.out 1
     have hfz81_2 := blk_frozen BK341.out 2
     go_wp2
     refine bodyPost_ret (results_ct rfl _ _ gb341 61 #[.slice none 0 0, .slice none 0 0, .slice none 0 0] (0, 0) _ rfl (by (with_reducible repeat (first | refine blk_drewN ?_ _ | refine blk_drew ?_ | refine blk_alloc ?_ _)); refine blk_put (cs := #[.slice none 0 0, .slice none 0 0, .slice none 0 0]) ?_ 2 _ rfl; (with_reducible repeat (first | refine blk_drewN ?_ _ | refine blk_drew ?_ | refine blk_alloc ?_ _)); refine blk_put (cs := #[.slice none 0 0, .slice none 0 0, .slice none 0 0]) ?_ 1 _ rfl; (with_reducible repeat (first | refine blk_drewN ?_ _ | refine blk_drew ?_ | refine blk_alloc ?_ _)); refine blk_put (cs := #[.slice none 0 0, .slice none 0 0, .slice none 0 0]) ?_ 0 _ rfl; (with_reducible repeat (first | refine blk_drewN ?_ _ | refine blk_drew ?_ | refine blk_alloc ?_ _)); exact BK341.out) Try.underlying61 rfl (by kernel_rfl)) rfl ?_
     exact ⟨_, _, _, fr_, by first | exact Kd.R_nil _ _ _ _ _ | exact Kd.N_nil _ _ _ _ _ | exact Kd.V_nil _ _ _ _ _ | exact Kd.Q_nil _ _ _ _ _ | exact Kd.S_nil _ _ _ _ _, by first | exact Kd.R_nil _ _ _ _ _ | exact Kd.N_nil _ _ _ _ _ | exact Kd.V_nil _ _ _ _ _ | exact Kd.Q_nil _ _ _ _ _ | exact Kd.S_nil _ _ _ _ _, by first | exact Kd.R_nil _ _ _ _ _ | exact Kd.N_nil _ _ _ _ _ | exact Kd.V_nil _ _ _ _ _ | exact Kd.Q_nil _ _ _ _ _ | exact Kd.S_nil _ _ _ _ _, hs_⟩
   ·rw [if_neg c43] at H
    have c43b0 : (t355 == 0) = false := beq_eq_false_iff_ne.mpr c43
    have c43b1 : (t355 != 0) = true := bne_iff_ne.mpr c43
    (first | rw [c43b0] | rw [c43b1] | (simp only [i64_w, i32_w]; first | rw [c43b0] | rw [c43b1]) | skip)
    simp only [Option.some.injEq, Prod.mk.injEq] at H
    obtain ⟨rfl, rfl, rfl, rfl⟩ := H
    have hnb82 := NB341_339.out
    have hnc82 := NB339_341.out
    have hnb83 := NB341_340.out
    have hnc83 := NB340_341.out
    have hnb84 := NB341_349.out
    have hnc84 := NB349_341.out
    have hcz85_0 : w38.cell? ⟨gb341, 0, none⟩ = some (.slice none 0 0) := (blk_cell BK341.out 0).trans rfl
    have hcz85_1 : w38.cell? ⟨gb341, 1, none⟩ = some (.slice none 0 0) := (blk_cell BK341.out 1).trans rfl
    have hcz85_2 : w38.cell? ⟨gb341, 2, none⟩ = some (.slice none 0 0) := (blk_cell BK341.out 2).trans rfl
    have hfz85_0 := blk_frozen BK341.out 0
    have hfz85_1 := blk_frozen BK341.out 1
    have hfz85_2 := blk_frozen BK341.out 2
    go_wp2
    refine bodyPost_ret (results_ct rfl _ _ gb341 61 #[.slice none 0 0, .slice none 0 0, .slice none 0 0] (0, 0) _ rfl (by (with_reducible repeat (first | refine blk_drewN ?_ _ | refine blk_drew ?_ | refine blk_alloc ?_ _)); refine blk_put (cs := #[.slice none 0 0, .slice none 0 0, .slice none 0 0]) ?_ 2 _ rfl; (with_reducible repeat (first | refine blk_drewN ?_ _ | refine blk_drew ?_ | refine blk_alloc ?_ _)); refine blk_put (cs := #[.slice none 0 0, .slice none 0 0, .slice none 0 0]) ?_ 1 _ rfl; (with_reducible repeat (first | refine blk_drewN ?_ _ | refine blk_drew ?_ | refine blk_alloc ?_ _)); refine blk_put (cs := #[.slice none 0 0, .slice none 0 0, .slice none 0 0]) ?_ 0 _ rfl; (with_reducible repeat (first | refine blk_drewN ?_ _ | refine blk_drew ?_ | refine blk_alloc ?_ _)); refine blk_far ?_ NB341_349.out _; (with_reducible repeat (first | refine blk_drewN ?_ _ | refine blk_drew ?_ | refine blk_alloc ?_ _)); exact BK341.out) Try.underlying61 rfl (by kernel_rfl)) rfl ?_
    exact ⟨_, _, _, fr_, by first | exact Kd.R_nil _ _ _ _ _ | exact Kd.N_nil _ _ _ _ _ | exact Kd.V_nil _ _ _ _ _ | exact Kd.Q_nil _ _ _ _ _ | exact Kd.S_nil _ _ _ _ _, by first | exact Kd.R_nil _ _ _ _ _ | exact Kd.N_nil _ _ _ _ _ | exact Kd.V_nil _ _ _ _ _ | exact Kd.Q_nil _ _ _ _ _ | exact Kd.S_nil _ _ _ _ _, by first | exact Kd.R_nil _ _ _ _ _ | exact Kd.N_nil _ _ _ _ _ | exact Kd.V_nil _ _ _ _ _ | exact Kd.Q_nil _ _ _ _ _ | exact Kd.S_nil _ _ _ _ _, hs_⟩
  ·rw [if_neg c30] at H
   have c30b0 : (t353 == 0) = false := beq_eq_false_iff_ne.mpr c30
   have c30b1 : (t353 != 0) = true := bne_iff_ne.mpr c30
   (first | rw [c30b0] | rw [c30b1] | (simp only [i64_w, i32_w]; first | rw [c30b0] | rw [c30b1]) | skip)
   simp only [Option.some.injEq, Prod.mk.injEq] at H
   obtain ⟨rfl, rfl, rfl, rfl⟩ := H
   have hnb86 := NB341_339.out
   have hnc86 := NB339_341.out
   have hnb87 := NB341_340.out
   have hnc87 := NB340_341.out
   have hnb88 := NB341_349.out
   have hnc88 := NB349_341.out
   have hcz89_0 : w29.cell? ⟨gb341, 0, none⟩ = some (.slice none 0 0) := (blk_cell BK341.out 0).trans rfl
   have hcz89_1 : w29.cell? ⟨gb341, 1, none⟩ = some (.slice none 0 0) := (blk_cell BK341.out 1).trans rfl
   have hcz89_2 : w29.cell? ⟨gb341, 2, none⟩ = some (.slice none 0 0) := (blk_cell BK341.out 2).trans rfl
   have hfz89_0 := blk_frozen BK341.out 0
   have hfz89_1 := blk_frozen BK341.out 1
   have hfz89_2 := blk_frozen BK341.out 2
   go_wp2
   refine bodyPost_ret (results_ct rfl _ _ gb341 61 #[.slice none 0 0, .slice none 0 0, .slice none 0 0] (0, 0) _ rfl (by (with_reducible repeat (first | refine blk_drewN ?_ _ | refine blk_drew ?_ | refine blk_alloc ?_ _)); refine blk_put (cs := #[.slice none 0 0, .slice none 0 0, .slice none 0 0]) ?_ 2 _ rfl; (with_reducible repeat (first | refine blk_drewN ?_ _ | refine blk_drew ?_ | refine blk_alloc ?_ _)); refine blk_put (cs := #[.slice none 0 0, .slice none 0 0, .slice none 0 0]) ?_ 1 _ rfl; (with_reducible repeat (first | refine blk_drewN ?_ _ | refine blk_drew ?_ | refine blk_alloc ?_ _)); refine blk_put (cs := #[.slice none 0 0, .slice none 0 0, .slice none 0 0]) ?_ 0 _ rfl; (with_reducible repeat (first | refine blk_drewN ?_ _ | refine blk_drew ?_ | refine blk_alloc ?_ _)); exact BK341.out) Try.underlying61 rfl (by kernel_rfl)) rfl ?_
   exact ⟨_, _, _, fr_, by first | exact Kd.R_nil _ _ _ _ _ | exact Kd.N_nil _ _ _ _ _ | exact Kd.V_nil _ _ _ _ _ | exact Kd.Q_nil _ _ _ _ _ | exact Kd.S_nil _ _ _ _ _, by first | exact Kd.R_nil _ _ _ _ _ | exact Kd.N_nil _ _ _ _ _ | exact Kd.V_nil _ _ _ _ _ | exact Kd.Q_nil _ _ _ _ _ | exact Kd.S_nil _ _ _ _ _, by first | exact Kd.R_nil _ _ _ _ _ | exact Kd.N_nil _ _ _ _ _ | exact Kd.V_nil _ _ _ _ _ | exact Kd.Q_nil _ _ _ _ _ | exact Kd.S_nil _ _ _ _ _, hs_⟩
 ·rw [if_neg c15] at H
  have c15b0 : (t348 == 0) = false := beq_eq_false_iff_ne.mpr c15
  have c15b1 : (t348 != 0) = true := bne_iff_ne.mpr c15
  (first | rw [c15b0] | rw [c15b1] | (simp only [i64_w, i32_w]; first | rw [c15b0] | rw [c15b1]) | skip)
  simp only [Option.some.injEq, Prod.mk.injEq] at H
  obtain ⟨rfl, rfl, rfl, rfl⟩ := H
  have hnb90 := NB341_339.out
  have hnc90 := NB339_341.out
  have hnb91 := NB341_340.out
  have hnc91 := NB340_341.out
  have hcz92_0 : w14.cell? ⟨gb341, 0, none⟩ = some (.slice none 0 0) := (blk_cell BK341.out 0).trans rfl
  have hcz92_1 : w14.cell? ⟨gb341, 1, none⟩ = some (.slice none 0 0) := (blk_cell BK341.out 1).trans rfl
  have hcz92_2 : w14.cell? ⟨gb341, 2, none⟩ = some (.slice none 0 0) := (blk_cell BK341.out 2).trans rfl
  have hfz92_0 := blk_frozen BK341.out 0
  have hfz92_1 := blk_frozen BK341.out 1
  have hfz92_2 := blk_frozen BK341.out 2
  go_wp2
  refine bodyPost_ret (results_ct rfl _ _ gb341 61 #[.slice none 0 0, .slice none 0 0, .slice none 0 0] (0, 0) _ rfl (by (with_reducible repeat (first | refine blk_drewN ?_ _ | refine blk_drew ?_ | refine blk_alloc ?_ _)); refine blk_put (cs := #[.slice none 0 0, .slice none 0 0, .slice none 0 0]) ?_ 2 _ rfl; (with_reducible repeat (first | refine blk_drewN ?_ _ | refine blk_drew ?_ | refine blk_alloc ?_ _)); refine blk_put (cs := #[.slice none 0 0, .slice none 0 0, .slice none 0 0]) ?_ 1 _ rfl; (with_reducible repeat (first | refine blk_drewN ?_ _ | refine blk_drew ?_ | refine blk_alloc ?_ _)); refine blk_put (cs := #[.slice none 0 0, .slice none 0 0, .slice none 0 0]) ?_ 0 _ rfl; (with_reducible repeat (first | refine blk_drewN ?_ _ | refine blk_drew ?_ | refine blk_alloc ?_ _)); exact BK341.out) Try.underlying61 rfl (by kernel_rfl)) rfl ?_
  exact ⟨_, _, _, fr_, by first | exact Kd.R_nil _ _ _ _ _ | exact Kd.N_nil _ _ _ _ _ | exact Kd.V_nil _ _ _ _ _ | exact Kd.Q_nil _ _ _ _ _ | exact Kd.S_nil _ _ _ _ _, by first | exact Kd.R_nil _ _ _ _ _ | exact Kd.N_nil _ _ _ _ _ | exact Kd.V_nil _ _ _ _ _ | exact Kd.Q_nil _ _ _ _ _ | exact Kd.S_nil _ _ _ _ _, by first | exact Kd.R_nil _ _ _ _ _ | exact Kd.N_nil _ _ _ _ _ | exact Kd.V_nil _ _ _ _ _ | exact Kd.Q_nil _ _ _ _ _ | exact Kd.S_nil _ _ _ _ _, hs_⟩
end Go.Proofs.Yteofgcmgncaojaa.PEuclidInverts
