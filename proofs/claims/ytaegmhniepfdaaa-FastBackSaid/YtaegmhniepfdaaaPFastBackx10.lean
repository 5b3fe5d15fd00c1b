/- The Go functions as Lean functions, each with the proof that its call comes to just that; written by a program of this session, by the words of the print. -/
import Derived.Test.YtaegmhniepfdaaaPFastBackx0
import Derived.Test.YtaegmhniepfdaaaPFastBackx1
import Derived.Test.YtaegmhniepfdaaaPFastBackx2
import Derived.Test.YtaegmhniepfdaaaPFastBackx6
import Derived.Test.YtaegmhniepfdaaaPFastBackx9
namespace Go.Proofs.Ytaegmhniepfdaaa.PFastBack
open Go.RowKit Go.Proofs.YtaegmhniepfdaaaW.PrintWords Go.Proofs.YtaegmhniepfdaaaW.PrintLast Go.Proofs.YtaegmhniepfdaaaW.PrintMore
attribute [local go_sem] max2_int min2_int max_two min_two max_three min_three max_four min_four   -- for this text's walks alone
set_option linter.unusedVariables false
set_option linter.unusedSimpArgs false
/-! ### poly_Trim: function 29 -/
def poly_Trim.f (k : Nat) (l0 : List Int) : Option (List Int) := (poly_trimmed.f k l0).bind fun t319 => ((slices_Clone_uint64_uint64.f t319).bind fun t322 => (some t322))
theorem poly_Trim.mono : ∀ a0 k, LeO (poly_Trim.f k a0) (poly_Trim.f (k + 1) a0) := by
 intro a0 k
 unfold poly_Trim.f
 repeat' first
   | (with_reducible exact poly_trimmed.mono _ _)
   | (with_reducible exact LeO.refl _)
   | (with_reducible exact LeO.none _)
   | (with_reducible refine LeO.ite ?_ ?_)
   | (with_reducible refine LeO.bind ?_ (fun _ => ?_))
   | exact poly_trimmed.mono _ _
   | exact LeO.none _
   | refine LeO.ite ?_ ?_
   | refine LeO.bind ?_ (fun _ => ?_)
set_option maxHeartbeats 8000000 in
set_option maxRecDepth 100000 in
theorem poly_Trim.calls (k : Nat) (A0 : Option Addr) (c0 : Nat) (l0 : List Int) (r : List Int) (w : World) (hr0 : Kd.C (Kd.int .u64) w A0 l0.length l0) (hc0 : l0.length ≤ c0) (h : poly_Trim.f k l0 = some r) :
  Calls Try.prog 29 #[.slice A0 l0.length c0] w fun e w' => ∃ v0_ : Value, e = .returned (v0_) ∧ Kd.R (Kd.int .u64) 33 w' w.heap.size (fun _ => True) v0_ r ∧ Below w.heap.size w w' := by
 have HR0 := Aside0.mk hr0
 have HC0 := Aside0.mk hc0
 clear hr0 hc0
 have HB := A_ (Below.refl w.heap.size w)
 have H : ((poly_trimmed.f k l0).bind fun t319 => ((slices_Clone_uint64_uint64.f t319).bind fun t322 => (some t322))) = some r := h
 clear h
 replace H := Option.bind_eq_some_iff.mp H
 obtain ⟨t319, A20, H⟩ := H
 replace H : ((slices_Clone_uint64_uint64.f t319).bind fun t322 => (some t322)) = some r := H
 have A2 := Aside0.mk A20
 clear A20
 replace H := Option.bind_eq_some_iff.mp H
 obtain ⟨t322, A30, H⟩ := H
 replace H : (some t322) = some r := H
 have A3 := Aside0.mk A30
 clear A30
 obtain rfl := Option.some.inj H
 go_enter Try.func29, Try.ntmps29
 go_wp2_with (first | ((with_reducible refine gate_callee (f := 44) rfl ?_); refine goesM_ (some 4) Try.func44 #[.slice A0 l0.length c0] ?_; (with_reducible refine (poly_trimmed.calls k (fun k_ => k_ < w.heap.size) _ _ l0 t319 _ ?side1 A2.out).mono ?_); (case side1 => exact Kd.V_mk HC0.out (Kd.F_below (Kd.C_F (Kd.heap_int .u64) HR0.out) hb_)); rintro e w4 ⟨v320, rfl, ho0, hb⟩; refine ⟨_, rfl, ?_⟩; have n0_ := A_ (Kd.V_lower (Kd.V_mono (ok' := fun k_ => True) ho0 (fun k_ hk_ => trivial)) (below_size hb_)); have n1_ := A_ (below_step hb_ hb); clear HB; have HO321 := n0_; have HB := n1_; clear n0_ n1_; (try clear hb); (try clear ho0); obtain ⟨Ao5, co5, eo5⟩ := Kd.V_slice HO321.out; subst eo5) | ((with_reducible refine gate_callee (f := 46) rfl ?_); refine goesM_ (some 5) Try.func46 #[.slice Ao5 t319.length co5] ?_; (with_reducible refine (slices_Clone_uint64_uint64.calls _ _ t319 t322 _ ?side1 ?side2 A3.out).mono ?_); (case side1 => repeat (first | exact (Kd.V_reads' HO321.out).2.2 | (with_reducible refine Kd.C_alloc ?_ _) | (with_reducible refine Kd.C_drewN ?_ _) | (with_reducible refine Kd.C_drew ?_))); (case side2 => exact (Kd.V_reads' HO321.out).2.1); rintro e w6 ⟨v323, rfl, ho0, hb⟩; refine ⟨_, rfl, ?_⟩; have n0_ := A_ (Kd.V_elder' (nV_ HO321) (Kd.R_base ho0) hb); have n1_ := A_ (Kd.R_lower ho0 (below_size hb_)); have n2_ := A_ (below_step hb_ hb); clear HO321 HB; have HO321 := n0_; have HO324 := n1_; have HB := n2_; clear n0_ n1_ n2_; (try clear hb); (try clear ho0)))
 go_ret
 exact ⟨_, fr_, nR_ HO324, hb_⟩
/-! ### fast_checked: function 27 -/
def fast_checked.f (k : Nat) (a0 : Int) (l1 : List Int) (l2 : List Int) : Option (List Int × List Int × Int) := (fast_may.f k a0 (([l1, l2] : List (List Int)))).bind fun t328 => (if t328 = 0 then ((poly_Trim.f k l1).bind fun t329 => ((poly_Trim.f k l2).bind fun t332 => (if (t329.length : Int) > 0 then (if (t332.length : Int) > 0 then (if (wrap64 ((wrap64 ((t329.length : Int) + (t332.length : Int))) - 1)) > 4096 then (some (([] : List Int), ([] : List Int), 4)) else (some (t329, t332, 0))) else (some (t329, t332, 0))) else (some (t329, t332, 0))))) else (some (([] : List Int), ([] : List Int), t328)))
theorem fast_checked.mono : ∀ a0 a1 a2 k, LeO (fast_checked.f k a0 a1 a2) (fast_checked.f (k + 1) a0 a1 a2) := by
 intro a0 a1 a2 k
 unfold fast_checked.f
 repeat' first
   | (with_reducible exact fast_may.mono _ _ _)
   | (with_reducible exact poly_Trim.mono _ _)
   | (with_reducible exact LeO.refl _)
   | (with_reducible exact LeO.none _)
   | (with_reducible refine LeO.ite ?_ ?_)
   | (with_reducible refine LeO.bind ?_ (fun _ => ?_))
   | exact fast_may.mono _ _ _
   | exact poly_Trim.mono _ _
   | exact LeO.none _
   | refine LeO.ite ?_ ?_
   | refine LeO.bind ?_ (fun _ => ?_)
set_option maxHeartbeats 8000000 in
set_option maxRecDepth 100000 in
theorem fast_checked.calls (k : Nat) (a0 : Int) (P1_ : Nat → Prop) (A1 : Option Addr) (c1 : Nat) (l1 : List Int) (P2_ : Nat → Prop) (A2 : Option Addr) (c2 : Nat) (l2 : List Int) (r1 : List Int) (r2 : List Int) (r3 : Int) (w : World) (hs1 : Kd.V (Kd.int .u64) 33 w w.heap.size (fun k_ => P1_ k_) (.slice A1 l1.length c1) l1) (hs2 : Kd.V (Kd.int .u64) 33 w w.heap.size (fun k_ => P2_ k_) (.slice A2 l2.length c2) l2) (h : fast_checked.f k a0 l1 l2 = some (r1, r2, r3)) :
  Calls Try.prog 27 #[.int .u8 a0, .slice A1 l1.length c1, .slice A2 l2.length c2] w fun e w' => ∃ v0_ v1_ : Value, e = .returned (.tuple #[v0_, v1_, .int .i64 r3]) ∧ Kd.R (Kd.int .u64) 33 w' w.heap.size (fun k_ => (w.heap.size ≤ k_) ∧ some k_ ≠ (v1_ : Value).ownBlock) v0_ r1 ∧ Kd.R (Kd.int .u64) 33 w' w.heap.size (fun k_ => (w.heap.size ≤ k_) ∧ some k_ ≠ (v0_ : Value).ownBlock) v1_ r2 ∧ Below w.heap.size w w' := by
 have HO1 := A_ (show Kd.V (Kd.int .u64) 33 w w.heap.size (fun k_ => ((P1_ k_ ∨ P2_ k_) ∨ w.heap.size ≤ k_)) (.slice A1 l1.length c1) l1 from Kd.V_mono hs1 (fun k_ hk => .inl (.inl hk)))
 have HO2 := A_ (show Kd.V (Kd.int .u64) 33 w w.heap.size (fun k_ => ((P1_ k_ ∨ P2_ k_) ∨ w.heap.size ≤ k_)) (.slice A2 l2.length c2) l2 from Kd.V_mono hs2 (fun k_ hk => .inl (.inr hk)))
 have HB := A_ (Below.refl w.heap.size w)
 have H : ((fast_may.f k a0 (([l1, l2] : List (List Int)))).bind fun t328 => (if t328 = 0 then ((poly_Trim.f k l1).bind fun t329 => ((poly_Trim.f k l2).bind fun t332 => (if (t329.length : Int) > 0 then (if (t332.length : Int) > 0 then (if (wrap64 ((wrap64 ((t329.length : Int) + (t332.length : Int))) - 1)) > 4096 then (some (([] : List Int), ([] : List Int), 4)) else (some (t329, t332, 0))) else (some (t329, t332, 0))) else (some (t329, t332, 0))))) else (some (([] : List Int), ([] : List Int), t328)))) = some (r1, r2, r3) := h
 clear h
 obtain ⟨y325, hy325⟩ : ∃ y_ : List (List Int), y_ = (([l1, l2] : List (List Int))) := ⟨_, rfl⟩
 replace H : ((fast_may.f k a0 y325).bind fun t328 => (if t328 = 0 then ((poly_Trim.f k l1).bind fun t329 => ((poly_Trim.f k l2).bind fun t332 => (if (t329.length : Int) > 0 then (if (t332.length : Int) > 0 then (if (wrap64 ((wrap64 ((t329.length : Int) + (t332.length : Int))) - 1)) > 4096 then (some (([] : List Int), ([] : List Int), 4)) else (some (t329, t332, 0))) else (some (t329, t332, 0))) else (some (t329, t332, 0))))) else (some (([] : List Int), ([] : List Int), t328)))) = some (r1, r2, r3) := by first | (rw [hy325]; with_reducible exact H) | (have H2_ := (Option.bind_some _ _).symm.trans H; rw [hy325]; with_reducible exact H2_) | (have H2_ := (Option.bind_some _ _).symm.trans H; with_reducible exact H2_) | with_reducible exact H | (rw [hy325]; exact H) | exact H
 have Ny325 := Aside0.mk hy325
 clear hy325
 replace H := Option.bind_eq_some_iff.mp H
 obtain ⟨t328, A40, H⟩ := H
 (try dsimp only at H)
 have A4 := Aside0.mk A40
 clear A40
 have HC5 := Aside0.mk H
 clear H
 go_enter Try.func27, Try.ntmps27
 go_upto_if 16 with (first | ((with_reducible refine gate_dst (N := 13) rfl ?_); (try (refine gate_guard (by rfl) ?_; dsimp only)); refine Kd.N_lit (Kd.slice 33 (Kd.int .u64)) _ 22 ?hg (N' := 13) ?hd (xs := ([l1, l2] : List (List Int))) (inner := [.slice A1 l1.length c1, .slice A2 l2.length c2]) (ok := (fun k_ => ((P1_ k_ ∨ P2_ k_) ∨ w.heap.size ≤ k_))) (okp := (fun k_ => ((P1_ k_ ∨ P2_ k_) ∨ w.heap.size ≤ k_))) ?hr ?hp (fun _ hk => hk) ((show ∀ k_, w.heap.size ≤ k_ → (fun k_ => ((P1_ k_ ∨ P2_ k_) ∨ w.heap.size ≤ k_)) k_ from fun k_ hk => (.inr (Nat.le_trans (below_size hb_) hk))) _ (Nat.le_refl _)) (Below.refl _ _) (Nat.le_refl _) (by simp) ?_; (case hd => rfl); (case hg => rfl); (case hr => first | (go_simp; done) | (go_simp; rfl)); (case hp => exact (Reps.one (show Kd.FK (Kd.slice 33 (Kd.int .u64)) _ _ l1 [.slice A1 l1.length c1] from (Kd.FK_slice_mk (Kd.V_reads' (Kd.V_mono (ok' := (fun k_ => ((P1_ k_ ∨ P2_ k_) ∨ w.heap.size ≤ k_))) (HO1.out) (fun k_ hk => hk))).2.1 (Kd.V_F (Kd.V_mono (ok' := (fun k_ => ((P1_ k_ ∨ P2_ k_) ∨ w.heap.size ≤ k_))) (HO1.out) (fun k_ hk => hk))))) (Reps.one (show Kd.FK (Kd.slice 33 (Kd.int .u64)) _ _ l2 [.slice A2 l2.length c2] from (Kd.FK_slice_mk (Kd.V_reads' (Kd.V_mono (ok' := (fun k_ => ((P1_ k_ ∨ P2_ k_) ∨ w.heap.size ≤ k_))) (HO2.out) (fun k_ hk => hk))).2.1 (Kd.V_F (Kd.V_mono (ok' := (fun k_ => ((P1_ k_ ∨ P2_ k_) ∨ w.heap.size ≤ k_))) (HO2.out) (fun k_ hk => hk))))) (Reps.none _ _)))); intro v326 w6 ho7 hb hg_ hnew_; clear hg_ hnew_; (first | rw [← Ny325.out] at ho7 | (simp only [Int.reduceToNat] at ho7; rw [← Ny325.out] at ho7)); have n0_ := A_ (Kd.V_elder' (nV_ HO1) (Kd.N_base ho7) hb); have n1_ := A_ (Kd.V_elder' (nV_ HO2) (Kd.N_base ho7) hb); have n2_ := A_ (Kd.N_lower ho7 (below_size hb_)); have n3_ := A_ (below_step hb_ hb); clear HO1 HO2 HB; have HO1 := n0_; have HO2 := n1_; have HO327 := n2_; have HB := n3_; clear n0_ n1_ n2_ n3_; clear hb ho7; obtain ⟨Ao8, co8, eo8⟩ := Kd.N_slice HO327.out; subst eo8) | ((with_reducible refine gate_callee (f := 35) rfl ?_); refine goesM_ (some 14) Try.func35 #[.int .u8 a0, .slice Ao8 y325.length co8] ?_; (with_reducible refine (fast_may.calls k a0 _ _ y325 t328 _ ?side1 ?side2 A4.out).mono ?_); (case side1 => repeat (first | exact (Kd.N_reads' HO327.out).2.2 | (with_reducible refine Kd.C_alloc ?_ _) | (with_reducible refine Kd.C_drewN ?_ _) | (with_reducible refine Kd.C_drew ?_))); (case side2 => exact (Kd.N_reads' HO327.out).2.1); rintro e w9 ⟨rfl, hb⟩; refine ⟨_, rfl, ?_⟩; have n0_ := A_ (Kd.V_below (nV_ HO1) hb); have n1_ := A_ (Kd.V_below (nV_ HO2) hb); have n2_ := A_ (Kd.N_below (nN_ HO327) hb); have n3_ := A_ (below_step hb_ hb); clear HO1 HO2 HO327 HB; have HO1 := n0_; have HO2 := n1_; have HO327 := n2_; have HB := n3_; clear n0_ n1_ n2_ n3_; (try clear hb)))
 (try simp only [Act.put, List.setIfInBounds_toArray, List.set_cons_zero, List.set_cons_succ])
 have H := HC5.out
 clear HC5
 by_cases c10 : t328 = 0
 ·rw [if_pos c10] at H
  have c10b0 : (t328 == 0) = true := beq_iff_eq.mpr c10
  have c10b1 : (t328 != 0) = false := bne_eq_false_iff_eq.mpr c10
  clear c10
  (first | rw [c10b0] | rw [c10b1] | (simp only [i64_w, i32_w]; first | rw [c10b0] | rw [c10b1]) | skip)
  replace H := Option.bind_eq_some_iff.mp H
  obtain ⟨t329, A110, H⟩ := H
  (try dsimp only at H)
  have A11 := Aside0.mk A110
  clear A110
  replace H := Option.bind_eq_some_iff.mp H
  obtain ⟨t332, A120, H⟩ := H
  replace H : (if (t329.length : Int) > 0 then (if (t332.length : Int) > 0 then (if (wrap64 ((wrap64 ((t329.length : Int) + (t332.length : Int))) - 1)) > 4096 then (some (([] : List Int), ([] : List Int), 4)) else (some (t329, t332, 0))) else (some (t329, t332, 0))) else (some (t329, t332, 0))) = some (r1, r2, r3) := H
  have A12 := Aside0.mk A120
  clear A120
  by_cases c13 : (t329.length : Int) > 0
  ·rw [if_pos c13] at H
   have c13b0 : decide (0 < (t329.length : Int)) = true := decide_eq_true c13
   have c13b1 : decide (0 < t329.length) = true := decide_eq_true (by omega)
   clear c13
   by_cases c14 : (t332.length : Int) > 0
   ·rw [if_pos c14] at H
    have c14b0 : decide (0 < (t332.length : Int)) = true := decide_eq_true c14
    have c14b1 : decide (0 < t332.length) = true := decide_eq_true (by omega)
    clear c14
    have HC15 := Aside0.mk H
    clear H
    go_upto_if 38 with (first | ((with_reducible refine gate_callee (f := 29) rfl ?_); refine goesM_ (some 19) Try.func29 #[.slice A1 l1.length c1] ?_; (with_reducible refine (poly_Trim.calls k _ _ l1 t329 _ ?side1 ?side2 A11.out).mono ?_); (case side1 => repeat (first | exact (Kd.V_reads' HO1.out).2.2 | (with_reducible refine Kd.C_alloc ?_ _) | (with_reducible refine Kd.C_drewN ?_ _) | (with_reducible refine Kd.C_drew ?_))); (case side2 => exact (Kd.V_reads' HO1.out).2.1); rintro e w16 ⟨v330, rfl, ho0, hb⟩; refine ⟨_, rfl, ?_⟩; have n0_ := A_ (Kd.V_elder' (nV_ HO1) (Kd.R_base ho0) hb); have n1_ := A_ (Kd.V_elder' (nV_ HO2) (Kd.R_base ho0) hb); have n2_ := A_ (Kd.N_elder' (nN_ HO327) (Kd.R_base ho0) hb); have n3_ := A_ (Kd.R_lower (Kd.R_newM (M := fun k_ => (w.heap.size ≤ k_)) ho0 (below_size hb_) (fun k_ h_ => h_)) (below_size hb_)); have n4_ := A_ (below_step hb_ hb); clear HO1 HO2 HO327 HB; have HO1 := n0_; have HO2 := n1_; have HO327 := n2_; have HO331 := n3_; have HB := n4_; clear n0_ n1_ n2_ n3_ n4_; (try clear hb); (try clear ho0)) | ((with_reducible refine gate_callee (f := 29) rfl ?_); refine goesM_ (some 21) Try.func29 #[.slice A2 l2.length c2] ?_; (with_reducible refine (poly_Trim.calls k _ _ l2 t332 _ ?side1 ?side2 A12.out).mono ?_); (case side1 => repeat (first | exact (Kd.V_reads' HO2.out).2.2 | (with_reducible refine Kd.C_alloc ?_ _) | (with_reducible refine Kd.C_drewN ?_ _) | (with_reducible refine Kd.C_drew ?_))); (case side2 => exact (Kd.V_reads' HO2.out).2.1); rintro e w17 ⟨v333, rfl, ho0, hb⟩; refine ⟨_, rfl, ?_⟩; have n0_ := A_ (Kd.V_elder' (nV_ HO1) (Kd.R_base ho0) hb); have n1_ := A_ (Kd.V_elder' (nV_ HO2) (Kd.R_base ho0) hb); have n2_ := A_ (Kd.N_elder' (nN_ HO327) (Kd.R_base ho0) hb); have n3_ := A_ (Kd.R_elder' (nR_ HO331) (Kd.R_base ho0) hb); have n4_ := A_ (Kd.R_lower (Kd.R_new' (Kd.R_newM (M := fun k_ => (w.heap.size ≤ k_)) ho0 (below_size hb_) (fun k_ h_ => h_)) (Kd.R_lt (nR_ HO331))) (below_size hb_)); have n5_ := A_ (below_step hb_ hb); clear HO1 HO2 HO327 HO331 HB; have HO1 := n0_; have HO2 := n1_; have HO327 := n2_; have HO331 := n3_; have HO334 := n4_; have HB := n5_; clear n0_ n1_ n2_ n3_ n4_ n5_; (try clear hb); (try clear ho0); obtain ⟨Ao18, co18, eo18⟩ := Kd.R_slice HO331.out; subst eo18; obtain ⟨Ao19, co19, eo19⟩ := Kd.R_slice HO334.out; subst eo19))
    (try simp only [Act.put, List.setIfInBounds_toArray, List.set_cons_zero, List.set_cons_succ])
    have H := HC15.out
    clear HC15
    by_cases c20 : (wrap64 ((wrap64 ((t329.length : Int) + (t332.length : Int))) - 1)) > 4096
    ·rw [if_pos c20] at H
     have c20b0 : decide (4096 < (wrap64 ((wrap64 ((t329.length : Int) + (t332.length : Int))) - 1))) = true := decide_eq_true c20
     clear c20
     (first | rw [c20b0] | (simp only [i64_w, i32_w]; first | rw [c20b0]) | skip)
     simp only [Option.some.injEq, Prod.mk.injEq] at H
     obtain ⟨rfl, rfl, rfl⟩ := H
     go_wp2
     go_ret3
     exact ⟨_, _, fr_, by first | exact Kd.R_nil _ _ _ _ _ | exact Kd.N_nil _ _ _ _ _ | exact Kd.V_nil _ _ _ _ _ | exact Kd.Q_nil _ _ _ _ _ | exact Kd.S_nil _ _ _ _ _, by first | exact Kd.R_nil _ _ _ _ _ | exact Kd.N_nil _ _ _ _ _ | exact Kd.V_nil _ _ _ _ _ | exact Kd.Q_nil _ _ _ _ _ | exact Kd.S_nil _ _ _ _ _, hb_⟩
    ·rw [if_neg c20] at H
     have c20b0 : decide (4096 < (wrap64 ((wrap64 ((t329.length : Int) + (t332.length : Int))) - 1))) = false := decide_eq_false c20
     clear c20
     (first | rw [c20b0] | (simp only [i64_w, i32_w]; first | rw [c20b0]) | skip)
     simp only [Option.some.injEq, Prod.mk.injEq] at H
     obtain ⟨rfl, rfl, rfl⟩ := H
     go_wp2
     go_ret3
     exact ⟨_, _, fr_, by (with_reducible repeat (first | apply Kd.R_alloc | apply Kd.R_drewN | apply Kd.R_drew)); exact Kd.R_mono HO331.out (fun _ hk => ⟨hk.1.1, hk.2⟩), by (with_reducible repeat (first | apply Kd.R_alloc | apply Kd.R_drewN | apply Kd.R_drew)); exact Kd.R_mono HO334.out (fun _ hk => ⟨hk.1.1, hk.2⟩), hb_⟩
   ·rw [if_neg c14] at H
    have c14b0 : decide (0 < (t332.length : Int)) = false := decide_eq_false c14
    have c14b1 : decide (0 < t332.length) = false := decide_eq_false (by omega)
    clear c14
    simp only [Option.some.injEq, Prod.mk.injEq] at H
    obtain ⟨rfl, rfl, rfl⟩ := H
    go_wp2_with (first | ((with_reducible refine gate_callee (f := 29) rfl ?_); refine goesM_ (some 19) Try.func29 #[.slice A1 l1.length c1] ?_; (with_reducible refine (poly_Trim.calls k _ _ l1 t329 _ ?side1 ?side2 A11.out).mono ?_); (case side1 => repeat (first | exact (Kd.V_reads' HO1.out).2.2 | (with_reducible refine Kd.C_alloc ?_ _) | (with_reducible refine Kd.C_drewN ?_ _) | (with_reducible refine Kd.C_drew ?_))); (case side2 => exact (Kd.V_reads' HO1.out).2.1); rintro e w21 ⟨v330, rfl, ho0, hb⟩; refine ⟨_, rfl, ?_⟩; have n0_ := A_ (Kd.V_elder' (nV_ HO1) (Kd.R_base ho0) hb); have n1_ := A_ (Kd.V_elder' (nV_ HO2) (Kd.R_base ho0) hb); have n2_ := A_ (Kd.N_elder' (nN_ HO327) (Kd.R_base ho0) hb); have n3_ := A_ (Kd.R_lower (Kd.R_newM (M := fun k_ => (w.heap.size ≤ k_)) ho0 (below_size hb_) (fun k_ h_ => h_)) (below_size hb_)); have n4_ := A_ (below_step hb_ hb); clear HO1 HO2 HO327 HB; have HO1 := n0_; have HO2 := n1_; have HO327 := n2_; have HO331 := n3_; have HB := n4_; clear n0_ n1_ n2_ n3_ n4_; (try clear hb); (try clear ho0)) | ((with_reducible refine gate_callee (f := 29) rfl ?_); refine goesM_ (some 21) Try.func29 #[.slice A2 l2.length c2] ?_; (with_reducible refine (poly_Trim.calls k _ _ l2 t332 _ ?side1 ?side2 A12.out).mono ?_); (case side1 => repeat (first | exact (Kd.V_reads' HO2.out).2.2 | (with_reducible refine Kd.C_alloc ?_ _) | (with_reducible refine Kd.C_drewN ?_ _) | (with_reducible refine Kd.C_drew ?_))); (case side2 => exact (Kd.V_reads' HO2.out).2.1); rintro e w22 ⟨v333, rfl, ho0, hb⟩; refine ⟨_, rfl, ?_⟩; have n0_ := A_ (Kd.V_elder' (nV_ HO1) (Kd.R_base ho0) hb); have n1_ := A_ (Kd.V_elder' (nV_ HO2) (Kd.R_base ho0) hb); have n2_ := A_ (Kd.N_elder' (nN_ HO327) (Kd.R_base ho0) hb); have n3_ := A_ (Kd.R_elder' (nR_ HO331) (Kd.R_base ho0) hb); have n4_ := A_ (Kd.R_lower (Kd.R_new' (Kd.R_newM (M := fun k_ => (w.heap.size ≤ k_)) ho0 (below_size hb_) (fun k_ h_ => h_)) (Kd.R_lt (nR_ HO331))) (below_size hb_)); have n5_ := A_ (below_step hb_ hb); clear HO1 HO2 HO327 HO331 HB; have HO1 := n0_; have HO2 := n1_; have HO327 := n2_; have HO331 := n3_; have HO334 := n4_; have HB := n5_; clear n0_ n1_ n2_ n3_ n4_ n5_; (try clear hb); (try clear ho0); obtain ⟨Ao23, co23, eo23⟩ := Kd.R_slice HO331.out; subst eo23; obtain ⟨Ao24, co24, eo24⟩ := Kd.R_slice HO334.out; subst eo24))
    go_ret3
    exact ⟨_, _, fr_, by (with_reducible repeat (first | apply Kd.R_alloc | apply Kd.R_drewN | apply Kd.R_drew)); exact Kd.R_mono HO331.out (fun _ hk => ⟨hk.1.1, hk.2⟩), by (with_reducible repeat (first | apply Kd.R_alloc | apply Kd.R_drewN | apply Kd.R_drew)); exact Kd.R_mono HO334.out (fun _ hk => ⟨hk.1.1, hk.2⟩), hb_⟩
  ·rw [if_neg c13] at H
   have c13b0 : decide (0 < (t329.length : Int)) = false := decide_eq_false c13
   have c13b1 : decide (0 < t329.length) = false := decide_eq_false (by omega)
   clear c13
   simp only [Option.some.injEq, Prod.mk.injEq] at H
   obtain ⟨rfl, rfl, rfl⟩ := H
   go_wp2_with (first | ((with_reducible refine gate_callee (f := 29) rfl ?_); refine goesM_ (some 19) Try.func29 #[.slice A1 l1.length c1] ?_; (with_reducible refine (poly_Trim.calls k _ _ l1 t329 _ ?side1 ?side2 A11.out).mono ?_); (case side1 => repeat (first | exact (Kd.V_reads' HO1.out).2.2 | (with_reducible refine Kd.C_alloc ?_ _) | (with_reducible refine Kd.C_drewN ?_ _) | (with_reducible refine Kd.C_drew ?_))); (case side2 => exact (Kd.V_reads' HO1.out).2.1); rintro e w25 ⟨v330, rfl, ho0, hb⟩; refine ⟨_, rfl, ?_⟩; have n0_ := A_ (Kd.V_elder' (nV_ HO1) (Kd.R_base ho0) hb); have n1_ := A_ (Kd.V_elder' (nV_ HO2) (Kd.R_base ho0) hb); have n2_ := A_ (Kd.N_elder' (nN_ HO327) (Kd.R_base ho0) hb); have n3_ := A_ (Kd.R_lower (Kd.R_newM (M := fun k_ => (w.heap.size ≤ k_)) ho0 (below_size hb_) (fun k_ h_ => h_)) (below_size hb_)); have n4_ := A_ (below_step hb_ hb); clear HO1 HO2 HO327 HB; have HO1 := n0_; have HO2 := n1_; have HO327 := n2_; have HO331 := n3_; have HB := n4_; clear n0_ n1_ n2_ n3_ n4_; (try clear hb); (try clear ho0)) | ((with_reducible refine gate_callee (f := 29) rfl ?_); refine goesM_ (some 21) Try.func29 #[.slice A2 l2.length c2] ?_; (with_reducible refine (poly_Trim.calls k _ _ l2 t332 _ ?side1 ?side2 A12.out).mono ?_); (case side1 => repeat (first | exact (Kd.V_reads' HO2.out).2.2 | (with_reducible refine Kd.C_alloc ?_ _) | (with_reducible refine Kd.C_drewN ?_ _) | (with_reducible refine Kd.C_drew ?_))); (case side2 => exact (Kd.V_reads' HO2.out).2.1); rintro e w26 ⟨v333, rfl, ho0, hb⟩; refine ⟨_, rfl, ?_⟩; have n0_ := A_ (Kd.V_elder' (nV_ HO1) (Kd.R_base ho0) hb); have n1_ := A_ (Kd.V_elder' (nV_ HO2) (Kd.R_base ho0) hb); have n2_ := A_ (Kd.N_elder' (nN_ HO327) (Kd.R_base ho0) hb); have n3_ := A_ (Kd.R_elder' (nR_ HO331) (Kd.R_base ho0) hb); have n4_ := A_ (Kd.R_lower (Kd.R_new' (Kd.R_newM (M := fun k_ => (w.heap.size ≤ k_)) ho0 (below_size hb_) (fun k_ h_ => h_)) (Kd.R_lt (nR_ HO331))) (below_size hb_)); have n5_ := A_ (below_step hb_ hb); clear HO1 HO2 HO327 HO331 HB; have HO1 := n0_; have HO2 := n1_; have HO327 := n2_; have HO331 := n3_; have HO334 := n4_; have HB := n5_; clear n0_ n1_ n2_ n3_ n4_ n5_; (try clear hb); (try clear ho0); obtain ⟨Ao27, co27, eo27⟩ := Kd.R_slice HO331.out; subst eo27))
   go_ret3
   exact ⟨_, _, fr_, by (with_reducible repeat (first | apply Kd.R_alloc | apply Kd.R_drewN | apply Kd.R_drew)); exact Kd.R_mono HO331.out (fun _ hk => ⟨hk.1.1, hk.2⟩), by (with_reducible repeat (first | apply Kd.R_alloc | apply Kd.R_drewN | apply Kd.R_drew)); exact Kd.R_mono HO334.out (fun _ hk => ⟨hk.1.1, hk.2⟩), hb_⟩
 ·rw [if_neg c10] at H
  have c10b0 : (t328 == 0) = false := beq_eq_false_iff_ne.mpr c10
  have c10b1 : (t328 != 0) = true := bne_iff_ne.mpr c10
  (first | rw [c10b0] | rw [c10b1] | (simp only [i64_w, i32_w]; first | rw [c10b0] | rw [c10b1]) | skip)
  simp only [Option.some.injEq, Prod.mk.injEq] at H
  obtain ⟨rfl, rfl, rfl⟩ := H
  go_wp2
  go_ret3
  exact ⟨_, _, fr_, by first | exact Kd.R_nil _ _ _ _ _ | exact Kd.N_nil _ _ _ _ _ | exact Kd.V_nil _ _ _ _ _ | exact Kd.Q_nil _ _ _ _ _ | exact Kd.S_nil _ _ _ _ _, by first | exact Kd.R_nil _ _ _ _ _ | exact Kd.N_nil _ _ _ _ _ | exact Kd.V_nil _ _ _ _ _ | exact Kd.Q_nil _ _ _ _ _ | exact Kd.S_nil _ _ _ _ _, hb_⟩
/-! ### poly_may: function 43 -/
def poly_may.l0 : Nat → Int → Int → List (List Int) → Int → Int → Option (Int)
 | 0, _, _, _, _, _ => none
 | k + 1, x0, x5, x11, x12, x13 => if x13 < x12 then (if 0 ≤ x13 then (if x13 < (x11.length : Int) then ((field_In.f k x0 (rd_L1 x11 x13)).bind fun t337 => (if t337 = true then (if ((rd_L1 x11 x13).length : Int) > 4096 then (poly_may.l0 k x0 4 x11 x12 (wrap64 (x13 + 1))) else (poly_may.l0 k x0 x5 x11 x12 (wrap64 (x13 + 1)))) else (some 2))) else (none)) else (none)) else (some x5)
def poly_may.f (k : Nat) (a0 : Int) (l1 : List (List Int)) : Option (Int) := (field_In.f k a0 ([] : List Int)).bind fun t335 => (if t335 = true then (poly_may.l0 k a0 0 l1 (l1.length : Int) 0) else (some 2))
theorem poly_may.mono_l : ∀ k, (∀ y0 y1 y2 y3 y4, LeO (poly_may.l0 k y0 y1 y2 y3 y4) (poly_may.l0 (k + 1) y0 y1 y2 y3 y4))
 | 0 => fun _ _ _ _ _ r h => by simp [poly_may.l0] at h
 | k + 1 => by
  have ih0 := poly_may.mono_l k
  ·intro y0 y1 y2 y3 y4
   unfold poly_may.l0
   repeat' first
   | (with_reducible exact ih0 _ _ _ _ _)
   | (with_reducible exact field_In.mono _ _ _)
   | (with_reducible exact LeO.refl _)
   | (with_reducible exact LeO.none _)
   | (with_reducible refine LeO.ite ?_ ?_)
   | (with_reducible refine LeO.bind ?_ (fun _ => ?_))
   | exact ih0 _ _ _ _ _
   | exact field_In.mono _ _ _
   | exact LeO.none _
   | refine LeO.ite ?_ ?_
   | refine LeO.bind ?_ (fun _ => ?_)
theorem poly_may.mono : ∀ a0 a1 k, LeO (poly_may.f k a0 a1) (poly_may.f (k + 1) a0 a1) := by
 intro a0 a1 k
 have ih0 := poly_may.mono_l k
 unfold poly_may.f
 repeat' first
   | (with_reducible exact ih0 _ _ _ _ _)
   | (with_reducible exact field_In.mono _ _ _)
   | (with_reducible exact LeO.refl _)
   | (with_reducible exact LeO.none _)
   | (with_reducible refine LeO.ite ?_ ?_)
   | (with_reducible refine LeO.bind ?_ (fun _ => ?_))
   | exact ih0 _ _ _ _ _
   | exact field_In.mono _ _ _
   | exact LeO.none _
   | refine LeO.ite ?_ ?_
   | refine LeO.bind ?_ (fun _ => ?_)
set_option maxHeartbeats 8000000 in
set_option maxRecDepth 100000 in
theorem poly_may.calls (k : Nat) (a0 : Int) (A1 : Option Addr) (c1 : Nat) (l1 : List (List Int)) (r : Int) (w : World) (hr1 : Kd.C (Kd.slice 33 (Kd.int .u64)) w A1 l1.length l1) (hc1 : l1.length ≤ c1) (h : poly_may.f k a0 l1 = some r) :
  Calls Try.prog 43 #[.int .u8 a0, .slice A1 l1.length c1] w fun e w' => e = .returned (.int .i64 r) ∧ Below w.heap.size w w' := by
 have HR1 := Aside0.mk hr1
 have HC1 := Aside0.mk hc1
 clear hr1 hc1
 have HB := A_ (Below.refl w.heap.size w)
 have H : ((field_In.f k a0 ([] : List Int)).bind fun t335 => (if t335 = true then (poly_may.l0 k a0 0 l1 (l1.length : Int) 0) else (some 2))) = some r := h
 clear h
 replace H := Option.bind_eq_some_iff.mp H
 obtain ⟨t335, A30, H⟩ := H
 replace H : (if t335 = true then (poly_may.l0 k a0 0 l1 (l1.length : Int) 0) else (some 2)) = some r := H
 have A3 := Aside0.mk A30
 clear A30
 have HC4 := Aside0.mk H
 clear H
 go_enter Try.func43, Try.ntmps43
 go_upto_if 10 with (first | ((with_reducible refine gate_callee (f := 53) rfl ?_); refine goesM_ (some 9) Try.func53 #[.int .u8 a0, .slice none 0 0] ?_; (refine (field_In.calls k a0 _ _ ([] : List Int) t335 _ ?side1 ?side2 A3.out).mono ?_); (case side1 => exact Kd.C_nil _ _); (case side2 => exact Nat.le_refl _); rintro e w5 ⟨rfl, hb⟩; refine ⟨_, rfl, ?_⟩; have n0_ := A_ (below_step hb_ hb); clear HB; have HB := n0_; clear n0_; (try clear hb)))
 (try simp only [Act.put, List.setIfInBounds_toArray, List.set_cons_zero, List.set_cons_succ])
 have H := HC4.out
 clear HC4
 by_cases c6 : t335 = true
 ·subst c6
  have H1 : (poly_may.l0 k a0 0 l1 (l1.length : Int) 0) = some r := by rw [if_pos rfl] at H; exact H
  clear H
  have H := H1
  clear H1
  have H' := Aside0.mk H
  clear H
  go_wp2
  go_loopg [5, 13] k (fun kq v5 v13 w' => ∃ (x5_1 : Int) (x13_1 : Int), v5 = .int .i64 x5_1 ∧ v13 = .int .i64 x13_1 ∧ Aside0 (poly_may.l0 kq a0 x5_1 l1 (l1.length : Int) x13_1 = some r) ∧ Aside0 (kq ≤ k) ∧ Aside0 (Below w.heap.size w w'))
  case atStart => exact ⟨(0), (0), (fs_), (fs_), H', ⟨Nat.le_refl _⟩, ⟨by repeat (first | (with_reducible first | exact HB.out | apply below_alloc | apply pw_below_drewN | apply below_drew1) | exact HB.out)⟩⟩
  case round =>
   clear H'
   try clear c1
   try clear p2
   try clear c4
   try clear c5
   try clear c6
   obtain ⟨x5_1, x13_1, rfl, rfl, HA, HK1, HB⟩ := hrel
   cases gk with
   | zero => exact absurd HA.out (by simp [poly_may.l0])
   | succ k1 =>
    have H := HA.out
    clear HA
    simp only [poly_may.l0] at H
    by_cases c7 : x13_1 < (l1.length : Int)
    ·rw [if_pos c7] at H
     have c7b0 : decide (x13_1 < (l1.length : Int)) = true := decide_eq_true c7
     clear c7
     (first | rw [c7b0] | (simp only [i64_w, i32_w]; first | rw [c7b0]) | skip)
     by_cases c8 : 0 ≤ x13_1
     ·rw [if_pos c8] at H
      have c8b0 : decide (0 ≤ x13_1) = true := decide_eq_true c8
      clear c8
      by_cases c9 : x13_1 < (l1.length : Int)
      ·rw [if_pos c9] at H
       have c9b0 : decide (x13_1 < (l1.length : Int)) = true := decide_eq_true c9
       clear c9
       replace H := Option.bind_eq_some_iff.mp H
       obtain ⟨t337, A100, H⟩ := H
       replace H : (if t337 = true then (if ((rd_L1 l1 x13_1).length : Int) > 4096 then (poly_may.l0 k1 a0 4 l1 (l1.length : Int) (wrap64 (x13_1 + 1))) else (poly_may.l0 k1 a0 x5_1 l1 (l1.length : Int) (wrap64 (x13_1 + 1)))) else (some 2)) = some r := H
       have A10 := Aside0.mk A100
       clear A100
       have HC11 := Aside0.mk H
       clear H
       have p336 : 0 ≤ (x13_1 : Int) := of_decide_eq_true (by first | (with_reducible assumption) | assumption)
       have q336 : x13_1 < (l1.length : Int) := of_decide_eq_true (by first | (with_reducible assumption) | assumption)
       obtain ⟨ad336, A336_0, c336_0, e336, hx336_0, hl336_0, hi336_0⟩ := at_L1 HR1.out x13_1 p336 q336
       cases e336
       replace hx336_0 := (HB.out.cell (World.block_lt_of_cell? w _ hx336_0)).trans hx336_0
       have HR336_0 := Aside0.mk hi336_0
       have HC336_0 := Aside0.mk hl336_0
       clear hi336_0 hl336_0
       replace p336 := eq_true p336
       replace q336 := eq_true q336
       go_upto_if 20 with (first | ((with_reducible refine gate_callee (f := 53) rfl ?_); refine goesM_ (some 19) Try.func53 #[.int .u8 a0, .slice A336_0 (rd_L1 l1 x13_1).length c336_0] ?_; (with_reducible refine (field_In.calls k1 a0 _ _ (rd_L1 l1 x13_1) t337 _ ?side1 ?side2 A10.out).mono ?_); (case side1 => repeat (first | exact (Kd.C_below HR336_0.out HB.out) | (with_reducible refine Kd.C_alloc ?_ _) | (with_reducible refine Kd.C_drewN ?_ _) | (with_reducible refine Kd.C_drew ?_))); (case side2 => exact HC336_0.out); rintro e w12 ⟨rfl, hb⟩; refine ⟨_, rfl, ?_⟩; have n0_ := A_ (below_step hb_ hb); clear HB; have HB := n0_; clear n0_; (try clear hb)))
       (try simp only [Act.put, List.setIfInBounds_toArray, List.set_cons_zero, List.set_cons_succ])
       have H := HC11.out
       clear HC11
       by_cases c13 : t337 = true
       ·subst c13
        have H1 : (if ((rd_L1 l1 x13_1).length : Int) > 4096 then (poly_may.l0 k1 a0 4 l1 (l1.length : Int) (wrap64 (x13_1 + 1))) else (poly_may.l0 k1 a0 x5_1 l1 (l1.length : Int) (wrap64 (x13_1 + 1)))) = some r := by rw [if_pos rfl] at H; exact H
        clear H
        have H := H1
        clear H1
        by_cases c14 : ((rd_L1 l1 x13_1).length : Int) > 4096
        ·rw [if_pos c14] at H
         have c14b0 : decide (4096 < ((rd_L1 l1 x13_1).length : Int)) = true := decide_eq_true c14
         have c14b1 : decide (4096 < (rd_L1 l1 x13_1).length) = true := decide_eq_true (by omega)
         clear c14
         (first | rw [c14b0] | rw [c14b1] | (simp only [i64_w, i32_w]; first | rw [c14b0] | rw [c14b1]) | skip)
         have H' := Aside0.mk H
         clear H
         go_wp2
         go_roundg k1
         case measure => have := HK1.out; omega
         case rel => exact ⟨(4), (wrap64 (x13_1 + 1)), (fs_), (fs_), H', ⟨by have := HK1.out; omega⟩, ⟨by repeat (first | (with_reducible first | exact HB.out | apply below_alloc | apply pw_below_drewN | apply below_drew1) | exact HB.out)⟩⟩
        ·rw [if_neg c14] at H
         have c14b0 : decide (4096 < ((rd_L1 l1 x13_1).length : Int)) = false := decide_eq_false c14
         have c14b1 : decide (4096 < (rd_L1 l1 x13_1).length) = false := decide_eq_false (by omega)
         clear c14
         (first | rw [c14b0] | rw [c14b1] | (simp only [i64_w, i32_w]; first | rw [c14b0] | rw [c14b1]) | skip)
         have H' := Aside0.mk H
         clear H
         go_wp2
         go_roundg k1
         case measure => have := HK1.out; omega
         case rel => exact ⟨(x5_1), (wrap64 (x13_1 + 1)), (fs_), (fs_), H', ⟨by have := HK1.out; omega⟩, ⟨by repeat (first | (with_reducible first | exact HB.out | apply below_alloc | apply pw_below_drewN | apply below_drew1) | exact HB.out)⟩⟩
       ·replace c13 := Bool.eq_false_iff.mpr c13
        subst c13
        have H1 : (some 2) = some r := by rw [if_neg (show ¬ (false = true) by decide)] at H; exact H
        clear H
        have H := H1
        clear H1
        obtain rfl := Option.some.inj H
        go_wp2
        go_ret
        exact ⟨fr_, hb_⟩
      ·rw [if_neg c9] at H
       exact absurd H (by simp)
     ·rw [if_neg c8] at H
      exact absurd H (by simp)
    ·rw [if_neg c7] at H
     have c7b0 : decide (x13_1 < (l1.length : Int)) = false := decide_eq_false c7
     clear c7
     (first | rw [c7b0] | (simp only [i64_w, i32_w]; first | rw [c7b0]) | skip)
     obtain rfl := Option.some.inj H
     go_wp2
     go_ret
     exact ⟨fr_, hb_⟩
 ·replace c6 := Bool.eq_false_iff.mpr c6
  subst c6
  have H1 : (some 2) = some r := by rw [if_neg (show ¬ (false = true) by decide)] at H; exact H
  clear H
  have H := H1
  clear H1
  obtain rfl := Option.some.inj H
  go_wp2
  go_ret
  exact ⟨fr_, hb_⟩
/-! ### poly_reckoner_add: function 63 -/
def poly_reckoner_add.f (k : Nat) (a0_0 : Int) (a1 : Int) (a2 : Int) : Option (Int) := (field_Add.f k a0_0 a1 a2).bind fun bt339 => (some bt339.1)
theorem poly_reckoner_add.mono : ∀ a0 a1 a2 k, LeO (poly_reckoner_add.f k a0 a1 a2) (poly_reckoner_add.f (k + 1) a0 a1 a2) := by
 intro a0 a1 a2 k
 unfold poly_reckoner_add.f
 repeat' first
   | (with_reducible exact field_Add.mono _ _ _ _)
   | (with_reducible exact LeO.refl _)
   | (with_reducible exact LeO.none _)
   | (with_reducible refine LeO.ite ?_ ?_)
   | (with_reducible refine LeO.bind ?_ (fun _ => ?_))
   | exact field_Add.mono _ _ _ _
   | exact LeO.none _
   | refine LeO.ite ?_ ?_
   | refine LeO.bind ?_ (fun _ => ?_)
set_option maxHeartbeats 8000000 in
set_option maxRecDepth 100000 in
theorem poly_reckoner_add.calls (k : Nat) (a0_0 : Int) (a1 : Int) (a2 : Int) (r : Int) (w : World) (h : poly_reckoner_add.f k a0_0 a1 a2 = some r) :
  Calls Try.prog 63 #[.agg #[.int .u8 a0_0], .int .u64 a1, .int .u64 a2] w fun e w' => e = .returned (.int .u64 r) ∧ Below w.heap.size w w' := by
 have hu61 := Try.underlying61
 have HB := A_ (Below.refl w.heap.size w)
 have H : ((field_Add.f k a0_0 a1 a2).bind fun bt339 => (some bt339.1)) = some r := h
 clear h
 replace H := Option.bind_eq_some_iff.mp H
 obtain ⟨⟨t339, t340⟩, A40, H⟩ := H
 replace H : (some t339) = some r := H
 have A4 := Aside0.mk A40
 clear A40
 obtain rfl := Option.some.inj H
 go_enter Try.func63, Try.ntmps63
 go_wp2_with (first | ((with_reducible refine gate_dst (N := 3) rfl ?_); refine box_event ?hg (N := 3) ?hd (cs := #[.int .u8 a0_0]) (t := 61) ?hr ?_; (case hd => rfl); (case hg => rfl); (case hr => first | (go_simp; done) | (go_simp; rfl)); intro gb338 hg w5 hbox hb; have n0_ := A_ (below_step hb_ hb); have n1_ := A_ (hbox); have n2_ := A_ ((by rw [hg]; exact (below_size hb_) : w.heap.size ≤ gb338)); have n3_ := A_ ((by rw [hg]; exact (below_size hb_) : w.heap.size ≤ gb338)); clear HB; have HB := n0_; have BK338 := n1_; have GW338 := n2_; have GE338 := n3_; clear n0_ n1_ n2_ n3_; clear hb hbox hg; have hcz6_0 : w5.cell? ⟨gb338, 0, none⟩ = some (.int .u8 a0_0) := (blk_cell BK338.out 0).trans rfl; have hfz6_0 := blk_frozen BK338.out 0) | ((with_reducible refine gate_callee (f := 65) rfl ?_); refine goesM_ (some 14) Try.func65 #[.int .u8 a0_0, .int .u64 a1, .int .u64 a2] ?_; (with_reducible refine (field_Add.calls k a0_0 a1 a2 t339 t340 _ A4.out).mono ?_); rintro e w7 ⟨rfl, hb⟩; refine ⟨_, rfl, ?_⟩; have n0_ := A_ (blk_below (g := gb338) (o := .cells #[.int .u8 a0_0] 61 (0, 0)) (nb_ BK338) hb); have n1_ := A_ (below_step hs_ hb); clear BK338 HB; have BK338 := n0_; have HB := n1_; clear n0_ n1_; (try clear hb)))
 go_ret
 exact ⟨fr_, hs_⟩
/-! ### poly_reckoner_mul: function 64 -/
def poly_reckoner_mul.f (k : Nat) (a0_0 : Int) (a1 : Int) (a2 : Int) : Option (Int) := (field_Mul.f k a0_0 a1 a2).bind fun bt342 => (some bt342.1)
theorem poly_reckoner_mul.mono : ∀ a0 a1 a2 k, LeO (poly_reckoner_mul.f k a0 a1 a2) (poly_reckoner_mul.f (k + 1) a0 a1 a2) := by
 intro a0 a1 a2 k
 unfold poly_reckoner_mul.f
 repeat' first
   | (with_reducible exact field_Mul.mono _ _ _ _)
   | (with_reducible exact LeO.refl _)
   | (with_reducible exact LeO.none _)
   | (with_reducible refine LeO.ite ?_ ?_)
   | (with_reducible refine LeO.bind ?_ (fun _ => ?_))
   | exact field_Mul.mono _ _ _ _
   | exact LeO.none _
   | refine LeO.ite ?_ ?_
   | refine LeO.bind ?_ (fun _ => ?_)
set_option maxHeartbeats 8000000 in
set_option maxRecDepth 100000 in
theorem poly_reckoner_mul.calls (k : Nat) (a0_0 : Int) (a1 : Int) (a2 : Int) (r : Int) (w : World) (h : poly_reckoner_mul.f k a0_0 a1 a2 = some r) :
  Calls Try.prog 64 #[.agg #[.int .u8 a0_0], .int .u64 a1, .int .u64 a2] w fun e w' => e = .returned (.int .u64 r) ∧ Below w.heap.size w w' := by
 have hu61 := Try.underlying61
 have HB := A_ (Below.refl w.heap.size w)
 have H : ((field_Mul.f k a0_0 a1 a2).bind fun bt342 => (some bt342.1)) = some r := h
 clear h
 replace H := Option.bind_eq_some_iff.mp H
 obtain ⟨⟨t342, t343⟩, A40, H⟩ := H
 replace H : (some t342) = some r := H
 have A4 := Aside0.mk A40
 clear A40
 obtain rfl := Option.some.inj H
 go_enter Try.func64, Try.ntmps64
 go_wp2_with (first | ((with_reducible refine gate_dst (N := 3) rfl ?_); refine box_event ?hg (N := 3) ?hd (cs := #[.int .u8 a0_0]) (t := 61) ?hr ?_; (case hd => rfl); (case hg => rfl); (case hr => first | (go_simp; done) | (go_simp; rfl)); intro gb341 hg w5 hbox hb; have n0_ := A_ (below_step hb_ hb); have n1_ := A_ (hbox); have n2_ := A_ ((by rw [hg]; exact (below_size hb_) : w.heap.size ≤ gb341)); have n3_ := A_ ((by rw [hg]; exact (below_size hb_) : w.heap.size ≤ gb341)); clear HB; have HB := n0_; have BK341 := n1_; have GW341 := n2_; have GE341 := n3_; clear n0_ n1_ n2_ n3_; clear hb hbox hg; have hcz6_0 : w5.cell? ⟨gb341, 0, none⟩ = some (.int .u8 a0_0) := (blk_cell BK341.out 0).trans rfl; have hfz6_0 := blk_frozen BK341.out 0) | ((with_reducible refine gate_callee (f := 62) rfl ?_); refine goesM_ (some 14) Try.func62 #[.int .u8 a0_0, .int .u64 a1, .int .u64 a2] ?_; (with_reducible refine (field_Mul.calls k a0_0 a1 a2 t342 t343 _ A4.out).mono ?_); rintro e w7 ⟨rfl, hb⟩; refine ⟨_, rfl, ?_⟩; have n0_ := A_ (blk_below (g := gb341) (o := .cells #[.int .u8 a0_0] 61 (0, 0)) (nb_ BK341) hb); have n1_ := A_ (below_step hs_ hb); clear BK341 HB; have BK341 := n0_; have HB := n1_; clear n0_ n1_; (try clear hb)))
 go_ret
 exact ⟨fr_, hs_⟩
end Go.Proofs.Ytaegmhniepfdaaa.PFastBack
