/- The Go functions as Lean functions, each with the proof that its call comes to just that; written by a program of this session, by the words of the print. -/
import Derived.Test.YtbjanbbjjnoecaaPPolyFreshx0
import Derived.Test.YtbjanbbjjnoecaaPPolyFreshx1
import Derived.Test.YtbjanbbjjnoecaaPPolyFreshx4
import Derived.Test.YtbjanbbjjnoecaaPPolyFreshx9
namespace Go.Proofs.Ytbjanbbjjnoecaa.PPolyFresh
open Go.RowKit Go.Proofs.YtbjanbbjjnoecaaW.PrintWords Go.Proofs.YtbjanbbjjnoecaaW.PrintLast Go.Proofs.YtbjanbbjjnoecaaW.PrintMore
attribute [local go_sem] max2_int min2_int max_two min_two max_three min_three max_four min_four   -- for this text's walks alone
set_option linter.unusedVariables false
set_option linter.unusedSimpArgs false
/-! ### conclavelaw03_anchored: function 24 -/
def conclavelaw03_anchored.f (k : Nat)  : Option (Bool) := (poly_Mul.f k 2 (([1, 1] : List Int)) (([1, 1] : List Int))).bind fun bt276 => ((poly_Eval.f k 1 (([2013265921] : List Int)) 1).bind fun bt283 => (if bt276.2 = 0 then (if bt283.2 = 2 then ((cr1_Same.f k bt276.1 (([1, 2, 1] : List Int))).bind fun t288 => (some t288)) else (none)) else (none)))
theorem conclavelaw03_anchored.mono : ∀ k, LeO (conclavelaw03_anchored.f k ) (conclavelaw03_anchored.f (k + 1) ) := by
 intro  k
 unfold conclavelaw03_anchored.f
 repeat' first
   | (with_reducible exact cr1_Same.mono _ _ _)
   | (with_reducible exact poly_Eval.mono _ _ _ _)
   | (with_reducible exact poly_Mul.mono _ _ _ _)
   | (with_reducible exact LeO.refl _)
   | (with_reducible exact LeO.none _)
   | (with_reducible refine LeO.ite ?_ ?_)
   | (with_reducible refine LeO.bind ?_ (fun _ => ?_))
   | exact cr1_Same.mono _ _ _
   | exact poly_Eval.mono _ _ _ _
   | exact poly_Mul.mono _ _ _ _
   | exact LeO.none _
   | refine LeO.ite ?_ ?_
   | refine LeO.bind ?_ (fun _ => ?_)
set_option maxHeartbeats 8000000 in
set_option maxRecDepth 100000 in
theorem conclavelaw03_anchored.calls (k : Nat)  (r : Bool) (w : World) (h : conclavelaw03_anchored.f k  = some r) :
  Calls Try.prog 24 #[] w fun e w' => e = .returned (.bool r) ∧ Below w.heap.size w w' := by
 have HB := A_ (Below.refl w.heap.size w)
 have H : ((poly_Mul.f k 2 (([1, 1] : List Int)) (([1, 1] : List Int))).bind fun bt276 => ((poly_Eval.f k 1 (([2013265921] : List Int)) 1).bind fun bt283 => (if bt276.2 = 0 then (if bt283.2 = 2 then ((cr1_Same.f k bt276.1 (([1, 2, 1] : List Int))).bind fun t288 => (some t288)) else (none)) else (none)))) = some r := h
 clear h
 obtain ⟨y270, hy270⟩ : ∃ y_ : List Int, y_ = (([1, 1] : List Int)) := ⟨_, rfl⟩
 replace H : ((poly_Mul.f k 2 y270 (([1, 1] : List Int))).bind fun bt276 => ((poly_Eval.f k 1 (([2013265921] : List Int)) 1).bind fun bt283 => (if bt276.2 = 0 then (if bt283.2 = 2 then ((cr1_Same.f k bt276.1 (([1, 2, 1] : List Int))).bind fun t288 => (some t288)) else (none)) else (none)))) = some r := by first | (rw [hy270]; with_reducible exact H) | (have H2_ := (Option.bind_some _ _).symm.trans H; rw [hy270]; with_reducible exact H2_) | (have H2_ := (Option.bind_some _ _).symm.trans H; with_reducible exact H2_) | with_reducible exact H | (rw [hy270]; exact H) | exact H
 have Ny270 := Aside0.mk hy270
 clear hy270
 obtain ⟨y273, hy273⟩ : ∃ y_ : List Int, y_ = (([1, 1] : List Int)) := ⟨_, rfl⟩
 replace H : ((poly_Mul.f k 2 y270 y273).bind fun bt276 => ((poly_Eval.f k 1 (([2013265921] : List Int)) 1).bind fun bt283 => (if bt276.2 = 0 then (if bt283.2 = 2 then ((cr1_Same.f k bt276.1 (([1, 2, 1] : List Int))).bind fun t288 => (some t288)) else (none)) else (none)))) = some r := by first | (rw [hy273]; with_reducible exact H) | (have H2_ := (Option.bind_some _ _).symm.trans H; rw [hy273]; with_reducible exact H2_) | (have H2_ := (Option.bind_some _ _).symm.trans H; with_reducible exact H2_) | with_reducible exact H | (rw [hy273]; exact H) | exact H
 have Ny273 := Aside0.mk hy273
 clear hy273
 replace H := Option.bind_eq_some_iff.mp H
 obtain ⟨⟨t276, t279⟩, A10, H⟩ := H
 replace H : ((poly_Eval.f k 1 (([2013265921] : List Int)) 1).bind fun bt283 => (if t279 = 0 then (if bt283.2 = 2 then ((cr1_Same.f k t276 (([1, 2, 1] : List Int))).bind fun t288 => (some t288)) else (none)) else (none))) = some r := H
 have A1 := Aside0.mk A10
 clear A10
 obtain ⟨y280, hy280⟩ : ∃ y_ : List Int, y_ = (([2013265921] : List Int)) := ⟨_, rfl⟩
 replace H : ((poly_Eval.f k 1 y280 1).bind fun bt283 => (if t279 = 0 then (if bt283.2 = 2 then ((cr1_Same.f k t276 (([1, 2, 1] : List Int))).bind fun t288 => (some t288)) else (none)) else (none))) = some r := by first | (rw [hy280]; with_reducible exact H) | (have H2_ := (Option.bind_some _ _).symm.trans H; rw [hy280]; with_reducible exact H2_) | (have H2_ := (Option.bind_some _ _).symm.trans H; with_reducible exact H2_) | with_reducible exact H | (rw [hy280]; exact H) | exact H
 have Ny280 := Aside0.mk hy280
 clear hy280
 replace H := Option.bind_eq_some_iff.mp H
 obtain ⟨⟨t283, t284⟩, A20, H⟩ := H
 replace H : (if t279 = 0 then (if t284 = 2 then ((cr1_Same.f k t276 (([1, 2, 1] : List Int))).bind fun t288 => (some t288)) else (none)) else (none)) = some r := H
 have A2 := Aside0.mk A20
 clear A20
 by_cases c3 : t279 = 0
 ·rw [if_pos c3] at H
  have c3b0 : (t279 == 0) = true := beq_iff_eq.mpr c3
  have c3b1 : (t279 != 0) = false := bne_eq_false_iff_eq.mpr c3
  clear c3
  by_cases c4 : t284 = 2
  ·rw [if_pos c4] at H
   have c4b0 : (t284 == 2) = true := beq_iff_eq.mpr c4
   have c4b1 : (t284 != 2) = false := bne_eq_false_iff_eq.mpr c4
   clear c4
   obtain ⟨y285, hy285⟩ : ∃ y_ : List Int, y_ = (([1, 2, 1] : List Int)) := ⟨_, rfl⟩
   replace H : ((cr1_Same.f k t276 y285).bind fun t288 => (some t288)) = some r := by first | (rw [hy285]; with_reducible exact H) | (have H2_ := (Option.bind_some _ _).symm.trans H; rw [hy285]; with_reducible exact H2_) | (have H2_ := (Option.bind_some _ _).symm.trans H; with_reducible exact H2_) | with_reducible exact H | (rw [hy285]; exact H) | exact H
   have Ny285 := Aside0.mk hy285
   clear hy285
   replace H := Option.bind_eq_some_iff.mp H
   obtain ⟨t288, A50, H⟩ := H
   replace H : (some t288) = some r := H
   have A5 := Aside0.mk A50
   clear A50
   obtain rfl := Option.some.inj H
   go_enter Try.func24, Try.ntmps24
   go_wp2_with (first | ((with_reducible refine gate_dst (N := 6) rfl ?_); (try (refine gate_guard (by rfl) ?_; dsimp only)); refine Kd.R_lit (Kd.int .u64) _ 34 ?hg (N := 6) ?hd (xs := ([1, 1] : List Int)) (inner := [.int .u64 1, .int .u64 1]) (ok := fun _ => True) (okp := fun _ => True) ?hr ?hp (fun _ hk => hk) trivial (Below.refl _ _) (Nat.le_refl _) (by simp) ?_; (case hd => rfl); (case hg => rfl); (case hr => first | (go_simp; done) | (go_simp; rfl)); (case hp => exact (Reps.one (show Kd.M (Kd.int .u64) _ _ _ 1 [.int .u64 1] from rfl) (Reps.one (show Kd.M (Kd.int .u64) _ _ _ 1 [.int .u64 1] from rfl) (Reps.none _ _)))); intro v271 w6 ho7 hb hg_ hnew_; clear hg_ hnew_; (first | rw [← Ny270.out] at ho7 | (simp only [Int.reduceToNat] at ho7; rw [← Ny270.out] at ho7)); have n0_ := A_ (Kd.R_lower ho7 (below_size hb_)); have n1_ := A_ (below_step hb_ hb); clear HB; have HO272 := n0_; have HB := n1_; clear n0_ n1_; clear hb ho7) | ((with_reducible refine gate_dst (N := 7) rfl ?_); (try (refine gate_guard (by rfl) ?_; dsimp only)); refine Kd.R_lit (Kd.int .u64) _ 34 ?hg (N := 7) ?hd (xs := ([1, 1] : List Int)) (inner := [.int .u64 1, .int .u64 1]) (ok := fun _ => True) (okp := fun _ => True) ?hr ?hp (fun _ hk => hk) trivial (Below.refl _ _) (Nat.le_refl _) (by simp) ?_; (case hd => rfl); (case hg => rfl); (case hr => first | (go_simp; done) | (go_simp; rfl)); (case hp => exact (Reps.one (show Kd.M (Kd.int .u64) _ _ _ 1 [.int .u64 1] from rfl) (Reps.one (show Kd.M (Kd.int .u64) _ _ _ 1 [.int .u64 1] from rfl) (Reps.none _ _)))); intro v274 w8 ho9 hb hg_ hnew_; clear hg_ hnew_; (first | rw [← Ny273.out] at ho9 | (simp only [Int.reduceToNat] at ho9; rw [← Ny273.out] at ho9)); have n0_ := A_ (Kd.R_elder' (nR_ HO272) (Kd.R_base ho9) hb); have n1_ := A_ (Kd.R_lower (Kd.R_new' ho9 (Kd.R_lt (nR_ HO272))) (below_size hb_)); have n2_ := A_ (below_step hb_ hb); clear HO272 HB; have HO272 := n0_; have HO275 := n1_; have HB := n2_; clear n0_ n1_ n2_; clear hb ho9; obtain ⟨Ao10, co10, eo10⟩ := Kd.R_slice HO272.out; subst eo10; obtain ⟨Ao11, co11, eo11⟩ := Kd.R_slice HO275.out; subst eo11) | ((with_reducible refine gate_callee (f := 18) rfl ?_); refine goesM_ (some 8) Try.func18 #[.int .u8 2, .slice Ao10 y270.length co10, .slice Ao11 y273.length co11] ?_; (with_reducible refine (poly_Mul.calls k 2 (fun k_ => some k_ = (.slice Ao10 y270.length co10 : Value).ownBlock) _ _ y270 (fun k_ => some k_ = (.slice Ao11 y273.length co11 : Value).ownBlock) _ _ y273 t276 t279 _ ?side1 ?side2 A1.out).mono ?_); (case side1 => exact Kd.R_V (Kd.R_tight rfl (HO272.out))); (case side2 => exact Kd.R_V (Kd.R_tight rfl (HO275.out))); rintro e w12 ⟨v277, rfl, ho0, hb⟩; refine ⟨_, rfl, ?_⟩; have n0_ := A_ (Kd.R_elder' (nR_ HO272) (Kd.R_base ho0) hb); have n1_ := A_ (Kd.R_elder' (nR_ HO275) (Kd.R_base ho0) hb); have n2_ := A_ (Kd.R_lower (Kd.R_new' (Kd.R_new' (Kd.R_mono (ok' := fun k_ => True) ho0 (fun _ hk_ => trivial)) (Kd.R_lt (nR_ HO272))) (Kd.R_lt (nR_ HO275))) (below_size hb_)); have n3_ := A_ (below_step hb_ hb); clear HO272 HO275 HB; have HO272 := n0_; have HO275 := n1_; have HO278 := n2_; have HB := n3_; clear n0_ n1_ n2_ n3_; (try clear hb); (try clear ho0)) | ((with_reducible refine gate_dst (N := 12) rfl ?_); (try (refine gate_guard (by rfl) ?_; dsimp only)); refine Kd.R_lit (Kd.int .u64) _ 34 ?hg (N := 12) ?hd (xs := ([2013265921] : List Int)) (inner := [.int .u64 2013265921]) (ok := fun _ => True) (okp := fun _ => True) ?hr ?hp (fun _ hk => hk) trivial (Below.refl _ _) (Nat.le_refl _) (by simp) ?_; (case hd => rfl); (case hg => rfl); (case hr => first | (go_simp; done) | (go_simp; rfl)); (case hp => exact (Reps.one (show Kd.M (Kd.int .u64) _ _ _ 2013265921 [.int .u64 2013265921] from rfl) (Reps.none _ _))); intro v281 w13 ho14 hb hg_ hnew_; clear hg_ hnew_; (first | rw [← Ny280.out] at ho14 | (simp only [Int.reduceToNat] at ho14; rw [← Ny280.out] at ho14)); have n0_ := A_ (Kd.R_elder' (nR_ HO272) (Kd.R_base ho14) hb); have n1_ := A_ (Kd.R_elder' (nR_ HO275) (Kd.R_base ho14) hb); have n2_ := A_ (Kd.R_elder' (nR_ HO278) (Kd.R_base ho14) hb); have n3_ := A_ (Kd.R_lower (Kd.R_new' (Kd.R_new' (Kd.R_new' ho14 (Kd.R_lt (nR_ HO272))) (Kd.R_lt (nR_ HO275))) (Kd.R_lt (nR_ HO278))) (below_size hb_)); have n4_ := A_ (below_step hb_ hb); clear HO272 HO275 HO278 HB; have HO272 := n0_; have HO275 := n1_; have HO278 := n2_; have HO282 := n3_; have HB := n4_; clear n0_ n1_ n2_ n3_ n4_; clear hb ho14; obtain ⟨Ao15, co15, eo15⟩ := Kd.R_slice HO282.out; subst eo15) | ((with_reducible refine gate_callee (f := 22) rfl ?_); refine goesM_ (some 13) Try.func22 #[.int .u8 1, .slice Ao15 y280.length co15, .int .u64 1] ?_; (with_reducible refine (poly_Eval.calls k 1 _ _ y280 1 t283 t284 _ ?side1 ?side2 A2.out).mono ?_); (case side1 => repeat (first | exact (Kd.R_reads' HO282.out).2.2 | (with_reducible refine Kd.C_alloc ?_ _) | (with_reducible refine Kd.C_drewN ?_ _) | (with_reducible refine Kd.C_drew ?_))); (case side2 => exact (Kd.R_reads' HO282.out).2.1); rintro e w16 ⟨rfl, hb⟩; refine ⟨_, rfl, ?_⟩; have n0_ := A_ (Kd.R_below (nR_ HO272) hb); have n1_ := A_ (Kd.R_below (nR_ HO275) hb); have n2_ := A_ (Kd.R_below (nR_ HO278) hb); have n3_ := A_ (Kd.R_below (nR_ HO282) hb); have n4_ := A_ (below_step hb_ hb); clear HO272 HO275 HO278 HO282 HB; have HO272 := n0_; have HO275 := n1_; have HO278 := n2_; have HO282 := n3_; have HB := n4_; clear n0_ n1_ n2_ n3_ n4_; (try clear hb)) | ((with_reducible refine gate_dst (N := 24) rfl ?_); (try (refine gate_guard (by rfl) ?_; dsimp only)); refine Kd.R_lit (Kd.int .u64) _ 34 ?hg (N := 24) ?hd (xs := ([1, 2, 1] : List Int)) (inner := [.int .u64 1, .int .u64 2, .int .u64 1]) (ok := fun _ => True) (okp := fun _ => True) ?hr ?hp (fun _ hk => hk) trivial (Below.refl _ _) (Nat.le_refl _) (by simp) ?_; (case hd => rfl); (case hg => rfl); (case hr => first | (go_simp; done) | (go_simp; rfl)); (case hp => exact (Reps.one (show Kd.M (Kd.int .u64) _ _ _ 1 [.int .u64 1] from rfl) (Reps.one (show Kd.M (Kd.int .u64) _ _ _ 2 [.int .u64 2] from rfl) (Reps.one (show Kd.M (Kd.int .u64) _ _ _ 1 [.int .u64 1] from rfl) (Reps.none _ _))))); intro v286 w17 ho18 hb hg_ hnew_; clear hg_ hnew_; (first | rw [← Ny285.out] at ho18 | (simp only [Int.reduceToNat] at ho18; rw [← Ny285.out] at ho18)); have n0_ := A_ (Kd.R_elder' (nR_ HO272) (Kd.R_base ho18) hb); have n1_ := A_ (Kd.R_elder' (nR_ HO275) (Kd.R_base ho18) hb); have n2_ := A_ (Kd.R_elder' (nR_ HO278) (Kd.R_base ho18) hb); have n3_ := A_ (Kd.R_elder' (nR_ HO282) (Kd.R_base ho18) hb); have n4_ := A_ (Kd.R_lower (Kd.R_new' (Kd.R_new' (Kd.R_new' (Kd.R_new' ho18 (Kd.R_lt (nR_ HO272))) (Kd.R_lt (nR_ HO275))) (Kd.R_lt (nR_ HO278))) (Kd.R_lt (nR_ HO282))) (below_size hb_)); have n5_ := A_ (below_step hb_ hb); clear HO272 HO275 HO278 HO282 HB; have HO272 := n0_; have HO275 := n1_; have HO278 := n2_; have HO282 := n3_; have HO287 := n4_; have HB := n5_; clear n0_ n1_ n2_ n3_ n4_ n5_; clear hb ho18; obtain ⟨Ao19, co19, eo19⟩ := Kd.R_slice HO278.out; subst eo19; obtain ⟨Ao20, co20, eo20⟩ := Kd.R_slice HO287.out; subst eo20) | (go_at_call 10; (with_reducible refine (cr1_Same.calls k _ _ t276 _ _ y285 t288 _ ?side1 ?side2 ?side3 ?side4 A5.out).mono ?_); (case side1 => repeat (first | exact (Kd.R_reads' HO278.out).2.2 | (with_reducible refine Kd.C_alloc ?_ _) | (with_reducible refine Kd.C_drewN ?_ _) | (with_reducible refine Kd.C_drew ?_))); (case side2 => exact (Kd.R_reads' HO278.out).2.1); (case side3 => repeat (first | exact (Kd.R_reads' HO287.out).2.2 | (with_reducible refine Kd.C_alloc ?_ _) | (with_reducible refine Kd.C_drewN ?_ _) | (with_reducible refine Kd.C_drew ?_))); (case side4 => exact (Kd.R_reads' HO287.out).2.1); rintro e w' ⟨rfl, ⟨nd, rfl⟩⟩))
   go_ret
   exact ⟨fr_, hb_⟩
  ·rw [if_neg c4] at H
   exact absurd H (by simp)
 ·rw [if_neg c3] at H
  exact absurd H (by simp)
end Go.Proofs.Ytbjanbbjjnoecaa.PPolyFresh
