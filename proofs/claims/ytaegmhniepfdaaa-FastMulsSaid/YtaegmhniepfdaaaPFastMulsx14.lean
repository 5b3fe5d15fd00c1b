/- The Go functions as Lean functions, each with the proof that its call comes to just that; written by a program of this session, by the words of the print. -/
import Derived.Test.YtaegmhniepfdaaaPFastMulsx0
import Derived.Test.YtaegmhniepfdaaaPFastMulsx1
import Derived.Test.YtaegmhniepfdaaaPFastMulsx2
import Derived.Test.YtaegmhniepfdaaaPFastMulsx4
import Derived.Test.YtaegmhniepfdaaaPFastMulsx6
import Derived.Test.YtaegmhniepfdaaaPFastMulsx7
import Derived.Test.YtaegmhniepfdaaaPFastMulsx13
namespace Go.Proofs.Ytaegmhniepfdaaa.PFastMuls
open Go.RowKit Go.Proofs.YtaegmhniepfdaaaW.PrintWords Go.Proofs.YtaegmhniepfdaaaW.PrintLast Go.Proofs.YtaegmhniepfdaaaW.PrintMore
attribute [local go_sem] max2_int min2_int max_two min_two max_three min_three max_four min_four   -- for this text's walks alone
set_option linter.unusedVariables false
set_option linter.unusedSimpArgs false
/-! ### fast_Mul: function 12 -/
def fast_Mul.l0 : Nat → List Int → List Int → Int → Int → Int → Option (List Int × Int)
 | 0, _, _, _, _, _ => none
 | k + 1, x8, x9, x12, x424000, x435000 => if x435000 < x12 then (fast_Mul.l0 k x8 x9 x12 x424000 (wrap64 (x435000 * 2))) else ((fast_Mul_1.f x8 x435000).bind fun t435 => ((fast_Mul_1.f x9 x435000).bind fun t438 => ((fast_reckoner_round.f k x424000 t435 t438).bind fun t441 => ((poly_Trim.f k t441).bind fun t444 => (some (t444, 0))))))
def fast_Mul.f (k : Nat) (a0 : Int) (l1 : List Int) (l2 : List Int) : Option (List Int × Int) := (fast_checked.f k a0 l1 l2).bind fun bt416 => (if bt416.2.2 = 0 then (if (mn (bt416.1.length : Int) (bt416.2.1.length : Int)) ≤ 16 then ((poly_Mul.f k a0 bt416.1 bt416.2.1).bind fun bt424 => (some (bt424.1, bt424.2))) else (if (wrap64 ((wrap64 ((bt416.1.length : Int) + (bt416.2.1.length : Int))) - 1)) ≤ 64 then ((fast_reckoner_halves.f k a0 bt416.1 bt416.2.1).bind fun t428 => ((poly_Trim.f k t428).bind fun t431 => (some (t431, 0)))) else (fast_Mul.l0 k bt416.1 bt416.2.1 (wrap64 ((wrap64 ((bt416.1.length : Int) + (bt416.2.1.length : Int))) - 1)) a0 1))) else (some (([] : List Int), bt416.2.2)))
theorem fast_Mul.mono_l : ∀ k, (∀ y0 y1 y2 y3 y4, LeO (fast_Mul.l0 k y0 y1 y2 y3 y4) (fast_Mul.l0 (k + 1) y0 y1 y2 y3 y4))
 | 0 => fun _ _ _ _ _ r h => by simp [fast_Mul.l0] at h
 | k + 1 => by
  have ih0 := fast_Mul.mono_l k
  ·intro y0 y1 y2 y3 y4
   unfold fast_Mul.l0
   repeat' first
   | (with_reducible exact ih0 _ _ _ _ _)
   | (with_reducible exact fast_checked.mono _ _ _ _)
   | (with_reducible exact fast_reckoner_halves.mono _ _ _ _)
   | (with_reducible exact fast_reckoner_round.mono _ _ _ _)
   | (with_reducible exact poly_Mul.mono _ _ _ _)
   | (with_reducible exact poly_Trim.mono _ _)
   | (with_reducible exact LeO.refl _)
   | (with_reducible exact LeO.none _)
   | (with_reducible refine LeO.ite ?_ ?_)
   | (with_reducible refine LeO.bind ?_ (fun _ => ?_))
   | exact ih0 _ _ _ _ _
   | exact fast_checked.mono _ _ _ _
   | exact fast_reckoner_halves.mono _ _ _ _
   | exact fast_reckoner_round.mono _ _ _ _
   | exact poly_Mul.mono _ _ _ _
   | exact poly_Trim.mono _ _
   | exact LeO.none _
   | refine LeO.ite ?_ ?_
   | refine LeO.bind ?_ (fun _ => ?_)
theorem fast_Mul.mono : ∀ a0 a1 a2 k, LeO (fast_Mul.f k a0 a1 a2) (fast_Mul.f (k + 1) a0 a1 a2) := by
 intro a0 a1 a2 k
 have ih0 := fast_Mul.mono_l k
 unfold fast_Mul.f
 repeat' first
   | (with_reducible exact ih0 _ _ _ _ _)
   | (with_reducible exact fast_checked.mono _ _ _ _)
   | (with_reducible exact fast_reckoner_halves.mono _ _ _ _)
   | (with_reducible exact fast_reckoner_round.mono _ _ _ _)
   | (with_reducible exact poly_Mul.mono _ _ _ _)
   | (with_reducible exact poly_Trim.mono _ _)
   | (with_reducible exact LeO.refl _)
   | (with_reducible exact LeO.none _)
   | (with_reducible refine LeO.ite ?_ ?_)
   | (with_reducible refine LeO.bind ?_ (fun _ => ?_))
   | exact ih0 _ _ _ _ _
   | exact fast_checked.mono _ _ _ _
   | exact fast_reckoner_halves.mono _ _ _ _
   | exact fast_reckoner_round.mono _ _ _ _
   | exact poly_Mul.mono _ _ _ _
   | exact poly_Trim.mono _ _
   | exact LeO.none _
   | refine LeO.ite ?_ ?_
   | refine LeO.bind ?_ (fun _ => ?_)
def fast_Mul.T10 : Bool × List (List Nat × List Nat) := (true, [([], []), ([], []), ([], []), ([1, 2], [1, 2]), ([], []), ([], []), ([4, 5, 3], [4, 5]), ([0, 3, 6, 6], [0, 3, 6]), ([7, 7], [7]), ([8, 8, 0, 1, 2, 3, 4, 5, 6, 7, 8], [8]), ([9, 0, 1, 2, 3, 4, 5, 6, 7, 8, 9], [])])
def fast_Mul.B10 : List Nat := [0, 0, 0, 6, 0, 0, 62, 127, 255, 511, 1023]
theorem fast_Mul.tab10 : rtab .any (opsOf Try.f12 10) = fast_Mul.T10 := by kernel_rfl
theorem fast_Mul.bits10 : waitsOk fast_Mul.T10.2 fast_Mul.B10 = true := by kernel_rfl
set_option maxHeartbeats 8000000 in
set_option maxRecDepth 100000 in
theorem fast_Mul.calls (k : Nat) (a0 : Int) (A1 : Option Addr) (c1 : Nat) (l1 : List Int) (A2 : Option Addr) (c2 : Nat) (l2 : List Int) (r1 : List Int) (r2 : Int) (w : World) (hr1 : Kd.C (Kd.int .u64) w A1 l1.length l1) (hc1 : l1.length ≤ c1) (hr2 : Kd.C (Kd.int .u64) w A2 l2.length l2) (hc2 : l2.length ≤ c2) (h : fast_Mul.f k a0 l1 l2 = some (r1, r2)) :
  Calls Try.prog 12 #[.int .u8 a0, .slice A1 l1.length c1, .slice A2 l2.length c2] w fun e w' => ∃ v0_ : Value, e = .returned (.tuple #[v0_, .int .i64 r2]) ∧ Kd.R (Kd.int .u64) 33 w' w.heap.size (fun _ => True) v0_ r1 ∧ Below w.heap.size w w' := by
 have hu47 := Try.underlying47
 have HR1 := Aside0.mk hr1
 have HC1 := Aside0.mk hc1
 clear hr1 hc1
 have HR2 := Aside0.mk hr2
 have HC2 := Aside0.mk hc2
 clear hr2 hc2
 have HB := A_ (Below.refl w.heap.size w)
 have H : ((fast_checked.f k a0 l1 l2).bind fun bt416 => (if bt416.2.2 = 0 then (if (mn (bt416.1.length : Int) (bt416.2.1.length : Int)) ≤ 16 then ((poly_Mul.f k a0 bt416.1 bt416.2.1).bind fun bt424 => (some (bt424.1, bt424.2))) else (if (wrap64 ((wrap64 ((bt416.1.length : Int) + (bt416.2.1.length : Int))) - 1)) ≤ 64 then ((fast_reckoner_halves.f k a0 bt416.1 bt416.2.1).bind fun t428 => ((poly_Trim.f k t428).bind fun t431 => (some (t431, 0)))) else (fast_Mul.l0 k bt416.1 bt416.2.1 (wrap64 ((wrap64 ((bt416.1.length : Int) + (bt416.2.1.length : Int))) - 1)) a0 1))) else (some (([] : List Int), bt416.2.2)))) = some (r1, r2) := h
 clear h
 replace H := Option.bind_eq_some_iff.mp H
 obtain ⟨⟨t416, t419, t422⟩, A40, H⟩ := H
 (try dsimp only at H)
 have A4 := Aside0.mk A40
 clear A40
 by_cases c5 : t422 = 0
 ·rw [if_pos c5] at H
  have c5b0 : (t422 == 0) = true := beq_iff_eq.mpr c5
  have c5b1 : (t422 != 0) = false := bne_eq_false_iff_eq.mpr c5
  clear c5
  obtain ⟨ji6, hji6⟩ : ∃ j_ : Int, (mn (t416.length : Int) (t419.length : Int)) = j_ := ⟨_, rfl⟩
  replace H : (if (ji6) ≤ 16 then ((poly_Mul.f k a0 t416 t419).bind fun bt424 => (some (bt424.1, bt424.2))) else (if (wrap64 ((wrap64 ((t416.length : Int) + (t419.length : Int))) - 1)) ≤ 64 then ((fast_reckoner_halves.f k a0 t416 t419).bind fun t428 => ((poly_Trim.f k t428).bind fun t431 => (some (t431, 0)))) else (fast_Mul.l0 k t416 t419 (wrap64 ((wrap64 ((t416.length : Int) + (t419.length : Int))) - 1)) a0 1))) = some (r1, r2) := by first | (rw [hji6] at H; exact H) | (simp only [hji6] at H ⊢; exact H)
  (try rw [hji6] at A4)
  (try (have hji6l : 0 ≤ ji6 := by (rw [← hji6]; unfold mn; (repeat' split) <;> omega)))
  (try (have hji6m : 0 ≤ ji6 := by omega))
  have hji6N : (if t419.length < t416.length then (t419.length : Int) else (t416.length : Int)) = ji6 := by have h_ := hji6; unfold mn at h_; simp only [Int.ofNat_lt] at h_; exact h_
  have hji6_ : (if (t419.length : Int) < (t416.length : Int) then (t419.length : Int) else (t416.length : Int)) = ji6 := hji6
  by_cases c7 : (ji6) ≤ 16
  ·rw [if_pos c7] at H
   have c7b0 : decide ((ji6) ≤ 16) = true := decide_eq_true c7
   clear c7
   replace H := Option.bind_eq_some_iff.mp H
   obtain ⟨⟨t424, t427⟩, A80, H⟩ := H
   replace H : (some (t424, t427)) = some (r1, r2) := H
   have A8 := Aside0.mk A80
   clear A80
   simp only [Option.some.injEq, Prod.mk.injEq] at H
   obtain ⟨rfl, rfl⟩ := H
   go_enter Try.func12, Try.ntmps12
   go_wp2_with (first | ((with_reducible refine gate_callee (f := 27) rfl ?_); refine goesM_ (some 19) Try.func27 #[.int .u8 a0, .slice A1 l1.length c1, .slice A2 l2.length c2] ?_; (with_reducible refine (fast_checked.calls k a0 (fun k_ => k_ < w.heap.size) _ _ l1 (fun k_ => k_ < w.heap.size) _ _ l2 t416 t419 t422 _ ?side1 ?side2 A4.out).mono ?_); (case side1 => exact Kd.V_mk HC1.out (Kd.F_below (Kd.C_F (Kd.heap_int .u64) HR1.out) hb_)); (case side2 => exact Kd.V_mk HC2.out (Kd.F_below (Kd.C_F (Kd.heap_int .u64) HR2.out) hb_)); rintro e w9 ⟨v417, v420, rfl, ho0, ho1, hb⟩; refine ⟨_, rfl, ?_⟩; have n0_ := A_ (Kd.R_lower (Kd.R_mono (ok' := fun k_ => some k_ ≠ (v420 : Value).ownBlock) ho0 (fun _ hk_ => hk_.2)) (below_size hb_)); have n1_ := A_ (Kd.R_lower (Kd.R_mono (ok' := fun k_ => some k_ ≠ (v417 : Value).ownBlock) ho1 (fun _ hk_ => hk_.2)) (below_size hb_)); have n2_ := A_ (below_step hb_ hb); clear HB; have HO418 := n0_; have HO421 := n1_; have HB := n2_; clear n0_ n1_ n2_; (try clear hb); (try clear ho0); (try clear ho1)) | ((with_reducible refine gate_dst (N := 11) rfl ?_); refine box_event ?hg (N := 11) ?hd (cs := #[.int .u8 0]) (t := 47) ?hr ?_; (case hd => rfl); (case hg => rfl); (case hr => first | (go_simp; done) | (go_simp; rfl)); intro gb423 hg w10 hbox hb; have n0_ := A_ (Kd.R_below (nR_ HO418) hb); have n1_ := A_ (Kd.R_below (nR_ HO421) hb); have n2_ := A_ (below_step hb_ hb); have n3_ := A_ (hbox); have n4_ := A_ ((by rw [hg]; exact (below_size hb_) : w.heap.size ≤ gb423)); have n5_ := A_ ((by rw [hg]; exact (below_size hb_) : w.heap.size ≤ gb423)); clear HO418 HO421 HB; have HO418 := n0_; have HO421 := n1_; have HB := n2_; have BK423 := n3_; have GW423 := n4_; have GE423 := n5_; clear n0_ n1_ n2_ n3_ n4_ n5_; clear hb hbox hg; have hcz11_0 : w10.cell? ⟨gb423, 0, none⟩ = some (.int .u8 0) := (blk_cell BK423.out 0).trans rfl; have hfz11_0 := blk_frozen BK423.out 0) | ((with_reducible refine gate_store (t := 47) (p := 11) rfl ?_); (try (rw [drewN_self w10]; generalize hq_ : World.drewN w10 _ = w10; have n0_ := A_ (Kd.R_at hq_ HO418.out); have n1_ := A_ (Kd.R_at hq_ HO421.out); have n2_ := A_ (blk_at hq_ BK423.out); have n3_ := A_ (below_at hq_ HB.out); clear hq_ HO418 HO421 BK423 HB; have HO418 := n0_; have HO421 := n1_; have BK423 := n2_; have HB := n3_; clear n0_ n1_ n2_ n3_)); refine store_event (t := 47) (p := 11) (v := ?vo_w12) (w1 := (w10.setCell ⟨gb423, 0, none⟩ (.int .u8 a0))) ?hg ?ho ?hn ?hr ?_; (case ho => rfl); (case hg => rfl); (case hn => rfl); (case hr => first | (go_simp; done) | (go_simp; rfl)); intro w12 hw; have n0_ : Aside0 (Kd.R (Kd.int .u64) 33 w12 w.heap.size (fun k_ => some k_ ≠ (v420 : Value).ownBlock) v417 t416) := ⟨(by rw [hw]; exact (by (with_reducible repeat (first | apply Kd.R_alloc | apply Kd.R_drewN | apply Kd.R_drew)); exact Kd.R_mono (Kd.R_far (p := ⟨gb423, 0, none⟩) (Kd.R_types HO418.out BK423.out (by decide)) (fun _ hk => hk.2) (.int .u8 a0)) (fun _ hk => hk.1)))⟩; have n1_ : Aside0 (Kd.R (Kd.int .u64) 33 w12 w.heap.size (fun k_ => some k_ ≠ (v417 : Value).ownBlock) v420 t419) := ⟨(by rw [hw]; exact (by (with_reducible repeat (first | apply Kd.R_alloc | apply Kd.R_drewN | apply Kd.R_drew)); exact Kd.R_mono (Kd.R_far (p := ⟨gb423, 0, none⟩) (Kd.R_types HO421.out BK423.out (by decide)) (fun _ hk => hk.2) (.int .u8 a0)) (fun _ hk => hk.1)))⟩; have n2_ : Aside0 (w12.heap[gb423]? = some (.cells #[.int .u8 a0] 47 (0, 0))) := ⟨(by rw [hw]; exact (by (with_reducible repeat (first | refine blk_drewN ?_ _ | refine blk_drew ?_ | refine blk_alloc ?_ _)); refine blk_put (cs := #[.int .u8 0]) ?_ 0 _ rfl; (with_reducible repeat (first | refine blk_drewN ?_ _ | refine blk_drew ?_ | refine blk_alloc ?_ _)); exact BK423.out))⟩; have n3_ : Aside0 (Below w.heap.size w w12) := ⟨(by rw [hw]; exact hs_)⟩; clear hw HO418 HO421 BK423 HB; have HO418 := n0_; have HO421 := n1_; have BK423 := n2_; have HB := n3_; clear n0_ n1_ n2_ n3_; obtain ⟨Ao13, co13, eo13⟩ := Kd.R_slice HO418.out; subst eo13; obtain ⟨Ao14, co14, eo14⟩ := Kd.R_slice HO421.out; subst eo14) | ((with_reducible refine gate_callee (f := 28) rfl ?_); refine goesM_ (some 59) Try.func28 #[.int .u8 a0, .slice Ao13 t416.length co13, .slice Ao14 t419.length co14] ?_; (with_reducible refine (poly_Mul.calls k a0 (fun k_ => some k_ = (.slice Ao13 t416.length co13 : Value).ownBlock) _ _ t416 (fun k_ => some k_ = (.slice Ao14 t419.length co14 : Value).ownBlock) _ _ t419 t424 t427 _ ?side1 ?side2 A8.out).mono ?_); (case side1 => exact Kd.R_V (Kd.R_tight rfl (Kd.R_types (HO418.out) BK423.out (by decide)))); (case side2 => exact Kd.R_V (Kd.R_tight rfl (Kd.R_types (HO421.out) BK423.out (by decide)))); rintro e w15 ⟨v425, rfl, ho0, hb⟩; refine ⟨_, rfl, ?_⟩; have n0_ := A_ (Kd.R_elder' (nR_ HO418) (Kd.R_base ho0) hb); have n1_ := A_ (Kd.R_elder' (nR_ HO421) (Kd.R_base ho0) hb); have n2_ := A_ (Kd.R_lower (Kd.R_new' (Kd.R_new' (Kd.R_mono (ok' := fun k_ => True) ho0 (fun _ hk_ => trivial)) (Kd.R_lt (nR_ HO418))) (Kd.R_lt (nR_ HO421))) (below_size hs_)); have n3_ := A_ (blk_below (g := gb423) (o := .cells #[.int .u8 a0] 47 (0, 0)) (nb_ BK423) hb); have n4_ := A_ (below_step hs_ hb); clear HO418 HO421 BK423 HB; have HO418 := n0_; have HO421 := n1_; have HO426 := n2_; have BK423 := n3_; have HB := n4_; clear n0_ n1_ n2_ n3_ n4_; (try clear hb); (try clear ho0)))
   go_ret2
   exact ⟨_, by first | rfl | (simp [errW_none, errW_some] <;> rfl) | (simp only [← hji6]; first | rfl | (simp [errW_none, errW_some] <;> rfl)) | (simp [*, errW_none, errW_some] <;> rfl), by (with_reducible repeat (first | apply Kd.R_alloc | apply Kd.R_drewN | apply Kd.R_drew)); exact Kd.R_mono HO426.out (fun _ hk => trivial), hs_⟩
  ·rw [if_neg c7] at H
   have c7b0 : decide ((ji6) ≤ 16) = false := decide_eq_false c7
   clear c7
   by_cases c16 : (wrap64 ((wrap64 ((t416.length : Int) + (t419.length : Int))) - 1)) ≤ 64
   ·rw [if_pos c16] at H
    have c16b0 : decide ((wrap64 ((wrap64 ((t416.length : Int) + (t419.length : Int))) - 1)) ≤ 64) = true := decide_eq_true c16
    clear c16
    replace H := Option.bind_eq_some_iff.mp H
    obtain ⟨t428, A170, H⟩ := H
    replace H : ((poly_Trim.f k t428).bind fun t431 => (some (t431, 0))) = some (r1, r2) := H
    have A17 := Aside0.mk A170
    clear A170
    replace H := Option.bind_eq_some_iff.mp H
    obtain ⟨t431, A180, H⟩ := H
    replace H : (some (t431, 0)) = some (r1, r2) := H
    have A18 := Aside0.mk A180
    clear A180
    simp only [Option.some.injEq, Prod.mk.injEq] at H
    obtain ⟨rfl, rfl⟩ := H
    go_enter Try.func12, Try.ntmps12
    go_wp2_with (first | ((with_reducible refine gate_callee (f := 27) rfl ?_); refine goesM_ (some 19) Try.func27 #[.int .u8 a0, .slice A1 l1.length c1, .slice A2 l2.length c2] ?_; (with_reducible refine (fast_checked.calls k a0 (fun k_ => k_ < w.heap.size) _ _ l1 (fun k_ => k_ < w.heap.size) _ _ l2 t416 t419 t422 _ ?side1 ?side2 A4.out).mono ?_); (case side1 => exact Kd.V_mk HC1.out (Kd.F_below (Kd.C_F (Kd.heap_int .u64) HR1.out) hb_)); (case side2 => exact Kd.V_mk HC2.out (Kd.F_below (Kd.C_F (Kd.heap_int .u64) HR2.out) hb_)); rintro e w19 ⟨v417, v420, rfl, ho0, ho1, hb⟩; refine ⟨_, rfl, ?_⟩; have n0_ := A_ (Kd.R_lower (Kd.R_mono (ok' := fun k_ => some k_ ≠ (v420 : Value).ownBlock) ho0 (fun _ hk_ => hk_.2)) (below_size hb_)); have n1_ := A_ (Kd.R_lower (Kd.R_mono (ok' := fun k_ => some k_ ≠ (v417 : Value).ownBlock) ho1 (fun _ hk_ => hk_.2)) (below_size hb_)); have n2_ := A_ (below_step hb_ hb); clear HB; have HO418 := n0_; have HO421 := n1_; have HB := n2_; clear n0_ n1_ n2_; (try clear hb); (try clear ho0); (try clear ho1)) | ((with_reducible refine gate_dst (N := 11) rfl ?_); refine box_event ?hg (N := 11) ?hd (cs := #[.int .u8 0]) (t := 47) ?hr ?_; (case hd => rfl); (case hg => rfl); (case hr => first | (go_simp; done) | (go_simp; rfl)); intro gb423 hg w20 hbox hb; have n0_ := A_ (Kd.R_below (nR_ HO418) hb); have n1_ := A_ (Kd.R_below (nR_ HO421) hb); have n2_ := A_ (below_step hb_ hb); have n3_ := A_ (hbox); have n4_ := A_ ((by rw [hg]; exact (below_size hb_) : w.heap.size ≤ gb423)); have n5_ := A_ ((by rw [hg]; exact (below_size hb_) : w.heap.size ≤ gb423)); clear HO418 HO421 HB; have HO418 := n0_; have HO421 := n1_; have HB := n2_; have BK423 := n3_; have GW423 := n4_; have GE423 := n5_; clear n0_ n1_ n2_ n3_ n4_ n5_; clear hb hbox hg; have hcz21_0 : w20.cell? ⟨gb423, 0, none⟩ = some (.int .u8 0) := (blk_cell BK423.out 0).trans rfl; have hfz21_0 := blk_frozen BK423.out 0; obtain ⟨Ao22, co22, eo22⟩ := Kd.R_slice HO418.out; subst eo22; obtain ⟨Ao23, co23, eo23⟩ := Kd.R_slice HO421.out; subst eo23) | ((with_reducible refine gate_callee (f := 30) rfl ?_); refine goesM_ (some 68) Try.func30 #[.agg #[.int .u8 a0], .slice Ao22 t416.length co22, .slice Ao23 t419.length co23] ?_; (with_reducible refine (fast_reckoner_halves.calls k a0 _ _ t416 _ _ t419 t428 _ ?side1 ?side2 ?side3 ?side4 A17.out).mono ?_); (case side1 => refine (Kd.R_reads' (e := 33) (base := w.heap.size) (ok := fun k_ => some k_ ≠ (.slice Ao23 t419.length co23 : Value).ownBlock) (n := t416.length) (c := co22) ?_).2.2; exact (by (with_reducible repeat (first | apply Kd.R_alloc | apply Kd.R_drewN | apply Kd.R_drew)); exact (Kd.R_mono (Kd.R_far (p := ⟨gb423, 0, none⟩) (Kd.R_types HO418.out BK423.out (by decide)) (fun _ hk => hk.2) (.int .u8 a0)) (fun _ h_ => h_.1)))); (case side2 => exact (Kd.R_reads' HO418.out).2.1); (case side3 => refine (Kd.R_reads' (e := 33) (base := w.heap.size) (ok := fun k_ => some k_ ≠ (.slice Ao22 t416.length co22 : Value).ownBlock) (n := t419.length) (c := co23) ?_).2.2; exact (by (with_reducible repeat (first | apply Kd.R_alloc | apply Kd.R_drewN | apply Kd.R_drew)); exact (Kd.R_mono (Kd.R_far (p := ⟨gb423, 0, none⟩) (Kd.R_types HO421.out BK423.out (by decide)) (fun _ hk => hk.2) (.int .u8 a0)) (fun _ h_ => h_.1)))); (case side4 => exact (Kd.R_reads' HO421.out).2.1); rintro e w24 ⟨v429, rfl, ho0, hb⟩; refine ⟨_, rfl, ?_⟩; have n0_ := A_ (Kd.R_elder' (by (with_reducible repeat (first | apply Kd.R_alloc | apply Kd.R_drewN | apply Kd.R_drew)); exact (Kd.R_mono (Kd.R_far (p := ⟨gb423, 0, none⟩) (Kd.R_types HO418.out BK423.out (by decide)) (fun _ hk => hk.2) (.int .u8 a0)) (fun _ h_ => h_.1))) (Kd.R_base ho0) hb); have n1_ := A_ (Kd.R_elder' (by (with_reducible repeat (first | apply Kd.R_alloc | apply Kd.R_drewN | apply Kd.R_drew)); exact (Kd.R_mono (Kd.R_far (p := ⟨gb423, 0, none⟩) (Kd.R_types HO421.out BK423.out (by decide)) (fun _ hk => hk.2) (.int .u8 a0)) (fun _ h_ => h_.1))) (Kd.R_base ho0) hb); have n2_ := A_ (Kd.R_lower (Kd.R_new' (Kd.R_new' ho0 (Kd.R_lt (by (with_reducible repeat (first | apply Kd.R_alloc | apply Kd.R_drewN | apply Kd.R_drew)); exact (Kd.R_mono (Kd.R_far (p := ⟨gb423, 0, none⟩) (Kd.R_types HO418.out BK423.out (by decide)) (fun _ hk => hk.2) (.int .u8 a0)) (fun _ h_ => h_.1))))) (Kd.R_lt (by (with_reducible repeat (first | apply Kd.R_alloc | apply Kd.R_drewN | apply Kd.R_drew)); exact (Kd.R_mono (Kd.R_far (p := ⟨gb423, 0, none⟩) (Kd.R_types HO421.out BK423.out (by decide)) (fun _ hk => hk.2) (.int .u8 a0)) (fun _ h_ => h_.1))))) (below_size hs_)); have n3_ := A_ (blk_below (g := gb423) (o := .cells #[.int .u8 a0] 47 (0, 0)) (by (with_reducible repeat (first | refine blk_drewN ?_ _ | refine blk_drew ?_ | refine blk_alloc ?_ _)); refine blk_put (cs := #[.int .u8 0]) ?_ 0 _ rfl; (with_reducible repeat (first | refine blk_drewN ?_ _ | refine blk_drew ?_ | refine blk_alloc ?_ _)); exact BK423.out) hb); have n4_ := A_ (below_step hs_ hb); clear HO418 HO421 BK423 HB; have HO418 := n0_; have HO421 := n1_; have HO430 := n2_; have BK423 := n3_; have HB := n4_; clear n0_ n1_ n2_ n3_ n4_; (try clear hb); (try clear ho0); obtain ⟨Ao25, co25, eo25⟩ := Kd.R_slice HO430.out; subst eo25) | ((with_reducible refine gate_callee (f := 29) rfl ?_); refine goesM_ (some 69) Try.func29 #[.slice Ao25 t428.length co25] ?_; (with_reducible refine (poly_Trim.calls k _ _ t428 t431 _ ?side1 ?side2 A18.out).mono ?_); (case side1 => repeat (first | exact (Kd.R_reads' HO430.out).2.2 | (with_reducible refine Kd.C_alloc ?_ _) | (with_reducible refine Kd.C_drewN ?_ _) | (with_reducible refine Kd.C_drew ?_))); (case side2 => exact (Kd.R_reads' HO430.out).2.1); rintro e w26 ⟨v432, rfl, ho0, hb⟩; refine ⟨_, rfl, ?_⟩; have n0_ := A_ (Kd.R_elder' (nR_ HO418) (Kd.R_base ho0) hb); have n1_ := A_ (Kd.R_elder' (nR_ HO421) (Kd.R_base ho0) hb); have n2_ := A_ (Kd.R_elder' (nR_ HO430) (Kd.R_base ho0) hb); have n3_ := A_ (Kd.R_lower (Kd.R_new' (Kd.R_new' (Kd.R_new' ho0 (Kd.R_lt (nR_ HO418))) (Kd.R_lt (nR_ HO421))) (Kd.R_lt (nR_ HO430))) (below_size hs_)); have n4_ := A_ (blk_below (g := gb423) (o := .cells #[.int .u8 a0] 47 (0, 0)) (nb_ BK423) hb); have n5_ := A_ (below_step hs_ hb); clear HO418 HO421 HO430 BK423 HB; have HO418 := n0_; have HO421 := n1_; have HO430 := n2_; have HO433 := n3_; have BK423 := n4_; have HB := n5_; clear n0_ n1_ n2_ n3_ n4_ n5_; (try clear hb); (try clear ho0)))
    go_ret2
    exact ⟨_, by first | rfl | (simp [errW_none, errW_some] <;> rfl) | (simp only [← hji6]; first | rfl | (simp [errW_none, errW_some] <;> rfl)) | (simp [*, errW_none, errW_some] <;> rfl), by (with_reducible repeat (first | apply Kd.R_alloc | apply Kd.R_drewN | apply Kd.R_drew)); exact Kd.R_mono HO433.out (fun _ hk => trivial), hs_⟩
   ·rw [if_neg c16] at H
    have c16b0 : decide ((wrap64 ((wrap64 ((t416.length : Int) + (t419.length : Int))) - 1)) ≤ 64) = false := decide_eq_false c16
    clear c16
    have H' := Aside0.mk H
    clear H
    go_enter Try.func12, Try.ntmps12
    go_wp2_with (first | ((with_reducible refine gate_callee (f := 27) rfl ?_); refine goesM_ (some 19) Try.func27 #[.int .u8 a0, .slice A1 l1.length c1, .slice A2 l2.length c2] ?_; (with_reducible refine (fast_checked.calls k a0 (fun k_ => k_ < w.heap.size) _ _ l1 (fun k_ => k_ < w.heap.size) _ _ l2 t416 t419 t422 _ ?side1 ?side2 A4.out).mono ?_); (case side1 => exact Kd.V_mk HC1.out (Kd.F_below (Kd.C_F (Kd.heap_int .u64) HR1.out) hb_)); (case side2 => exact Kd.V_mk HC2.out (Kd.F_below (Kd.C_F (Kd.heap_int .u64) HR2.out) hb_)); rintro e w27 ⟨v417, v420, rfl, ho0, ho1, hb⟩; refine ⟨_, rfl, ?_⟩; have n0_ := A_ (Kd.R_lower (Kd.R_mono (ok' := fun k_ => some k_ ≠ (v420 : Value).ownBlock) ho0 (fun _ hk_ => hk_.2)) (below_size hb_)); have n1_ := A_ (Kd.R_lower (Kd.R_mono (ok' := fun k_ => some k_ ≠ (v417 : Value).ownBlock) ho1 (fun _ hk_ => hk_.2)) (below_size hb_)); have n2_ := A_ (below_step hb_ hb); clear HB; have HO418 := n0_; have HO421 := n1_; have HB := n2_; clear n0_ n1_ n2_; (try clear hb); (try clear ho0); (try clear ho1)) | ((with_reducible refine gate_dst (N := 11) rfl ?_); refine box_event ?hg (N := 11) ?hd (cs := #[.int .u8 0]) (t := 47) ?hr ?_; (case hd => rfl); (case hg => rfl); (case hr => first | (go_simp; done) | (go_simp; rfl)); intro gb423 hg w28 hbox hb; have n0_ := A_ (Kd.R_below (nR_ HO418) hb); have n1_ := A_ (Kd.R_below (nR_ HO421) hb); have n2_ := A_ (below_step hb_ hb); have n3_ := A_ (hbox); have n4_ := A_ ((by rw [hg]; exact (below_size hb_) : w.heap.size ≤ gb423)); have n5_ := A_ ((by rw [hg]; exact (below_size hb_) : w.heap.size ≤ gb423)); clear HO418 HO421 HB; have HO418 := n0_; have HO421 := n1_; have HB := n2_; have BK423 := n3_; have GW423 := n4_; have GE423 := n5_; clear n0_ n1_ n2_ n3_ n4_ n5_; clear hb hbox hg; have hcz29_0 : w28.cell? ⟨gb423, 0, none⟩ = some (.int .u8 0) := (blk_cell BK423.out 0).trans rfl; have hfz29_0 := blk_frozen BK423.out 0; obtain ⟨Ao30, co30, eo30⟩ := Kd.R_slice HO418.out; subst eo30; obtain ⟨Ao31, co31, eo31⟩ := Kd.R_slice HO421.out; subst eo31) | ((with_reducible refine gate_dst (N := 13) rfl ?_); refine box_event ?hg (N := 13) ?hd (cs := #[.int .i64 0]) (t := 3) ?hr ?_; (case hd => rfl); (case hg => rfl); (case hr => first | (go_simp; done) | (go_simp; rfl)); intro gb434 hg w32 hbox hb; have n0_ := A_ (Kd.R_below (by (with_reducible repeat (first | apply Kd.R_alloc | apply Kd.R_drewN | apply Kd.R_drew)); exact (Kd.R_mono (Kd.R_far (p := ⟨gb423, 0, none⟩) (Kd.R_types HO418.out BK423.out (by decide)) (fun _ hk => hk.2) (.int .u8 a0)) (fun _ h_ => h_.1))) hb); have n1_ := A_ (Kd.R_below (by (with_reducible repeat (first | apply Kd.R_alloc | apply Kd.R_drewN | apply Kd.R_drew)); exact (Kd.R_mono (Kd.R_far (p := ⟨gb423, 0, none⟩) (Kd.R_types HO421.out BK423.out (by decide)) (fun _ hk => hk.2) (.int .u8 a0)) (fun _ h_ => h_.1))) hb); have n2_ := A_ (blk_below (g := gb423) (o := .cells #[.int .u8 a0] 47 (0, 0)) (by (with_reducible repeat (first | refine blk_drewN ?_ _ | refine blk_drew ?_ | refine blk_alloc ?_ _)); refine blk_put (cs := #[.int .u8 0]) ?_ 0 _ rfl; (with_reducible repeat (first | refine blk_drewN ?_ _ | refine blk_drew ?_ | refine blk_alloc ?_ _)); exact BK423.out) hb); have n3_ := A_ (below_step hs_ hb); have n4_ := A_ (hbox); have n5_ := A_ ((by rw [hg]; exact (below_size hs_) : w.heap.size ≤ gb434)); have n6_ := A_ ((by rw [hg]; exact (below_size hs_) : w.heap.size ≤ gb434)); have n7_ := A_ ((by rw [hg]; exact Nat.ne_of_lt (blk_lt (g := gb423) (o := .cells #[.int .u8 a0] 47 (0, 0)) (by (with_reducible repeat (first | refine blk_drewN ?_ _ | refine blk_drew ?_ | refine blk_alloc ?_ _)); refine blk_put (cs := #[.int .u8 0]) ?_ 0 _ rfl; (with_reducible repeat (first | refine blk_drewN ?_ _ | refine blk_drew ?_ | refine blk_alloc ?_ _)); exact BK423.out)) : gb423 ≠ gb434)); have n8_ := A_ ((by rw [hg]; exact Nat.ne_of_gt (blk_lt (g := gb423) (o := .cells #[.int .u8 a0] 47 (0, 0)) (by (with_reducible repeat (first | refine blk_drewN ?_ _ | refine blk_drew ?_ | refine blk_alloc ?_ _)); refine blk_put (cs := #[.int .u8 0]) ?_ 0 _ rfl; (with_reducible repeat (first | refine blk_drewN ?_ _ | refine blk_drew ?_ | refine blk_alloc ?_ _)); exact BK423.out)) : gb434 ≠ gb423)); clear HO418 HO421 BK423 HB; have HO418 := n0_; have HO421 := n1_; have BK423 := n2_; have HB := n3_; have BK434 := n4_; have GW434 := n5_; have GE434 := n6_; have NB423_434 := n7_; have NB434_423 := n8_; clear n0_ n1_ n2_ n3_ n4_ n5_ n6_ n7_ n8_; clear hb hbox hg; have hnb33 := NB434_423.out; have hnc33 := NB423_434.out; have hcz34_0 : w32.cell? ⟨gb434, 0, none⟩ = some (.int .i64 0) := (blk_cell BK434.out 0).trans rfl; have hfz34_0 := blk_frozen BK434.out 0))
    go_loopg [] k (fun kq w' => ∃ (x435000_1 : Int), Aside0 (fast_Mul.l0 kq t416 t419 (wrap64 ((wrap64 ((t416.length : Int) + (t419.length : Int))) - 1)) a0 x435000_1 = some (r1, r2)) ∧ Aside0 (kq ≤ k) ∧ Aside0 (Kd.R (Kd.int .u64) 33 w' w.heap.size (fun k_ => some k_ ≠ ((.slice Ao31 t419.length co31) : Value).ownBlock) (.slice Ao30 t416.length co30) t416) ∧ Aside0 (Kd.R (Kd.int .u64) 33 w' w.heap.size (fun k_ => some k_ ≠ ((.slice Ao30 t416.length co30) : Value).ownBlock) (.slice Ao31 t419.length co31) t419) ∧ Aside0 (w'.heap[gb423]? = some (.cells #[.int .u8 a0] 47 (0, 0))) ∧ Aside0 (w'.heap[gb434]? = some (.cells #[.int .i64 x435000_1] 3 (0, 0))) ∧ Aside0 (Below w.heap.size w w'))
    case atStart => exact ⟨(1), H', ⟨Nat.le_refl _⟩, ⟨by (with_reducible repeat (first | apply Kd.R_alloc | apply Kd.R_drewN | apply Kd.R_drew)); exact Kd.R_mono (Kd.R_far (p := ⟨gb434, 0, none⟩) (Kd.R_types HO418.out BK434.out (by decide)) (fun _ hk => hk.2) (.int .i64 1)) (fun _ hk => hk.1)⟩, ⟨by (with_reducible repeat (first | apply Kd.R_alloc | apply Kd.R_drewN | apply Kd.R_drew)); exact Kd.R_mono (Kd.R_far (p := ⟨gb434, 0, none⟩) (Kd.R_types HO421.out BK434.out (by decide)) (fun _ hk => hk.2) (.int .i64 1)) (fun _ hk => hk.1)⟩, ⟨by (with_reducible repeat (first | refine blk_drewN ?_ _ | refine blk_drew ?_ | refine blk_alloc ?_ _)); refine blk_far ?_ NB423_434.out _; (with_reducible repeat (first | refine blk_drewN ?_ _ | refine blk_drew ?_ | refine blk_alloc ?_ _)); exact BK423.out⟩, ⟨by (with_reducible repeat (first | refine blk_drewN ?_ _ | refine blk_drew ?_ | refine blk_alloc ?_ _)); refine blk_put (cs := #[.int .i64 0]) ?_ 0 _ rfl; (with_reducible repeat (first | refine blk_drewN ?_ _ | refine blk_drew ?_ | refine blk_alloc ?_ _)); exact BK434.out⟩, ⟨hs_⟩⟩
    case round =>
     clear H'
     try clear c1
     try clear c2
     try clear p2
     try clear c3
     try clear c5
     try clear c5b0
     try clear c5b1
     try clear p6
     try clear c7
     try clear c7b0
     try clear c12
     try clear c16
     try clear c16b0
     try clear c27
     try clear c28
     try clear c29
     try clear c30
     try clear c33
     try clear hcz11_0
     try clear hcz21_0
     try clear hcz29_0
     try clear hcz34_0
     try clear hfz11_0
     try clear hfz21_0
     try clear hfz29_0
     try clear hfz34_0
     obtain ⟨x435000_1, HA, HK1, HO_8, HO_9, BK423, BK434, HB⟩ := hrel
     cases gk with
     | zero => exact absurd HA.out (by simp [fast_Mul.l0])
     | succ k1 =>
      have H := HA.out
      clear HA
      simp only [fast_Mul.l0] at H
      by_cases c35 : x435000_1 < (wrap64 ((wrap64 ((t416.length : Int) + (t419.length : Int))) - 1))
      ·rw [if_pos c35] at H
       have c35b0 : decide (x435000_1 < (wrap64 ((wrap64 ((t416.length : Int) + (t419.length : Int))) - 1))) = true := decide_eq_true c35
       clear c35
       have H' := Aside0.mk H
       clear H
       have hnb36 := NB434_423.out
       have hnc36 := NB423_434.out
       have hcz37_0 : wr.cell? ⟨gb434, 0, none⟩ = some (.int .i64 x435000_1) := (blk_cell BK434.out 0).trans rfl
       have hfz37_0 := blk_frozen BK434.out 0
       go_wp2
       go_roundg k1
       case measure => have := HK1.out; omega
       case rel => exact ⟨(wrap64 (x435000_1 * 2)), H', ⟨by have := HK1.out; omega⟩, ⟨by (with_reducible repeat (first | apply Kd.R_alloc | apply Kd.R_drewN | apply Kd.R_drew)); exact Kd.R_mono (Kd.R_far (p := ⟨gb434, 0, none⟩) (Kd.R_types HO_8.out BK434.out (by decide)) (fun _ hk => hk.2) (.int .i64 (wrap64 (x435000_1 * 2)))) (fun _ hk => hk.1)⟩, ⟨by (with_reducible repeat (first | apply Kd.R_alloc | apply Kd.R_drewN | apply Kd.R_drew)); exact Kd.R_mono (Kd.R_far (p := ⟨gb434, 0, none⟩) (Kd.R_types HO_9.out BK434.out (by decide)) (fun _ hk => hk.2) (.int .i64 (wrap64 (x435000_1 * 2)))) (fun _ hk => hk.1)⟩, ⟨by (with_reducible repeat (first | refine blk_drewN ?_ _ | refine blk_drew ?_ | refine blk_alloc ?_ _)); refine blk_far ?_ NB423_434.out _; (with_reducible repeat (first | refine blk_drewN ?_ _ | refine blk_drew ?_ | refine blk_alloc ?_ _)); exact BK423.out⟩, ⟨by (with_reducible repeat (first | refine blk_drewN ?_ _ | refine blk_drew ?_ | refine blk_alloc ?_ _)); refine blk_put (cs := #[.int .i64 x435000_1]) ?_ 0 _ rfl; (with_reducible repeat (first | refine blk_drewN ?_ _ | refine blk_drew ?_ | refine blk_alloc ?_ _)); exact BK434.out⟩, ⟨hs_⟩⟩
      ·rw [if_neg c35] at H
       have c35b0 : decide (x435000_1 < (wrap64 ((wrap64 ((t416.length : Int) + (t419.length : Int))) - 1))) = false := decide_eq_false c35
       clear c35
       replace H := Option.bind_eq_some_iff.mp H
       obtain ⟨t435, A380, H⟩ := H
       replace H : ((fast_Mul_1.f t419 x435000_1).bind fun t438 => ((fast_reckoner_round.f k1 a0 t435 t438).bind fun t441 => ((poly_Trim.f k1 t441).bind fun t444 => (some (t444, 0))))) = some (r1, r2) := H
       have A38 := Aside0.mk A380
       clear A380
       replace H := Option.bind_eq_some_iff.mp H
       obtain ⟨t438, A390, H⟩ := H
       replace H : ((fast_reckoner_round.f k1 a0 t435 t438).bind fun t441 => ((poly_Trim.f k1 t441).bind fun t444 => (some (t444, 0)))) = some (r1, r2) := H
       have A39 := Aside0.mk A390
       clear A390
       replace H := Option.bind_eq_some_iff.mp H
       obtain ⟨t441, A400, H⟩ := H
       replace H : ((poly_Trim.f k1 t441).bind fun t444 => (some (t444, 0))) = some (r1, r2) := H
       have A40 := Aside0.mk A400
       clear A400
       replace H := Option.bind_eq_some_iff.mp H
       obtain ⟨t444, A410, H⟩ := H
       replace H : (some (t444, 0)) = some (r1, r2) := H
       have A41 := Aside0.mk A410
       clear A410
       simp only [Option.some.injEq, Prod.mk.injEq] at H
       obtain ⟨rfl, rfl⟩ := H
       have hnb42 := NB434_423.out
       have hnc42 := NB423_434.out
       have hcz43_0 : wr.cell? ⟨gb434, 0, none⟩ = some (.int .i64 x435000_1) := (blk_cell BK434.out 0).trans rfl
       have hfz43_0 := blk_frozen BK434.out 0
       try go_wp2
       have n0_ := A_ (Kd.R_drew HO_8.out)
       have n1_ := A_ (Kd.R_drew HO_9.out)
       have n2_ := A_ (blk_drew BK423.out)
       have n3_ := A_ (blk_drew BK434.out)
       have n4_ := A_ (below_drew1 HB.out)
       clear HO_8
       clear HO_9
       clear BK423
       clear BK434
       clear HB
       have HO_8 := n0_
       have HO_9 := n1_
       have BK423 := n2_
       have BK434 := n3_
       have HB := n4_
       clear n0_ n1_ n2_ n3_ n4_
       refine start_ (n := 11) (S := fun w' => w'.cell? ⟨gb423, 0, none⟩ = some (.int .u8 a0)) (ds := []) #[false, false, false, false, false, false, false, false, false, false, false] (by kernel_rfl) rfl rfl ((blk_cell BK423.out 0).trans rfl) (fun hHeld => ?_); refine with_tabW fast_Mul.tab10 fast_Mul.bits10 (fun HT_ HW_ => ?_)
       generalize wr.drew = w44 at HO_8 HO_9 BK423 BK434 HB hHeld ⊢
       refine pure_ (i := 1) (N := some 41) (v := ?_) (a' := ?_) #[false, true, false, false, false, false, false, false, false, false, false] rfl rfl (any_of HT_.out (by kernel_rfl)) (fun _ _ _ h => h) (Or.inl ⟨by rfl, ?_⟩) ?_ ?_
       rotate_left
       ·intro w'
        go_simp
        with_reducible rfl
       rotate_left
       ·simp only [Act.put, List.setIfInBounds_toArray, List.set_cons_zero, List.set_cons_succ, i64_w, i32_w]
        rfl
       refine pure_ (i := 2) (N := some 42) (v := ?_) (a' := ?_) #[false, true, true, false, false, false, false, false, false, false, false] rfl rfl (any_of HT_.out (by kernel_rfl)) (fun _ _ _ h => h) (Or.inl ⟨by rfl, ?_⟩) ?_ ?_
       rotate_left
       ·intro w'
        go_simp
        with_reducible rfl
       rotate_left
       ·simp only [Act.put, List.setIfInBounds_toArray, List.set_cons_zero, List.set_cons_succ, i64_w, i32_w]
        rfl
       refine pure_ (i := 4) (N := some 44) (v := ?_) (a' := ?_) #[false, true, true, false, true, false, false, false, false, false, false] rfl rfl (any_of HT_.out (by kernel_rfl)) (fun _ _ _ h => h) (Or.inl ⟨by rfl, ?_⟩) ?_ ?_
       rotate_left
       ·intro w'
        go_simp
        with_reducible rfl
       rotate_left
       ·simp only [Act.put, List.setIfInBounds_toArray, List.set_cons_zero, List.set_cons_succ, i64_w, i32_w]
        rfl
       refine pure_ (i := 5) (N := some 45) (v := ?_) (a' := ?_) #[false, true, true, false, true, true, false, false, false, false, false] rfl rfl (any_of HT_.out (by kernel_rfl)) (fun _ _ _ h => h) (Or.inl ⟨by rfl, ?_⟩) ?_ ?_
       rotate_left
       ·intro w'
        go_simp
        with_reducible rfl
       rotate_left
       ·simp only [Act.put, List.setIfInBounds_toArray, List.set_cons_zero, List.set_cons_succ, i64_w, i32_w]
        rfl
       refine take_ (i := 0) (N := some 40) (v := ?_) (a' := ?_) #[true, true, true, false, true, true, false, false, false, false, false] rfl rfl (take_ofW HT_.out HW_.out (by kernel_rfl)) (fun _ _ _ h => h) (Or.inl ⟨by rfl, ?_⟩) hHeld ?_ ?_
       rotate_left
       ·intro w' s0
        go_simp
        with_reducible rfl
       rotate_left
       ·simp only [Act.put, List.setIfInBounds_toArray, List.set_cons_zero, List.set_cons_succ, i64_w, i32_w]
        rfl
       refine one_ (i := 3) (N := some 43) #[true, true, true, true, true, true, false, false, false, false, false] rfl rfl (one_of HT_.out (by kernel_rfl)) (by decide) (fun K hK => ?_)
       refine goesKr_ Try.func31 (by kernel_rfl) rfl #[.slice Ao30 t416.length co30, .pointer (some ⟨gb434, 0, none⟩)] (by rfl) rfl rfl (by rfl) (by (try simp only [List.map_toArray, List.map_cons, List.map_nil]); first | done | rfl | (simp only [List.length_drop, List.length_take]; rfl)) ?_
       with_reducible refine (fast_Mul_1.calls (fun k_ => some k_ = (.slice Ao30 t416.length co30 : Value).ownBlock) (.slice Ao30 t416.length co30) t416 x435000_1 t435 w _ ?side1 ?side2 A38.out gb434 ((blk_cell (nb_ BK434) 0).trans rfl)).mono ?_
       (case side1 => repeat (first | (with_reducible first | exact HB.out | apply below_alloc | apply pw_below_drewN | apply below_drew1 | refine below_set ?_ GE423.out | refine below_set ?_ GE434.out) | exact HB.out))
       (case side2 => exact Kd.R_tight rfl HO_8.out)
       rintro e w45 ⟨v436, rfl, ho0, hb, hkp⟩
       refine ⟨_, rfl, ?_⟩
       have n0_ := A_ (Kd.R_mono (ok' := fun k_ => some k_ ≠ (v436 : Value).ownBlock) (Kd.R_keptB (HO_9.out) hkp (fun k_ hk_ hs_ => (hk_) hs_)) (fun k_ hk_ => fun e_ => Or.elim (ho0.1 k_ e_.symm) (fun hs_ => hk_.2.1 hs_) (fun hn_ => Nat.not_le.2 hk_.2.2 hn_)))
       have n1_ := A_ (blk_kept (nb_ BK423) hkp (fun hs_ => (fun e_ => (Kd.R_ne HO_8.out BK423.out (by decide)) e_) hs_))
       have n2_ := A_ (blk_kept (nb_ BK434) hkp (fun hs_ => (fun e_ => (Kd.R_ne HO_8.out BK434.out (by decide)) e_) hs_))
       have n3_ := A_ (Kd.R_mono (ok' := fun k_ => some k_ ≠ (.slice Ao31 t419.length co31 : Value).ownBlock) ho0 (fun k_ hk_ => Or.elim hk_ (fun hs_ => fun e_ => (((HO_9.out).1 k_ e_.symm)) hs_) (fun hn_ => (Kd.fresh' (Kd.R_lt (nR_ HO_9)) k_ hn_))))
       have n4_ := A_ (hb)
       clear HO_9
       clear BK423
       clear BK434
       clear HB
       clear HO_8
       have HO_9 := n0_
       have BK423 := n1_
       have BK434 := n2_
       have HO437 := n3_
       have HB := n4_
       clear n0_ n1_ n2_ n3_ n4_
       (try clear hb)
       (try clear hkp)
       (try clear ho0)
       refine hK.out _ _ ((blk_cell BK423.out 0).trans rfl) (fun hHeld => ?_)
       clear hK K
       refine norm_ (a' := ?_) ?_ ?_
       rotate_left
       ·show Act.put _ (some 43) _ = _
        simp only [Act.put, List.setIfInBounds_toArray, List.set_cons_zero, List.set_cons_succ, i64_w, i32_w]
        rfl
       refine one_ (i := 6) (N := some 46) #[true, true, true, true, true, true, true, false, false, false, false] rfl rfl (one_of HT_.out (by kernel_rfl)) (by decide) (fun K hK => ?_)
       refine goesKr_ Try.func31 (by kernel_rfl) rfl #[.slice Ao31 t419.length co31, .pointer (some ⟨gb434, 0, none⟩)] (by rfl) rfl rfl (by rfl) (by (try simp only [List.map_toArray, List.map_cons, List.map_nil]); first | done | rfl | (simp only [List.length_drop, List.length_take]; rfl)) ?_
       with_reducible refine (fast_Mul_1.calls (fun k_ => some k_ = (.slice Ao31 t419.length co31 : Value).ownBlock) (.slice Ao31 t419.length co31) t419 x435000_1 t438 w _ ?side1 ?side2 A39.out gb434 ((blk_cell (nb_ BK434) 0).trans rfl)).mono ?_
       (case side1 => repeat (first | (with_reducible first | exact HB.out | apply below_alloc | apply pw_below_drewN | apply below_drew1 | refine below_set ?_ GE423.out | refine below_set ?_ GE434.out) | exact HB.out))
       (case side2 => exact Kd.R_tight rfl HO_9.out)
       rintro e w46 ⟨v439, rfl, ho0, hb, hkp⟩
       refine ⟨_, rfl, ?_⟩
       have n0_ := A_ (blk_kept (nb_ BK423) hkp (fun hs_ => (fun e_ => (Kd.R_ne HO_9.out BK423.out (by decide)) e_) hs_))
       have n1_ := A_ (blk_kept (nb_ BK434) hkp (fun hs_ => (fun e_ => (Kd.R_ne HO_9.out BK434.out (by decide)) e_) hs_))
       have n2_ := A_ (Kd.R_mono (ok' := fun k_ => some k_ ≠ (v439 : Value).ownBlock) (Kd.R_keptB (HO437.out) hkp (fun k_ hk_ hs_ => (hk_) hs_)) (fun k_ hk_ => fun e_ => Or.elim (ho0.1 k_ e_.symm) (fun hs_ => hk_.2.1 hs_) (fun hn_ => Nat.not_le.2 hk_.2.2 hn_)))
       have n3_ := A_ (Kd.R_mono (ok' := fun k_ => some k_ ≠ (v436 : Value).ownBlock) ho0 (fun k_ hk_ => Or.elim hk_ (fun hs_ => fun e_ => (((HO437.out).1 k_ e_.symm)) hs_) (fun hn_ => (Kd.fresh' (Kd.R_lt (nR_ HO437)) k_ hn_))))
       have n4_ := A_ (hb)
       clear BK423
       clear BK434
       clear HO437
       clear HB
       clear HO_9
       have BK423 := n0_
       have BK434 := n1_
       have HO437 := n2_
       have HO440 := n3_
       have HB := n4_
       clear n0_ n1_ n2_ n3_ n4_
       (try clear hb)
       (try clear hkp)
       (try clear ho0)
       obtain ⟨Ao47, co47, eo47⟩ := Kd.R_slice HO437.out
       (first | subst eo47 | (injection eo47 with f1_ f2_ f3_; have f4_ := f1_.symm; have f5_ := f3_.symm; clear f1_ f2_ f3_; subst f4_; subst f5_))
       obtain ⟨Ao48, co48, eo48⟩ := Kd.R_slice HO440.out
       (first | subst eo48 | (injection eo48 with f1_ f2_ f3_; have f4_ := f1_.symm; have f5_ := f3_.symm; clear f1_ f2_ f3_; subst f4_; subst f5_))
       refine hK.out _ _ ((blk_cell BK423.out 0).trans rfl) (fun hHeld => ?_)
       clear hK K
       refine norm_ (a' := ?_) ?_ ?_
       rotate_left
       ·show Act.put _ (some 46) _ = _
        simp only [Act.put, List.setIfInBounds_toArray, List.set_cons_zero, List.set_cons_succ, i64_w, i32_w]
        rfl
       refine one_ (i := 7) (N := some 47) #[true, true, true, true, true, true, true, true, false, false, false] rfl rfl (one_of HT_.out (by kernel_rfl)) (by decide) (fun K hK => ?_)
       refine goes_ Try.func32 (by kernel_rfl) rfl #[.agg #[.int .u8 a0], .slice Ao47 t435.length co47, .slice Ao48 t438.length co48] (by rfl) rfl rfl (by (try simp only [List.map_toArray, List.map_cons, List.map_nil]); first | done | rfl | (simp only [List.length_drop, List.length_take]; rfl)) ?_
       with_reducible refine (fast_reckoner_round.calls k1 a0 _ _ t435 _ _ t438 t441 _ ?side1 ?side2 ?side3 ?side4 A40.out).mono ?_
       (case side1 => repeat (first | exact (Kd.R_reads' HO437.out).2.2 | (with_reducible refine Kd.C_alloc ?_ _) | (with_reducible refine Kd.C_drewN ?_ _) | (with_reducible refine Kd.C_drew ?_)))
       (case side2 => exact (Kd.R_reads' HO437.out).2.1)
       (case side3 => repeat (first | exact (Kd.R_reads' HO440.out).2.2 | (with_reducible refine Kd.C_alloc ?_ _) | (with_reducible refine Kd.C_drewN ?_ _) | (with_reducible refine Kd.C_drew ?_)))
       (case side4 => exact (Kd.R_reads' HO440.out).2.1)
       rintro e w49 ⟨v442, rfl, ho0, hb⟩
       refine ⟨_, rfl, ?_⟩
       have n0_ := A_ (Kd.R_elder' (nR_ HO437) (Kd.R_base ho0) hb)
       have n1_ := A_ (Kd.R_elder' (nR_ HO440) (Kd.R_base ho0) hb)
       have n2_ := A_ (Kd.R_lower (Kd.R_new' (Kd.R_new' ho0 (Kd.R_lt (nR_ HO437))) (Kd.R_lt (nR_ HO440))) (below_size hs_))
       have n3_ := A_ (blk_below (g := gb423) (o := .cells #[.int .u8 a0] 47 (0, 0)) (nb_ BK423) hb)
       have n4_ := A_ (blk_below (g := gb434) (o := .cells #[.int .i64 x435000_1] 3 (0, 0)) (nb_ BK434) hb)
       have n5_ := A_ (below_step hs_ hb)
       clear HO437
       clear HO440
       clear BK423
       clear BK434
       clear HB
       have HO437 := n0_
       have HO440 := n1_
       have HO443 := n2_
       have BK423 := n3_
       have BK434 := n4_
       have HB := n5_
       clear n0_ n1_ n2_ n3_ n4_ n5_
       (try clear hb)
       (try clear hb2)
       (try clear hk)
       (try clear hi)
       (try clear ho0)
       obtain ⟨Ao50, co50, eo50⟩ := Kd.R_slice HO443.out
       (first | subst eo50 | (injection eo50 with f1_ f2_ f3_; have f4_ := f1_.symm; have f5_ := f3_.symm; clear f1_ f2_ f3_; subst f4_; subst f5_))
       refine hK.out _ _ ((blk_cell BK423.out 0).trans rfl) (fun hHeld => ?_)
       clear hK K
       refine norm_ (a' := ?_) ?_ ?_
       rotate_left
       ·show Act.put _ (some 47) _ = _
        simp only [Act.put, List.setIfInBounds_toArray, List.set_cons_zero, List.set_cons_succ, i64_w, i32_w]
        rfl
       refine one_ (i := 8) (N := some 48) #[true, true, true, true, true, true, true, true, true, false, false] rfl rfl (one_of HT_.out (by kernel_rfl)) (by decide) (fun K hK => ?_)
       refine goes_ Try.func29 (by kernel_rfl) rfl #[.slice Ao50 t441.length co50] (by rfl) rfl rfl (by (try simp only [List.map_toArray, List.map_cons, List.map_nil]); first | done | rfl | (simp only [List.length_drop, List.length_take]; rfl)) ?_
       with_reducible refine (poly_Trim.calls k1 _ _ t441 t444 _ ?side1 ?side2 A41.out).mono ?_
       (case side1 => repeat (first | exact (Kd.R_reads' HO443.out).2.2 | (with_reducible refine Kd.C_alloc ?_ _) | (with_reducible refine Kd.C_drewN ?_ _) | (with_reducible refine Kd.C_drew ?_)))
       (case side2 => exact (Kd.R_reads' HO443.out).2.1)
       rintro e w51 ⟨v445, rfl, ho0, hb⟩
       refine ⟨_, rfl, ?_⟩
       have n0_ := A_ (Kd.R_elder' (nR_ HO437) (Kd.R_base ho0) hb)
       have n1_ := A_ (Kd.R_elder' (nR_ HO440) (Kd.R_base ho0) hb)
       have n2_ := A_ (Kd.R_elder' (nR_ HO443) (Kd.R_base ho0) hb)
       have n3_ := A_ (Kd.R_lower (Kd.R_new' (Kd.R_new' (Kd.R_new' ho0 (Kd.R_lt (nR_ HO437))) (Kd.R_lt (nR_ HO440))) (Kd.R_lt (nR_ HO443))) (below_size hs_))
       have n4_ := A_ (blk_below (g := gb423) (o := .cells #[.int .u8 a0] 47 (0, 0)) (nb_ BK423) hb)
       have n5_ := A_ (blk_below (g := gb434) (o := .cells #[.int .i64 x435000_1] 3 (0, 0)) (nb_ BK434) hb)
       have n6_ := A_ (below_step hs_ hb)
       clear HO437
       clear HO440
       clear HO443
       clear BK423
       clear BK434
       clear HB
       have HO437 := n0_
       have HO440 := n1_
       have HO443 := n2_
       have HO446 := n3_
       have BK423 := n4_
       have BK434 := n5_
       have HB := n6_
       clear n0_ n1_ n2_ n3_ n4_ n5_ n6_
       (try clear hb)
       (try clear hb2)
       (try clear hk)
       (try clear hi)
       (try clear ho0)
       refine hK.out _ _ ((blk_cell BK423.out 0).trans rfl) (fun hHeld => ?_)
       clear hK K
       refine norm_ (a' := ?_) ?_ ?_
       rotate_left
       ·show Act.put _ (some 48) _ = _
        simp only [Act.put, List.setIfInBounds_toArray, List.set_cons_zero, List.set_cons_succ, i64_w, i32_w]
        rfl
       refine pure_ (i := 9) (N := some 6) (v := ?_) (a' := ?_) #[true, true, true, true, true, true, true, true, true, true, false] rfl rfl (any_of HT_.out (by kernel_rfl)) (fun _ _ _ h => h) (Or.inl ⟨by rfl, ?_⟩) ?_ ?_
       rotate_left
       ·intro w'
        go_simp
        with_reducible rfl
       rotate_left
       ·simp only [Act.put, List.setIfInBounds_toArray, List.set_cons_zero, List.set_cons_succ, i64_w, i32_w]
        rfl
       refine pure_ (i := 10) (N := some 7) (v := ?_) (a' := ?_) #[true, true, true, true, true, true, true, true, true, true, true] rfl rfl (any_of HT_.out (by kernel_rfl)) (fun _ _ _ h => h) (Or.inl ⟨by rfl, ?_⟩) ?_ ?_
       rotate_left
       ·intro w'
        go_simp
        with_reducible rfl
       rotate_left
       ·simp only [Act.put, List.setIfInBounds_toArray, List.set_cons_zero, List.set_cons_succ, i64_w, i32_w]
        rfl
       refine done_ (done_of HT_.out (by kernel_rfl)) ?_
       try go_wp2
       go_ret2
       exact ⟨_, by first | rfl | (simp [errW_none, errW_some] <;> rfl) | (simp only [← hji6]; first | rfl | (simp [errW_none, errW_some] <;> rfl)) | (simp [*, errW_none, errW_some] <;> rfl), by (with_reducible repeat (first | apply Kd.R_alloc | apply Kd.R_drewN | apply Kd.R_drew)); exact Kd.R_mono HO446.out (fun _ hk => trivial), hs_⟩
 ·rw [if_neg c5] at H
  have c5b0 : (t422 == 0) = false := beq_eq_false_iff_ne.mpr c5
  have c5b1 : (t422 != 0) = true := bne_iff_ne.mpr c5
  simp only [Option.some.injEq, Prod.mk.injEq] at H
  obtain ⟨rfl, rfl⟩ := H
  go_enter Try.func12, Try.ntmps12
  go_wp2_with (first | ((with_reducible refine gate_callee (f := 27) rfl ?_); refine goesM_ (some 19) Try.func27 #[.int .u8 a0, .slice A1 l1.length c1, .slice A2 l2.length c2] ?_; (with_reducible refine (fast_checked.calls k a0 (fun k_ => k_ < w.heap.size) _ _ l1 (fun k_ => k_ < w.heap.size) _ _ l2 t416 t419 t422 _ ?side1 ?side2 A4.out).mono ?_); (case side1 => exact Kd.V_mk HC1.out (Kd.F_below (Kd.C_F (Kd.heap_int .u64) HR1.out) hb_)); (case side2 => exact Kd.V_mk HC2.out (Kd.F_below (Kd.C_F (Kd.heap_int .u64) HR2.out) hb_)); rintro e w52 ⟨v417, v420, rfl, ho0, ho1, hb⟩; refine ⟨_, rfl, ?_⟩; have n0_ := A_ (Kd.R_lower (Kd.R_mono (ok' := fun k_ => some k_ ≠ (v420 : Value).ownBlock) ho0 (fun _ hk_ => hk_.2)) (below_size hb_)); have n1_ := A_ (Kd.R_lower (Kd.R_mono (ok' := fun k_ => some k_ ≠ (v417 : Value).ownBlock) ho1 (fun _ hk_ => hk_.2)) (below_size hb_)); have n2_ := A_ (below_step hb_ hb); clear HB; have HO418 := n0_; have HO421 := n1_; have HB := n2_; clear n0_ n1_ n2_; (try clear hb); (try clear ho0); (try clear ho1)))
  go_ret2
  exact ⟨_, fr_, by first | exact Kd.R_nil _ _ _ _ _ | exact Kd.N_nil _ _ _ _ _ | exact Kd.V_nil _ _ _ _ _ | exact Kd.Q_nil _ _ _ _ _ | exact Kd.S_nil _ _ _ _ _, hb_⟩
/-! ### fast_Kara: function 13 -/
def fast_Kara.f (k : Nat) (a0 : Int) (l1 : List Int) (l2 : List Int) : Option (List Int × Int) := (fast_checked.f k a0 l1 l2).bind fun bt447 => (if bt447.2.2 = 0 then ((fast_reckoner_halves.f k a0 bt447.1 bt447.2.1).bind fun t454 => ((poly_Trim.f k t454).bind fun t457 => (some (t457, 0)))) else (some (([] : List Int), bt447.2.2)))
theorem fast_Kara.mono : ∀ a0 a1 a2 k, LeO (fast_Kara.f k a0 a1 a2) (fast_Kara.f (k + 1) a0 a1 a2) := by
 intro a0 a1 a2 k
 unfold fast_Kara.f
 repeat' first
   | (with_reducible exact fast_checked.mono _ _ _ _)
   | (with_reducible exact fast_reckoner_halves.mono _ _ _ _)
   | (with_reducible exact poly_Trim.mono _ _)
   | (with_reducible exact LeO.refl _)
   | (with_reducible exact LeO.none _)
   | (with_reducible refine LeO.ite ?_ ?_)
   | (with_reducible refine LeO.bind ?_ (fun _ => ?_))
   | exact fast_checked.mono _ _ _ _
   | exact fast_reckoner_halves.mono _ _ _ _
   | exact poly_Trim.mono _ _
   | exact LeO.none _
   | refine LeO.ite ?_ ?_
   | refine LeO.bind ?_ (fun _ => ?_)
set_option maxHeartbeats 8000000 in
set_option maxRecDepth 100000 in
theorem fast_Kara.calls (k : Nat) (a0 : Int) (A1 : Option Addr) (c1 : Nat) (l1 : List Int) (A2 : Option Addr) (c2 : Nat) (l2 : List Int) (r1 : List Int) (r2 : Int) (w : World) (hr1 : Kd.C (Kd.int .u64) w A1 l1.length l1) (hc1 : l1.length ≤ c1) (hr2 : Kd.C (Kd.int .u64) w A2 l2.length l2) (hc2 : l2.length ≤ c2) (h : fast_Kara.f k a0 l1 l2 = some (r1, r2)) :
  Calls Try.prog 13 #[.int .u8 a0, .slice A1 l1.length c1, .slice A2 l2.length c2] w fun e w' => ∃ v0_ : Value, e = .returned (.tuple #[v0_, .int .i64 r2]) ∧ Kd.R (Kd.int .u64) 33 w' w.heap.size (fun _ => True) v0_ r1 ∧ Below w.heap.size w w' := by
 have hu47 := Try.underlying47
 have HR1 := Aside0.mk hr1
 have HC1 := Aside0.mk hc1
 clear hr1 hc1
 have HR2 := Aside0.mk hr2
 have HC2 := Aside0.mk hc2
 clear hr2 hc2
 have HB := A_ (Below.refl w.heap.size w)
 have H : ((fast_checked.f k a0 l1 l2).bind fun bt447 => (if bt447.2.2 = 0 then ((fast_reckoner_halves.f k a0 bt447.1 bt447.2.1).bind fun t454 => ((poly_Trim.f k t454).bind fun t457 => (some (t457, 0)))) else (some (([] : List Int), bt447.2.2)))) = some (r1, r2) := h
 clear h
 replace H := Option.bind_eq_some_iff.mp H
 obtain ⟨⟨t447, t450, t453⟩, A40, H⟩ := H
 replace H : (if t453 = 0 then ((fast_reckoner_halves.f k a0 t447 t450).bind fun t454 => ((poly_Trim.f k t454).bind fun t457 => (some (t457, 0)))) else (some (([] : List Int), t453))) = some (r1, r2) := H
 have A4 := Aside0.mk A40
 clear A40
 have HC5 := Aside0.mk H
 clear H
 go_enter Try.func13, Try.ntmps13
 go_upto_if 20 with (first | ((with_reducible refine gate_callee (f := 27) rfl ?_); refine goesM_ (some 15) Try.func27 #[.int .u8 a0, .slice A1 l1.length c1, .slice A2 l2.length c2] ?_; (with_reducible refine (fast_checked.calls k a0 (fun k_ => k_ < w.heap.size) _ _ l1 (fun k_ => k_ < w.heap.size) _ _ l2 t447 t450 t453 _ ?side1 ?side2 A4.out).mono ?_); (case side1 => exact Kd.V_mk HC1.out (Kd.F_below (Kd.C_F (Kd.heap_int .u64) HR1.out) hb_)); (case side2 => exact Kd.V_mk HC2.out (Kd.F_below (Kd.C_F (Kd.heap_int .u64) HR2.out) hb_)); rintro e w6 ⟨v448, v451, rfl, ho0, ho1, hb⟩; refine ⟨_, rfl, ?_⟩; have n0_ := A_ (Kd.R_lower (Kd.R_mono (ok' := fun k_ => some k_ ≠ (v451 : Value).ownBlock) ho0 (fun _ hk_ => hk_.2)) (below_size hb_)); have n1_ := A_ (Kd.R_lower (Kd.R_mono (ok' := fun k_ => some k_ ≠ (v448 : Value).ownBlock) ho1 (fun _ hk_ => hk_.2)) (below_size hb_)); have n2_ := A_ (below_step hb_ hb); clear HB; have HO449 := n0_; have HO452 := n1_; have HB := n2_; clear n0_ n1_ n2_; (try clear hb); (try clear ho0); (try clear ho1)))
 (try simp only [Act.put, List.setIfInBounds_toArray, List.set_cons_zero, List.set_cons_succ])
 have H := HC5.out
 clear HC5
 by_cases c7 : t453 = 0
 ·rw [if_pos c7] at H
  have c7b0 : (t453 == 0) = true := beq_iff_eq.mpr c7
  have c7b1 : (t453 != 0) = false := bne_eq_false_iff_eq.mpr c7
  clear c7
  (first | rw [c7b0] | rw [c7b1] | (simp only [i64_w, i32_w]; first | rw [c7b0] | rw [c7b1]) | skip)
  replace H := Option.bind_eq_some_iff.mp H
  obtain ⟨t454, A80, H⟩ := H
  replace H : ((poly_Trim.f k t454).bind fun t457 => (some (t457, 0))) = some (r1, r2) := H
  have A8 := Aside0.mk A80
  clear A80
  replace H := Option.bind_eq_some_iff.mp H
  obtain ⟨t457, A90, H⟩ := H
  replace H : (some (t457, 0)) = some (r1, r2) := H
  have A9 := Aside0.mk A90
  clear A90
  simp only [Option.some.injEq, Prod.mk.injEq] at H
  obtain ⟨rfl, rfl⟩ := H
  obtain ⟨Ao10, co10, eo10⟩ := Kd.R_slice HO449.out
  subst eo10
  obtain ⟨Ao11, co11, eo11⟩ := Kd.R_slice HO452.out
  subst eo11
  go_wp2_with (first | ((with_reducible refine gate_callee (f := 30) rfl ?_); refine goesM_ (some 26) Try.func30 #[.agg #[.int .u8 a0], .slice Ao10 t447.length co10, .slice Ao11 t450.length co11] ?_; (with_reducible refine (fast_reckoner_halves.calls k a0 _ _ t447 _ _ t450 t454 _ ?side1 ?side2 ?side3 ?side4 A8.out).mono ?_); (case side1 => repeat (first | exact (Kd.R_reads' HO449.out).2.2 | (with_reducible refine Kd.C_alloc ?_ _) | (with_reducible refine Kd.C_drewN ?_ _) | (with_reducible refine Kd.C_drew ?_))); (case side2 => exact (Kd.R_reads' HO449.out).2.1); (case side3 => repeat (first | exact (Kd.R_reads' HO452.out).2.2 | (with_reducible refine Kd.C_alloc ?_ _) | (with_reducible refine Kd.C_drewN ?_ _) | (with_reducible refine Kd.C_drew ?_))); (case side4 => exact (Kd.R_reads' HO452.out).2.1); rintro e w12 ⟨v455, rfl, ho0, hb⟩; refine ⟨_, rfl, ?_⟩; have n0_ := A_ (Kd.R_elder' (nR_ HO449) (Kd.R_base ho0) hb); have n1_ := A_ (Kd.R_elder' (nR_ HO452) (Kd.R_base ho0) hb); have n2_ := A_ (Kd.R_lower (Kd.R_new' (Kd.R_new' ho0 (Kd.R_lt (nR_ HO449))) (Kd.R_lt (nR_ HO452))) (below_size hb_)); have n3_ := A_ (below_step hb_ hb); clear HO449 HO452 HB; have HO449 := n0_; have HO452 := n1_; have HO456 := n2_; have HB := n3_; clear n0_ n1_ n2_ n3_; (try clear hb); (try clear ho0); obtain ⟨Ao13, co13, eo13⟩ := Kd.R_slice HO456.out; subst eo13) | ((with_reducible refine gate_callee (f := 29) rfl ?_); refine goesM_ (some 27) Try.func29 #[.slice Ao13 t454.length co13] ?_; (with_reducible refine (poly_Trim.calls k _ _ t454 t457 _ ?side1 ?side2 A9.out).mono ?_); (case side1 => repeat (first | exact (Kd.R_reads' HO456.out).2.2 | (with_reducible refine Kd.C_alloc ?_ _) | (with_reducible refine Kd.C_drewN ?_ _) | (with_reducible refine Kd.C_drew ?_))); (case side2 => exact (Kd.R_reads' HO456.out).2.1); rintro e w14 ⟨v458, rfl, ho0, hb⟩; refine ⟨_, rfl, ?_⟩; have n0_ := A_ (Kd.R_elder' (nR_ HO449) (Kd.R_base ho0) hb); have n1_ := A_ (Kd.R_elder' (nR_ HO452) (Kd.R_base ho0) hb); have n2_ := A_ (Kd.R_elder' (nR_ HO456) (Kd.R_base ho0) hb); have n3_ := A_ (Kd.R_lower (Kd.R_new' (Kd.R_new' (Kd.R_new' ho0 (Kd.R_lt (nR_ HO449))) (Kd.R_lt (nR_ HO452))) (Kd.R_lt (nR_ HO456))) (below_size hb_)); have n4_ := A_ (below_step hb_ hb); clear HO449 HO452 HO456 HB; have HO449 := n0_; have HO452 := n1_; have HO456 := n2_; have HO459 := n3_; have HB := n4_; clear n0_ n1_ n2_ n3_ n4_; (try clear hb); (try clear ho0)))
  go_ret2
  exact ⟨_, fr_, by (with_reducible repeat (first | apply Kd.R_alloc | apply Kd.R_drewN | apply Kd.R_drew)); exact Kd.R_mono HO459.out (fun _ hk => trivial), hb_⟩
 ·rw [if_neg c7] at H
  have c7b0 : (t453 == 0) = false := beq_eq_false_iff_ne.mpr c7
  have c7b1 : (t453 != 0) = true := bne_iff_ne.mpr c7
  (first | rw [c7b0] | rw [c7b1] | (simp only [i64_w, i32_w]; first | rw [c7b0] | rw [c7b1]) | skip)
  simp only [Option.some.injEq, Prod.mk.injEq] at H
  obtain ⟨rfl, rfl⟩ := H
  go_wp2
  go_ret2
  exact ⟨_, fr_, by first | exact Kd.R_nil _ _ _ _ _ | exact Kd.N_nil _ _ _ _ _ | exact Kd.V_nil _ _ _ _ _ | exact Kd.Q_nil _ _ _ _ _ | exact Kd.S_nil _ _ _ _ _, hb_⟩
/-! ### cr1_Sum: function 34 -/
def cr1_Sum.f (a0 : Int) (a1 : Int) (a2 : Int) : Option (Int) := if a1 ≥ (IntKind.u64.wrap (a0 - a2)) then (some (IntKind.u64.wrap (a1 - (IntKind.u64.wrap (a0 - a2))))) else (some (IntKind.u64.wrap (a1 + a2)))
set_option maxHeartbeats 8000000 in
set_option maxRecDepth 100000 in
theorem cr1_Sum.calls (a0 : Int) (a1 : Int) (a2 : Int) (r : Int) (w : World) (h : cr1_Sum.f a0 a1 a2 = some r) :
  Calls Try.prog 34 #[.int .u64 a0, .int .u64 a1, .int .u64 a2] w fun e w' => e = .returned (.int .u64 r) ∧ Drawn0 w w' := by
 have H : (if a1 ≥ (IntKind.u64.wrap (a0 - a2)) then (some (IntKind.u64.wrap (a1 - (IntKind.u64.wrap (a0 - a2))))) else (some (IntKind.u64.wrap (a1 + a2)))) = some r := h
 clear h
 by_cases c4 : a1 ≥ (IntKind.u64.wrap (a0 - a2))
 ·rw [if_pos c4] at H
  have c4b0 : decide ((IntKind.u64.wrap (a0 - a2)) ≤ a1) = true := decide_eq_true c4
  clear c4
  obtain rfl := Option.some.inj H
  go_enter Try.func34, Try.ntmps34
  go_wp2
  go_ret
  exact ⟨fs_, by repeat (first | exact Drawn0.refl _ | apply Drawn0.step)⟩
 ·rw [if_neg c4] at H
  have c4b0 : decide ((IntKind.u64.wrap (a0 - a2)) ≤ a1) = false := decide_eq_false c4
  clear c4
  obtain rfl := Option.some.inj H
  go_enter Try.func34, Try.ntmps34
  go_wp2
  go_ret
  exact ⟨fs_, by repeat (first | exact Drawn0.refl _ | apply Drawn0.step)⟩
/-! ### cr1_Times: function 21 -/
def cr1_Times.l0 : Nat → Int → Int → Int → Int → Int → Option (Int)
 | 0, _, _, _, _, _ => none
 | k + 1, x0, x1, x2, x7, x8 => if x8 ≥ 0 then ((cr1_Sum.f x0 x7 x7).bind fun t460 => (if 0 ≤ (IntKind.u64.wrap (x8)) then (if (Go.bits .and .u64 (shr .u64 x2 (IntKind.u64.wrap (x8))) 1) = 1 then ((cr1_Sum.f x0 t460 x1).bind fun t461 => (cr1_Times.l0 k x0 x1 x2 t461 (wrap64 (x8 - 1)))) else (cr1_Times.l0 k x0 x1 x2 t460 (wrap64 (x8 - 1)))) else (none))) else (some x7)
def cr1_Times.f (k : Nat) (a0 : Int) (a1 : Int) (a2 : Int) : Option (Int) := cr1_Times.l0 k a0 a1 a2 0 63
theorem cr1_Times.mono_l : ∀ k, (∀ y0 y1 y2 y3 y4, LeO (cr1_Times.l0 k y0 y1 y2 y3 y4) (cr1_Times.l0 (k + 1) y0 y1 y2 y3 y4))
 | 0 => fun _ _ _ _ _ r h => by simp [cr1_Times.l0] at h
 | k + 1 => by
  have ih0 := cr1_Times.mono_l k
  ·intro y0 y1 y2 y3 y4
   unfold cr1_Times.l0
   repeat' first
   | (with_reducible exact ih0 _ _ _ _ _)
   | (with_reducible exact LeO.refl _)
   | (with_reducible exact LeO.none _)
   | (with_reducible refine LeO.ite ?_ ?_)
   | (with_reducible refine LeO.bind ?_ (fun _ => ?_))
   | exact ih0 _ _ _ _ _
   | exact LeO.none _
   | refine LeO.ite ?_ ?_
   | refine LeO.bind ?_ (fun _ => ?_)
theorem cr1_Times.mono : ∀ a0 a1 a2 k, LeO (cr1_Times.f k a0 a1 a2) (cr1_Times.f (k + 1) a0 a1 a2) := by
 intro a0 a1 a2 k
 have ih0 := cr1_Times.mono_l k
 unfold cr1_Times.f
 repeat' first
   | (with_reducible exact ih0 _ _ _ _ _)
   | (with_reducible exact LeO.refl _)
   | (with_reducible exact LeO.none _)
   | (with_reducible refine LeO.ite ?_ ?_)
   | (with_reducible refine LeO.bind ?_ (fun _ => ?_))
   | exact ih0 _ _ _ _ _
   | exact LeO.none _
   | refine LeO.ite ?_ ?_
   | refine LeO.bind ?_ (fun _ => ?_)
set_option maxHeartbeats 8000000 in
set_option maxRecDepth 100000 in
theorem cr1_Times.calls (k : Nat) (a0 : Int) (a1 : Int) (a2 : Int) (r : Int) (w : World) (h : cr1_Times.f k a0 a1 a2 = some r) :
  Calls Try.prog 21 #[.int .u64 a0, .int .u64 a1, .int .u64 a2] w fun e w' => e = .returned (.int .u64 r) ∧ Drawn0 w w' := by
 have H : (cr1_Times.l0 k a0 a1 a2 0 63) = some r := h
 clear h
 have H' := Aside0.mk H
 clear H
 go_enter Try.func21, Try.ntmps21
 go_wp2
 go_loopg [7, 8] k (fun kq v7 v8 w' => ∃ (x7_1 : Int) (x8_1 : Int), v7 = .int .u64 x7_1 ∧ v8 = .int .i64 x8_1 ∧ Aside0 (cr1_Times.l0 kq a0 a1 a2 x7_1 x8_1 = some r) ∧ Aside0 (kq ≤ k) ∧ Drawn0 w w')
 case atStart => exact ⟨(0), (63), (fs_), (fs_), H', ⟨Nat.le_refl _⟩, by repeat (first | exact Drawn0.refl _ | apply Drawn0.step)⟩
 case round =>
  clear H'
  try clear c2
  try clear p2
  obtain ⟨x7_1, x8_1, rfl, rfl, HA, HK1, ⟨m1, rfl⟩⟩ := hrel
  cases gk with
  | zero => exact absurd HA.out (by simp [cr1_Times.l0])
  | succ k1 =>
   have H := HA.out
   clear HA
   simp only [cr1_Times.l0] at H
   by_cases c4 : x8_1 ≥ 0
   ·rw [if_pos c4] at H
    have c4b0 : decide (0 ≤ x8_1) = true := decide_eq_true c4
    clear c4
    replace H := Option.bind_eq_some_iff.mp H
    obtain ⟨t460, A50, H⟩ := H
    (try dsimp only at H)
    have A5 := Aside0.mk A50
    clear A50
    obtain ⟨ji6, hji6⟩ : ∃ j_ : Int, (IntKind.u64.wrap (x8_1)) = j_ := ⟨_, rfl⟩
    replace H : (if 0 ≤ (ji6) then (if (Go.bits .and .u64 (shr .u64 a2 (ji6)) 1) = 1 then ((cr1_Sum.f a0 t460 a1).bind fun t461 => (cr1_Times.l0 k1 a0 a1 a2 t461 (wrap64 (x8_1 - 1)))) else (cr1_Times.l0 k1 a0 a1 a2 t460 (wrap64 (x8_1 - 1)))) else (none)) = some r := by first | (rw [hji6] at H; exact H) | (simp only [hji6] at H ⊢; exact H)
    (try rw [hji6] at A5)
    by_cases c7 : 0 ≤ (ji6)
    ·rw [if_pos c7] at H
     have c7b0 := eq_true c7
     have c7b1 : decide (0 ≤ (ji6)) = true := decide_eq_true c7
     clear c7
     obtain ⟨ji8, hji8⟩ : ∃ j_ : Int, (shr .u64 a2 (ji6)) = j_ := ⟨_, rfl⟩
     replace H : (if (Go.bits .and .u64 (ji8) 1) = 1 then ((cr1_Sum.f a0 t460 a1).bind fun t461 => (cr1_Times.l0 k1 a0 a1 a2 t461 (wrap64 (x8_1 - 1)))) else (cr1_Times.l0 k1 a0 a1 a2 t460 (wrap64 (x8_1 - 1)))) = some r := by first | (rw [hji8] at H; exact H) | (simp only [hji8] at H ⊢; exact H)
     (try rw [hji8] at A5)
     have hji8_ : (a2 / 2 ^ min (ji6).toNat 64) = ji8 := hji8
     have hji8z : (ji6) ≤ 64 → (a2 / 2 ^ (ji6).toNat) = ji8 := shr_small hji8
     have HC9 := Aside0.mk H
     clear H
     go_upto_if 22 with (first | ((with_reducible refine gate_callee (f := 34) rfl ?_); refine goesM_ (some 16) Try.func34 #[.int .u64 a0, .int .u64 x7_1, .int .u64 x7_1] ?_; (with_reducible refine (cr1_Sum.calls a0 x7_1 x7_1 t460 _ A5.out).mono ?_); rintro e w' ⟨rfl, ⟨nd, rfl⟩⟩; refine ⟨_, rfl, ?_⟩))
     (try simp only [Act.put, List.setIfInBounds_toArray, List.set_cons_zero, List.set_cons_succ])
     have H := HC9.out
     clear HC9
     by_cases c10 : (Go.bits .and .u64 (ji8) 1) = 1
     ·rw [if_pos c10] at H
      have c10b0 : ((Go.bits .and .u64 (ji8) 1) == 1) = true := beq_iff_eq.mpr c10
      have c10b1 : ((Go.bits .and .u64 (ji8) 1) != 1) = false := bne_eq_false_iff_eq.mpr c10
      clear c10
      (first | rw [c10b0] | rw [c10b1] | (simp only [i64_w, i32_w]; first | rw [c10b0] | rw [c10b1]) | skip)
      replace H := Option.bind_eq_some_iff.mp H
      obtain ⟨t461, A110, H⟩ := H
      replace H : (cr1_Times.l0 k1 a0 a1 a2 t461 (wrap64 (x8_1 - 1))) = some r := H
      have A11 := Aside0.mk A110
      clear A110
      have H' := Aside0.mk H
      clear H
      go_wp2_with (first | ((with_reducible refine gate_callee (f := 34) rfl ?_); refine goesM_ (some 26) Try.func34 #[.int .u64 a0, .int .u64 t460, .int .u64 a1] ?_; (with_reducible refine (cr1_Sum.calls a0 t460 a1 t461 _ A11.out).mono ?_); rintro e w' ⟨rfl, ⟨nd, rfl⟩⟩; refine ⟨_, rfl, ?_⟩))
      go_roundg k1
      case measure => have := HK1.out; omega
      case rel => exact ⟨(t461), (wrap64 (x8_1 - 1)), (fs_), (fs_), H', ⟨by have := HK1.out; omega⟩, by repeat (first | exact Drawn0.refl _ | apply Drawn0.step)⟩
     ·rw [if_neg c10] at H
      have c10b0 : ((Go.bits .and .u64 (ji8) 1) == 1) = false := beq_eq_false_iff_ne.mpr c10
      have c10b1 : ((Go.bits .and .u64 (ji8) 1) != 1) = true := bne_iff_ne.mpr c10
      (first | rw [c10b0] | rw [c10b1] | (simp only [i64_w, i32_w]; first | rw [c10b0] | rw [c10b1]) | skip)
      have H' := Aside0.mk H
      clear H
      go_wp2
      go_roundg k1
      case measure => have := HK1.out; omega
      case rel => exact ⟨(t460), (wrap64 (x8_1 - 1)), (fs_), (fs_), H', ⟨by have := HK1.out; omega⟩, by repeat (first | exact Drawn0.refl _ | apply Drawn0.step)⟩
    ·rw [if_neg c7] at H
     exact absurd H (by simp)
   ·rw [if_neg c4] at H
    have c4b0 : decide (0 ≤ x8_1) = false := decide_eq_false c4
    clear c4
    obtain rfl := Option.some.inj H
    go_wp2
    go_ret
    exact ⟨fs_, by repeat (first | exact Drawn0.refl _ | apply Drawn0.step)⟩
/-! ### cr1_P: function 22 -/
def cr1_P.f (a0 : Int) : Option (Int) := if a0 = 1 then (some 2013265921) else (if a0 = 2 then (some 18446744069414584321) else (some 0))
set_option maxHeartbeats 8000000 in
set_option maxRecDepth 100000 in
theorem cr1_P.calls (a0 : Int) (r : Int) (w : World) (h : cr1_P.f a0 = some r) :
  Calls Try.prog 22 #[.int .u8 a0] w fun e w' => e = .returned (.int .u64 r) ∧ Drawn0 w w' := by
 have H : (if a0 = 1 then (some 2013265921) else (if a0 = 2 then (some 18446744069414584321) else (some 0))) = some r := h
 clear h
 by_cases c2 : a0 = 1
 ·rw [if_pos c2] at H
  have c2b0 : (a0 == 1) = true := beq_iff_eq.mpr c2
  have c2b1 : (a0 != 1) = false := bne_eq_false_iff_eq.mpr c2
  clear c2
  obtain rfl := Option.some.inj H
  go_enter Try.func22, Try.ntmps22
  go_wp2
  go_ret
  exact ⟨fs_, by repeat (first | exact Drawn0.refl _ | apply Drawn0.step)⟩
 ·rw [if_neg c2] at H
  have c2b0 : (a0 == 1) = false := beq_eq_false_iff_ne.mpr c2
  have c2b1 : (a0 != 1) = true := bne_iff_ne.mpr c2
  by_cases c3 : a0 = 2
  ·rw [if_pos c3] at H
   have c3b0 : (a0 == 2) = true := beq_iff_eq.mpr c3
   have c3b1 : (a0 != 2) = false := bne_eq_false_iff_eq.mpr c3
   clear c3
   obtain rfl := Option.some.inj H
   go_enter Try.func22, Try.ntmps22
   go_wp2
   go_ret
   exact ⟨fs_, by repeat (first | exact Drawn0.refl _ | apply Drawn0.step)⟩
  ·rw [if_neg c3] at H
   have c3b0 : (a0 == 2) = false := beq_eq_false_iff_ne.mpr c3
   have c3b1 : (a0 != 2) = true := bne_iff_ne.mpr c3
   obtain rfl := Option.some.inj H
   go_enter Try.func22, Try.ntmps22
   go_wp2
   go_ret
   exact ⟨fs_, by repeat (first | exact Drawn0.refl _ | apply Drawn0.step)⟩
/-! ### cr1_Copy: function 9 -/
def cr1_Copy.f (l0 : List Int) : Option (List Int) := (some (([] : List Int) : List Int)).bind fun y462 => (if y462.length + l0.length < 17592186044416 then (some (y462 ++ l0)) else (none))
set_option maxHeartbeats 8000000 in
set_option maxRecDepth 100000 in
theorem cr1_Copy.calls (A0 : Option Addr) (c0 : Nat) (l0 : List Int) (r : List Int) (w : World) (hr0 : Kd.C (Kd.int .u64) w A0 l0.length l0) (hc0 : l0.length ≤ c0) (h : cr1_Copy.f l0 = some r) :
  Calls Try.prog 9 #[.slice A0 l0.length c0] w fun e w' => ∃ v0_ : Value, e = .returned (v0_) ∧ Kd.R (Kd.int .u64) 33 w' w.heap.size (fun _ => True) v0_ r ∧ Below w.heap.size w w' := by
 have HR0 := Aside0.mk hr0
 have HC0 := Aside0.mk hc0
 clear hr0 hc0
 have HB := A_ (Below.refl w.heap.size w)
 have H : ((some (([] : List Int) : List Int)).bind fun y462 => (if y462.length + l0.length < 17592186044416 then (some (y462 ++ l0)) else (none))) = some r := h
 clear h
 obtain ⟨y462, hy462⟩ : ∃ y_ : List Int, y_ = (([] : List Int)) := ⟨_, rfl⟩
 replace H : (if y462.length + l0.length < 17592186044416 then (some (y462 ++ l0)) else (none)) = some r := by first | (rw [hy462]; with_reducible exact H) | (have H2_ := (Option.bind_some _ _).symm.trans H; rw [hy462]; with_reducible exact H2_) | (have H2_ := (Option.bind_some _ _).symm.trans H; with_reducible exact H2_) | with_reducible exact H | (rw [hy462]; exact H) | exact H
 have Ny462 := Aside0.mk hy462
 clear hy462
 by_cases c2 : y462.length + l0.length < 17592186044416
 ·rw [if_pos c2] at H
  have LMc2 := Aside0.mk c2
  clear c2
  obtain ⟨y465, hy465⟩ : ∃ y_ : List Int, y_ = (y462 ++ l0) := ⟨_, rfl⟩
  replace H : (some y465) = some r := by first | (rw [hy465]; with_reducible exact H) | (have H2_ := (Option.bind_some _ _).symm.trans H; rw [hy465]; with_reducible exact H2_) | (have H2_ := (Option.bind_some _ _).symm.trans H; with_reducible exact H2_) | with_reducible exact H | (rw [hy465]; exact H) | exact H
  have Ny465 := Aside0.mk hy465
  clear hy465
  obtain rfl := Option.some.inj H
  go_enter Try.func9, Try.ntmps9
  go_wp2_with (first | ((with_reducible refine gate_dst (N := 3) rfl ?_); refine Kd.R_lit (Kd.int .u64) _ 33 ?hg (N := 3) ?hd (xs := ([] : List Int)) (inner := []) (ok := fun _ => True) (okp := fun _ => True) ?hr ?hp (fun _ hk => hk) trivial (Below.refl _ _) (Nat.le_refl _) (by simp) ?_; (case hd => rfl); (case hg => rfl); (case hr => first | (go_simp; done) | (go_simp; rfl)); (case hp => exact (Reps.none _ _)); intro v463 w3 ho4 hb hg_ hnew_; clear hg_ hnew_; (first | rw [← Ny462.out] at ho4 | (simp only [Int.reduceToNat] at ho4; rw [← Ny462.out] at ho4)); have n0_ := A_ (Kd.R_lower ho4 (below_size hb_)); have n1_ := A_ (below_step hb_ hb); clear HB; have HO464 := n0_; have HB := n1_; clear n0_ n1_; clear hb ho4) | ((with_reducible refine gate_builtin (b := .append) (xs := #[.tmp 3, .tmp 4]) rfl ?_); at_builtin; refine Kd.R_append_rows (Kd.int .u64) (w0 := w) w.heap.size rfl (.tmp 3) (.tmp 4) 22 33 (.int .u64 0) 8 rfl Try.underlying22 info33 rfl (by decide) (by omega) v463 y462 l0 _ _ _ (fun _ => True) (fun _ => False) rfl rfl ?aO ?aR (fun _ _ h => h) (fun _ h => h.elim) ?aF ?aB ?aS ?aL ?_; (case aR => repeat (first | exact (Kd.C_below HR0.out HB.out) | (with_reducible refine Kd.C_alloc ?_ _) | (with_reducible refine Kd.C_drewN ?_ _) | (with_reducible refine Kd.C_drew ?_))); (case aB => exact hb_); (case aF => exact (fun _ _ => trivial)); (case aO => exact (nR_ HO464)); (case aS => exact (below_size hb_)); (case aL => have := LMc2.out; omega); intro v466 w5 ho hb hg hat; rw [← Ny465.out] at ho; have n0_ := A_ (hb); have n1_ := A_ (ho); clear HB HO464; have HB := n0_; have HO467 := n1_; clear n0_ n1_; clear ho hb hg hat))
  go_ret
  exact ⟨_, fr_, nR_ HO467, hb_⟩
 ·rw [if_neg c2] at H
  exact absurd H (by simp)
end Go.Proofs.Ytaegmhniepfdaaa.PFastMuls
