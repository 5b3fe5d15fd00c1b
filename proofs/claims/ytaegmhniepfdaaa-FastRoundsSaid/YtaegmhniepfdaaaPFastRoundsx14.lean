/- The Go functions as Lean functions, each with the proof that its call comes to just that; written by a program of this session, by the words of the print. -/
import Derived.Test.YtaegmhniepfdaaaPFastRoundsx0
import Derived.Test.YtaegmhniepfdaaaPFastRoundsx2
import Derived.Test.YtaegmhniepfdaaaPFastRoundsx4
import Derived.Test.YtaegmhniepfdaaaPFastRoundsx6
import Derived.Test.YtaegmhniepfdaaaPFastRoundsx7
import Derived.Test.YtaegmhniepfdaaaPFastRoundsx9
import Derived.Test.YtaegmhniepfdaaaPFastRoundsx12
import Derived.Test.YtaegmhniepfdaaaPFastRoundsx13
namespace Go.Proofs.Ytaegmhniepfdaaa.PFastRounds
open Go.RowKit Go.Proofs.YtaegmhniepfdaaaW.PrintWords Go.Proofs.YtaegmhniepfdaaaW.PrintLast Go.Proofs.YtaegmhniepfdaaaW.PrintMore
attribute [local go_sem] max2_int min2_int max_two min_two max_three min_three max_four min_four   -- for this text's walks alone
set_option linter.unusedVariables false
set_option linter.unusedSimpArgs false
/-! ### fast_Mul: function 12 -/
def fast_Mul.l0 : Nat → List Int → List Int → Int → Int → Int → Option (List Int × Int)
 | 0, _, _, _, _, _ => none
 | k + 1, x8, x9, x12, x436000, x447000 => if x447000 < x12 then (fast_Mul.l0 k x8 x9 x12 x436000 (wrap64 (x447000 * 2))) else ((fast_Mul_1.f x8 x447000).bind fun t447 => ((fast_Mul_1.f x9 x447000).bind fun t450 => ((fast_reckoner_round.f k x436000 t447 t450).bind fun t453 => ((poly_Trim.f k t453).bind fun t456 => (some (t456, 0))))))
def fast_Mul.f (k : Nat) (a0 : Int) (l1 : List Int) (l2 : List Int) : Option (List Int × Int) := (fast_checked.f k a0 l1 l2).bind fun bt428 => (if bt428.2.2 = 0 then (if (mn (bt428.1.length : Int) (bt428.2.1.length : Int)) ≤ 16 then ((poly_Mul.f k a0 bt428.1 bt428.2.1).bind fun bt436 => (some (bt436.1, bt436.2))) else (if (wrap64 ((wrap64 ((bt428.1.length : Int) + (bt428.2.1.length : Int))) - 1)) ≤ 64 then ((fast_reckoner_halves.f k a0 bt428.1 bt428.2.1).bind fun t440 => ((poly_Trim.f k t440).bind fun t443 => (some (t443, 0)))) else (fast_Mul.l0 k bt428.1 bt428.2.1 (wrap64 ((wrap64 ((bt428.1.length : Int) + (bt428.2.1.length : Int))) - 1)) a0 1))) else (some (([] : List Int), bt428.2.2)))
theorem fast_Mul.mono_l : ∀ k, (∀ y0 y1 y2 y3 y4, LeO (fast_Mul.l0 k y0 y1 y2 y3 y4) (fast_Mul.l0 (k + 1) y0 y1 y2 y3 y4))
 | 0 => fun _ _ _ _ _ r h => by simp [fast_Mul.l0] at h
 | k + 1 => by
  have ih0 := fast_Mul.mono_l k
  ·intro y0 y1 y2 y3 y4
   unfold fast_Mul.l0
   repeat' first
   | (with_reducible exact ih0 _ _ _ _ _)
   | (with_reducible exact fast_checked.mono _ _ _ _)
   | (with_reducible exact fast_reckoner_halves.mono _ _ _ _)
   | (with_reducible exact fast_reckoner_round.mono _ _ _ _)
   | (with_reducible exact poly_Mul.mono _ _ _ _)
   | (with_reducible exact poly_Trim.mono _ _)
   | (with_reducible exact LeO.refl _)
   | (with_reducible exact LeO.none _)
   | (with_reducible refine LeO.ite ?_ ?_)
   | (with_reducible refine LeO.bind ?_ (fun _ => ?_))
   | exact ih0 _ _ _ _ _
   | exact fast_checked.mono _ _ _ _
   | exact fast_reckoner_halves.mono _ _ _ _
   | exact fast_reckoner_round.mono _ _ _ _
   | exact poly_Mul.mono _ _ _ _
   | exact poly_Trim.mono _ _
   | exact LeO.none _
   | refine LeO.ite ?_ ?_
   | refine LeO.bind ?_ (fun _ => ?_)
theorem fast_Mul.mono : ∀ a0 a1 a2 k, LeO (fast_Mul.f k a0 a1 a2) (fast_Mul.f (k + 1) a0 a1 a2) := by
 intro a0 a1 a2 k
 have ih0 := fast_Mul.mono_l k
 unfold fast_Mul.f
 repeat' first
   | (with_reducible exact ih0 _ _ _ _ _)
   | (with_reducible exact fast_checked.mono _ _ _ _)
   | (with_reducible exact fast_reckoner_halves.mono _ _ _ _)
   | (with_reducible exact fast_reckoner_round.mono _ _ _ _)
   | (with_reducible exact poly_Mul.mono _ _ _ _)
   | (with_reducible exact poly_Trim.mono _ _)
   | (with_reducible exact LeO.refl _)
   | (with_reducible exact LeO.none _)
   | (with_reducible refine LeO.ite ?_ ?_)
   | (with_reducible refine LeO.bind ?_ (fun _ => ?_))
   | exact ih0 _ _ _ _ _
   | exact fast_checked.mono _ _ _ _
   | exact fast_reckoner_halves.mono _ _ _ _
   | exact fast_reckoner_round.mono _ _ _ _
   | exact poly_Mul.mono _ _ _ _
   | exact poly_Trim.mono _ _
   | exact LeO.none _
   | refine LeO.ite ?_ ?_
   | refine LeO.bind ?_ (fun _ => ?_)
def fast_Mul.T10 : Bool × List (List Nat × List Nat) := (true, [([], []), ([], []), ([], []), ([1, 2], [1, 2]), ([], []), ([], []), ([4, 5, 3], [4, 5]), ([0, 3, 6, 6], [0, 3, 6]), ([7, 7], [7]), ([8, 8, 0, 1, 2, 3, 4, 5, 6, 7, 8], [8]), ([9, 0, 1, 2, 3, 4, 5, 6, 7, 8, 9], [])])
def fast_Mul.B10 : List Nat := [0, 0, 0, 6, 0, 0, 62, 127, 255, 511, 1023]
theorem fast_Mul.tab10 : rtab .any (opsOf Try.f12 10) = fast_Mul.T10 := by kernel_rfl
theorem fast_Mul.bits10 : waitsOk fast_Mul.T10.2 fast_Mul.B10 = true := by kernel_rfl
set_option maxHeartbeats 8000000 in
set_option maxRecDepth 100000 in
theorem fast_Mul.calls (k : Nat) (a0 : Int) (A1 : Option Addr) (c1 : Nat) (l1 : List Int) (A2 : Option Addr) (c2 : Nat) (l2 : List Int) (r1 : List Int) (r2 : Int) (w : World) (hr1 : Kd.C (Kd.int .u64) w A1 l1.length l1) (hc1 : l1.length ≤ c1) (hr2 : Kd.C (Kd.int .u64) w A2 l2.length l2) (hc2 : l2.length ≤ c2) (h : fast_Mul.f k a0 l1 l2 = some (r1, r2)) :
  Calls Try.prog 12 #[.int .u8 a0, .slice A1 l1.length c1, .slice A2 l2.length c2] w fun e w' => ∃ v0_ : Value, e = .returned (.tuple #[v0_, .int .i64 r2]) ∧ Kd.R (Kd.int .u64) 33 w' w.heap.size (fun _ => True) v0_ r1 ∧ Below w.heap.size w w' := by
 have hu47 := Try.underlying47
 have HR1 := Aside0.mk hr1
 have HC1 := Aside0.mk hc1
 clear hr1 hc1
 have HR2 := Aside0.mk hr2
 have HC2 := Aside0.mk hc2
 clear hr2 hc2
 have HB := A_ (Below.refl w.heap.size w)
 have H : ((fast_checked.f k a0 l1 l2).bind fun bt428 => (if bt428.2.2 = 0 then (if (mn (bt428.1.length : Int) (bt428.2.1.length : Int)) ≤ 16 then ((poly_Mul.f k a0 bt428.1 bt428.2.1).bind fun bt436 => (some (bt436.1, bt436.2))) else (if (wrap64 ((wrap64 ((bt428.1.length : Int) + (bt428.2.1.length : Int))) - 1)) ≤ 64 then ((fast_reckoner_halves.f k a0 bt428.1 bt428.2.1).bind fun t440 => ((poly_Trim.f k t440).bind fun t443 => (some (t443, 0)))) else (fast_Mul.l0 k bt428.1 bt428.2.1 (wrap64 ((wrap64 ((bt428.1.length : Int) + (bt428.2.1.length : Int))) - 1)) a0 1))) else (some (([] : List Int), bt428.2.2)))) = some (r1, r2) := h
 clear h
 replace H := Option.bind_eq_some_iff.mp H
 obtain ⟨⟨t428, t431, t434⟩, A40, H⟩ := H
 (try dsimp only at H)
 have A4 := Aside0.mk A40
 clear A40
 by_cases c5 : t434 = 0
 ·rw [if_pos c5] at H
  have c5b0 : (t434 == 0) = true := beq_iff_eq.mpr c5
  have c5b1 : (t434 != 0) = false := bne_eq_false_iff_eq.mpr c5
  clear c5
  obtain ⟨ji6, hji6⟩ : ∃ j_ : Int, (mn (t428.length : Int) (t431.length : Int)) = j_ := ⟨_, rfl⟩
  replace H : (if (ji6) ≤ 16 then ((poly_Mul.f k a0 t428 t431).bind fun bt436 => (some (bt436.1, bt436.2))) else (if (wrap64 ((wrap64 ((t428.length : Int) + (t431.length : Int))) - 1)) ≤ 64 then ((fast_reckoner_halves.f k a0 t428 t431).bind fun t440 => ((poly_Trim.f k t440).bind fun t443 => (some (t443, 0)))) else (fast_Mul.l0 k t428 t431 (wrap64 ((wrap64 ((t428.length : Int) + (t431.length : Int))) - 1)) a0 1))) = some (r1, r2) := by first | (rw [hji6] at H; exact H) | (simp only [hji6] at H ⊢; exact H)
  (try rw [hji6] at A4)
  (try (have hji6l : 0 ≤ ji6 := by (rw [← hji6]; unfold mn; (repeat' split) <;> omega)))
  (try (have hji6m : 0 ≤ ji6 := by omega))
  have hji6N : (if t431.length < t428.length then (t431.length : Int) else (t428.length : Int)) = ji6 := by have h_ := hji6; unfold mn at h_; simp only [Int.ofNat_lt] at h_; exact h_
  have hji6_ : (if (t431.length : Int) < (t428.length : Int) then (t431.length : Int) else (t428.length : Int)) = ji6 := hji6
  by_cases c7 : (ji6) ≤ 16
  ·rw [if_pos c7] at H
   have c7b0 : decide ((ji6) ≤ 16) = true := decide_eq_true c7
   clear c7
   replace H := Option.bind_eq_some_iff.mp H
   obtain ⟨⟨t436, t439⟩, A80, H⟩ := H
   replace H : (some (t436, t439)) = some (r1, r2) := H
   have A8 := Aside0.mk A80
   clear A80
   simp only [Option.some.injEq, Prod.mk.injEq] at H
   obtain ⟨rfl, rfl⟩ := H
   go_enter Try.func12, Try.ntmps12
   go_wp2_with (first | ((with_reducible refine gate_callee (f := 27) rfl ?_); refine goesM_ (some 19) Try.func27 #[.int .u8 a0, .slice A1 l1.length c1, .slice A2 l2.length c2] ?_; (with_reducible refine (fast_checked.calls k a0 (fun k_ => k_ < w.heap.size) _ _ l1 (fun k_ => k_ < w.heap.size) _ _ l2 t428 t431 t434 _ ?side1 ?side2 A4.out).mono ?_); (case side1 => exact Kd.V_mk HC1.out (Kd.F_below (Kd.C_F (Kd.heap_int .u64) HR1.out) hb_)); (case side2 => exact Kd.V_mk HC2.out (Kd.F_below (Kd.C_F (Kd.heap_int .u64) HR2.out) hb_)); rintro e w9 ⟨v429, v432, rfl, ho0, ho1, hb⟩; refine ⟨_, rfl, ?_⟩; have n0_ := A_ (Kd.R_lower (Kd.R_mono (ok' := fun k_ => some k_ ≠ (v432 : Value).ownBlock) ho0 (fun _ hk_ => hk_.2)) (below_size hb_)); have n1_ := A_ (Kd.R_lower (Kd.R_mono (ok' := fun k_ => some k_ ≠ (v429 : Value).ownBlock) ho1 (fun _ hk_ => hk_.2)) (below_size hb_)); have n2_ := A_ (below_step hb_ hb); clear HB; have HO430 := n0_; have HO433 := n1_; have HB := n2_; clear n0_ n1_ n2_; (try clear hb); (try clear ho0); (try clear ho1)) | ((with_reducible refine gate_dst (N := 11) rfl ?_); refine box_event ?hg (N := 11) ?hd (cs := #[.int .u8 0]) (t := 47) ?hr ?_; (case hd => rfl); (case hg => rfl); (case hr => first | (go_simp; done) | (go_simp; rfl)); intro gb435 hg w10 hbox hb; have n0_ := A_ (Kd.R_below (nR_ HO430) hb); have n1_ := A_ (Kd.R_below (nR_ HO433) hb); have n2_ := A_ (below_step hb_ hb); have n3_ := A_ (hbox); have n4_ := A_ ((by rw [hg]; exact (below_size hb_) : w.heap.size ≤ gb435)); have n5_ := A_ ((by rw [hg]; exact (below_size hb_) : w.heap.size ≤ gb435)); clear HO430 HO433 HB; have HO430 := n0_; have HO433 := n1_; have HB := n2_; have BK435 := n3_; have GW435 := n4_; have GE435 := n5_; clear n0_ n1_ n2_ n3_ n4_ n5_; clear hb hbox hg; have hcz11_0 : w10.cell? ⟨gb435, 0, none⟩ = some (.int .u8 0) := (blk_cell BK435.out 0).trans rfl; have hfz11_0 := blk_frozen BK435.out 0) | ((with_reducible refine gate_store (t := 47) (p := 11) rfl ?_); (try (rw [drewN_self w10]; generalize hq_ : World.drewN w10 _ = w10; have n0_ := A_ (Kd.R_at hq_ HO430.out); have n1_ := A_ (Kd.R_at hq_ HO433.out); have n2_ := A_ (blk_at hq_ BK435.out); have n3_ := A_ (below_at hq_ HB.out); clear hq_ HO430 HO433 BK435 HB; have HO430 := n0_; have HO433 := n1_; have BK435 := n2_; have HB := n3_; clear n0_ n1_ n2_ n3_)); refine store_event (t := 47) (p := 11) (v := ?vo_w12) (w1 := (w10.setCell ⟨gb435, 0, none⟩ (.int .u8 a0))) ?hg ?ho ?hn ?hr ?_; (case ho => rfl); (case hg => rfl); (case hn => rfl); (case hr => first | (go_simp; done) | (go_simp; rfl)); intro w12 hw; have n0_ : Aside0 (Kd.R (Kd.int .u64) 33 w12 w.heap.size (fun k_ => some k_ ≠ (v432 : Value).ownBlock) v429 t428) := ⟨(by rw [hw]; exact (by (with_reducible repeat (first | apply Kd.R_alloc | apply Kd.R_drewN | apply Kd.R_drew)); exact Kd.R_mono (Kd.R_far (p := ⟨gb435, 0, none⟩) (Kd.R_types HO430.out BK435.out (by decide)) (fun _ hk => hk.2) (.int .u8 a0)) (fun _ hk => hk.1)))⟩; have n1_ : Aside0 (Kd.R (Kd.int .u64) 33 w12 w.heap.size (fun k_ => some k_ ≠ (v429 : Value).ownBlock) v432 t431) := ⟨(by rw [hw]; exact (by (with_reducible repeat (first | apply Kd.R_alloc | apply Kd.R_drewN | apply Kd.R_drew)); exact Kd.R_mono (Kd.R_far (p := ⟨gb435, 0, none⟩) (Kd.R_types HO433.out BK435.out (by decide)) (fun _ hk => hk.2) (.int .u8 a0)) (fun _ hk => hk.1)))⟩; have n2_ : Aside0 (w12.heap[gb435]? = some (.cells #[.int .u8 a0] 47 (0, 0))) := ⟨(by rw [hw]; exact (by (with_reducible repeat (first | refine blk_drewN ?_ _ | refine blk_drew ?_ | refine blk_alloc ?_ _)); refine blk_put (cs := #[.int .u8 0]) ?_ 0 _ rfl; (with_reducible repeat (first | refine blk_drewN ?_ _ | refine blk_drew ?_ | refine blk_alloc ?_ _)); exact BK435.out))⟩; have n3_ : Aside0 (Below w.heap.size w w12) := ⟨(by rw [hw]; exact hs_)⟩; clear hw HO430 HO433 BK435 HB; have HO430 := n0_; have HO433 := n1_; have BK435 := n2_; have HB := n3_; clear n0_ n1_ n2_ n3_; obtain ⟨Ao13, co13, eo13⟩ := Kd.R_slice HO430.out; subst eo13; obtain ⟨Ao14, co14, eo14⟩ := Kd.R_slice HO433.out; subst eo14) | ((with_reducible refine gate_callee (f := 28) rfl ?_); refine goesM_ (some 59) Try.func28 #[.int .u8 a0, .slice Ao13 t428.length co13, .slice Ao14 t431.length co14] ?_; (with_reducible refine (poly_Mul.calls k a0 (fun k_ => some k_ = (.slice Ao13 t428.length co13 : Value).ownBlock) _ _ t428 (fun k_ => some k_ = (.slice Ao14 t431.length co14 : Value).ownBlock) _ _ t431 t436 t439 _ ?side1 ?side2 A8.out).mono ?_); (case side1 => exact Kd.R_V (Kd.R_tight rfl (Kd.R_types (HO430.out) BK435.out (by decide)))); (case side2 => exact Kd.R_V (Kd.R_tight rfl (Kd.R_types (HO433.out) BK435.out (by decide)))); rintro e w15 ⟨v437, rfl, ho0, hb⟩; refine ⟨_, rfl, ?_⟩; have n0_ := A_ (Kd.R_elder' (nR_ HO430) (Kd.R_base ho0) hb); have n1_ := A_ (Kd.R_elder' (nR_ HO433) (Kd.R_base ho0) hb); have n2_ := A_ (Kd.R_lower (Kd.R_new' (Kd.R_new' (Kd.R_mono (ok' := fun k_ => True) ho0 (fun _ hk_ => trivial)) (Kd.R_lt (nR_ HO430))) (Kd.R_lt (nR_ HO433))) (below_size hs_)); have n3_ := A_ (blk_below (g := gb435) (o := .cells #[.int .u8 a0] 47 (0, 0)) (nb_ BK435) hb); have n4_ := A_ (below_step hs_ hb); clear HO430 HO433 BK435 HB; have HO430 := n0_; have HO433 := n1_; have HO438 := n2_; have BK435 := n3_; have HB := n4_; clear n0_ n1_ n2_ n3_ n4_; (try clear hb); (try clear ho0)))
   go_ret2
   exact ⟨_, by first | rfl | (simp [errW_none, errW_some] <;> rfl) | (simp only [← hji6]; first | rfl | (simp [errW_none, errW_some] <;> rfl)) | (simp [*, errW_none, errW_some] <;> rfl), by (with_reducible repeat (first | apply Kd.R_alloc | apply Kd.R_drewN | apply Kd.R_drew)); exact Kd.R_mono HO438.out (fun _ hk => trivial), hs_⟩
  ·rw [if_neg c7] at H
   have c7b0 : decide ((ji6) ≤ 16) = false := decide_eq_false c7
   clear c7
   by_cases c16 : (wrap64 ((wrap64 ((t428.length : Int) + (t431.length : Int))) - 1)) ≤ 64
   ·rw [if_pos c16] at H
    have c16b0 : decide ((wrap64 ((wrap64 ((t428.length : Int) + (t431.length : Int))) - 1)) ≤ 64) = true := decide_eq_true c16
    clear c16
    replace H := Option.bind_eq_some_iff.mp H
    obtain ⟨t440, A170, H⟩ := H
    replace H : ((poly_Trim.f k t440).bind fun t443 => (some (t443, 0))) = some (r1, r2) := H
    have A17 := Aside0.mk A170
    clear A170
    replace H := Option.bind_eq_some_iff.mp H
    obtain ⟨t443, A180, H⟩ := H
    replace H : (some (t443, 0)) = some (r1, r2) := H
    have A18 := Aside0.mk A180
    clear A180
    simp only [Option.some.injEq, Prod.mk.injEq] at H
    obtain ⟨rfl, rfl⟩ := H
    go_enter Try.func12, Try.ntmps12
    go_wp2_with (first | ((with_reducible refine gate_callee (f := 27) rfl ?_); refine goesM_ (some 19) Try.func27 #[.int .u8 a0, .slice A1 l1.length c1, .slice A2 l2.length c2] ?_; (with_reducible refine (fast_checked.calls k a0 (fun k_ => k_ < w.heap.size) _ _ l1 (fun k_ => k_ < w.heap.size) _ _ l2 t428 t431 t434 _ ?side1 ?side2 A4.out).mono ?_); (case side1 => exact Kd.V_mk HC1.out (Kd.F_below (Kd.C_F (Kd.heap_int .u64) HR1.out) hb_)); (case side2 => exact Kd.V_mk HC2.out (Kd.F_below (Kd.C_F (Kd.heap_int .u64) HR2.out) hb_)); rintro e w19 ⟨v429, v432, rfl, ho0, ho1, hb⟩; refine ⟨_, rfl, ?_⟩; have n0_ := A_ (Kd.R_lower (Kd.R_mono (ok' := fun k_ => some k_ ≠ (v432 : Value).ownBlock) ho0 (fun _ hk_ => hk_.2)) (below_size hb_)); have n1_ := A_ (Kd.R_lower (Kd.R_mono (ok' := fun k_ => some k_ ≠ (v429 : Value).ownBlock) ho1 (fun _ hk_ => hk_.2)) (below_size hb_)); have n2_ := A_ (below_step hb_ hb); clear HB; have HO430 := n0_; have HO433 := n1_; have HB := n2_; clear n0_ n1_ n2_; (try clear hb); (try clear ho0); (try clear ho1)) | ((with_reducible refine gate_dst (N := 11) rfl ?_); refine box_event ?hg (N := 11) ?hd (cs := #[.int .u8 0]) (t := 47) ?hr ?_; (case hd => rfl); (case hg => rfl); (case hr => first | (go_simp; done) | (go_simp; rfl)); intro gb435 hg w20 hbox hb; have n0_ := A_ (Kd.R_below (nR_ HO430) hb); have n1_ := A_ (Kd.R_below (nR_ HO433) hb); have n2_ := A_ (below_step hb_ hb); have n3_ := A_ (hbox); have n4_ := A_ ((by rw [hg]; exact (below_size hb_) : w.heap.size ≤ gb435)); have n5_ := A_ ((by rw [hg]; exact (below_size hb_) : w.heap.size ≤ gb435)); clear HO430 HO433 HB; have HO430 := n0_; have HO433 := n1_; have HB := n2_; have BK435 := n3_; have GW435 := n4_; have GE435 := n5_; clear n0_ n1_ n2_ n3_ n4_ n5_; clear hb hbox hg; have hcz21_0 : w20.cell? ⟨gb435, 0, none⟩ = some (.int .u8 0) := (blk_cell BK435.out 0).trans rfl; have hfz21_0 := blk_frozen BK435.out 0; obtain ⟨Ao22, co22, eo22⟩ := Kd.R_slice HO430.out; subst eo22; obtain ⟨Ao23, co23, eo23⟩ := Kd.R_slice HO433.out; subst eo23) | ((with_reducible refine gate_callee (f := 30) rfl ?_); refine goesM_ (some 68) Try.func30 #[.agg #[.int .u8 a0], .slice Ao22 t428.length co22, .slice Ao23 t431.length co23] ?_; (with_reducible refine (fast_reckoner_halves.calls k a0 _ _ t428 _ _ t431 t440 _ ?side1 ?side2 ?side3 ?side4 A17.out).mono ?_); (case side1 => refine (Kd.R_reads' (e := 33) (base := w.heap.size) (ok := fun k_ => some k_ ≠ (.slice Ao23 t431.length co23 : Value).ownBlock) (n := t428.length) (c := co22) ?_).2.2; exact (by (with_reducible repeat (first | apply Kd.R_alloc | apply Kd.R_drewN | apply Kd.R_drew)); exact (Kd.R_mono (Kd.R_far (p := ⟨gb435, 0, none⟩) (Kd.R_types HO430.out BK435.out (by decide)) (fun _ hk => hk.2) (.int .u8 a0)) (fun _ h_ => h_.1)))); (case side2 => exact (Kd.R_reads' HO430.out).2.1); (case side3 => refine (Kd.R_reads' (e := 33) (base := w.heap.size) (ok := fun k_ => some k_ ≠ (.slice Ao22 t428.length co22 : Value).ownBlock) (n := t431.length) (c := co23) ?_).2.2; exact (by (with_reducible repeat (first | apply Kd.R_alloc | apply Kd.R_drewN | apply Kd.R_drew)); exact (Kd.R_mono (Kd.R_far (p := ⟨gb435, 0, none⟩) (Kd.R_types HO433.out BK435.out (by decide)) (fun _ hk => hk.2) (.int .u8 a0)) (fun _ h_ => h_.1)))); (case side4 => exact (Kd.R_reads' HO433.out).2.1); rintro e w24 ⟨v441, rfl, ho0, hb⟩; refine ⟨_, rfl, ?_⟩; have n0_ := A_ (Kd.R_elder' (by (with_reducible repeat (first | apply Kd.R_alloc | apply Kd.R_drewN | apply Kd.R_drew)); exact (Kd.R_mono (Kd.R_far (p := ⟨gb435, 0, none⟩) (Kd.R_types HO430.out BK435.out (by decide)) (fun _ hk => hk.2) (.int .u8 a0)) (fun _ h_ => h_.1))) (Kd.R_base ho0) hb); have n1_ := A_ (Kd.R_elder' (by (with_reducible repeat (first | apply Kd.R_alloc | apply Kd.R_drewN | apply Kd.R_drew)); exact (Kd.R_mono (Kd.R_far (p := ⟨gb435, 0, none⟩) (Kd.R_types HO433.out BK435.out (by decide)) (fun _ hk => hk.2) (.int .u8 a0)) (fun _ h_ => h_.1))) (Kd.R_base ho0) hb); have n2_ := A_ (Kd.R_lower (Kd.R_new' (Kd.R_new' ho0 (Kd.R_lt (by (with_reducible repeat (first | apply Kd.R_alloc | apply Kd.R_drewN | apply Kd.R_drew)); exact (Kd.R_mono (Kd.R_far (p := ⟨gb435, 0, none⟩) (Kd.R_types HO430.out BK435.out (by decide)) (fun _ hk => hk.2) (.int .u8 a0)) (fun _ h_ => h_.1))))) (Kd.R_lt (by (with_reducible repeat (first | apply Kd.R_alloc | apply Kd.R_drewN | apply Kd.R_drew)); exact (Kd.R_mono (Kd.R_far (p := ⟨gb435, 0, none⟩) (Kd.R_types HO433.out BK435.out (by decide)) (fun _ hk => hk.2) (.int .u8 a0)) (fun _ h_ => h_.1))))) (below_size hs_)); have n3_ := A_ (blk_below (g := gb435) (o := .cells #[.int .u8 a0] 47 (0, 0)) (by (with_reducible repeat (first | refine blk_drewN ?_ _ | refine blk_drew ?_ | refine blk_alloc ?_ _)); refine blk_put (cs := #[.int .u8 0]) ?_ 0 _ rfl; (with_reducible repeat (first | refine blk_drewN ?_ _ | refine blk_drew ?_ | refine blk_alloc ?_ _)); exact BK435.out) hb); have n4_ := A_ (below_step hs_ hb); clear HO430 HO433 BK435 HB; have HO430 := n0_; have HO433 := n1_; have HO442 := n2_; have BK435 := n3_; have HB := n4_; clear n0_ n1_ n2_ n3_ n4_; (try clear hb); (try clear ho0); obtain ⟨Ao25, co25, eo25⟩ := Kd.R_slice HO442.out; subst eo25) | ((with_reducible refine gate_callee (f := 29) rfl ?_); refine goesM_ (some 69) Try.func29 #[.slice Ao25 t440.length co25] ?_; (with_reducible refine (poly_Trim.calls k _ _ t440 t443 _ ?side1 ?side2 A18.out).mono ?_); (case side1 => repeat (first | exact (Kd.R_reads' HO442.out).2.2 | (with_reducible refine Kd.C_alloc ?_ _) | (with_reducible refine Kd.C_drewN ?_ _) | (with_reducible refine Kd.C_drew ?_))); (case side2 => exact (Kd.R_reads' HO442.out).2.1); rintro e w26 ⟨v444, rfl, ho0, hb⟩; refine ⟨_, rfl, ?_⟩; have n0_ := A_ (Kd.R_elder' (nR_ HO430) (Kd.R_base ho0) hb); have n1_ := A_ (Kd.R_elder' (nR_ HO433) (Kd.R_base ho0) hb); have n2_ := A_ (Kd.R_elder' (nR_ HO442) (Kd.R_base ho0) hb); have n3_ := A_ (Kd.R_lower (Kd.R_new' (Kd.R_new' (Kd.R_new' ho0 (Kd.R_lt (nR_ HO430))) (Kd.R_lt (nR_ HO433))) (Kd.R_lt (nR_ HO442))) (below_size hs_)); have n4_ := A_ (blk_below (g := gb435) (o := .cells #[.int .u8 a0] 47 (0, 0)) (nb_ BK435) hb); have n5_ := A_ (below_step hs_ hb); clear HO430 HO433 HO442 BK435 HB; have HO430 := n0_; have HO433 := n1_; have HO442 := n2_; have HO445 := n3_; have BK435 := n4_; have HB := n5_; clear n0_ n1_ n2_ n3_ n4_ n5_; (try clear hb); (try clear ho0)))
    go_ret2
    exact ⟨_, by first | rfl | (simp [errW_none, errW_some] <;> rfl) | (simp only [← hji6]; first | rfl | (simp [errW_none, errW_some] <;> rfl)) | (simp [*, errW_none, errW_some] <;> rfl), by (with_reducible repeat (first | apply Kd.R_alloc | apply Kd.R_drewN | apply Kd.R_drew)); exact Kd.R_mono HO445.out (fun _ hk => trivial), hs_⟩
   ·rw [if_neg c16] at H
    have c16b0 : decide ((wrap64 ((wrap64 ((t428.length : Int) + (t431.length : Int))) - 1)) ≤ 64) = false := decide_eq_false c16
    clear c16
    have H' := Aside0.mk H
    clear H
    go_enter Try.func12, Try.ntmps12
    go_wp2_with (first | ((with_reducible refine gate_callee (f := 27) rfl ?_); refine goesM_ (some 19) Try.func27 #[.int .u8 a0, .slice A1 l1.length c1, .slice A2 l2.length c2] ?_; (with_reducible refine (fast_checked.calls k a0 (fun k_ => k_ < w.heap.size) _ _ l1 (fun k_ => k_ < w.heap.size) _ _ l2 t428 t431 t434 _ ?side1 ?side2 A4.out).mono ?_); (case side1 => exact Kd.V_mk HC1.out (Kd.F_below (Kd.C_F (Kd.heap_int .u64) HR1.out) hb_)); (case side2 => exact Kd.V_mk HC2.out (Kd.F_below (Kd.C_F (Kd.heap_int .u64) HR2.out) hb_)); rintro e w27 ⟨v429, v432, rfl, ho0, ho1, hb⟩; refine ⟨_, rfl, ?_⟩; have n0_ := A_ (Kd.R_lower (Kd.R_mono (ok' := fun k_ => some k_ ≠ (v432 : Value).ownBlock) ho0 (fun _ hk_ => hk_.2)) (below_size hb_)); have n1_ := A_ (Kd.R_lower (Kd.R_mono (ok' := fun k_ => some k_ ≠ (v429 : Value).ownBlock) ho1 (fun _ hk_ => hk_.2)) (below_size hb_)); have n2_ := A_ (below_step hb_ hb); clear HB; have HO430 := n0_; have HO433 := n1_; have HB := n2_; clear n0_ n1_ n2_; (try clear hb); (try clear ho0); (try clear ho1)) | ((with_reducible refine gate_dst (N := 11) rfl ?_); refine box_event ?hg (N := 11) ?hd (cs := #[.int .u8 0]) (t := 47) ?hr ?_; (case hd => rfl); (case hg => rfl); (case hr => first | (go_simp; done) | (go_simp; rfl)); intro gb435 hg w28 hbox hb; have n0_ := A_ (Kd.R_below (nR_ HO430) hb); have n1_ := A_ (Kd.R_below (nR_ HO433) hb); have n2_ := A_ (below_step hb_ hb); have n3_ := A_ (hbox); have n4_ := A_ ((by rw [hg]; exact (below_size hb_) : w.heap.size ≤ gb435)); have n5_ := A_ ((by rw [hg]; exact (below_size hb_) : w.heap.size ≤ gb435)); clear HO430 HO433 HB; have HO430 := n0_; have HO433 := n1_; have HB := n2_; have BK435 := n3_; have GW435 := n4_; have GE435 := n5_; clear n0_ n1_ n2_ n3_ n4_ n5_; clear hb hbox hg; have hcz29_0 : w28.cell? ⟨gb435, 0, none⟩ = some (.int .u8 0) := (blk_cell BK435.out 0).trans rfl; have hfz29_0 := blk_frozen BK435.out 0; obtain ⟨Ao30, co30, eo30⟩ := Kd.R_slice HO430.out; subst eo30; obtain ⟨Ao31, co31, eo31⟩ := Kd.R_slice HO433.out; subst eo31) | ((with_reducible refine gate_dst (N := 13) rfl ?_); refine box_event ?hg (N := 13) ?hd (cs := #[.int .i64 0]) (t := 3) ?hr ?_; (case hd => rfl); (case hg => rfl); (case hr => first | (go_simp; done) | (go_simp; rfl)); intro gb446 hg w32 hbox hb; have n0_ := A_ (Kd.R_below (by (with_reducible repeat (first | apply Kd.R_alloc | apply Kd.R_drewN | apply Kd.R_drew)); exact (Kd.R_mono (Kd.R_far (p := ⟨gb435, 0, none⟩) (Kd.R_types HO430.out BK435.out (by decide)) (fun _ hk => hk.2) (.int .u8 a0)) (fun _ h_ => h_.1))) hb); have n1_ := A_ (Kd.R_below (by (with_reducible repeat (first | apply Kd.R_alloc | apply Kd.R_drewN | apply Kd.R_drew)); exact (Kd.R_mono (Kd.R_far (p := ⟨gb435, 0, none⟩) (Kd.R_types HO433.out BK435.out (by decide)) (fun _ hk => hk.2) (.int .u8 a0)) (fun _ h_ => h_.1))) hb); have n2_ := A_ (blk_below (g := gb435) (o := .cells #[.int .u8 a0] 47 (0, 0)) (by (with_reducible repeat (first | refine blk_drewN ?_ _ | refine blk_drew ?_ | refine blk_alloc ?_ _)); refine blk_put (cs := #[.int .u8 0]) ?_ 0 _ rfl; (with_reducible repeat (first | refine blk_drewN ?_ _ | refine blk_drew ?_ | refine blk_alloc ?_ _)); exact BK435.out) hb); have n3_ := A_ (below_step hs_ hb); have n4_ := A_ (hbox); have n5_ := A_ ((by rw [hg]; exact (below_size hs_) : w.heap.size ≤ gb446)); have n6_ := A_ ((by rw [hg]; exact (below_size hs_) : w.heap.size ≤ gb446)); have n7_ := A_ ((by rw [hg]; exact Nat.ne_of_lt (blk_lt (g := gb435) (o := .cells #[.int .u8 a0] 47 (0, 0)) (by (with_reducible repeat (first | refine blk_drewN ?_ _ | refine blk_drew ?_ | refine blk_alloc ?_ _)); refine blk_put (cs := #[.int .u8 0]) ?_ 0 _ rfl; (with_reducible repeat (first | refine blk_drewN ?_ _ | refine blk_drew ?_ | refine blk_alloc ?_ _)); exact BK435.out)) : gb435 ≠ gb446)); have n8_ := A_ ((by rw [hg]; exact Nat.ne_of_gt (blk_lt (g := gb435) (o := .cells #[.int .u8 a0] 47 (0, 0)) (by (with_reducible repeat (first | refine blk_drewN ?_ _ | refine blk_drew ?_ | refine blk_alloc ?_ _)); refine blk_put (cs := #[.int .u8 0]) ?_ 0 _ rfl; (with_reducible repeat (first | refine blk_drewN ?_ _ | refine blk_drew ?_ | refine blk_alloc ?_ _)); exact BK435.out)) : gb446 ≠ gb435)); clear HO430 HO433 BK435 HB; have HO430 := n0_; have HO433 := n1_; have BK435 := n2_; have HB := n3_; have BK446 := n4_; have GW446 := n5_; have GE446 := n6_; have NB435_446 := n7_; have NB446_435 := n8_; clear n0_ n1_ n2_ n3_ n4_ n5_ n6_ n7_ n8_; clear hb hbox hg; have hnb33 := NB446_435.out; have hnc33 := NB435_446.out; have hcz34_0 : w32.cell? ⟨gb446, 0, none⟩ = some (.int .i64 0) := (blk_cell BK446.out 0).trans rfl; have hfz34_0 := blk_frozen BK446.out 0))
    go_loopg [] k (fun kq w' => ∃ (x447000_1 : Int), Aside0 (fast_Mul.l0 kq t428 t431 (wrap64 ((wrap64 ((t428.length : Int) + (t431.length : Int))) - 1)) a0 x447000_1 = some (r1, r2)) ∧ Aside0 (kq ≤ k) ∧ Aside0 (Kd.R (Kd.int .u64) 33 w' w.heap.size (fun k_ => some k_ ≠ ((.slice Ao31 t431.length co31) : Value).ownBlock) (.slice Ao30 t428.length co30) t428) ∧ Aside0 (Kd.R (Kd.int .u64) 33 w' w.heap.size (fun k_ => some k_ ≠ ((.slice Ao30 t428.length co30) : Value).ownBlock) (.slice Ao31 t431.length co31) t431) ∧ Aside0 (w'.heap[gb435]? = some (.cells #[.int .u8 a0] 47 (0, 0))) ∧ Aside0 (w'.heap[gb446]? = some (.cells #[.int .i64 x447000_1] 3 (0, 0))) ∧ Aside0 (Below w.heap.size w w'))
    case atStart => exact ⟨(1), H', ⟨Nat.le_refl _⟩, ⟨by (with_reducible repeat (first | apply Kd.R_alloc | apply Kd.R_drewN | apply Kd.R_drew)); exact Kd.R_mono (Kd.R_far (p := ⟨gb446, 0, none⟩) (Kd.R_types HO430.out BK446.out (by decide)) (fun _ hk => hk.2) (.int .i64 1)) (fun _ hk => hk.1)⟩, ⟨by (with_reducible repeat (first | apply Kd.R_alloc | apply Kd.R_drewN | apply Kd.R_drew)); exact Kd.R_mono (Kd.R_far (p := ⟨gb446, 0, none⟩) (Kd.R_types HO433.out BK446.out (by decide)) (fun _ hk => hk.2) (.int .i64 1)) (fun _ hk => hk.1)⟩, ⟨by (with_reducible repeat (first | refine blk_drewN ?_ _ | refine blk_drew ?_ | refine blk_alloc ?_ _)); refine blk_far ?_ NB435_446.out _; (with_reducible repeat (first | refine blk_drewN ?_ _ | refine blk_drew ?_ | refine blk_alloc ?_ _)); exact BK435.out⟩, ⟨by (with_reducible repeat (first | refine blk_drewN ?_ _ | refine blk_drew ?_ | refine blk_alloc ?_ _)); refine blk_put (cs := #[.int .i64 0]) ?_ 0 _ rfl; (with_reducible repeat (first | refine blk_drewN ?_ _ | refine blk_drew ?_ | refine blk_alloc ?_ _)); exact BK446.out⟩, ⟨hs_⟩⟩
    case round =>
     clear H'
     try clear c1
     try clear c2
     try clear p2
     try clear c3
     try clear c5
     try clear c5b0
     try clear c5b1
     try clear p6
     try clear c7
     try clear c7b0
     try clear c12
     try clear c16
     try clear c16b0
     try clear c27
     try clear c28
     try clear c29
     try clear c30
     try clear c33
     try clear hcz11_0
     try clear hcz21_0
     try clear hcz29_0
     try clear hcz34_0
     try clear hfz11_0
     try clear hfz21_0
     try clear hfz29_0
     try clear hfz34_0
     obtain ⟨x447000_1, HA, HK1, HO_8, HO_9, BK435, BK446, HB⟩ := hrel
     cases gk with
     | zero => exact absurd HA.out (by simp [fast_Mul.l0])
     | succ k1 =>
      have H := HA.out
      clear HA
      simp only [fast_Mul.l0] at H
      by_cases c35 : x447000_1 < (wrap64 ((wrap64 ((t428.length : Int) + (t431.length : Int))) - 1))
      ·rw [if_pos c35] at H
       have c35b0 : decide (x447000_1 < (wrap64 ((wrap64 ((t428.length : Int) + (t431.length : Int))) - 1))) = true := decide_eq_true c35
       clear c35
       have H' := Aside0.mk H
       clear H
       have hnb36 := NB446_435.out
       have hnc36 := NB435_446.out
       have hcz37_0 : wr.cell? ⟨gb446, 0, none⟩ = some (.int .i64 x447000_1) := (blk_cell BK446.out 0).trans rfl
       have hfz37_0 := blk_frozen BK446.out 0
       go_wp2
       go_roundg k1
       case measure => have := HK1.out; omega
       case rel => exact ⟨(wrap64 (x447000_1 * 2)), H', ⟨by have := HK1.out; omega⟩, ⟨by (with_reducible repeat (first | apply Kd.R_alloc | apply Kd.R_drewN | apply Kd.R_drew)); exact Kd.R_mono (Kd.R_far (p := ⟨gb446, 0, none⟩) (Kd.R_types HO_8.out BK446.out (by decide)) (fun _ hk => hk.2) (.int .i64 (wrap64 (x447000_1 * 2)))) (fun _ hk => hk.1)⟩, ⟨by (with_reducible repeat (first | apply Kd.R_alloc | apply Kd.R_drewN | apply Kd.R_drew)); exact Kd.R_mono (Kd.R_far (p := ⟨gb446, 0, none⟩) (Kd.R_types HO_9.out BK446.out (by decide)) (fun _ hk => hk.2) (.int .i64 (wrap64 (x447000_1 * 2)))) (fun _ hk => hk.1)⟩, ⟨by (with_reducible repeat (first | refine blk_drewN ?_ _ | refine blk_drew ?_ | refine blk_alloc ?_ _)); refine blk_far ?_ NB435_446.out _; (with_reducible repeat (first | refine blk_drewN ?_ _ | refine blk_drew ?_ | refine blk_alloc ?_ _)); exact BK435.out⟩, ⟨by (with_reducible repeat (first | refine blk_drewN ?_ _ | refine blk_drew ?_ | refine blk_alloc ?_ _)); refine blk_put (cs := #[.int .i64 x447000_1]) ?_ 0 _ rfl; (with_reducible repeat (first | refine blk_drewN ?_ _ | refine blk_drew ?_ | refine blk_alloc ?_ _)); exact BK446.out⟩, ⟨hs_⟩⟩
      ·rw [if_neg c35] at H
       have c35b0 : decide (x447000_1 < (wrap64 ((wrap64 ((t428.length : Int) + (t431.length : Int))) - 1))) = false := decide_eq_false c35
       clear c35
       replace H := Option.bind_eq_some_iff.mp H
       obtain ⟨t447, A380, H⟩ := H
       replace H : ((fast_Mul_1.f t431 x447000_1).bind fun t450 => ((fast_reckoner_round.f k1 a0 t447 t450).bind fun t453 => ((poly_Trim.f k1 t453).bind fun t456 => (some (t456, 0))))) = some (r1, r2) := H
       have A38 := Aside0.mk A380
       clear A380
       replace H := Option.bind_eq_some_iff.mp H
       obtain ⟨t450, A390, H⟩ := H
       replace H : ((fast_reckoner_round.f k1 a0 t447 t450).bind fun t453 => ((poly_Trim.f k1 t453).bind fun t456 => (some (t456, 0)))) = some (r1, r2) := H
       have A39 := Aside0.mk A390
       clear A390
       replace H := Option.bind_eq_some_iff.mp H
       obtain ⟨t453, A400, H⟩ := H
       replace H : ((poly_Trim.f k1 t453).bind fun t456 => (some (t456, 0))) = some (r1, r2) := H
       have A40 := Aside0.mk A400
       clear A400
       replace H := Option.bind_eq_some_iff.mp H
       obtain ⟨t456, A410, H⟩ := H
       replace H : (some (t456, 0)) = some (r1, r2) := H
       have A41 := Aside0.mk A410
       clear A410
       simp only [Option.some.injEq, Prod.mk.injEq] at H
       obtain ⟨rfl, rfl⟩ := H
       have hnb42 := NB446_435.out
       have hnc42 := NB435_446.out
       have hcz43_0 : wr.cell? ⟨gb446, 0, none⟩ = some (.int .i64 x447000_1) := (blk_cell BK446.out 0).trans rfl
       have hfz43_0 := blk_frozen BK446.out 0
       try go_wp2
       have n0_ := A_ (Kd.R_drew HO_8.out)
       have n1_ := A_ (Kd.R_drew HO_9.out)
       have n2_ := A_ (blk_drew BK435.out)
       have n3_ := A_ (blk_drew BK446.out)
       have n4_ := A_ (below_drew1 HB.out)
       clear HO_8
       clear HO_9
       clear BK435
       clear BK446
       clear HB
       have HO_8 := n0_
       have HO_9 := n1_
       have BK435 := n2_
       have BK446 := n3_
       have HB := n4_
       clear n0_ n1_ n2_ n3_ n4_
       refine start_ (n := 11) (S := fun w' => w'.cell? ⟨gb435, 0, none⟩ = some (.int .u8 a0)) (ds := []) #[false, false, false, false, false, false, false, false, false, false, false] (by kernel_rfl) rfl rfl ((blk_cell BK435.out 0).trans rfl) (fun hHeld => ?_); refine with_tabW fast_Mul.tab10 fast_Mul.bits10 (fun HT_ HW_ => ?_)
       generalize wr.drew = w44 at HO_8 HO_9 BK435 BK446 HB hHeld ⊢
       refine pure_ (i := 1) (N := some 41) (v := ?_) (a' := ?_) #[false, true, false, false, false, false, false, false, false, false, false] rfl rfl (any_of HT_.out (by kernel_rfl)) (fun _ _ _ h => h) (Or.inl ⟨by rfl, ?_⟩) ?_ ?_
       rotate_left
       ·intro w'
        go_simp
        with_reducible rfl
       rotate_left
       ·simp only [Act.put, List.setIfInBounds_toArray, List.set_cons_zero, List.set_cons_succ, i64_w, i32_w]
        rfl
       refine pure_ (i := 2) (N := some 42) (v := ?_) (a' := ?_) #[false, true, true, false, false, false, false, false, false, false, false] rfl rfl (any_of HT_.out (by kernel_rfl)) (fun _ _ _ h => h) (Or.inl ⟨by rfl, ?_⟩) ?_ ?_
       rotate_left
       ·intro w'
        go_simp
        with_reducible rfl
       rotate_left
       ·simp only [Act.put, List.setIfInBounds_toArray, List.set_cons_zero, List.set_cons_succ, i64_w, i32_w]
        rfl
       refine pure_ (i := 4) (N := some 44) (v := ?_) (a' := ?_) #[false, true, true, false, true, false, false, false, false, false, false] rfl rfl (any_of HT_.out (by kernel_rfl)) (fun _ _ _ h => h) (Or.inl ⟨by rfl, ?_⟩) ?_ ?_
       rotate_left
       ·intro w'
        go_simp
        with_reducible rfl
       rotate_left
       ·simp only [Act.put, List.setIfInBounds_toArray, List.set_cons_zero, List.set_cons_succ, i64_w, i32_w]
        rfl
       refine pure_ (i := 5) (N := some 45) (v := ?_) (a' := ?_) #[false, true, true, false, true, true, false, false, false, false, false] rfl rfl (any_of HT_.out (by kernel_rfl)) (fun _ _ _ h => h) (Or.inl ⟨by rfl, ?_⟩) ?_ ?_
       rotate_left
       ·intro w'
        go_simp
        with_reducible rfl
       rotate_left
       ·simp only [Act.put, List.setIfInBounds_toArray, List.set_cons_zero, List.set_cons_succ, i64_w, i32_w]
        rfl
       refine take_ (i := 0) (N := some 40) (v := ?_) (a' := ?_) #[true, true, true, false, true, true, false, false, false, false, false] rfl rfl (take_ofW HT_.out HW_.out (by kernel_rfl)) (fun _ _ _ h => h) (Or.inl ⟨by rfl, ?_⟩) hHeld ?_ ?_
       rotate_left
       ·intro w' s0
        go_simp
        with_reducible rfl
       rotate_left
       ·simp only [Act.put, List.setIfInBounds_toArray, List.set_cons_zero, List.set_cons_succ, i64_w, i32_w]
        rfl
       refine one_ (i := 3) (N := some 43) #[true, true, true, true, true, true, false, false, false, false, false] rfl rfl (one_of HT_.out (by kernel_rfl)) (by decide) (fun K hK => ?_)
       refine goesKr_ Try.func31 (by kernel_rfl) rfl #[.slice Ao30 t428.length co30, .pointer (some ⟨gb446, 0, none⟩)] (by rfl) rfl rfl (by rfl) (by (try simp only [List.map_toArray, List.map_cons, List.map_nil]); first | done | rfl | (simp only [List.length_drop, List.length_take]; rfl)) ?_
       with_reducible refine (fast_Mul_1.calls (fun k_ => some k_ = (.slice Ao30 t428.length co30 : Value).ownBlock) (.slice Ao30 t428.length co30) t428 x447000_1 t447 w _ ?side1 ?side2 A38.out gb446 ((blk_cell (nb_ BK446) 0).trans rfl)).mono ?_
       (case side1 => repeat (first | (with_reducible first | exact HB.out | apply below_alloc | apply pw_below_drewN | apply below_drew1 | refine below_set ?_ GE435.out | refine below_set ?_ GE446.out) | exact HB.out))
       (case side2 => exact Kd.R_tight rfl HO_8.out)
       rintro e w45 ⟨v448, rfl, ho0, hb, hkp⟩
       refine ⟨_, rfl, ?_⟩
       have n0_ := A_ (Kd.R_mono (ok' := fun k_ => some k_ ≠ (v448 : Value).ownBlock) (Kd.R_keptB (HO_9.out) hkp (fun k_ hk_ hs_ => (hk_) hs_)) (fun k_ hk_ => fun e_ => Or.elim (ho0.1 k_ e_.symm) (fun hs_ => hk_.2.1 hs_) (fun hn_ => Nat.not_le.2 hk_.2.2 hn_)))
       have n1_ := A_ (blk_kept (nb_ BK435) hkp (fun hs_ => (fun e_ => (Kd.R_ne HO_8.out BK435.out (by decide)) e_) hs_))
       have n2_ := A_ (blk_kept (nb_ BK446) hkp (fun hs_ => (fun e_ => (Kd.R_ne HO_8.out BK446.out (by decide)) e_) hs_))
       have n3_ := A_ (Kd.R_mono (ok' := fun k_ => some k_ ≠ (.slice Ao31 t431.length co31 : Value).ownBlock) ho0 (fun k_ hk_ => Or.elim hk_ (fun hs_ => fun e_ => (((HO_9.out).1 k_ e_.symm)) hs_) (fun hn_ => (Kd.fresh' (Kd.R_lt (nR_ HO_9)) k_ hn_))))
       have n4_ := A_ (hb)
       clear HO_9
       clear BK435
       clear BK446
       clear HB
       clear HO_8
       have HO_9 := n0_
       have BK435 := n1_
       have BK446 := n2_
       have HO449 := n3_
       have HB := n4_
       clear n0_ n1_ n2_ n3_ n4_
       (try clear hb)
       (try clear hkp)
       (try clear ho0)
       refine hK.out _ _ ((blk_cell BK435.out 0).trans rfl) (fun hHeld => ?_)
       clear hK K
       refine norm_ (a' := ?_) ?_ ?_
       rotate_left
       ·show Act.put _ (some 43) _ = _
        simp only [Act.put, List.setIfInBounds_toArray, List.set_cons_zero, List.set_cons_succ, i64_w, i32_w]
        rfl
       refine one_ (i := 6) (N := some 46) #[true, true, true, true, true, true, true, false, false, false, false] rfl rfl (one_of HT_.out (by kernel_rfl)) (by decide) (fun K hK => ?_)
       refine goesKr_ Try.func31 (by kernel_rfl) rfl #[.slice Ao31 t431.length co31, .pointer (some ⟨gb446, 0, none⟩)] (by rfl) rfl rfl (by rfl) (by (try simp only [List.map_toArray, List.map_cons, List.map_nil]); first | done | rfl | (simp only [List.length_drop, List.length_take]; rfl)) ?_
       with_reducible refine (fast_Mul_1.calls (fun k_ => some k_ = (.slice Ao31 t431.length co31 : Value).ownBlock) (.slice Ao31 t431.length co31) t431 x447000_1 t450 w _ ?side1 ?side2 A39.out gb446 ((blk_cell (nb_ BK446) 0).trans rfl)).mono ?_
       (case side1 => repeat (first | (with_reducible first | exact HB.out | apply below_alloc | apply pw_below_drewN | apply below_drew1 | refine below_set ?_ GE435.out | refine below_set ?_ GE446.out) | exact HB.out))
       (case side2 => exact Kd.R_tight rfl HO_9.out)
       rintro e w46 ⟨v451, rfl, ho0, hb, hkp⟩
       refine ⟨_, rfl, ?_⟩
       have n0_ := A_ (blk_kept (nb_ BK435) hkp (fun hs_ => (fun e_ => (Kd.R_ne HO_9.out BK435.out (by decide)) e_) hs_))
       have n1_ := A_ (blk_kept (nb_ BK446) hkp (fun hs_ => (fun e_ => (Kd.R_ne HO_9.out BK446.out (by decide)) e_) hs_))
       have n2_ := A_ (Kd.R_mono (ok' := fun k_ => some k_ ≠ (v451 : Value).ownBlock) (Kd.R_keptB (HO449.out) hkp (fun k_ hk_ hs_ => (hk_) hs_)) (fun k_ hk_ => fun e_ => Or.elim (ho0.1 k_ e_.symm) (fun hs_ => hk_.2.1 hs_) (fun hn_ => Nat.not_le.2 hk_.2.2 hn_)))
       have n3_ := A_ (Kd.R_mono (ok' := fun k_ => some k_ ≠ (v448 : Value).ownBlock) ho0 (fun k_ hk_ => Or.elim hk_ (fun hs_ => fun e_ => (((HO449.out).1 k_ e_.symm)) hs_) (fun hn_ => (Kd.fresh' (Kd.R_lt (nR_ HO449)) k_ hn_))))
       have n4_ := A_ (hb)
       clear BK435
       clear BK446
       clear HO449
       clear HB
       clear HO_9
       have BK435 := n0_
       have BK446 := n1_
       have HO449 := n2_
       have HO452 := n3_
       have HB := n4_
       clear n0_ n1_ n2_ n3_ n4_
       (try clear hb)
       (try clear hkp)
       (try clear ho0)
       obtain ⟨Ao47, co47, eo47⟩ := Kd.R_slice HO449.out
       (first | subst eo47 | (injection eo47 with f1_ f2_ f3_; have f4_ := f1_.symm; have f5_ := f3_.symm; clear f1_ f2_ f3_; subst f4_; subst f5_))
       obtain ⟨Ao48, co48, eo48⟩ := Kd.R_slice HO452.out
       (first | subst eo48 | (injection eo48 with f1_ f2_ f3_; have f4_ := f1_.symm; have f5_ := f3_.symm; clear f1_ f2_ f3_; subst f4_; subst f5_))
       refine hK.out _ _ ((blk_cell BK435.out 0).trans rfl) (fun hHeld => ?_)
       clear hK K
       refine norm_ (a' := ?_) ?_ ?_
       rotate_left
       ·show Act.put _ (some 46) _ = _
        simp only [Act.put, List.setIfInBounds_toArray, List.set_cons_zero, List.set_cons_succ, i64_w, i32_w]
        rfl
       refine one_ (i := 7) (N := some 47) #[true, true, true, true, true, true, true, true, false, false, false] rfl rfl (one_of HT_.out (by kernel_rfl)) (by decide) (fun K hK => ?_)
       refine goes_ Try.func32 (by kernel_rfl) rfl #[.agg #[.int .u8 a0], .slice Ao47 t447.length co47, .slice Ao48 t450.length co48] (by rfl) rfl rfl (by (try simp only [List.map_toArray, List.map_cons, List.map_nil]); first | done | rfl | (simp only [List.length_drop, List.length_take]; rfl)) ?_
       with_reducible refine (fast_reckoner_round.calls k1 a0 _ _ t447 _ _ t450 t453 _ ?side1 ?side2 ?side3 ?side4 A40.out).mono ?_
       (case side1 => repeat (first | exact (Kd.R_reads' HO449.out).2.2 | (with_reducible refine Kd.C_alloc ?_ _) | (with_reducible refine Kd.C_drewN ?_ _) | (with_reducible refine Kd.C_drew ?_)))
       (case side2 => exact (Kd.R_reads' HO449.out).2.1)
       (case side3 => repeat (first | exact (Kd.R_reads' HO452.out).2.2 | (with_reducible refine Kd.C_alloc ?_ _) | (with_reducible refine Kd.C_drewN ?_ _) | (with_reducible refine Kd.C_drew ?_)))
       (case side4 => exact (Kd.R_reads' HO452.out).2.1)
       rintro e w49 ⟨v454, rfl, ho0, hb⟩
       refine ⟨_, rfl, ?_⟩
       have n0_ := A_ (Kd.R_elder' (nR_ HO449) (Kd.R_base ho0) hb)
       have n1_ := A_ (Kd.R_elder' (nR_ HO452) (Kd.R_base ho0) hb)
       have n2_ := A_ (Kd.R_lower (Kd.R_new' (Kd.R_new' ho0 (Kd.R_lt (nR_ HO449))) (Kd.R_lt (nR_ HO452))) (below_size hs_))
       have n3_ := A_ (blk_below (g := gb435) (o := .cells #[.int .u8 a0] 47 (0, 0)) (nb_ BK435) hb)
       have n4_ := A_ (blk_below (g := gb446) (o := .cells #[.int .i64 x447000_1] 3 (0, 0)) (nb_ BK446) hb)
       have n5_ := A_ (below_step hs_ hb)
       clear HO449
       clear HO452
       clear BK435
       clear BK446
       clear HB
       have HO449 := n0_
       have HO452 := n1_
       have HO455 := n2_
       have BK435 := n3_
       have BK446 := n4_
       have HB := n5_
       clear n0_ n1_ n2_ n3_ n4_ n5_
       (try clear hb)
       (try clear hb2)
       (try clear hk)
       (try clear hi)
       (try clear ho0)
       obtain ⟨Ao50, co50, eo50⟩ := Kd.R_slice HO455.out
       (first | subst eo50 | (injection eo50 with f1_ f2_ f3_; have f4_ := f1_.symm; have f5_ := f3_.symm; clear f1_ f2_ f3_; subst f4_; subst f5_))
       refine hK.out _ _ ((blk_cell BK435.out 0).trans rfl) (fun hHeld => ?_)
       clear hK K
       refine norm_ (a' := ?_) ?_ ?_
       rotate_left
       ·show Act.put _ (some 47) _ = _
        simp only [Act.put, List.setIfInBounds_toArray, List.set_cons_zero, List.set_cons_succ, i64_w, i32_w]
        rfl
       refine one_ (i := 8) (N := some 48) #[true, true, true, true, true, true, true, true, true, false, false] rfl rfl (one_of HT_.out (by kernel_rfl)) (by decide) (fun K hK => ?_)
       refine goes_ Try.func29 (by kernel_rfl) rfl #[.slice Ao50 t453.length co50] (by rfl) rfl rfl (by (try simp only [List.map_toArray, List.map_cons, List.map_nil]); first | done | rfl | (simp only [List.length_drop, List.length_take]; rfl)) ?_
       with_reducible refine (poly_Trim.calls k1 _ _ t453 t456 _ ?side1 ?side2 A41.out).mono ?_
       (case side1 => repeat (first | exact (Kd.R_reads' HO455.out).2.2 | (with_reducible refine Kd.C_alloc ?_ _) | (with_reducible refine Kd.C_drewN ?_ _) | (with_reducible refine Kd.C_drew ?_)))
       (case side2 => exact (Kd.R_reads' HO455.out).2.1)
       rintro e w51 ⟨v457, rfl, ho0, hb⟩
       refine ⟨_, rfl, ?_⟩
       have n0_ := A_ (Kd.R_elder' (nR_ HO449) (Kd.R_base ho0) hb)
       have n1_ := A_ (Kd.R_elder' (nR_ HO452) (Kd.R_base ho0) hb)
       have n2_ := A_ (Kd.R_elder' (nR_ HO455) (Kd.R_base ho0) hb)
       have n3_ := A_ (Kd.R_lower (Kd.R_new' (Kd.R_new' (Kd.R_new' ho0 (Kd.R_lt (nR_ HO449))) (Kd.R_lt (nR_ HO452))) (Kd.R_lt (nR_ HO455))) (below_size hs_))
       have n4_ := A_ (blk_below (g := gb435) (o := .cells #[.int .u8 a0] 47 (0, 0)) (nb_ BK435) hb)
       have n5_ := A_ (blk_below (g := gb446) (o := .cells #[.int .i64 x447000_1] 3 (0, 0)) (nb_ BK446) hb)
       have n6_ := A_ (below_step hs_ hb)
       clear HO449
       clear HO452
       clear HO455
       clear BK435
       clear BK446
       clear HB
       have HO449 := n0_
       have HO452 := n1_
       have HO455 := n2_
       have HO458 := n3_
       have BK435 := n4_
       have BK446 := n5_
       have HB := n6_
       clear n0_ n1_ n2_ n3_ n4_ n5_ n6_
       (try clear hb)
       (try clear hb2)
       (try clear hk)
       (try clear hi)
       (try clear ho0)
       refine hK.out _ _ ((blk_cell BK435.out 0).trans rfl) (fun hHeld => ?_)
       clear hK K
       refine norm_ (a' := ?_) ?_ ?_
       rotate_left
       ·show Act.put _ (some 48) _ = _
        simp only [Act.put, List.setIfInBounds_toArray, List.set_cons_zero, List.set_cons_succ, i64_w, i32_w]
        rfl
       refine pure_ (i := 9) (N := some 6) (v := ?_) (a' := ?_) #[true, true, true, true, true, true, true, true, true, true, false] rfl rfl (any_of HT_.out (by kernel_rfl)) (fun _ _ _ h => h) (Or.inl ⟨by rfl, ?_⟩) ?_ ?_
       rotate_left
       ·intro w'
        go_simp
        with_reducible rfl
       rotate_left
       ·simp only [Act.put, List.setIfInBounds_toArray, List.set_cons_zero, List.set_cons_succ, i64_w, i32_w]
        rfl
       refine pure_ (i := 10) (N := some 7) (v := ?_) (a' := ?_) #[true, true, true, true, true, true, true, true, true, true, true] rfl rfl (any_of HT_.out (by kernel_rfl)) (fun _ _ _ h => h) (Or.inl ⟨by rfl, ?_⟩) ?_ ?_
       rotate_left
       ·intro w'
        go_simp
        with_reducible rfl
       rotate_left
       ·simp only [Act.put, List.setIfInBounds_toArray, List.set_cons_zero, List.set_cons_succ, i64_w, i32_w]
        rfl
       refine done_ (done_of HT_.out (by kernel_rfl)) ?_
       try go_wp2
       go_ret2
       exact ⟨_, by first | rfl | (simp [errW_none, errW_some] <;> rfl) | (simp only [← hji6]; first | rfl | (simp [errW_none, errW_some] <;> rfl)) | (simp [*, errW_none, errW_some] <;> rfl), by (with_reducible repeat (first | apply Kd.R_alloc | apply Kd.R_drewN | apply Kd.R_drew)); exact Kd.R_mono HO458.out (fun _ hk => trivial), hs_⟩
 ·rw [if_neg c5] at H
  have c5b0 : (t434 == 0) = false := beq_eq_false_iff_ne.mpr c5
  have c5b1 : (t434 != 0) = true := bne_iff_ne.mpr c5
  simp only [Option.some.injEq, Prod.mk.injEq] at H
  obtain ⟨rfl, rfl⟩ := H
  go_enter Try.func12, Try.ntmps12
  go_wp2_with (first | ((with_reducible refine gate_callee (f := 27) rfl ?_); refine goesM_ (some 19) Try.func27 #[.int .u8 a0, .slice A1 l1.length c1, .slice A2 l2.length c2] ?_; (with_reducible refine (fast_checked.calls k a0 (fun k_ => k_ < w.heap.size) _ _ l1 (fun k_ => k_ < w.heap.size) _ _ l2 t428 t431 t434 _ ?side1 ?side2 A4.out).mono ?_); (case side1 => exact Kd.V_mk HC1.out (Kd.F_below (Kd.C_F (Kd.heap_int .u64) HR1.out) hb_)); (case side2 => exact Kd.V_mk HC2.out (Kd.F_below (Kd.C_F (Kd.heap_int .u64) HR2.out) hb_)); rintro e w52 ⟨v429, v432, rfl, ho0, ho1, hb⟩; refine ⟨_, rfl, ?_⟩; have n0_ := A_ (Kd.R_lower (Kd.R_mono (ok' := fun k_ => some k_ ≠ (v432 : Value).ownBlock) ho0 (fun _ hk_ => hk_.2)) (below_size hb_)); have n1_ := A_ (Kd.R_lower (Kd.R_mono (ok' := fun k_ => some k_ ≠ (v429 : Value).ownBlock) ho1 (fun _ hk_ => hk_.2)) (below_size hb_)); have n2_ := A_ (below_step hb_ hb); clear HB; have HO430 := n0_; have HO433 := n1_; have HB := n2_; clear n0_ n1_ n2_; (try clear hb); (try clear ho0); (try clear ho1)))
  go_ret2
  exact ⟨_, fr_, by first | exact Kd.R_nil _ _ _ _ _ | exact Kd.N_nil _ _ _ _ _ | exact Kd.V_nil _ _ _ _ _ | exact Kd.Q_nil _ _ _ _ _ | exact Kd.S_nil _ _ _ _ _, hb_⟩
/-! ### fast_Kara: function 13 -/
def fast_Kara.f (k : Nat) (a0 : Int) (l1 : List Int) (l2 : List Int) : Option (List Int × Int) := (fast_checked.f k a0 l1 l2).bind fun bt459 => (if bt459.2.2 = 0 then ((fast_reckoner_halves.f k a0 bt459.1 bt459.2.1).bind fun t466 => ((poly_Trim.f k t466).bind fun t469 => (some (t469, 0)))) else (some (([] : List Int), bt459.2.2)))
theorem fast_Kara.mono : ∀ a0 a1 a2 k, LeO (fast_Kara.f k a0 a1 a2) (fast_Kara.f (k + 1) a0 a1 a2) := by
 intro a0 a1 a2 k
 unfold fast_Kara.f
 repeat' first
   | (with_reducible exact fast_checked.mono _ _ _ _)
   | (with_reducible exact fast_reckoner_halves.mono _ _ _ _)
   | (with_reducible exact poly_Trim.mono _ _)
   | (with_reducible exact LeO.refl _)
   | (with_reducible exact LeO.none _)
   | (with_reducible refine LeO.ite ?_ ?_)
   | (with_reducible refine LeO.bind ?_ (fun _ => ?_))
   | exact fast_checked.mono _ _ _ _
   | exact fast_reckoner_halves.mono _ _ _ _
   | exact poly_Trim.mono _ _
   | exact LeO.none _
   | refine LeO.ite ?_ ?_
   | refine LeO.bind ?_ (fun _ => ?_)
set_option maxHeartbeats 8000000 in
set_option maxRecDepth 100000 in
theorem fast_Kara.calls (k : Nat) (a0 : Int) (A1 : Option Addr) (c1 : Nat) (l1 : List Int) (A2 : Option Addr) (c2 : Nat) (l2 : List Int) (r1 : List Int) (r2 : Int) (w : World) (hr1 : Kd.C (Kd.int .u64) w A1 l1.length l1) (hc1 : l1.length ≤ c1) (hr2 : Kd.C (Kd.int .u64) w A2 l2.length l2) (hc2 : l2.length ≤ c2) (h : fast_Kara.f k a0 l1 l2 = some (r1, r2)) :
  Calls Try.prog 13 #[.int .u8 a0, .slice A1 l1.length c1, .slice A2 l2.length c2] w fun e w' => ∃ v0_ : Value, e = .returned (.tuple #[v0_, .int .i64 r2]) ∧ Kd.R (Kd.int .u64) 33 w' w.heap.size (fun _ => True) v0_ r1 ∧ Below w.heap.size w w' := by
 have hu47 := Try.underlying47
 have HR1 := Aside0.mk hr1
 have HC1 := Aside0.mk hc1
 clear hr1 hc1
 have HR2 := Aside0.mk hr2
 have HC2 := Aside0.mk hc2
 clear hr2 hc2
 have HB := A_ (Below.refl w.heap.size w)
 have H : ((fast_checked.f k a0 l1 l2).bind fun bt459 => (if bt459.2.2 = 0 then ((fast_reckoner_halves.f k a0 bt459.1 bt459.2.1).bind fun t466 => ((poly_Trim.f k t466).bind fun t469 => (some (t469, 0)))) else (some (([] : List Int), bt459.2.2)))) = some (r1, r2) := h
 clear h
 replace H := Option.bind_eq_some_iff.mp H
 obtain ⟨⟨t459, t462, t465⟩, A40, H⟩ := H
 replace H : (if t465 = 0 then ((fast_reckoner_halves.f k a0 t459 t462).bind fun t466 => ((poly_Trim.f k t466).bind fun t469 => (some (t469, 0)))) else (some (([] : List Int), t465))) = some (r1, r2) := H
 have A4 := Aside0.mk A40
 clear A40
 have HC5 := Aside0.mk H
 clear H
 go_enter Try.func13, Try.ntmps13
 go_upto_if 20 with (first | ((with_reducible refine gate_callee (f := 27) rfl ?_); refine goesM_ (some 15) Try.func27 #[.int .u8 a0, .slice A1 l1.length c1, .slice A2 l2.length c2] ?_; (with_reducible refine (fast_checked.calls k a0 (fun k_ => k_ < w.heap.size) _ _ l1 (fun k_ => k_ < w.heap.size) _ _ l2 t459 t462 t465 _ ?side1 ?side2 A4.out).mono ?_); (case side1 => exact Kd.V_mk HC1.out (Kd.F_below (Kd.C_F (Kd.heap_int .u64) HR1.out) hb_)); (case side2 => exact Kd.V_mk HC2.out (Kd.F_below (Kd.C_F (Kd.heap_int .u64) HR2.out) hb_)); rintro e w6 ⟨v460, v463, rfl, ho0, ho1, hb⟩; refine ⟨_, rfl, ?_⟩; have n0_ := A_ (Kd.R_lower (Kd.R_mono (ok' := fun k_ => some k_ ≠ (v463 : Value).ownBlock) ho0 (fun _ hk_ => hk_.2)) (below_size hb_)); have n1_ := A_ (Kd.R_lower (Kd.R_mono (ok' := fun k_ => some k_ ≠ (v460 : Value).ownBlock) ho1 (fun _ hk_ => hk_.2)) (below_size hb_)); have n2_ := A_ (below_step hb_ hb); clear HB; have HO461 := n0_; have HO464 := n1_; have HB := n2_; clear n0_ n1_ n2_; (try clear hb); (try clear ho0); (try clear ho1)))
 (try simp only [Act.put, List.setIfInBounds_toArray, List.set_cons_zero, List.set_cons_succ])
 have H := HC5.out
 clear HC5
 by_cases c7 : t465 = 0
 ·rw [if_pos c7] at H
  have c7b0 : (t465 == 0) = true := beq_iff_eq.mpr c7
  have c7b1 : (t465 != 0) = false := bne_eq_false_iff_eq.mpr c7
  clear c7
  (first | rw [c7b0] | rw [c7b1] | (simp only [i64_w, i32_w]; first | rw [c7b0] | rw [c7b1]) | skip)
  replace H := Option.bind_eq_some_iff.mp H
  obtain ⟨t466, A80, H⟩ := H
  replace H : ((poly_Trim.f k t466).bind fun t469 => (some (t469, 0))) = some (r1, r2) := H
  have A8 := Aside0.mk A80
  clear A80
  replace H := Option.bind_eq_some_iff.mp H
  obtain ⟨t469, A90, H⟩ := H
  replace H : (some (t469, 0)) = some (r1, r2) := H
  have A9 := Aside0.mk A90
  clear A90
  simp only [Option.some.injEq, Prod.mk.injEq] at H
  obtain ⟨rfl, rfl⟩ := H
  obtain ⟨Ao10, co10, eo10⟩ := Kd.R_slice HO461.out
  subst eo10
  obtain ⟨Ao11, co11, eo11⟩ := Kd.R_slice HO464.out
  subst eo11
  go_wp2_with (first | ((with_reducible refine gate_callee (f := 30) rfl ?_); refine goesM_ (some 26) Try.func30 #[.agg #[.int .u8 a0], .slice Ao10 t459.length co10, .slice Ao11 t462.length co11] ?_; (with_reducible refine (fast_reckoner_halves.calls k a0 _ _ t459 _ _ t462 t466 _ ?side1 ?side2 ?side3 ?side4 A8.out).mono ?_); (case side1 => repeat (first | exact (Kd.R_reads' HO461.out).2.2 | (with_reducible refine Kd.C_alloc ?_ _) | (with_reducible refine Kd.C_drewN ?_ _) | (with_reducible refine Kd.C_drew ?_))); (case side2 => exact (Kd.R_reads' HO461.out).2.1); (case side3 => repeat (first | exact (Kd.R_reads' HO464.out).2.2 | (with_reducible refine Kd.C_alloc ?_ _) | (with_reducible refine Kd.C_drewN ?_ _) | (with_reducible refine Kd.C_drew ?_))); (case side4 => exact (Kd.R_reads' HO464.out).2.1); rintro e w12 ⟨v467, rfl, ho0, hb⟩; refine ⟨_, rfl, ?_⟩; have n0_ := A_ (Kd.R_elder' (nR_ HO461) (Kd.R_base ho0) hb); have n1_ := A_ (Kd.R_elder' (nR_ HO464) (Kd.R_base ho0) hb); have n2_ := A_ (Kd.R_lower (Kd.R_new' (Kd.R_new' ho0 (Kd.R_lt (nR_ HO461))) (Kd.R_lt (nR_ HO464))) (below_size hb_)); have n3_ := A_ (below_step hb_ hb); clear HO461 HO464 HB; have HO461 := n0_; have HO464 := n1_; have HO468 := n2_; have HB := n3_; clear n0_ n1_ n2_ n3_; (try clear hb); (try clear ho0); obtain ⟨Ao13, co13, eo13⟩ := Kd.R_slice HO468.out; subst eo13) | ((with_reducible refine gate_callee (f := 29) rfl ?_); refine goesM_ (some 27) Try.func29 #[.slice Ao13 t466.length co13] ?_; (with_reducible refine (poly_Trim.calls k _ _ t466 t469 _ ?side1 ?side2 A9.out).mono ?_); (case side1 => repeat (first | exact (Kd.R_reads' HO468.out).2.2 | (with_reducible refine Kd.C_alloc ?_ _) | (with_reducible refine Kd.C_drewN ?_ _) | (with_reducible refine Kd.C_drew ?_))); (case side2 => exact (Kd.R_reads' HO468.out).2.1); rintro e w14 ⟨v470, rfl, ho0, hb⟩; refine ⟨_, rfl, ?_⟩; have n0_ := A_ (Kd.R_elder' (nR_ HO461) (Kd.R_base ho0) hb); have n1_ := A_ (Kd.R_elder' (nR_ HO464) (Kd.R_base ho0) hb); have n2_ := A_ (Kd.R_elder' (nR_ HO468) (Kd.R_base ho0) hb); have n3_ := A_ (Kd.R_lower (Kd.R_new' (Kd.R_new' (Kd.R_new' ho0 (Kd.R_lt (nR_ HO461))) (Kd.R_lt (nR_ HO464))) (Kd.R_lt (nR_ HO468))) (below_size hb_)); have n4_ := A_ (below_step hb_ hb); clear HO461 HO464 HO468 HB; have HO461 := n0_; have HO464 := n1_; have HO468 := n2_; have HO471 := n3_; have HB := n4_; clear n0_ n1_ n2_ n3_ n4_; (try clear hb); (try clear ho0)))
  go_ret2
  exact ⟨_, fr_, by (with_reducible repeat (first | apply Kd.R_alloc | apply Kd.R_drewN | apply Kd.R_drew)); exact Kd.R_mono HO471.out (fun _ hk => trivial), hb_⟩
 ·rw [if_neg c7] at H
  have c7b0 : (t465 == 0) = false := beq_eq_false_iff_ne.mpr c7
  have c7b1 : (t465 != 0) = true := bne_iff_ne.mpr c7
  (first | rw [c7b0] | rw [c7b1] | (simp only [i64_w, i32_w]; first | rw [c7b0] | rw [c7b1]) | skip)
  simp only [Option.some.injEq, Prod.mk.injEq] at H
  obtain ⟨rfl, rfl⟩ := H
  go_wp2
  go_ret2
  exact ⟨_, fr_, by first | exact Kd.R_nil _ _ _ _ _ | exact Kd.N_nil _ _ _ _ _ | exact Kd.V_nil _ _ _ _ _ | exact Kd.Q_nil _ _ _ _ _ | exact Kd.S_nil _ _ _ _ _, hb_⟩
/-! ### fast_shaped: function 24 -/
def fast_shaped.l0 : Nat → List (List Int) → List (List Int) → Int → Int → Option (Int)
 | 0, _, _, _, _ => none
 | k + 1, x1, x16, x17, x18 => if x18 < x17 then (if 0 ≤ x18 then (if x18 < (x16.length : Int) then ((fast_log.f ((rd_L1 x16 x18).length : Int)).bind fun bt474 => (if bt474.2 = true then (if 0 < (x1.length : Int) then (if ((rd_L1 x16 x18).length : Int) = ((rd_L1 x1 0).length : Int) then (fast_shaped.l0 k x1 x16 x17 (wrap64 (x18 + 1))) else (some 3)) else (none)) else (some 3))) else (none)) else (none)) else (some 0)
def fast_shaped.f (k : Nat) (a0 : Int) (l1 : List (List Int)) : Option (Int) := (fast_may.f k a0 l1).bind fun t472 => (if t472 = 0 then (fast_shaped.l0 k l1 l1 (l1.length : Int) 0) else (some t472))
theorem fast_shaped.mono_l : ∀ k, (∀ y0 y1 y2 y3, LeO (fast_shaped.l0 k y0 y1 y2 y3) (fast_shaped.l0 (k + 1) y0 y1 y2 y3))
 | 0 => fun _ _ _ _ r h => by simp [fast_shaped.l0] at h
 | k + 1 => by
  have ih0 := fast_shaped.mono_l k
  ·intro y0 y1 y2 y3
   unfold fast_shaped.l0
   repeat' first
   | (with_reducible exact ih0 _ _ _ _)
   | (with_reducible exact fast_may.mono _ _ _)
   | (with_reducible exact LeO.refl _)
   | (with_reducible exact LeO.none _)
   | (with_reducible refine LeO.ite ?_ ?_)
   | (with_reducible refine LeO.bind ?_ (fun _ => ?_))
   | exact ih0 _ _ _ _
   | exact fast_may.mono _ _ _
   | exact LeO.none _
   | refine LeO.ite ?_ ?_
   | refine LeO.bind ?_ (fun _ => ?_)
theorem fast_shaped.mono : ∀ a0 a1 k, LeO (fast_shaped.f k a0 a1) (fast_shaped.f (k + 1) a0 a1) := by
 intro a0 a1 k
 have ih0 := fast_shaped.mono_l k
 unfold fast_shaped.f
 repeat' first
   | (with_reducible exact ih0 _ _ _ _)
   | (with_reducible exact fast_may.mono _ _ _)
   | (with_reducible exact LeO.refl _)
   | (with_reducible exact LeO.none _)
   | (with_reducible refine LeO.ite ?_ ?_)
   | (with_reducible refine LeO.bind ?_ (fun _ => ?_))
   | exact ih0 _ _ _ _
   | exact fast_may.mono _ _ _
   | exact LeO.none _
   | refine LeO.ite ?_ ?_
   | refine LeO.bind ?_ (fun _ => ?_)
set_option maxHeartbeats 8000000 in
set_option maxRecDepth 100000 in
theorem fast_shaped.calls (k : Nat) (a0 : Int) (A1 : Option Addr) (c1 : Nat) (l1 : List (List Int)) (r : Int) (w : World) (hr1 : Kd.C (Kd.slice 33 (Kd.int .u64)) w A1 l1.length l1) (hc1 : l1.length ≤ c1) (h : fast_shaped.f k a0 l1 = some r) :
  Calls Try.prog 24 #[.int .u8 a0, .slice A1 l1.length c1] w fun e w' => e = .returned (.int .i64 r) ∧ Below w.heap.size w w' := by
 have HR1 := Aside0.mk hr1
 have HC1 := Aside0.mk hc1
 clear hr1 hc1
 have HB := A_ (Below.refl w.heap.size w)
 have H : ((fast_may.f k a0 l1).bind fun t472 => (if t472 = 0 then (fast_shaped.l0 k l1 l1 (l1.length : Int) 0) else (some t472))) = some r := h
 clear h
 replace H := Option.bind_eq_some_iff.mp H
 obtain ⟨t472, A30, H⟩ := H
 replace H : (if t472 = 0 then (fast_shaped.l0 k l1 l1 (l1.length : Int) 0) else (some t472)) = some r := H
 have A3 := Aside0.mk A30
 clear A30
 have HC4 := Aside0.mk H
 clear H
 go_enter Try.func24, Try.ntmps24
 go_upto_if 14 with (first | ((with_reducible refine gate_callee (f := 35) rfl ?_); refine goesM_ (some 12) Try.func35 #[.int .u8 a0, .slice A1 l1.length c1] ?_; (with_reducible refine (fast_may.calls k a0 _ _ l1 t472 _ ?side1 ?side2 A3.out).mono ?_); (case side1 => exact nC_ HR1.out); (case side2 => exact HC1.out); rintro e w5 ⟨rfl, hb⟩; refine ⟨_, rfl, ?_⟩; have n0_ := A_ (below_step hb_ hb); clear HB; have HB := n0_; clear n0_; (try clear hb)))
 (try simp only [Act.put, List.setIfInBounds_toArray, List.set_cons_zero, List.set_cons_succ])
 have H := HC4.out
 clear HC4
 by_cases c6 : t472 = 0
 ·rw [if_pos c6] at H
  have c6b0 : (t472 == 0) = true := beq_iff_eq.mpr c6
  have c6b1 : (t472 != 0) = false := bne_eq_false_iff_eq.mpr c6
  clear c6
  (first | rw [c6b0] | rw [c6b1] | (simp only [i64_w, i32_w]; first | rw [c6b0] | rw [c6b1]) | skip)
  have H' := Aside0.mk H
  clear H
  go_wp2
  go_loopg [18] k (fun kq v18 w' => ∃ (x18_1 : Int), v18 = .int .i64 x18_1 ∧ Aside0 (fast_shaped.l0 kq l1 l1 (l1.length : Int) x18_1 = some r) ∧ Aside0 (kq ≤ k) ∧ Aside0 (Below w.heap.size w w'))
  case atStart => exact ⟨(0), (fs_), H', ⟨Nat.le_refl _⟩, ⟨by repeat (first | (with_reducible first | exact HB.out | apply below_alloc | apply pw_below_drewN | apply below_drew1) | exact HB.out)⟩⟩
  case round =>
   clear H'
   try clear c1
   try clear c2
   try clear p2
   try clear c3
   try clear c6
   try clear c6b0
   try clear c6b1
   obtain ⟨x18_1, rfl, HA, HK1, HB⟩ := hrel
   cases gk with
   | zero => exact absurd HA.out (by simp [fast_shaped.l0])
   | succ k1 =>
    have H := HA.out
    clear HA
    simp only [fast_shaped.l0] at H
    by_cases c7 : x18_1 < (l1.length : Int)
    ·rw [if_pos c7] at H
     have c7b0 : decide (x18_1 < (l1.length : Int)) = true := decide_eq_true c7
     clear c7
     by_cases c8 : 0 ≤ x18_1
     ·rw [if_pos c8] at H
      have c8b0 : decide (0 ≤ x18_1) = true := decide_eq_true c8
      clear c8
      by_cases c9 : x18_1 < (l1.length : Int)
      ·rw [if_pos c9] at H
       have c9b0 : decide (x18_1 < (l1.length : Int)) = true := decide_eq_true c9
       clear c9
       replace H := Option.bind_eq_some_iff.mp H
       obtain ⟨⟨t474, t475⟩, A100, H⟩ := H
       replace H : (if t475 = true then (if 0 < (l1.length : Int) then (if ((rd_L1 l1 x18_1).length : Int) = ((rd_L1 l1 0).length : Int) then (fast_shaped.l0 k1 l1 l1 (l1.length : Int) (wrap64 (x18_1 + 1))) else (some 3)) else (none)) else (some 3)) = some r := H
       have A10 := Aside0.mk A100
       clear A100
       by_cases c11 : t475 = true
       ·subst c11
        have H1 : (if 0 < (l1.length : Int) then (if ((rd_L1 l1 x18_1).length : Int) = ((rd_L1 l1 0).length : Int) then (fast_shaped.l0 k1 l1 l1 (l1.length : Int) (wrap64 (x18_1 + 1))) else (some 3)) else (none)) = some r := by rw [if_pos rfl] at H; exact H
        clear H
        have H := H1
        clear H1
        by_cases c12 : 0 < (l1.length : Int)
        ·rw [if_pos c12] at H
         have c12b0 : decide (0 < (l1.length : Int)) = true := decide_eq_true c12
         have c12b1 : decide (0 < l1.length) = true := decide_eq_true (by omega)
         clear c12
         have HC13 := Aside0.mk H
         clear H
         have p473 : 0 ≤ (x18_1 : Int) := of_decide_eq_true (by first | (with_reducible assumption) | assumption)
         have q473 : x18_1 < (l1.length : Int) := of_decide_eq_true (by first | (with_reducible assumption) | assumption)
         obtain ⟨ad473, A473_0, c473_0, e473, hx473_0, hl473_0, hi473_0⟩ := at_L1 HR1.out x18_1 p473 q473
         cases e473
         replace hx473_0 := (HB.out.cell (World.block_lt_of_cell? w _ hx473_0)).trans hx473_0
         have HR473_0 := Aside0.mk hi473_0
         have HC473_0 := Aside0.mk hl473_0
         clear hi473_0 hl473_0
         replace p473 := eq_true p473
         replace q473 := eq_true q473
         go_upto_if 38 with (first | ((with_reducible refine gate_callee (f := 38) rfl ?_); refine goesM_ (some 25) Try.func38 #[.int .i64 ((rd_L1 l1 x18_1).length : Int)] ?_; (with_reducible refine (fast_log.calls ((rd_L1 l1 x18_1).length : Int) t474 true _ A10.out).mono ?_); rintro e w' ⟨rfl, ⟨nd, rfl⟩⟩; refine ⟨_, rfl, ?_⟩; have p476 : 0 ≤ (0 : Int) := (by omega); have q476 : 0 < (l1.length : Int) := of_decide_eq_true (by first | (with_reducible assumption) | assumption); obtain ⟨ad476, A476_0, c476_0, e476, hx476_0, hl476_0, hi476_0⟩ := at_L1 HR1.out 0 p476 q476; obtain rfl : ad473 = ad476 := (by injection e476); have qi476 : (0 < l1.length) = True := eq_true (by omega); (try rw [show ((0 : Int)).toNat = 0 from rfl] at hx476_0); (try rw [Addr.add_zero'] at hx476_0); replace hx476_0 := (HB.out.cell (World.block_lt_of_cell? w _ hx476_0)).trans hx476_0; have HR476_0 := Aside0.mk hi476_0; have HC476_0 := Aside0.mk hl476_0; clear hi476_0 hl476_0; replace p476 := eq_true p476; replace q476 := eq_true q476))
         (try simp only [Act.put, List.setIfInBounds_toArray, List.set_cons_zero, List.set_cons_succ])
         have H := HC13.out
         clear HC13
         by_cases c14 : ((rd_L1 l1 x18_1).length : Int) = ((rd_L1 l1 0).length : Int)
         ·rw [if_pos c14] at H
          have c14b0 : (((rd_L1 l1 x18_1).length : Int) == ((rd_L1 l1 0).length : Int)) = true := beq_iff_eq.mpr c14
          have c14b1 : (((rd_L1 l1 x18_1).length : Int) != ((rd_L1 l1 0).length : Int)) = false := bne_eq_false_iff_eq.mpr c14
          have c14b2 : ((rd_L1 l1 x18_1).length == (rd_L1 l1 0).length) = true := by first | simpa using c14 | (simp at c14 ⊢; omega)
          clear c14
          (first | rw [c14b0] | rw [c14b1] | rw [c14b2] | (simp only [i64_w, i32_w]; first | rw [c14b0] | rw [c14b1] | rw [c14b2]) | skip)
          have H' := Aside0.mk H
          clear H
          go_wp2
          go_roundg k1
          case measure => have := HK1.out; omega
          case rel => exact ⟨(wrap64 (x18_1 + 1)), (fs_), H', ⟨by have := HK1.out; omega⟩, ⟨by repeat (first | (with_reducible first | exact HB.out | apply below_alloc | apply pw_below_drewN | apply below_drew1) | exact HB.out)⟩⟩
         ·rw [if_neg c14] at H
          have c14b0 : (((rd_L1 l1 x18_1).length : Int) == ((rd_L1 l1 0).length : Int)) = false := beq_eq_false_iff_ne.mpr c14
          have c14b1 : (((rd_L1 l1 x18_1).length : Int) != ((rd_L1 l1 0).length : Int)) = true := bne_iff_ne.mpr c14
          have c14b2 : ((rd_L1 l1 x18_1).length == (rd_L1 l1 0).length) = false := by first | simpa using c14 | (simp at c14 ⊢; omega)
          (first | rw [c14b0] | rw [c14b1] | rw [c14b2] | (simp only [i64_w, i32_w]; first | rw [c14b0] | rw [c14b1] | rw [c14b2]) | skip)
          obtain rfl := Option.some.inj H
          go_wp2
          go_ret
          exact ⟨fr_, hb_⟩
        ·rw [if_neg c12] at H
         exact absurd H (by simp)
       ·replace c11 := Bool.eq_false_iff.mpr c11
        subst c11
        have H1 : (some 3) = some r := by rw [if_neg (show ¬ (false = true) by decide)] at H; exact H
        clear H
        have H := H1
        clear H1
        obtain rfl := Option.some.inj H
        have p473 : 0 ≤ (x18_1 : Int) := of_decide_eq_true (by first | (with_reducible assumption) | assumption)
        have q473 : x18_1 < (l1.length : Int) := of_decide_eq_true (by first | (with_reducible assumption) | assumption)
        obtain ⟨ad473, A473_0, c473_0, e473, hx473_0, hl473_0, hi473_0⟩ := at_L1 HR1.out x18_1 p473 q473
        cases e473
        replace hx473_0 := (HB.out.cell (World.block_lt_of_cell? w _ hx473_0)).trans hx473_0
        have HR473_0 := Aside0.mk hi473_0
        have HC473_0 := Aside0.mk hl473_0
        clear hi473_0 hl473_0
        replace p473 := eq_true p473
        replace q473 := eq_true q473
        go_wp2_with (first | ((with_reducible refine gate_callee (f := 38) rfl ?_); refine goesM_ (some 25) Try.func38 #[.int .i64 ((rd_L1 l1 x18_1).length : Int)] ?_; (with_reducible refine (fast_log.calls ((rd_L1 l1 x18_1).length : Int) t474 false _ A10.out).mono ?_); rintro e w' ⟨rfl, ⟨nd, rfl⟩⟩; refine ⟨_, rfl, ?_⟩))
        go_ret
        exact ⟨fr_, hb_⟩
      ·rw [if_neg c9] at H
       exact absurd H (by simp)
     ·rw [if_neg c8] at H
      exact absurd H (by simp)
    ·rw [if_neg c7] at H
     have c7b0 : decide (x18_1 < (l1.length : Int)) = false := decide_eq_false c7
     clear c7
     obtain rfl := Option.some.inj H
     go_wp2
     go_ret
     exact ⟨fr_, hb_⟩
 ·rw [if_neg c6] at H
  have c6b0 : (t472 == 0) = false := beq_eq_false_iff_ne.mpr c6
  have c6b1 : (t472 != 0) = true := bne_iff_ne.mpr c6
  (first | rw [c6b0] | rw [c6b1] | (simp only [i64_w, i32_w]; first | rw [c6b0] | rw [c6b1]) | skip)
  obtain rfl := Option.some.inj H
  go_wp2
  go_ret
  exact ⟨fr_, hb_⟩
/-! ### fast_Round: function 14 -/
def fast_Round.f (k : Nat) (a0 : Int) (l1 : List Int) (l2 : List Int) : Option (List Int × Int) := (fast_shaped.f k a0 (([l1, l2] : List (List Int)))).bind fun t480 => (if t480 = 0 then ((fast_reckoner_round.f k a0 l1 l2).bind fun t481 => (some (t481, 0))) else (some (([] : List Int), t480)))
theorem fast_Round.mono : ∀ a0 a1 a2 k, LeO (fast_Round.f k a0 a1 a2) (fast_Round.f (k + 1) a0 a1 a2) := by
 intro a0 a1 a2 k
 unfold fast_Round.f
 repeat' first
   | (with_reducible exact fast_reckoner_round.mono _ _ _ _)
   | (with_reducible exact fast_shaped.mono _ _ _)
   | (with_reducible exact LeO.refl _)
   | (with_reducible exact LeO.none _)
   | (with_reducible refine LeO.ite ?_ ?_)
   | (with_reducible refine LeO.bind ?_ (fun _ => ?_))
   | exact fast_reckoner_round.mono _ _ _ _
   | exact fast_shaped.mono _ _ _
   | exact LeO.none _
   | refine LeO.ite ?_ ?_
   | refine LeO.bind ?_ (fun _ => ?_)
set_option maxHeartbeats 8000000 in
set_option maxRecDepth 100000 in
theorem fast_Round.calls (k : Nat) (a0 : Int) (P1_ : Nat → Prop) (A1 : Option Addr) (c1 : Nat) (l1 : List Int) (P2_ : Nat → Prop) (A2 : Option Addr) (c2 : Nat) (l2 : List Int) (r1 : List Int) (r2 : Int) (w : World) (hs1 : Kd.V (Kd.int .u64) 33 w w.heap.size (fun k_ => P1_ k_) (.slice A1 l1.length c1) l1) (hs2 : Kd.V (Kd.int .u64) 33 w w.heap.size (fun k_ => P2_ k_) (.slice A2 l2.length c2) l2) (h : fast_Round.f k a0 l1 l2 = some (r1, r2)) :
  Calls Try.prog 14 #[.int .u8 a0, .slice A1 l1.length c1, .slice A2 l2.length c2] w fun e w' => ∃ v0_ : Value, e = .returned (.tuple #[v0_, .int .i64 r2]) ∧ Kd.R (Kd.int .u64) 33 w' w.heap.size (fun k_ => (w.heap.size ≤ k_)) v0_ r1 ∧ Below w.heap.size w w' := by
 have hu47 := Try.underlying47
 have HO1 := A_ (show Kd.V (Kd.int .u64) 33 w w.heap.size (fun k_ => ((P1_ k_ ∨ P2_ k_) ∨ w.heap.size ≤ k_)) (.slice A1 l1.length c1) l1 from Kd.V_mono hs1 (fun k_ hk => .inl (.inl hk)))
 have HO2 := A_ (show Kd.V (Kd.int .u64) 33 w w.heap.size (fun k_ => ((P1_ k_ ∨ P2_ k_) ∨ w.heap.size ≤ k_)) (.slice A2 l2.length c2) l2 from Kd.V_mono hs2 (fun k_ hk => .inl (.inr hk)))
 have HB := A_ (Below.refl w.heap.size w)
 have H : ((fast_shaped.f k a0 (([l1, l2] : List (List Int)))).bind fun t480 => (if t480 = 0 then ((fast_reckoner_round.f k a0 l1 l2).bind fun t481 => (some (t481, 0))) else (some (([] : List Int), t480)))) = some (r1, r2) := h
 clear h
 obtain ⟨y477, hy477⟩ : ∃ y_ : List (List Int), y_ = (([l1, l2] : List (List Int))) := ⟨_, rfl⟩
 replace H : ((fast_shaped.f k a0 y477).bind fun t480 => (if t480 = 0 then ((fast_reckoner_round.f k a0 l1 l2).bind fun t481 => (some (t481, 0))) else (some (([] : List Int), t480)))) = some (r1, r2) := by first | (rw [hy477]; with_reducible exact H) | (have H2_ := (Option.bind_some _ _).symm.trans H; rw [hy477]; with_reducible exact H2_) | (have H2_ := (Option.bind_some _ _).symm.trans H; with_reducible exact H2_) | with_reducible exact H | (rw [hy477]; exact H) | exact H
 have Ny477 := Aside0.mk hy477
 clear hy477
 replace H := Option.bind_eq_some_iff.mp H
 obtain ⟨t480, A40, H⟩ := H
 replace H : (if t480 = 0 then ((fast_reckoner_round.f k a0 l1 l2).bind fun t481 => (some (t481, 0))) else (some (([] : List Int), t480))) = some (r1, r2) := H
 have A4 := Aside0.mk A40
 clear A40
 have HC5 := Aside0.mk H
 clear H
 go_enter Try.func14, Try.ntmps14
 go_upto_if 15 with (first | ((with_reducible refine gate_dst (N := 12) rfl ?_); refine Kd.N_lit (Kd.slice 33 (Kd.int .u64)) _ 22 ?hg (N' := 12) ?hd (xs := ([l1, l2] : List (List Int))) (inner := [.slice A1 l1.length c1, .slice A2 l2.length c2]) (ok := (fun k_ => ((P1_ k_ ∨ P2_ k_) ∨ w.heap.size ≤ k_))) (okp := (fun k_ => ((P1_ k_ ∨ P2_ k_) ∨ w.heap.size ≤ k_))) ?hr ?hp (fun _ hk => hk) ((show ∀ k_, w.heap.size ≤ k_ → (fun k_ => ((P1_ k_ ∨ P2_ k_) ∨ w.heap.size ≤ k_)) k_ from fun k_ hk => (.inr (Nat.le_trans (below_size hb_) hk))) _ (Nat.le_refl _)) (Below.refl _ _) (Nat.le_refl _) (by simp) ?_; (case hd => rfl); (case hg => rfl); (case hr => first | (go_simp; done) | (go_simp; rfl)); (case hp => exact (Reps.one (show Kd.FK (Kd.slice 33 (Kd.int .u64)) _ _ l1 [.slice A1 l1.length c1] from (Kd.FK_slice_mk (Kd.V_reads' (Kd.V_mono (ok' := (fun k_ => ((P1_ k_ ∨ P2_ k_) ∨ w.heap.size ≤ k_))) (HO1.out) (fun k_ hk => hk))).2.1 (Kd.V_F (Kd.V_mono (ok' := (fun k_ => ((P1_ k_ ∨ P2_ k_) ∨ w.heap.size ≤ k_))) (HO1.out) (fun k_ hk => hk))))) (Reps.one (show Kd.FK (Kd.slice 33 (Kd.int .u64)) _ _ l2 [.slice A2 l2.length c2] from (Kd.FK_slice_mk (Kd.V_reads' (Kd.V_mono (ok' := (fun k_ => ((P1_ k_ ∨ P2_ k_) ∨ w.heap.size ≤ k_))) (HO2.out) (fun k_ hk => hk))).2.1 (Kd.V_F (Kd.V_mono (ok' := (fun k_ => ((P1_ k_ ∨ P2_ k_) ∨ w.heap.size ≤ k_))) (HO2.out) (fun k_ hk => hk))))) (Reps.none _ _)))); intro v478 w6 ho7 hb hg_ hnew_; clear hg_ hnew_; (first | rw [← Ny477.out] at ho7 | (simp only [Int.reduceToNat] at ho7; rw [← Ny477.out] at ho7)); have n0_ := A_ (Kd.V_elder' (nV_ HO1) (Kd.N_base ho7) hb); have n1_ := A_ (Kd.V_elder' (nV_ HO2) (Kd.N_base ho7) hb); have n2_ := A_ (Kd.N_lower ho7 (below_size hb_)); have n3_ := A_ (below_step hb_ hb); clear HO1 HO2 HB; have HO1 := n0_; have HO2 := n1_; have HO479 := n2_; have HB := n3_; clear n0_ n1_ n2_ n3_; clear hb ho7; obtain ⟨Ao8, co8, eo8⟩ := Kd.N_slice HO479.out; subst eo8) | ((with_reducible refine gate_callee (f := 24) rfl ?_); refine goesM_ (some 13) Try.func24 #[.int .u8 a0, .slice Ao8 y477.length co8] ?_; (with_reducible refine (fast_shaped.calls k a0 _ _ y477 t480 _ ?side1 ?side2 A4.out).mono ?_); (case side1 => repeat (first | exact (Kd.N_reads' HO479.out).2.2 | (with_reducible refine Kd.C_alloc ?_ _) | (with_reducible refine Kd.C_drewN ?_ _) | (with_reducible refine Kd.C_drew ?_))); (case side2 => exact (Kd.N_reads' HO479.out).2.1); rintro e w9 ⟨rfl, hb⟩; refine ⟨_, rfl, ?_⟩; have n0_ := A_ (Kd.V_below (nV_ HO1) hb); have n1_ := A_ (Kd.V_below (nV_ HO2) hb); have n2_ := A_ (Kd.N_below (nN_ HO479) hb); have n3_ := A_ (below_step hb_ hb); clear HO1 HO2 HO479 HB; have HO1 := n0_; have HO2 := n1_; have HO479 := n2_; have HB := n3_; clear n0_ n1_ n2_ n3_; (try clear hb)))
 (try simp only [Act.put, List.setIfInBounds_toArray, List.set_cons_zero, List.set_cons_succ])
 have H := HC5.out
 clear HC5
 by_cases c10 : t480 = 0
 ·rw [if_pos c10] at H
  have c10b0 : (t480 == 0) = true := beq_iff_eq.mpr c10
  have c10b1 : (t480 != 0) = false := bne_eq_false_iff_eq.mpr c10
  clear c10
  (first | rw [c10b0] | rw [c10b1] | (simp only [i64_w, i32_w]; first | rw [c10b0] | rw [c10b1]) | skip)
  replace H := Option.bind_eq_some_iff.mp H
  obtain ⟨t481, A110, H⟩ := H
  replace H : (some (t481, 0)) = some (r1, r2) := H
  have A11 := Aside0.mk A110
  clear A110
  simp only [Option.some.injEq, Prod.mk.injEq] at H
  obtain ⟨rfl, rfl⟩ := H
  go_wp2_with (first | ((with_reducible refine gate_callee (f := 32) rfl ?_); refine goesM_ (some 21) Try.func32 #[.agg #[.int .u8 a0], .slice A1 l1.length c1, .slice A2 l2.length c2] ?_; (with_reducible refine (fast_reckoner_round.calls k a0 _ _ l1 _ _ l2 t481 _ ?side1 ?side2 ?side3 ?side4 A11.out).mono ?_); (case side1 => repeat (first | exact (Kd.V_reads' HO1.out).2.2 | (with_reducible refine Kd.C_alloc ?_ _) | (with_reducible refine Kd.C_drewN ?_ _) | (with_reducible refine Kd.C_drew ?_))); (case side2 => exact (Kd.V_reads' HO1.out).2.1); (case side3 => repeat (first | exact (Kd.V_reads' HO2.out).2.2 | (with_reducible refine Kd.C_alloc ?_ _) | (with_reducible refine Kd.C_drewN ?_ _) | (with_reducible refine Kd.C_drew ?_))); (case side4 => exact (Kd.V_reads' HO2.out).2.1); rintro e w12 ⟨v482, rfl, ho0, hb⟩; refine ⟨_, rfl, ?_⟩; have n0_ := A_ (Kd.V_elder' (nV_ HO1) (Kd.R_base ho0) hb); have n1_ := A_ (Kd.V_elder' (nV_ HO2) (Kd.R_base ho0) hb); have n2_ := A_ (Kd.N_elder' (nN_ HO479) (Kd.R_base ho0) hb); have n3_ := A_ (Kd.R_lower (Kd.R_newM (M := fun k_ => (w.heap.size ≤ k_)) ho0 (below_size hb_) (fun k_ h_ => h_)) (below_size hb_)); have n4_ := A_ (below_step hb_ hb); clear HO1 HO2 HO479 HB; have HO1 := n0_; have HO2 := n1_; have HO479 := n2_; have HO483 := n3_; have HB := n4_; clear n0_ n1_ n2_ n3_ n4_; (try clear hb); (try clear ho0)))
  go_ret2
  exact ⟨_, fr_, by (with_reducible repeat (first | apply Kd.R_alloc | apply Kd.R_drewN | apply Kd.R_drew)); exact Kd.R_mono HO483.out (fun _ hk => hk.1), hb_⟩
 ·rw [if_neg c10] at H
  have c10b0 : (t480 == 0) = false := beq_eq_false_iff_ne.mpr c10
  have c10b1 : (t480 != 0) = true := bne_iff_ne.mpr c10
  (first | rw [c10b0] | rw [c10b1] | (simp only [i64_w, i32_w]; first | rw [c10b0] | rw [c10b1]) | skip)
  simp only [Option.some.injEq, Prod.mk.injEq] at H
  obtain ⟨rfl, rfl⟩ := H
  go_wp2
  go_ret2
  exact ⟨_, fr_, by first | exact Kd.R_nil _ _ _ _ _ | exact Kd.N_nil _ _ _ _ _ | exact Kd.V_nil _ _ _ _ _ | exact Kd.Q_nil _ _ _ _ _ | exact Kd.S_nil _ _ _ _ _, hb_⟩
/-! ### fast_Transform: function 10 -/
def fast_Transform.f (k : Nat) (a0 : Int) (l1 : List Int) : Option (List Int × Int) := (fast_shaped.f k a0 (([l1] : List (List Int)))).bind fun t487 => (if t487 = 0 then ((fast_reckoner_there.f k a0 l1).bind fun t488 => (some (t488, 0))) else (some (([] : List Int), t487)))
theorem fast_Transform.mono : ∀ a0 a1 k, LeO (fast_Transform.f k a0 a1) (fast_Transform.f (k + 1) a0 a1) := by
 intro a0 a1 k
 unfold fast_Transform.f
 repeat' first
   | (with_reducible exact fast_reckoner_there.mono _ _ _)
   | (with_reducible exact fast_shaped.mono _ _ _)
   | (with_reducible exact LeO.refl _)
   | (with_reducible exact LeO.none _)
   | (with_reducible refine LeO.ite ?_ ?_)
   | (with_reducible refine LeO.bind ?_ (fun _ => ?_))
   | exact fast_reckoner_there.mono _ _ _
   | exact fast_shaped.mono _ _ _
   | exact LeO.none _
   | refine LeO.ite ?_ ?_
   | refine LeO.bind ?_ (fun _ => ?_)
set_option maxHeartbeats 8000000 in
set_option maxRecDepth 100000 in
theorem fast_Transform.calls (k : Nat) (a0 : Int) (P1_ : Nat → Prop) (A1 : Option Addr) (c1 : Nat) (l1 : List Int) (r1 : List Int) (r2 : Int) (w : World) (hs1 : Kd.V (Kd.int .u64) 33 w w.heap.size (fun k_ => P1_ k_) (.slice A1 l1.length c1) l1) (h : fast_Transform.f k a0 l1 = some (r1, r2)) :
  Calls Try.prog 10 #[.int .u8 a0, .slice A1 l1.length c1] w fun e w' => ∃ v0_ : Value, e = .returned (.tuple #[v0_, .int .i64 r2]) ∧ Kd.R (Kd.int .u64) 33 w' w.heap.size (fun k_ => (w.heap.size ≤ k_)) v0_ r1 ∧ Below w.heap.size w w' := by
 have hu47 := Try.underlying47
 have HO1 := A_ (show Kd.V (Kd.int .u64) 33 w w.heap.size (fun k_ => (P1_ k_ ∨ w.heap.size ≤ k_)) (.slice A1 l1.length c1) l1 from Kd.V_mono hs1 (fun k_ hk => .inl hk))
 have HB := A_ (Below.refl w.heap.size w)
 have H : ((fast_shaped.f k a0 (([l1] : List (List Int)))).bind fun t487 => (if t487 = 0 then ((fast_reckoner_there.f k a0 l1).bind fun t488 => (some (t488, 0))) else (some (([] : List Int), t487)))) = some (r1, r2) := h
 clear h
 obtain ⟨y484, hy484⟩ : ∃ y_ : List (List Int), y_ = (([l1] : List (List Int))) := ⟨_, rfl⟩
 replace H : ((fast_shaped.f k a0 y484).bind fun t487 => (if t487 = 0 then ((fast_reckoner_there.f k a0 l1).bind fun t488 => (some (t488, 0))) else (some (([] : List Int), t487)))) = some (r1, r2) := by first | (rw [hy484]; with_reducible exact H) | (have H2_ := (Option.bind_some _ _).symm.trans H; rw [hy484]; with_reducible exact H2_) | (have H2_ := (Option.bind_some _ _).symm.trans H; with_reducible exact H2_) | with_reducible exact H | (rw [hy484]; exact H) | exact H
 have Ny484 := Aside0.mk hy484
 clear hy484
 replace H := Option.bind_eq_some_iff.mp H
 obtain ⟨t487, A30, H⟩ := H
 replace H : (if t487 = 0 then ((fast_reckoner_there.f k a0 l1).bind fun t488 => (some (t488, 0))) else (some (([] : List Int), t487))) = some (r1, r2) := H
 have A3 := Aside0.mk A30
 clear A30
 have HC4 := Aside0.mk H
 clear H
 go_enter Try.func10, Try.ntmps10
 go_upto_if 12 with (first | ((with_reducible refine gate_dst (N := 9) rfl ?_); refine Kd.N_lit (Kd.slice 33 (Kd.int .u64)) _ 22 ?hg (N' := 9) ?hd (xs := ([l1] : List (List Int))) (inner := [.slice A1 l1.length c1]) (ok := (fun k_ => (P1_ k_ ∨ w.heap.size ≤ k_))) (okp := (fun k_ => (P1_ k_ ∨ w.heap.size ≤ k_))) ?hr ?hp (fun _ hk => hk) ((show ∀ k_, w.heap.size ≤ k_ → (fun k_ => (P1_ k_ ∨ w.heap.size ≤ k_)) k_ from fun k_ hk => (.inr (Nat.le_trans (below_size hb_) hk))) _ (Nat.le_refl _)) (Below.refl _ _) (Nat.le_refl _) (by simp) ?_; (case hd => rfl); (case hg => rfl); (case hr => first | (go_simp; done) | (go_simp; rfl)); (case hp => exact (Reps.one (show Kd.FK (Kd.slice 33 (Kd.int .u64)) _ _ l1 [.slice A1 l1.length c1] from (Kd.FK_slice_mk (Kd.V_reads' (Kd.V_mono (ok' := (fun k_ => (P1_ k_ ∨ w.heap.size ≤ k_))) (HO1.out) (fun k_ hk => hk))).2.1 (Kd.V_F (Kd.V_mono (ok' := (fun k_ => (P1_ k_ ∨ w.heap.size ≤ k_))) (HO1.out) (fun k_ hk => hk))))) (Reps.none _ _))); intro v485 w5 ho6 hb hg_ hnew_; clear hg_ hnew_; (first | rw [← Ny484.out] at ho6 | (simp only [Int.reduceToNat] at ho6; rw [← Ny484.out] at ho6)); have n0_ := A_ (Kd.V_elder' (nV_ HO1) (Kd.N_base ho6) hb); have n1_ := A_ (Kd.N_lower ho6 (below_size hb_)); have n2_ := A_ (below_step hb_ hb); clear HO1 HB; have HO1 := n0_; have HO486 := n1_; have HB := n2_; clear n0_ n1_ n2_; clear hb ho6; obtain ⟨Ao7, co7, eo7⟩ := Kd.N_slice HO486.out; subst eo7) | ((with_reducible refine gate_callee (f := 24) rfl ?_); refine goesM_ (some 10) Try.func24 #[.int .u8 a0, .slice Ao7 y484.length co7] ?_; (with_reducible refine (fast_shaped.calls k a0 _ _ y484 t487 _ ?side1 ?side2 A3.out).mono ?_); (case side1 => repeat (first | exact (Kd.N_reads' HO486.out).2.2 | (with_reducible refine Kd.C_alloc ?_ _) | (with_reducible refine Kd.C_drewN ?_ _) | (with_reducible refine Kd.C_drew ?_))); (case side2 => exact (Kd.N_reads' HO486.out).2.1); rintro e w8 ⟨rfl, hb⟩; refine ⟨_, rfl, ?_⟩; have n0_ := A_ (Kd.V_below (nV_ HO1) hb); have n1_ := A_ (Kd.N_below (nN_ HO486) hb); have n2_ := A_ (below_step hb_ hb); clear HO1 HO486 HB; have HO1 := n0_; have HO486 := n1_; have HB := n2_; clear n0_ n1_ n2_; (try clear hb)))
 (try simp only [Act.put, List.setIfInBounds_toArray, List.set_cons_zero, List.set_cons_succ])
 have H := HC4.out
 clear HC4
 by_cases c9 : t487 = 0
 ·rw [if_pos c9] at H
  have c9b0 : (t487 == 0) = true := beq_iff_eq.mpr c9
  have c9b1 : (t487 != 0) = false := bne_eq_false_iff_eq.mpr c9
  clear c9
  (first | rw [c9b0] | rw [c9b1] | (simp only [i64_w, i32_w]; first | rw [c9b0] | rw [c9b1]) | skip)
  replace H := Option.bind_eq_some_iff.mp H
  obtain ⟨t488, A100, H⟩ := H
  replace H : (some (t488, 0)) = some (r1, r2) := H
  have A10 := Aside0.mk A100
  clear A100
  simp only [Option.some.injEq, Prod.mk.injEq] at H
  obtain ⟨rfl, rfl⟩ := H
  go_wp2_with (first | ((with_reducible refine gate_callee (f := 25) rfl ?_); refine goesM_ (some 17) Try.func25 #[.agg #[.int .u8 a0], .slice A1 l1.length c1] ?_; (with_reducible refine (fast_reckoner_there.calls k a0 _ _ l1 t488 _ ?side1 ?side2 A10.out).mono ?_); (case side1 => repeat (first | exact (Kd.V_reads' HO1.out).2.2 | (with_reducible refine Kd.C_alloc ?_ _) | (with_reducible refine Kd.C_drewN ?_ _) | (with_reducible refine Kd.C_drew ?_))); (case side2 => exact (Kd.V_reads' HO1.out).2.1); rintro e w11 ⟨v489, rfl, ho0, hb⟩; refine ⟨_, rfl, ?_⟩; have n0_ := A_ (Kd.V_elder' (nV_ HO1) (Kd.R_base ho0) hb); have n1_ := A_ (Kd.N_elder' (nN_ HO486) (Kd.R_base ho0) hb); have n2_ := A_ (Kd.R_lower (Kd.R_newM (M := fun k_ => (w.heap.size ≤ k_)) ho0 (below_size hb_) (fun k_ h_ => h_)) (below_size hb_)); have n3_ := A_ (below_step hb_ hb); clear HO1 HO486 HB; have HO1 := n0_; have HO486 := n1_; have HO490 := n2_; have HB := n3_; clear n0_ n1_ n2_ n3_; (try clear hb); (try clear ho0)))
  go_ret2
  exact ⟨_, fr_, by (with_reducible repeat (first | apply Kd.R_alloc | apply Kd.R_drewN | apply Kd.R_drew)); exact Kd.R_mono HO490.out (fun _ hk => hk.1), hb_⟩
 ·rw [if_neg c9] at H
  have c9b0 : (t487 == 0) = false := beq_eq_false_iff_ne.mpr c9
  have c9b1 : (t487 != 0) = true := bne_iff_ne.mpr c9
  (first | rw [c9b0] | rw [c9b1] | (simp only [i64_w, i32_w]; first | rw [c9b0] | rw [c9b1]) | skip)
  simp only [Option.some.injEq, Prod.mk.injEq] at H
  obtain ⟨rfl, rfl⟩ := H
  go_wp2
  go_ret2
  exact ⟨_, fr_, by first | exact Kd.R_nil _ _ _ _ _ | exact Kd.N_nil _ _ _ _ _ | exact Kd.V_nil _ _ _ _ _ | exact Kd.Q_nil _ _ _ _ _ | exact Kd.S_nil _ _ _ _ _, hb_⟩
end Go.Proofs.Ytaegmhniepfdaaa.PFastRounds
