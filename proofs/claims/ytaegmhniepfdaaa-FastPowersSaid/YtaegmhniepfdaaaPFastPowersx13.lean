/- The Go functions as Lean functions, each with the proof that its call comes to just that; written by a program of this session, by the words of the print. -/
import Derived.Test.YtaegmhniepfdaaaPFastPowersx0
import Derived.Test.YtaegmhniepfdaaaPFastPowersx7
import Derived.Test.YtaegmhniepfdaaaPFastPowersx8
import Derived.Test.YtaegmhniepfdaaaPFastPowersx10
import Derived.Test.YtaegmhniepfdaaaPFastPowersx11
import Derived.Test.YtaegmhniepfdaaaPFastPowersx12
namespace Go.Proofs.Ytaegmhniepfdaaa.PFastPowers
open Go.RowKit Go.Proofs.YtaegmhniepfdaaaW.PrintWords Go.Proofs.YtaegmhniepfdaaaW.PrintLast Go.Proofs.YtaegmhniepfdaaaW.PrintMore
attribute [local go_sem] max2_int min2_int max_two min_two max_three min_three max_four min_four   -- for this text's walks alone
set_option linter.unusedVariables false
set_option linter.unusedSimpArgs false
/-! ### fast_Mul: function 12 -/
def fast_Mul.l0 : Nat → List Int → List Int → Int → Int → Int → Option (List Int × Int)
 | 0, _, _, _, _, _ => none
 | k + 1, x8, x9, x12, x436000, x447000 => if x447000 < x12 then (fast_Mul.l0 k x8 x9 x12 x436000 (wrap64 (x447000 * 2))) else ((fast_Mul_1.f x8 x447000).bind fun t447 => ((fast_Mul_1.f x9 x447000).bind fun t450 => ((fast_reckoner_round.f k x436000 t447 t450).bind fun t453 => ((poly_Trim.f k t453).bind fun t456 => (some (t456, 0))))))
def fast_Mul.f (k : Nat) (a0 : Int) (l1 : List Int) (l2 : List Int) : Option (List Int × Int) := (fast_checked.f k a0 l1 l2).bind fun bt428 => (if bt428.2.2 = 0 then (if (mn (bt428.1.length : Int) (bt428.2.1.length : Int)) ≤ 16 then ((poly_Mul.f k a0 bt428.1 bt428.2.1).bind fun bt436 => (some (bt436.1, bt436.2))) else (if (wrap64 ((wrap64 ((bt428.1.length : Int) + (bt428.2.1.length : Int))) - 1)) ≤ 64 then ((fast_reckoner_halves.f k a0 bt428.1 bt428.2.1).bind fun t440 => ((poly_Trim.f k t440).bind fun t443 => (some (t443, 0)))) else (fast_Mul.l0 k bt428.1 bt428.2.1 (wrap64 ((wrap64 ((bt428.1.length : Int) + (bt428.2.1.length : Int))) - 1)) a0 1))) else (some (([] : List Int), bt428.2.2)))
theorem fast_Mul.mono_l : ∀ k, (∀ y0 y1 y2 y3 y4, LeO (fast_Mul.l0 k y0 y1 y2 y3 y4) (fast_Mul.l0 (k + 1) y0 y1 y2 y3 y4))
 | 0 => fun _ _ _ _ _ r h => by simp [fast_Mul.l0] at h
 | k + 1 => by
  have ih0 := fast_Mul.mono_l k
  ·intro y0 y1 y2 y3 y4
   unfold fast_Mul.l0
   repeat' first
   | (with_reducible exact ih0 _ _ _ _ _)
   | (with_reducible exact fast_checked.mono _ _ _ _)
   | (with_reducible exact fast_reckoner_halves.mono _ _ _ _)
   | (with_reducible exact fast_reckoner_round.mono _ _ _ _)
   | (with_reducible exact poly_Mul.mono _ _ _ _)
   | (with_reducible exact poly_Trim.mono _ _)
   | (with_reducible exact LeO.refl _)
   | (with_reducible exact LeO.none _)
   | (with_reducible refine LeO.ite ?_ ?_)
   | (with_reducible refine LeO.bind ?_ (fun _ => ?_))
   | exact ih0 _ _ _ _ _
   | exact fast_checked.mono _ _ _ _
   | exact fast_reckoner_halves.mono _ _ _ _
   | exact fast_reckoner_round.mono _ _ _ _
   | exact poly_Mul.mono _ _ _ _
   | exact poly_Trim.mono _ _
   | exact LeO.none _
   | refine LeO.ite ?_ ?_
   | refine LeO.bind ?_ (fun _ => ?_)
theorem fast_Mul.mono : ∀ a0 a1 a2 k, LeO (fast_Mul.f k a0 a1 a2) (fast_Mul.f (k + 1) a0 a1 a2) := by
 intro a0 a1 a2 k
 have ih0 := fast_Mul.mono_l k
 unfold fast_Mul.f
 repeat' first
   | (with_reducible exact ih0 _ _ _ _ _)
   | (with_reducible exact fast_checked.mono _ _ _ _)
   | (with_reducible exact fast_reckoner_halves.mono _ _ _ _)
   | (with_reducible exact fast_reckoner_round.mono _ _ _ _)
   | (with_reducible exact poly_Mul.mono _ _ _ _)
   | (with_reducible exact poly_Trim.mono _ _)
   | (with_reducible exact LeO.refl _)
   | (with_reducible exact LeO.none _)
   | (with_reducible refine LeO.ite ?_ ?_)
   | (with_reducible refine LeO.bind ?_ (fun _ => ?_))
   | exact ih0 _ _ _ _ _
   | exact fast_checked.mono _ _ _ _
   | exact fast_reckoner_halves.mono _ _ _ _
   | exact fast_reckoner_round.mono _ _ _ _
   | exact poly_Mul.mono _ _ _ _
   | exact poly_Trim.mono _ _
   | exact LeO.none _
   | refine LeO.ite ?_ ?_
   | refine LeO.bind ?_ (fun _ => ?_)
def fast_Mul.T10 : Bool × List (List Nat × List Nat) := (true, [([], []), ([], []), ([], []), ([1, 2], [1, 2]), ([], []), ([], []), ([4, 5, 3], [4, 5]), ([0, 3, 6, 6], [0, 3, 6]), ([7, 7], [7]), ([8, 8, 0, 1, 2, 3, 4, 5, 6, 7, 8], [8]), ([9, 0, 1, 2, 3, 4, 5, 6, 7, 8, 9], [])])
def fast_Mul.B10 : List Nat := [0, 0, 0, 6, 0, 0, 62, 127, 255, 511, 1023]
theorem fast_Mul.tab10 : rtab .any (opsOf Try.f12 10) = fast_Mul.T10 := by kernel_rfl
theorem fast_Mul.bits10 : waitsOk fast_Mul.T10.2 fast_Mul.B10 = true := by kernel_rfl
set_option maxHeartbeats 8000000 in
set_option maxRecDepth 100000 in
theorem fast_Mul.calls (k : Nat) (a0 : Int) (A1 : Option Addr) (c1 : Nat) (l1 : List Int) (A2 : Option Addr) (c2 : Nat) (l2 : List Int) (r1 : List Int) (r2 : Int) (w : World) (hr1 : Kd.C (Kd.int .u64) w A1 l1.length l1) (hc1 : l1.length ≤ c1) (hr2 : Kd.C (Kd.int .u64) w A2 l2.length l2) (hc2 : l2.length ≤ c2) (h : fast_Mul.f k a0 l1 l2 = some (r1, r2)) :
  Calls Try.prog 12 #[.int .u8 a0, .slice A1 l1.length c1, .slice A2 l2.length c2] w fun e w' => ∃ v0_ : Value, e = .returned (.tuple #[v0_, .int .i64 r2]) ∧ Kd.R (Kd.int .u64) 33 w' w.heap.size (fun _ => True) v0_ r1 ∧ Below w.heap.size w w' := by
 have hu47 := Try.underlying47
 have HR1 := Aside0.mk hr1
 have HC1 := Aside0.mk hc1
 clear hr1 hc1
 have HR2 := Aside0.mk hr2
 have HC2 := Aside0.mk hc2
 clear hr2 hc2
 have HB := A_ (Below.refl w.heap.size w)
 have H : ((fast_checked.f k a0 l1 l2).bind fun bt428 => (if bt428.2.2 = 0 then (if (mn (bt428.1.length : Int) (bt428.2.1.length : Int)) ≤ 16 then ((poly_Mul.f k a0 bt428.1 bt428.2.1).bind fun bt436 => (some (bt436.1, bt436.2))) else (if (wrap64 ((wrap64 ((bt428.1.length : Int) + (bt428.2.1.length : Int))) - 1)) ≤ 64 then ((fast_reckoner_halves.f k a0 bt428.1 bt428.2.1).bind fun t440 => ((poly_Trim.f k t440).bind fun t443 => (some (t443, 0)))) else (fast_Mul.l0 k bt428.1 bt428.2.1 (wrap64 ((wrap64 ((bt428.1.length : Int) + (bt428.2.1.length : Int))) - 1)) a0 1))) else (some (([] : List Int), bt428.2.2)))) = some (r1, r2) := h
 clear h
 replace H := Option.bind_eq_some_iff.mp H
 obtain ⟨⟨t428, t431, t434⟩, A40, H⟩ := H
 (try dsimp only at H)
 have A4 := Aside0.mk A40
 clear A40
 by_cases c5 : t434 = 0
 ·rw [if_pos c5] at H
  have c5b0 : (t434 == 0) = true := beq_iff_eq.mpr c5
  have c5b1 : (t434 != 0) = false := bne_eq_false_iff_eq.mpr c5
  clear c5
  obtain ⟨ji6, hji6⟩ : ∃ j_ : Int, (mn (t428.length : Int) (t431.length : Int)) = j_ := ⟨_, rfl⟩
  replace H : (if (ji6) ≤ 16 then ((poly_Mul.f k a0 t428 t431).bind fun bt436 => (some (bt436.1, bt436.2))) else (if (wrap64 ((wrap64 ((t428.length : Int) + (t431.length : Int))) - 1)) ≤ 64 then ((fast_reckoner_halves.f k a0 t428 t431).bind fun t440 => ((poly_Trim.f k t440).bind fun t443 => (some (t443, 0)))) else (fast_Mul.l0 k t428 t431 (wrap64 ((wrap64 ((t428.length : Int) + (t431.length : Int))) - 1)) a0 1))) = some (r1, r2) := by first | (rw [hji6] at H; exact H) | (simp only [hji6] at H ⊢; exact H)
  (try rw [hji6] at A4)
  (try (have hji6l : 0 ≤ ji6 := by (rw [← hji6]; unfold mn; (repeat' split) <;> omega)))
  (try (have hji6m : 0 ≤ ji6 := by omega))
  have hji6N : (if t431.length < t428.length then (t431.length : Int) else (t428.length : Int)) = ji6 := by have h_ := hji6; unfold mn at h_; simp only [Int.ofNat_lt] at h_; exact h_
  have hji6_ : (if (t431.length : Int) < (t428.length : Int) then (t431.length : Int) else (t428.length : Int)) = ji6 := hji6
  by_cases c7 : (ji6) ≤ 16
  ·rw [if_pos c7] at H
   have c7b0 : decide ((ji6) ≤ 16) = true := decide_eq_true c7
   clear c7
   replace H := Option.bind_eq_some_iff.mp H
   obtain ⟨⟨t436, t439⟩, A80, H⟩ := H
   replace H : (some (t436, t439)) = some (r1, r2) := H
   have A8 := Aside0.mk A80
   clear A80
   simp only [Option.some.injEq, Prod.mk.injEq] at H
   obtain ⟨rfl, rfl⟩ := H
   go_enter Try.func12, Try.ntmps12
   go_wp2_with (first | ((with_reducible refine gate_callee (f := 27) rfl ?_); refine goesM_ (some 19) Try.func27 #[.int .u8 a0, .slice A1 l1.length c1, .slice A2 l2.length c2] ?_; (with_reducible refine (fast_checked.calls k a0 (fun k_ => k_ < w.heap.size) _ _ l1 (fun k_ => k_ < w.heap.size) _ _ l2 t428 t431 t434 _ ?side1 ?side2 A4.out).mono ?_); (case side1 => exact Kd.V_mk HC1.out (Kd.F_below (Kd.C_F (Kd.heap_int .u64) HR1.out) hb_)); (case side2 => exact Kd.V_mk HC2.out (Kd.F_below (Kd.C_F (Kd.heap_int .u64) HR2.out) hb_)); rintro e w9 ⟨v429, v432, rfl, ho0, ho1, hb⟩; refine ⟨_, rfl, ?_⟩; have n0_ := A_ (Kd.R_lower (Kd.R_mono (ok' := fun k_ => some k_ ≠ (v432 : Value).ownBlock) ho0 (fun _ hk_ => hk_.2)) (below_size hb_)); have n1_ := A_ (Kd.R_lower (Kd.R_mono (ok' := fun k_ => some k_ ≠ (v429 : Value).ownBlock) ho1 (fun _ hk_ => hk_.2)) (below_size hb_)); have n2_ := A_ (below_step hb_ hb); clear HB; have HO430 := n0_; have HO433 := n1_; have HB := n2_; clear n0_ n1_ n2_; (try clear hb); (try clear ho0); (try clear ho1)) | ((with_reducible refine gate_dst (N := 11) rfl ?_); refine box_event ?hg (N := 11) ?hd (cs := #[.int .u8 0]) (t := 47) ?hr ?_; (case hd => rfl); (case hg => rfl); (case hr => first | (go_simp; done) | (go_simp; rfl)); intro gb435 hg w10 hbox hb; have n0_ := A_ (Kd.R_below (nR_ HO430) hb); have n1_ := A_ (Kd.R_below (nR_ HO433) hb); have n2_ := A_ (below_step hb_ hb); have n3_ := A_ (hbox); have n4_ := A_ ((by rw [hg]; exact (below_size hb_) : w.heap.size ≤ gb435)); have n5_ := A_ ((by rw [hg]; exact (below_size hb_) : w.heap.size ≤ gb435)); clear HO430 HO433 HB; have HO430 := n0_; have HO433 := n1_; have HB := n2_; have BK435 := n3_; have GW435 := n4_; have GE435 := n5_; clear n0_ n1_ n2_ n3_ n4_ n5_; clear hb hbox hg; have hcz11_0 : w10.cell? ⟨gb435, 0, none⟩ = some (.int .u8 0) := (blk_cell BK435.out 0).trans rfl; have hfz11_0 := blk_frozen BK435.out 0) | ((with_reducible refine gate_store (t := 47) (p := 11) rfl ?_); (try (rw [drewN_self w10]; generalize hq_ : World.drewN w10 _ = w10; have n0_ := A_ (Kd.R_at hq_ HO430.out); have n1_ := A_ (Kd.R_at hq_ HO433.out); have n2_ := A_ (blk_at hq_ BK435.out); have n3_ := A_ (below_at hq_ HB.out); clear hq_ HO430 HO433 BK435 HB; have HO430 := n0_; have HO433 := n1_; have BK435 := n2_; have HB := n3_; clear n0_ n1_ n2_ n3_)); refine store_event (t := 47) (p := 11) (v := ?vo_w12) (w1 := (w10.setCell ⟨gb435, 0, none⟩ (.int .u8 a0))) ?hg ?ho ?hn ?hr ?_; (case ho => rfl); (case hg => rfl); (case hn => rfl); (case hr => first | (go_simp; done) | (go_simp; rfl)); intro w12 hw; have n0_ : Aside0 (Kd.R (Kd.int .u64) 33 w12 w.heap.size (fun k_ => some k_ ≠ (v432 : Value).ownBlock) v429 t428) := ⟨(by rw [hw]; exact (by (with_reducible repeat (first | apply Kd.R_alloc | apply Kd.R_drewN | apply Kd.R_drew)); exact Kd.R_mono (Kd.R_far (p := ⟨gb435, 0, none⟩) (Kd.R_types HO430.out BK435.out (by decide)) (fun _ hk => hk.2) (.int .u8 a0)) (fun _ hk => hk.1)))⟩; have n1_ : Aside0 (Kd.R (Kd.int .u64) 33 w12 w.heap.size (fun k_ => some k_ ≠ (v429 : Value).ownBlock) v432 t431) := ⟨(by rw [hw]; exact (by (with_reducible repeat (first | apply Kd.R_alloc | apply Kd.R_drewN | apply Kd.R_drew)); exact Kd.R_mono (Kd.R_far (p := ⟨gb435, 0, none⟩) (Kd.R_types HO433.out BK435.out (by decide)) (fun _ hk => hk.2) (.int .u8 a0)) (fun _ hk => hk.1)))⟩; have n2_ : Aside0 (w12.heap[gb435]? = some (.cells #[.int .u8 a0] 47 (0, 0))) := ⟨(by rw [hw]; exact (by (with_reducible repeat (first | refine blk_drewN ?_ _ | refine blk_drew ?_ | refine blk_alloc ?_ _)); refine blk_put (cs := #[.int .u8 0]) ?_ 0 _ rfl; (with_reducible repeat (first | refine blk_drewN ?_ _ | refine blk_drew ?_ | refine blk_alloc ?_ _)); exact BK435.out))⟩; have n3_ : Aside0 (Below w.heap.size w w12) := ⟨(by rw [hw]; exact hs_)⟩; clear hw HO430 HO433 BK435 HB; have HO430 := n0_; have HO433 := n1_; have BK435 := n2_; have HB := n3_; clear n0_ n1_ n2_ n3_; obtain ⟨Ao13, co13, eo13⟩ := Kd.R_slice HO430.out; subst eo13; obtain ⟨Ao14, co14, eo14⟩ := Kd.R_slice HO433.out; subst eo14) | ((with_reducible refine gate_callee (f := 28) rfl ?_); refine goesM_ (some 59) Try.func28 #[.int .u8 a0, .slice Ao13 t428.length co13, .slice Ao14 t431.length co14] ?_; (with_reducible refine (poly_Mul.calls k a0 (fun k_ => some k_ = (.slice Ao13 t428.length co13 : Value).ownBlock) _ _ t428 (fun k_ => some k_ = (.slice Ao14 t431.length co14 : Value).ownBlock) _ _ t431 t436 t439 _ ?side1 ?side2 A8.out).mono ?_); (case side1 => exact Kd.R_V (Kd.R_tight rfl (Kd.R_types (HO430.out) BK435.out (by decide)))); (case side2 => exact Kd.R_V (Kd.R_tight rfl (Kd.R_types (HO433.out) BK435.out (by decide)))); rintro e w15 ⟨v437, rfl, ho0, hb⟩; refine ⟨_, rfl, ?_⟩; have n0_ := A_ (Kd.R_elder' (nR_ HO430) (Kd.R_base ho0) hb); have n1_ := A_ (Kd.R_elder' (nR_ HO433) (Kd.R_base ho0) hb); have n2_ := A_ (Kd.R_lower (Kd.R_new' (Kd.R_new' (Kd.R_mono (ok' := fun k_ => True) ho0 (fun _ hk_ => trivial)) (Kd.R_lt (nR_ HO430))) (Kd.R_lt (nR_ HO433))) (below_size hs_)); have n3_ := A_ (blk_below (g := gb435) (o := .cells #[.int .u8 a0] 47 (0, 0)) (nb_ BK435) hb); have n4_ := A_ (below_step hs_ hb); clear HO430 HO433 BK435 HB; have HO430 := n0_; have HO433 := n1_; have HO438 := n2_; have BK435 := n3_; have HB := n4_; clear n0_ n1_ n2_ n3_ n4_; (try clear hb); (try clear ho0)))
   go_ret2
   exact ⟨_, by first | rfl | (simp [errW_none, errW_some] <;> rfl) | (simp only [← hji6]; first | rfl | (simp [errW_none, errW_some] <;> rfl)) | (simp [*, errW_none, errW_some] <;> rfl), by (with_reducible repeat (first | apply Kd.R_alloc | apply Kd.R_drewN | apply Kd.R_drew)); exact Kd.R_mono HO438.out (fun _ hk => trivial), hs_⟩
  ·rw [if_neg c7] at H
   have c7b0 : decide ((ji6) ≤ 16) = false := decide_eq_false c7
   clear c7
   by_cases c16 : (wrap64 ((wrap64 ((t428.length : Int) + (t431.length : Int))) - 1)) ≤ 64
   ·rw [if_pos c16] at H
    have c16b0 : decide ((wrap64 ((wrap64 ((t428.length : Int) + (t431.length : Int))) - 1)) ≤ 64) = true := decide_eq_true c16
    clear c16
    replace H := Option.bind_eq_some_iff.mp H
    obtain ⟨t440, A170, H⟩ := H
    replace H : ((poly_Trim.f k t440).bind fun t443 => (some (t443, 0))) = some (r1, r2) := H
    have A17 := Aside0.mk A170
    clear A170
    replace H := Option.bind_eq_some_iff.mp H
    obtain ⟨t443, A180, H⟩ := H
    replace H : (some (t443, 0)) = some (r1, r2) := H
    have A18 := Aside0.mk A180
    clear A180
    simp only [Option.some.injEq, Prod.mk.injEq] at H
    obtain ⟨rfl, rfl⟩ := H
    go_enter Try.func12, Try.ntmps12
    go_wp2_with (first | ((with_reducible refine gate_callee (f := 27) rfl ?_); refine goesM_ (some 19) Try.func27 #[.int .u8 a0, .slice A1 l1.length c1, .slice A2 l2.length c2] ?_; (with_reducible refine (fast_checked.calls k a0 (fun k_ => k_ < w.heap.size) _ _ l1 (fun k_ => k_ < w.heap.size) _ _ l2 t428 t431 t434 _ ?side1 ?side2 A4.out).mono ?_); (case side1 => exact Kd.V_mk HC1.out (Kd.F_below (Kd.C_F (Kd.heap_int .u64) HR1.out) hb_)); (case side2 => exact Kd.V_mk HC2.out (Kd.F_below (Kd.C_F (Kd.heap_int .u64) HR2.out) hb_)); rintro e w19 ⟨v429, v432, rfl, ho0, ho1, hb⟩; refine ⟨_, rfl, ?_⟩; have n0_ := A_ (Kd.R_lower (Kd.R_mono (ok' := fun k_ => some k_ ≠ (v432 : Value).ownBlock) ho0 (fun _ hk_ => hk_.2)) (below_size hb_)); have n1_ := A_ (Kd.R_lower (Kd.R_mono (ok' := fun k_ => some k_ ≠ (v429 : Value).ownBlock) ho1 (fun _ hk_ => hk_.2)) (below_size hb_)); have n2_ := A_ (below_step hb_ hb); clear HB; have HO430 := n0_; have HO433 := n1_; have HB := n2_; clear n0_ n1_ n2_; (try clear hb); (try clear ho0); (try clear ho1)) | ((with_reducible refine gate_dst (N := 11) rfl ?_); refine box_event ?hg (N := 11) ?hd (cs := #[.int .u8 0]) (t := 47) ?hr ?_; (case hd => rfl); (case hg => rfl); (case hr => first | (go_simp; done) | (go_simp; rfl)); intro gb435 hg w20 hbox hb; have n0_ := A_ (Kd.R_below (nR_ HO430) hb); have n1_ := A_ (Kd.R_below (nR_ HO433) hb); have n2_ := A_ (below_step hb_ hb); have n3_ := A_ (hbox); have n4_ := A_ ((by rw [hg]; exact (below_size hb_) : w.heap.size ≤ gb435)); have n5_ := A_ ((by rw [hg]; exact (below_size hb_) : w.heap.size ≤ gb435)); clear HO430 HO433 HB; have HO430 := n0_; have HO433 := n1_; have HB := n2_; have BK435 := n3_; have GW435 := n4_; have GE435 := n5_; clear n0_ n1_ n2_ n3_ n4_ n5_; clear hb hbox hg; have hcz21_0 : w20.cell? ⟨gb435, 0, none⟩ = some (.int .u8 0) := (blk_cell BK435.out 0).trans rfl; have hfz21_0 := blk_frozen BK435.out 0; obtain ⟨Ao22, co22, eo22⟩ := Kd.R_slice HO430.out; subst eo22; obtain ⟨Ao23, co23, eo23⟩ := Kd.R_slice HO433.out; subst eo23) | ((with_reducible refine gate_callee (f := 30) rfl ?_); refine goesM_ (some 68) Try.func30 #[.agg #[.int .u8 a0], .slice Ao22 t428.length co22, .slice Ao23 t431.length co23] ?_; (with_reducible refine (fast_reckoner_halves.calls k a0 _ _ t428 _ _ t431 t440 _ ?side1 ?side2 ?side3 ?side4 A17.out).mono ?_); (case side1 => refine (Kd.R_reads' (e := 33) (base := w.heap.size) (ok := fun k_ => some k_ ≠ (.slice Ao23 t431.length co23 : Value).ownBlock) (n := t428.length) (c := co22) ?_).2.2; exact (by (with_reducible repeat (first | apply Kd.R_alloc | apply Kd.R_drewN | apply Kd.R_drew)); exact (Kd.R_mono (Kd.R_far (p := ⟨gb435, 0, none⟩) (Kd.R_types HO430.out BK435.out (by decide)) (fun _ hk => hk.2) (.int .u8 a0)) (fun _ h_ => h_.1)))); (case side2 => exact (Kd.R_reads' HO430.out).2.1); (case side3 => refine (Kd.R_reads' (e := 33) (base := w.heap.size) (ok := fun k_ => some k_ ≠ (.slice Ao22 t428.length co22 : Value).ownBlock) (n := t431.length) (c := co23) ?_).2.2; exact (by (with_reducible repeat (first | apply Kd.R_alloc | apply Kd.R_drewN | apply Kd.R_drew)); exact (Kd.R_mono (Kd.R_far (p := ⟨gb435, 0, none⟩) (Kd.R_types HO433.out BK435.out (by decide)) (fun _ hk => hk.2) (.int .u8 a0)) (fun _ h_ => h_.1)))); (case side4 => exact (Kd.R_reads' HO433.out).2.1); rintro e w24 ⟨v441, rfl, ho0, hb⟩; refine ⟨_, rfl, ?_⟩; have n0_ := A_ (Kd.R_elder' (by (with_reducible repeat (first | apply Kd.R_alloc | apply Kd.R_drewN | apply Kd.R_drew)); exact (Kd.R_mono (Kd.R_far (p := ⟨gb435, 0, none⟩) (Kd.R_types HO430.out BK435.out (by decide)) (fun _ hk => hk.2) (.int .u8 a0)) (fun _ h_ => h_.1))) (Kd.R_base ho0) hb); have n1_ := A_ (Kd.R_elder' (by (with_reducible repeat (first | apply Kd.R_alloc | apply Kd.R_drewN | apply Kd.R_drew)); exact (Kd.R_mono (Kd.R_far (p := ⟨gb435, 0, none⟩) (Kd.R_types HO433.out BK435.out (by decide)) (fun _ hk => hk.2) (.int .u8 a0)) (fun _ h_ => h_.1))) (Kd.R_base ho0) hb); have n2_ := A_ (Kd.R_lower (Kd.R_new' (Kd.R_new' ho0 (Kd.R_lt (by (with_reducible repeat (first | apply Kd.R_alloc | apply Kd.R_drewN | apply Kd.R_drew)); exact (Kd.R_mono (Kd.R_far (p := ⟨gb435, 0, none⟩) (Kd.R_types HO430.out BK435.out (by decide)) (fun _ hk => hk.2) (.int .u8 a0)) (fun _ h_ => h_.1))))) (Kd.R_lt (by (with_reducible repeat (first | apply Kd.R_alloc | apply Kd.R_drewN | apply Kd.R_drew)); exact (Kd.R_mono (Kd.R_far (p := ⟨gb435, 0, none⟩) (Kd.R_types HO433.out BK435.out (by decide)) (fun _ hk => hk.2) (.int .u8 a0)) (fun _ h_ => h_.1))))) (below_size hs_)); have n3_ := A_ (blk_below (g := gb435) (o := .cells #[.int .u8 a0] 47 (0, 0)) (by (with_reducible repeat (first | refine blk_drewN ?_ _ | refine blk_drew ?_ | refine blk_alloc ?_ _)); refine blk_put (cs := #[.int .u8 0]) ?_ 0 _ rfl; (with_reducible repeat (first | refine blk_drewN ?_ _ | refine blk_drew ?_ | refine blk_alloc ?_ _)); exact BK435.out) hb); have n4_ := A_ (below_step hs_ hb); clear HO430 HO433 BK435 HB; have HO430 := n0_; have HO433 := n1_; have HO442 := n2_; have BK435 := n3_; have HB := n4_; clear n0_ n1_ n2_ n3_ n4_; (try clear hb); (try clear ho0); obtain ⟨Ao25, co25, eo25⟩ := Kd.R_slice HO442.out; subst eo25) | ((with_reducible refine gate_callee (f := 29) rfl ?_); refine goesM_ (some 69) Try.func29 #[.slice Ao25 t440.length co25] ?_; (with_reducible refine (poly_Trim.calls k _ _ t440 t443 _ ?side1 ?side2 A18.out).mono ?_); (case side1 => repeat (first | exact (Kd.R_reads' HO442.out).2.2 | (with_reducible refine Kd.C_alloc ?_ _) | (with_reducible refine Kd.C_drewN ?_ _) | (with_reducible refine Kd.C_drew ?_))); (case side2 => exact (Kd.R_reads' HO442.out).2.1); rintro e w26 ⟨v444, rfl, ho0, hb⟩; refine ⟨_, rfl, ?_⟩; have n0_ := A_ (Kd.R_elder' (nR_ HO430) (Kd.R_base ho0) hb); have n1_ := A_ (Kd.R_elder' (nR_ HO433) (Kd.R_base ho0) hb); have n2_ := A_ (Kd.R_elder' (nR_ HO442) (Kd.R_base ho0) hb); have n3_ := A_ (Kd.R_lower (Kd.R_new' (Kd.R_new' (Kd.R_new' ho0 (Kd.R_lt (nR_ HO430))) (Kd.R_lt (nR_ HO433))) (Kd.R_lt (nR_ HO442))) (below_size hs_)); have n4_ := A_ (blk_below (g := gb435) (o := .cells #[.int .u8 a0] 47 (0, 0)) (nb_ BK435) hb); have n5_ := A_ (below_step hs_ hb); clear HO430 HO433 HO442 BK435 HB; have HO430 := n0_; have HO433 := n1_; have HO442 := n2_; have HO445 := n3_; have BK435 := n4_; have HB := n5_; clear n0_ n1_ n2_ n3_ n4_ n5_; (try clear hb); (try clear ho0)))
    go_ret2
    exact ⟨_, by first | rfl | (simp [errW_none, errW_some] <;> rfl) | (simp only [← hji6]; first | rfl | (simp [errW_none, errW_some] <;> rfl)) | (simp [*, errW_none, errW_some] <;> rfl), by (with_reducible repeat (first | apply Kd.R_alloc | apply Kd.R_drewN | apply Kd.R_drew)); exact Kd.R_mono HO445.out (fun _ hk => trivial), hs_⟩
   ·rw [if_neg c16] at H
    have c16b0 : decide ((wrap64 ((wrap64 ((t428.length : Int) + (t431.length : Int))) - 1)) ≤ 64) = false := decide_eq_false c16
    clear c16
    have H' := Aside0.mk H
    clear H
    go_enter Try.func12, Try.ntmps12
    go_wp2_with (first | ((with_reducible refine gate_callee (f := 27) rfl ?_); refine goesM_ (some 19) Try.func27 #[.int .u8 a0, .slice A1 l1.length c1, .slice A2 l2.length c2] ?_; (with_reducible refine (fast_checked.calls k a0 (fun k_ => k_ < w.heap.size) _ _ l1 (fun k_ => k_ < w.heap.size) _ _ l2 t428 t431 t434 _ ?side1 ?side2 A4.out).mono ?_); (case side1 => exact Kd.V_mk HC1.out (Kd.F_below (Kd.C_F (Kd.heap_int .u64) HR1.out) hb_)); (case side2 => exact Kd.V_mk HC2.out (Kd.F_below (Kd.C_F (Kd.heap_int .u64) HR2.out) hb_)); rintro e w27 ⟨v429, v432, rfl, ho0, ho1, hb⟩; refine ⟨_, rfl, ?_⟩; have n0_ := A_ (Kd.R_lower (Kd.R_mono (ok' := fun k_ => some k_ ≠ (v432 : Value).ownBlock) ho0 (fun _ hk_ => hk_.2)) (below_size hb_)); have n1_ := A_ (Kd.R_lower (Kd.R_mono (ok' := fun k_ => some k_ ≠ (v429 : Value).ownBlock) ho1 (fun _ hk_ => hk_.2)) (below_size hb_)); have n2_ := A_ (below_step hb_ hb); clear HB; have HO430 := n0_; have HO433 := n1_; have HB := n2_; clear n0_ n1_ n2_; (try clear hb); (try clear ho0); (try clear ho1)) | ((with_reducible refine gate_dst (N := 11) rfl ?_); refine box_event ?hg (N := 11) ?hd (cs := #[.int .u8 0]) (t := 47) ?hr ?_; (case hd => rfl); (case hg => rfl); (case hr => first | (go_simp; done) | (go_simp; rfl)); intro gb435 hg w28 hbox hb; have n0_ := A_ (Kd.R_below (nR_ HO430) hb); have n1_ := A_ (Kd.R_below (nR_ HO433) hb); have n2_ := A_ (below_step hb_ hb); have n3_ := A_ (hbox); have n4_ := A_ ((by rw [hg]; exact (below_size hb_) : w.heap.size ≤ gb435)); have n5_ := A_ ((by rw [hg]; exact (below_size hb_) : w.heap.size ≤ gb435)); clear HO430 HO433 HB; have HO430 := n0_; have HO433 := n1_; have HB := n2_; have BK435 := n3_; have GW435 := n4_; have GE435 := n5_; clear n0_ n1_ n2_ n3_ n4_ n5_; clear hb hbox hg; have hcz29_0 : w28.cell? ⟨gb435, 0, none⟩ = some (.int .u8 0) := (blk_cell BK435.out 0).trans rfl; have hfz29_0 := blk_frozen BK435.out 0; obtain ⟨Ao30, co30, eo30⟩ := Kd.R_slice HO430.out; subst eo30; obtain ⟨Ao31, co31, eo31⟩ := Kd.R_slice HO433.out; subst eo31) | ((with_reducible refine gate_dst (N := 13) rfl ?_); refine box_event ?hg (N := 13) ?hd (cs := #[.int .i64 0]) (t := 3) ?hr ?_; (case hd => rfl); (case hg => rfl); (case hr => first | (go_simp; done) | (go_simp; rfl)); intro gb446 hg w32 hbox hb; have n0_ := A_ (Kd.R_below (by (with_reducible repeat (first | apply Kd.R_alloc | apply Kd.R_drewN | apply Kd.R_drew)); exact (Kd.R_mono (Kd.R_far (p := ⟨gb435, 0, none⟩) (Kd.R_types HO430.out BK435.out (by decide)) (fun _ hk => hk.2) (.int .u8 a0)) (fun _ h_ => h_.1))) hb); have n1_ := A_ (Kd.R_below (by (with_reducible repeat (first | apply Kd.R_alloc | apply Kd.R_drewN | apply Kd.R_drew)); exact (Kd.R_mono (Kd.R_far (p := ⟨gb435, 0, none⟩) (Kd.R_types HO433.out BK435.out (by decide)) (fun _ hk => hk.2) (.int .u8 a0)) (fun _ h_ => h_.1))) hb); have n2_ := A_ (blk_below (g := gb435) (o := .cells #[.int .u8 a0] 47 (0, 0)) (by (with_reducible repeat (first | refine blk_drewN ?_ _ | refine blk_drew ?_ | refine blk_alloc ?_ _)); refine blk_put (cs := #[.int .u8 0]) ?_ 0 _ rfl; (with_reducible repeat (first | refine blk_drewN ?_ _ | refine blk_drew ?_ | refine blk_alloc ?_ _)); exact BK435.out) hb); have n3_ := A_ (below_step hs_ hb); have n4_ := A_ (hbox); have n5_ := A_ ((by rw [hg]; exact (below_size hs_) : w.heap.size ≤ gb446)); have n6_ := A_ ((by rw [hg]; exact (below_size hs_) : w.heap.size ≤ gb446)); have n7_ := A_ ((by rw [hg]; exact Nat.ne_of_lt (blk_lt (g := gb435) (o := .cells #[.int .u8 a0] 47 (0, 0)) (by (with_reducible repeat (first | refine blk_drewN ?_ _ | refine blk_drew ?_ | refine blk_alloc ?_ _)); refine blk_put (cs := #[.int .u8 0]) ?_ 0 _ rfl; (with_reducible repeat (first | refine blk_drewN ?_ _ | refine blk_drew ?_ | refine blk_alloc ?_ _)); exact BK435.out)) : gb435 ≠ gb446)); have n8_ := A_ ((by rw [hg]; exact Nat.ne_of_gt (blk_lt (g := gb435) (o := .cells #[.int .u8 a0] 47 (0, 0)) (by (with_reducible repeat (first | refine blk_drewN ?_ _ | refine blk_drew ?_ | refine blk_alloc ?_ _)); refine blk_put (cs := #[.int .u8 0]) ?_ 0 _ rfl; (with_reducible repeat (first | refine blk_drewN ?_ _ | refine blk_drew ?_ | refine blk_alloc ?_ _)); exact BK435.out)) : gb446 ≠ gb435)); clear HO430 HO433 BK435 HB; have HO430 := n0_; have HO433 := n1_; have BK435 := n2_; have HB := n3_; have BK446 := n4_; have GW446 := n5_; have GE446 := n6_; have NB435_446 := n7_; have NB446_435 := n8_; clear n0_ n1_ n2_ n3_ n4_ n5_ n6_ n7_ n8_; clear hb hbox hg; have hnb33 := NB446_435.out; have hnc33 := NB435_446.out; have hcz34_0 : w32.cell? ⟨gb446, 0, none⟩ = some (.int .i64 0) := (blk_cell BK446.out 0).trans rfl; have hfz34_0 := blk_frozen BK446.out 0))
    go_loopg [] k (fun kq w' => ∃ (x447000_1 : Int), Aside0 (fast_Mul.l0 kq t428 t431 (wrap64 ((wrap64 ((t428.length : Int) + (t431.length : Int))) - 1)) a0 x447000_1 = some (r1, r2)) ∧ Aside0 (kq ≤ k) ∧ Aside0 (Kd.R (Kd.int .u64) 33 w' w.heap.size (fun k_ => some k_ ≠ ((.slice Ao31 t431.length co31) : Value).ownBlock) (.slice Ao30 t428.length co30) t428) ∧ Aside0 (Kd.R (Kd.int .u64) 33 w' w.heap.size (fun k_ => some k_ ≠ ((.slice Ao30 t428.length co30) : Value).ownBlock) (.slice Ao31 t431.length co31) t431) ∧ Aside0 (w'.heap[gb435]? = some (.cells #[.int .u8 a0] 47 (0, 0))) ∧ Aside0 (w'.heap[gb446]? = some (.cells #[.int .i64 x447000_1] 3 (0, 0))) ∧ Aside0 (Below w.heap.size w w'))
    case atStart => exact ⟨(1), H', ⟨Nat.le_refl _⟩, ⟨by (with_reducible repeat (first | apply Kd.R_alloc | apply Kd.R_drewN | apply Kd.R_drew)); exact Kd.R_mono (Kd.R_far (p := ⟨gb446, 0, none⟩) (Kd.R_types HO430.out BK446.out (by decide)) (fun _ hk => hk.2) (.int .i64 1)) (fun _ hk => hk.1)⟩, ⟨by (with_reducible repeat (first | apply Kd.R_alloc | apply Kd.R_drewN | apply Kd.R_drew)); exact Kd.R_mono (Kd.R_far (p := ⟨gb446, 0, none⟩) (Kd.R_types HO433.out BK446.out (by decide)) (fun _ hk => hk.2) (.int .i64 1)) (fun _ hk => hk.1)⟩, ⟨by (with_reducible repeat (first | refine blk_drewN ?_ _ | refine blk_drew ?_ | refine blk_alloc ?_ _)); refine blk_far ?_ NB435_446.out _; (with_reducible repeat (first | refine blk_drewN ?_ _ | refine blk_drew ?_ | refine blk_alloc ?_ _)); exact BK435.out⟩, ⟨by (with_reducible repeat (first | refine blk_drewN ?_ _ | refine blk_drew ?_ | refine blk_alloc ?_ _)); refine blk_put (cs := #[.int .i64 0]) ?_ 0 _ rfl; (with_reducible repeat (first | refine blk_drewN ?_ _ | refine blk_drew ?_ | refine blk_alloc ?_ _)); exact BK446.out⟩, ⟨hs_⟩⟩
    case round =>
     clear H'
     try clear c1
     try clear c2
     try clear p2
     try clear c3
     try clear c5
     try clear c5b0
     try clear c5b1
     try clear p6
     try clear c7
     try clear c7b0
     try clear c12
     try clear c16
     try clear c16b0
     try clear c27
     try clear c28
     try clear c29
     try clear c30
     try clear c33
     try clear hcz11_0
     try clear hcz21_0
     try clear hcz29_0
     try clear hcz34_0
     try clear hfz11_0
     try clear hfz21_0
     try clear hfz29_0
     try clear hfz34_0
     obtain ⟨x447000_1, HA, HK1, HO_8, HO_9, BK435, BK446, HB⟩ := hrel
     cases gk with
     | zero => exact absurd HA.out (by simp [fast_Mul.l0])
     | succ k1 =>
      have H := HA.out
      clear HA
      simp only [fast_Mul.l0] at H
      by_cases c35 : x447000_1 < (wrap64 ((wrap64 ((t428.length : Int) + (t431.length : Int))) - 1))
      ·rw [if_pos c35] at H
       have c35b0 : decide (x447000_1 < (wrap64 ((wrap64 ((t428.length : Int) + (t431.length : Int))) - 1))) = true := decide_eq_true c35
       clear c35
       have H' := Aside0.mk H
       clear H
       have hnb36 := NB446_435.out
       have hnc36 := NB435_446.out
       have hcz37_0 : wr.cell? ⟨gb446, 0, none⟩ = some (.int .i64 x447000_1) := (blk_cell BK446.out 0).trans rfl
       have hfz37_0 := blk_frozen BK446.out 0
       go_wp2
       go_roundg k1
       case measure => have := HK1.out; omega
       case rel => exact ⟨(wrap64 (x447000_1 * 2)), H', ⟨by have := HK1.out; omega⟩, ⟨by (with_reducible repeat (first | apply Kd.R_alloc | apply Kd.R_drewN | apply Kd.R_drew)); exact Kd.R_mono (Kd.R_far (p := ⟨gb446, 0, none⟩) (Kd.R_types HO_8.out BK446.out (by decide)) (fun _ hk => hk.2) (.int .i64 (wrap64 (x447000_1 * 2)))) (fun _ hk => hk.1)⟩, ⟨by (with_reducible repeat (first | apply Kd.R_alloc | apply Kd.R_drewN | apply Kd.R_drew)); exact Kd.R_mono (Kd.R_far (p := ⟨gb446, 0, none⟩) (Kd.R_types HO_9.out BK446.out (by decide)) (fun _ hk => hk.2) (.int .i64 (wrap64 (x447000_1 * 2)))) (fun _ hk => hk.1)⟩, ⟨by (with_reducible repeat (first | refine blk_drewN ?_ _ | refine blk_drew ?_ | refine blk_alloc ?_ _)); refine blk_far ?_ NB435_446.out _; (with_reducible repeat (first | refine blk_drewN ?_ _ | refine blk_drew ?_ | refine blk_alloc ?_ _)); exact BK435.out⟩, ⟨by (with_reducible repeat (first | refine blk_drewN ?_ _ | refine blk_drew ?_ | refine blk_alloc ?_ _)); refine blk_put (cs := #[.int .i64 x447000_1]) ?_ 0 _ rfl; (with_reducible repeat (first | refine blk_drewN ?_ _ | refine blk_drew ?_ | refine blk_alloc ?_ _)); exact BK446.out⟩, ⟨hs_⟩⟩
      ·rw [if_neg c35] at H
       have c35b0 : decide (x447000_1 < (wrap64 ((wrap64 ((t428.length : Int) + (t431.length : Int))) - 1))) = false := decide_eq_false c35
       clear c35
       replace H := Option.bind_eq_some_iff.mp H
       obtain ⟨t447, A380, H⟩ := H
       replace H : ((fast_Mul_1.f t431 x447000_1).bind fun t450 => ((fast_reckoner_round.f k1 a0 t447 t450).bind fun t453 => ((poly_Trim.f k1 t453).bind fun t456 => (some (t456, 0))))) = some (r1, r2) := H
       have A38 := Aside0.mk A380
       clear A380
       replace H := Option.bind_eq_some_iff.mp H
       obtain ⟨t450, A390, H⟩ := H
       replace H : ((fast_reckoner_round.f k1 a0 t447 t450).bind fun t453 => ((poly_Trim.f k1 t453).bind fun t456 => (some (t456, 0)))) = some (r1, r2) := H
       have A39 := Aside0.mk A390
       clear A390
       replace H := Option.bind_eq_some_iff.mp H
       obtain ⟨t453, A400, H⟩ := H
       replace H : ((poly_Trim.f k1 t453).bind fun t456 => (some (t456, 0))) = some (r1, r2) := H
       have A40 := Aside0.mk A400
       clear A400
       replace H := Option.bind_eq_some_iff.mp H
       obtain ⟨t456, A410, H⟩ := H
       replace H : (some (t456, 0)) = some (r1, r2) := H
       have A41 := Aside0.mk A410
       clear A410
       simp only [Option.some.injEq, Prod.mk.injEq] at H
       obtain ⟨rfl, rfl⟩ := H
       have hnb42 := NB446_435.out
       have hnc42 := NB435_446.out
       have hcz43_0 : wr.cell? ⟨gb446, 0, none⟩ = some (.int .i64 x447000_1) := (blk_cell BK446.out 0).trans rfl
       have hfz43_0 := blk_frozen BK446.out 0
       try go_wp2
       have n0_ := A_ (Kd.R_drew HO_8.out)
       have n1_ := A_ (Kd.R_drew HO_9.out)
       have n2_ := A_ (blk_drew BK435.out)
       have n3_ := A_ (blk_drew BK446.out)
       have n4_ := A_ (below_drew1 HB.out)
       clear HO_8
       clear HO_9
       clear BK435
       clear BK446
       clear HB
       have HO_8 := n0_
       have HO_9 := n1_
       have BK435 := n2_
       have BK446 := n3_
       have HB := n4_
       clear n0_ n1_ n2_ n3_ n4_
       refine start_ (n := 11) (S := fun w' => w'.cell? ⟨gb435, 0, none⟩ = some (.int .u8 a0)) (ds := []) #[false, false, false, false, false, false, false, false, false, false, false] (by kernel_rfl) rfl rfl ((blk_cell BK435.out 0).trans rfl) (fun hHeld => ?_); refine with_tabW fast_Mul.tab10 fast_Mul.bits10 (fun HT_ HW_ => ?_)
       generalize wr.drew = w44 at HO_8 HO_9 BK435 BK446 HB hHeld ⊢
       refine pure_ (i := 1) (N := some 41) (v := ?_) (a' := ?_) #[false, true, false, false, false, false, false, false, false, false, false] rfl rfl (any_of HT_.out (by kernel_rfl)) (fun _ _ _ h => h) (Or.inl ⟨by rfl, ?_⟩) ?_ ?_
       rotate_left
       ·intro w'
        go_simp
        with_reducible rfl
       rotate_left
       ·simp only [Act.put, List.setIfInBounds_toArray, List.set_cons_zero, List.set_cons_succ, i64_w, i32_w]
        rfl
       refine pure_ (i := 2) (N := some 42) (v := ?_) (a' := ?_) #[false, true, true, false, false, false, false, false, false, false, false] rfl rfl (any_of HT_.out (by kernel_rfl)) (fun _ _ _ h => h) (Or.inl ⟨by rfl, ?_⟩) ?_ ?_
       rotate_left
       ·intro w'
        go_simp
        with_reducible rfl
       rotate_left
       ·simp only [Act.put, List.setIfInBounds_toArray, List.set_cons_zero, List.set_cons_succ, i64_w, i32_w]
        rfl
       refine pure_ (i := 4) (N := some 44) (v := ?_) (a' := ?_) #[false, true, true, false, true, false, false, false, false, false, false] rfl rfl (any_of HT_.out (by kernel_rfl)) (fun _ _ _ h => h) (Or.inl ⟨by rfl, ?_⟩) ?_ ?_
       rotate_left
       ·intro w'
        go_simp
        with_reducible rfl
       rotate_left
       ·simp only [Act.put, List.setIfInBounds_toArray, List.set_cons_zero, List.set_cons_succ, i64_w, i32_w]
        rfl
       refine pure_ (i := 5) (N := some 45) (v := ?_) (a' := ?_) #[false, true, true, false, true, true, false, false, false, false, false] rfl rfl (any_of HT_.out (by kernel_rfl)) (fun _ _ _ h => h) (Or.inl ⟨by rfl, ?_⟩) ?_ ?_
       rotate_left
       ·intro w'
        go_simp
        with_reducible rfl
       rotate_left
       ·simp only [Act.put, List.setIfInBounds_toArray, List.set_cons_zero, List.set_cons_succ, i64_w, i32_w]
        rfl
       refine take_ (i := 0) (N := some 40) (v := ?_) (a' := ?_) #[true, true, true, false, true, true, false, false, false, false, false] rfl rfl (take_ofW HT_.out HW_.out (by kernel_rfl)) (fun _ _ _ h => h) (Or.inl ⟨by rfl, ?_⟩) hHeld ?_ ?_
       rotate_left
       ·intro w' s0
        go_simp
        with_reducible rfl
       rotate_left
       ·simp only [Act.put, List.setIfInBounds_toArray, List.set_cons_zero, List.set_cons_succ, i64_w, i32_w]
        rfl
       refine one_ (i := 3) (N := some 43) #[true, true, true, true, true, true, false, false, false, false, false] rfl rfl (one_of HT_.out (by kernel_rfl)) (by decide) (fun K hK => ?_)
       refine goesKr_ Try.func31 (by kernel_rfl) rfl #[.slice Ao30 t428.length co30, .pointer (some ⟨gb446, 0, none⟩)] (by rfl) rfl rfl (by rfl) (by (try simp only [List.map_toArray, List.map_cons, List.map_nil]); first | done | rfl | (simp only [List.length_drop, List.length_take]; rfl)) ?_
       with_reducible refine (fast_Mul_1.calls (fun k_ => some k_ = (.slice Ao30 t428.length co30 : Value).ownBlock) (.slice Ao30 t428.length co30) t428 x447000_1 t447 w _ ?side1 ?side2 A38.out gb446 ((blk_cell (nb_ BK446) 0).trans rfl)).mono ?_
       (case side1 => repeat (first | (with_reducible first | exact HB.out | apply below_alloc | apply pw_below_drewN | apply below_drew1 | refine below_set ?_ GE435.out | refine below_set ?_ GE446.out) | exact HB.out))
       (case side2 => exact Kd.R_tight rfl HO_8.out)
       rintro e w45 ⟨v448, rfl, ho0, hb, hkp⟩
       refine ⟨_, rfl, ?_⟩
       have n0_ := A_ (Kd.R_mono (ok' := fun k_ => some k_ ≠ (v448 : Value).ownBlock) (Kd.R_keptB (HO_9.out) hkp (fun k_ hk_ hs_ => (hk_) hs_)) (fun k_ hk_ => fun e_ => Or.elim (ho0.1 k_ e_.symm) (fun hs_ => hk_.2.1 hs_) (fun hn_ => Nat.not_le.2 hk_.2.2 hn_)))
       have n1_ := A_ (blk_kept (nb_ BK435) hkp (fun hs_ => (fun e_ => (Kd.R_ne HO_8.out BK435.out (by decide)) e_) hs_))
       have n2_ := A_ (blk_kept (nb_ BK446) hkp (fun hs_ => (fun e_ => (Kd.R_ne HO_8.out BK446.out (by decide)) e_) hs_))
       have n3_ := A_ (Kd.R_mono (ok' := fun k_ => some k_ ≠ (.slice Ao31 t431.length co31 : Value).ownBlock) ho0 (fun k_ hk_ => Or.elim hk_ (fun hs_ => fun e_ => (((HO_9.out).1 k_ e_.symm)) hs_) (fun hn_ => (Kd.fresh' (Kd.R_lt (nR_ HO_9)) k_ hn_))))
       have n4_ := A_ (hb)
       clear HO_9
       clear BK435
       clear BK446
       clear HB
       clear HO_8
       have HO_9 := n0_
       have BK435 := n1_
       have BK446 := n2_
       have HO449 := n3_
       have HB := n4_
       clear n0_ n1_ n2_ n3_ n4_
       (try clear hb)
       (try clear hkp)
       (try clear ho0)
       refine hK.out _ _ ((blk_cell BK435.out 0).trans rfl) (fun hHeld => ?_)
       clear hK K
       refine norm_ (a' := ?_) ?_ ?_
       rotate_left
       ·show Act.put _ (some 43) _ = _
        simp only [Act.put, List.setIfInBounds_toArray, List.set_cons_zero, List.set_cons_succ, i64_w, i32_w]
        rfl
       refine one_ (i := 6) (N := some 46) #[true, true, true, true, true, true, true, false, false, false, false] rfl rfl (one_of HT_.out (by kernel_rfl)) (by decide) (fun K hK => ?_)
       refine goesKr_ Try.func31 (by kernel_rfl) rfl #[.slice Ao31 t431.length co31, .pointer (some ⟨gb446, 0, none⟩)] (by rfl) rfl rfl (by rfl) (by (try simp only [List.map_toArray, List.map_cons, List.map_nil]); first | done | rfl | (simp only [List.length_drop, List.length_take]; rfl)) ?_
       with_reducible refine (fast_Mul_1.calls (fun k_ => some k_ = (.slice Ao31 t431.length co31 : Value).ownBlock) (.slice Ao31 t431.length co31) t431 x447000_1 t450 w _ ?side1 ?side2 A39.out gb446 ((blk_cell (nb_ BK446) 0).trans rfl)).mono ?_
       (case side1 => repeat (first | (with_reducible first | exact HB.out | apply below_alloc | apply pw_below_drewN | apply below_drew1 | refine below_set ?_ GE435.out | refine below_set ?_ GE446.out) | exact HB.out))
       (case side2 => exact Kd.R_tight rfl HO_9.out)
       rintro e w46 ⟨v451, rfl, ho0, hb, hkp⟩
       refine ⟨_, rfl, ?_⟩
       have n0_ := A_ (blk_kept (nb_ BK435) hkp (fun hs_ => (fun e_ => (Kd.R_ne HO_9.out BK435.out (by decide)) e_) hs_))
       have n1_ := A_ (blk_kept (nb_ BK446) hkp (fun hs_ => (fun e_ => (Kd.R_ne HO_9.out BK446.out (by decide)) e_) hs_))
       have n2_ := A_ (Kd.R_mono (ok' := fun k_ => some k_ ≠ (v451 : Value).ownBlock) (Kd.R_keptB (HO449.out) hkp (fun k_ hk_ hs_ => (hk_) hs_)) (fun k_ hk_ => fun e_ => Or.elim (ho0.1 k_ e_.symm) (fun hs_ => hk_.2.1 hs_) (fun hn_ => Nat.not_le.2 hk_.2.2 hn_)))
       have n3_ := A_ (Kd.R_mono (ok' := fun k_ => some k_ ≠ (v448 : Value).ownBlock) ho0 (fun k_ hk_ => Or.elim hk_ (fun hs_ => fun e_ => (((HO449.out).1 k_ e_.symm)) hs_) (fun hn_ => (Kd.fresh' (Kd.R_lt (nR_ HO449)) k_ hn_))))
       have n4_ := A_ (hb)
       clear BK435
       clear BK446
       clear HO449
       clear HB
       clear HO_9
       have BK435 := n0_
       have BK446 := n1_
       have HO449 := n2_
       have HO452 := n3_
       have HB := n4_
       clear n0_ n1_ n2_ n3_ n4_
       (try clear hb)
       (try clear hkp)
       (try clear ho0)
       obtain ⟨Ao47, co47, eo47⟩ := Kd.R_slice HO449.out
       (first | subst eo47 | (injection eo47 with f1_ f2_ f3_; have f4_ := f1_.symm; have f5_ := f3_.symm; clear f1_ f2_ f3_; subst f4_; subst f5_))
       obtain ⟨Ao48, co48, eo48⟩ := Kd.R_slice HO452.out
       (first | subst eo48 | (injection eo48 with f1_ f2_ f3_; have f4_ := f1_.symm; have f5_ := f3_.symm; clear f1_ f2_ f3_; subst f4_; subst f5_))
       refine hK.out _ _ ((blk_cell BK435.out 0).trans rfl) (fun hHeld => ?_)
       clear hK K
       refine norm_ (a' := ?_) ?_ ?_
       rotate_left
       ·show Act.put _ (some 46) _ = _
        simp only [Act.put, List.setIfInBounds_toArray, List.set_cons_zero, List.set_cons_succ, i64_w, i32_w]
        rfl
       refine one_ (i := 7) (N := some 47) #[true, true, true, true, true, true, true, true, false, false, false] rfl rfl (one_of HT_.out (by kernel_rfl)) (by decide) (fun K hK => ?_)
       refine goes_ Try.func32 (by kernel_rfl) rfl #[.agg #[.int .u8 a0], .slice Ao47 t447.length co47, .slice Ao48 t450.length co48] (by rfl) rfl rfl (by (try simp only [List.map_toArray, List.map_cons, List.map_nil]); first | done | rfl | (simp only [List.length_drop, List.length_take]; rfl)) ?_
       with_reducible refine (fast_reckoner_round.calls k1 a0 _ _ t447 _ _ t450 t453 _ ?side1 ?side2 ?side3 ?side4 A40.out).mono ?_
       (case side1 => repeat (first | exact (Kd.R_reads' HO449.out).2.2 | (with_reducible refine Kd.C_alloc ?_ _) | (with_reducible refine Kd.C_drewN ?_ _) | (with_reducible refine Kd.C_drew ?_)))
       (case side2 => exact (Kd.R_reads' HO449.out).2.1)
       (case side3 => repeat (first | exact (Kd.R_reads' HO452.out).2.2 | (with_reducible refine Kd.C_alloc ?_ _) | (with_reducible refine Kd.C_drewN ?_ _) | (with_reducible refine Kd.C_drew ?_)))
       (case side4 => exact (Kd.R_reads' HO452.out).2.1)
       rintro e w49 ⟨v454, rfl, ho0, hb⟩
       refine ⟨_, rfl, ?_⟩
       have n0_ := A_ (Kd.R_elder' (nR_ HO449) (Kd.R_base ho0) hb)
       have n1_ := A_ (Kd.R_elder' (nR_ HO452) (Kd.R_base ho0) hb)
       have n2_ := A_ (Kd.R_lower (Kd.R_new' (Kd.R_new' ho0 (Kd.R_lt (nR_ HO449))) (Kd.R_lt (nR_ HO452))) (below_size hs_))
       have n3_ := A_ (blk_below (g := gb435) (o := .cells #[.int .u8 a0] 47 (0, 0)) (nb_ BK435) hb)
       have n4_ := A_ (blk_below (g := gb446) (o := .cells #[.int .i64 x447000_1] 3 (0, 0)) (nb_ BK446) hb)
       have n5_ := A_ (below_step hs_ hb)
       clear HO449
       clear HO452
       clear BK435
       clear BK446
       clear HB
       have HO449 := n0_
       have HO452 := n1_
       have HO455 := n2_
       have BK435 := n3_
       have BK446 := n4_
       have HB := n5_
       clear n0_ n1_ n2_ n3_ n4_ n5_
       (try clear hb)
       (try clear hb2)
       (try clear hk)
       (try clear hi)
       (try clear ho0)
       obtain ⟨Ao50, co50, eo50⟩ := Kd.R_slice HO455.out
       (first | subst eo50 | (injection eo50 with f1_ f2_ f3_; have f4_ := f1_.symm; have f5_ := f3_.symm; clear f1_ f2_ f3_; subst f4_; subst f5_))
       refine hK.out _ _ ((blk_cell BK435.out 0).trans rfl) (fun hHeld => ?_)
       clear hK K
       refine norm_ (a' := ?_) ?_ ?_
       rotate_left
       ·show Act.put _ (some 47) _ = _
        simp only [Act.put, List.setIfInBounds_toArray, List.set_cons_zero, List.set_cons_succ, i64_w, i32_w]
        rfl
       refine one_ (i := 8) (N := some 48) #[true, true, true, true, true, true, true, true, true, false, false] rfl rfl (one_of HT_.out (by kernel_rfl)) (by decide) (fun K hK => ?_)
       refine goes_ Try.func29 (by kernel_rfl) rfl #[.slice Ao50 t453.length co50] (by rfl) rfl rfl (by (try simp only [List.map_toArray, List.map_cons, List.map_nil]); first | done | rfl | (simp only [List.length_drop, List.length_take]; rfl)) ?_
       with_reducible refine (poly_Trim.calls k1 _ _ t453 t456 _ ?side1 ?side2 A41.out).mono ?_
       (case side1 => repeat (first | exact (Kd.R_reads' HO455.out).2.2 | (with_reducible refine Kd.C_alloc ?_ _) | (with_reducible refine Kd.C_drewN ?_ _) | (with_reducible refine Kd.C_drew ?_)))
       (case side2 => exact (Kd.R_reads' HO455.out).2.1)
       rintro e w51 ⟨v457, rfl, ho0, hb⟩
       refine ⟨_, rfl, ?_⟩
       have n0_ := A_ (Kd.R_elder' (nR_ HO449) (Kd.R_base ho0) hb)
       have n1_ := A_ (Kd.R_elder' (nR_ HO452) (Kd.R_base ho0) hb)
       have n2_ := A_ (Kd.R_elder' (nR_ HO455) (Kd.R_base ho0) hb)
       have n3_ := A_ (Kd.R_lower (Kd.R_new' (Kd.R_new' (Kd.R_new' ho0 (Kd.R_lt (nR_ HO449))) (Kd.R_lt (nR_ HO452))) (Kd.R_lt (nR_ HO455))) (below_size hs_))
       have n4_ := A_ (blk_below (g := gb435) (o := .cells #[.int .u8 a0] 47 (0, 0)) (nb_ BK435) hb)
       have n5_ := A_ (blk_below (g := gb446) (o := .cells #[.int .i64 x447000_1] 3 (0, 0)) (nb_ BK446) hb)
       have n6_ := A_ (below_step hs_ hb)
       clear HO449
       clear HO452
       clear HO455
       clear BK435
       clear BK446
       clear HB
       have HO449 := n0_
       have HO452 := n1_
       have HO455 := n2_
       have HO458 := n3_
       have BK435 := n4_
       have BK446 := n5_
       have HB := n6_
       clear n0_ n1_ n2_ n3_ n4_ n5_ n6_
       (try clear hb)
       (try clear hb2)
       (try clear hk)
       (try clear hi)
       (try clear ho0)
       refine hK.out _ _ ((blk_cell BK435.out 0).trans rfl) (fun hHeld => ?_)
       clear hK K
       refine norm_ (a' := ?_) ?_ ?_
       rotate_left
       ·show Act.put _ (some 48) _ = _
        simp only [Act.put, List.setIfInBounds_toArray, List.set_cons_zero, List.set_cons_succ, i64_w, i32_w]
        rfl
       refine pure_ (i := 9) (N := some 6) (v := ?_) (a' := ?_) #[true, true, true, true, true, true, true, true, true, true, false] rfl rfl (any_of HT_.out (by kernel_rfl)) (fun _ _ _ h => h) (Or.inl ⟨by rfl, ?_⟩) ?_ ?_
       rotate_left
       ·intro w'
        go_simp
        with_reducible rfl
       rotate_left
       ·simp only [Act.put, List.setIfInBounds_toArray, List.set_cons_zero, List.set_cons_succ, i64_w, i32_w]
        rfl
       refine pure_ (i := 10) (N := some 7) (v := ?_) (a' := ?_) #[true, true, true, true, true, true, true, true, true, true, true] rfl rfl (any_of HT_.out (by kernel_rfl)) (fun _ _ _ h => h) (Or.inl ⟨by rfl, ?_⟩) ?_ ?_
       rotate_left
       ·intro w'
        go_simp
        with_reducible rfl
       rotate_left
       ·simp only [Act.put, List.setIfInBounds_toArray, List.set_cons_zero, List.set_cons_succ, i64_w, i32_w]
        rfl
       refine done_ (done_of HT_.out (by kernel_rfl)) ?_
       try go_wp2
       go_ret2
       exact ⟨_, by first | rfl | (simp [errW_none, errW_some] <;> rfl) | (simp only [← hji6]; first | rfl | (simp [errW_none, errW_some] <;> rfl)) | (simp [*, errW_none, errW_some] <;> rfl), by (with_reducible repeat (first | apply Kd.R_alloc | apply Kd.R_drewN | apply Kd.R_drew)); exact Kd.R_mono HO458.out (fun _ hk => trivial), hs_⟩
 ·rw [if_neg c5] at H
  have c5b0 : (t434 == 0) = false := beq_eq_false_iff_ne.mpr c5
  have c5b1 : (t434 != 0) = true := bne_iff_ne.mpr c5
  simp only [Option.some.injEq, Prod.mk.injEq] at H
  obtain ⟨rfl, rfl⟩ := H
  go_enter Try.func12, Try.ntmps12
  go_wp2_with (first | ((with_reducible refine gate_callee (f := 27) rfl ?_); refine goesM_ (some 19) Try.func27 #[.int .u8 a0, .slice A1 l1.length c1, .slice A2 l2.length c2] ?_; (with_reducible refine (fast_checked.calls k a0 (fun k_ => k_ < w.heap.size) _ _ l1 (fun k_ => k_ < w.heap.size) _ _ l2 t428 t431 t434 _ ?side1 ?side2 A4.out).mono ?_); (case side1 => exact Kd.V_mk HC1.out (Kd.F_below (Kd.C_F (Kd.heap_int .u64) HR1.out) hb_)); (case side2 => exact Kd.V_mk HC2.out (Kd.F_below (Kd.C_F (Kd.heap_int .u64) HR2.out) hb_)); rintro e w52 ⟨v429, v432, rfl, ho0, ho1, hb⟩; refine ⟨_, rfl, ?_⟩; have n0_ := A_ (Kd.R_lower (Kd.R_mono (ok' := fun k_ => some k_ ≠ (v432 : Value).ownBlock) ho0 (fun _ hk_ => hk_.2)) (below_size hb_)); have n1_ := A_ (Kd.R_lower (Kd.R_mono (ok' := fun k_ => some k_ ≠ (v429 : Value).ownBlock) ho1 (fun _ hk_ => hk_.2)) (below_size hb_)); have n2_ := A_ (below_step hb_ hb); clear HB; have HO430 := n0_; have HO433 := n1_; have HB := n2_; clear n0_ n1_ n2_; (try clear hb); (try clear ho0); (try clear ho1)))
  go_ret2
  exact ⟨_, fr_, by first | exact Kd.R_nil _ _ _ _ _ | exact Kd.N_nil _ _ _ _ _ | exact Kd.V_nil _ _ _ _ _ | exact Kd.Q_nil _ _ _ _ _ | exact Kd.S_nil _ _ _ _ _, hb_⟩
/-! ### cr1_Same: function 18 -/
def cr1_Same.l0 : Nat → List Int → List Int → Int → Option (Bool)
 | 0, _, _, _ => none
 | k + 1, x0, x1, x5 => if x5 < (x0.length : Int) then (if 0 ≤ x5 then (if x5 < (x1.length : Int) then (if (rd x0 x5) = (rd x1 x5) then (cr1_Same.l0 k x0 x1 (wrap64 (x5 + 1))) else (some false)) else (none)) else (none)) else (some true)
def cr1_Same.f (k : Nat) (l0 : List Int) (l1 : List Int) : Option (Bool) := if (l0.length : Int) = (l1.length : Int) then (cr1_Same.l0 k l0 l1 0) else (some false)
theorem cr1_Same.mono_l : ∀ k, (∀ y0 y1 y2, LeO (cr1_Same.l0 k y0 y1 y2) (cr1_Same.l0 (k + 1) y0 y1 y2))
 | 0 => fun _ _ _ r h => by simp [cr1_Same.l0] at h
 | k + 1 => by
  have ih0 := cr1_Same.mono_l k
  ·intro y0 y1 y2
   unfold cr1_Same.l0
   repeat' first
   | (with_reducible exact ih0 _ _ _)
   | (with_reducible exact LeO.refl _)
   | (with_reducible exact LeO.none _)
   | (with_reducible refine LeO.ite ?_ ?_)
   | (with_reducible refine LeO.bind ?_ (fun _ => ?_))
   | exact ih0 _ _ _
   | exact LeO.none _
   | refine LeO.ite ?_ ?_
   | refine LeO.bind ?_ (fun _ => ?_)
theorem cr1_Same.mono : ∀ a0 a1 k, LeO (cr1_Same.f k a0 a1) (cr1_Same.f (k + 1) a0 a1) := by
 intro a0 a1 k
 have ih0 := cr1_Same.mono_l k
 unfold cr1_Same.f
 repeat' first
   | (with_reducible exact ih0 _ _ _)
   | (with_reducible exact LeO.refl _)
   | (with_reducible exact LeO.none _)
   | (with_reducible refine LeO.ite ?_ ?_)
   | (with_reducible refine LeO.bind ?_ (fun _ => ?_))
   | exact ih0 _ _ _
   | exact LeO.none _
   | refine LeO.ite ?_ ?_
   | refine LeO.bind ?_ (fun _ => ?_)
set_option maxHeartbeats 8000000 in
set_option maxRecDepth 100000 in
theorem cr1_Same.calls (k : Nat) (A0 : Option Addr) (c0 : Nat) (l0 : List Int) (A1 : Option Addr) (c1 : Nat) (l1 : List Int) (r : Bool) (w : World) (hr0 : Kd.C (Kd.int .u64) w A0 l0.length l0) (hc0 : l0.length ≤ c0) (hr1 : Kd.C (Kd.int .u64) w A1 l1.length l1) (hc1 : l1.length ≤ c1) (h : cr1_Same.f k l0 l1 = some r) :
  Calls Try.prog 18 #[.slice A0 l0.length c0, .slice A1 l1.length c1] w fun e w' => e = .returned (.bool r) ∧ Drawn0 w w' := by
 have HR0 := Aside0.mk hr0
 have HC0 := Aside0.mk hc0
 clear hr0 hc0
 have HR1 := Aside0.mk hr1
 have HC1 := Aside0.mk hc1
 clear hr1 hc1
 have H : (if (l0.length : Int) = (l1.length : Int) then (cr1_Same.l0 k l0 l1 0) else (some false)) = some r := h
 clear h
 by_cases c3 : (l0.length : Int) = (l1.length : Int)
 ·rw [if_pos c3] at H
  have c3b0 : ((l0.length : Int) == (l1.length : Int)) = true := beq_iff_eq.mpr c3
  have c3b1 : ((l0.length : Int) != (l1.length : Int)) = false := bne_eq_false_iff_eq.mpr c3
  have c3b2 : (l0.length == l1.length) = true := by first | simpa using c3 | (simp at c3 ⊢; omega)
  clear c3
  have H' := Aside0.mk H
  clear H
  go_enter Try.func18, Try.ntmps18
  go_wp2
  repeat (go_quiet (fail); try go_wp2)
  go_loopg [5] k (fun kq v5 w' => ∃ (x5_1 : Int), v5 = .int .i64 x5_1 ∧ Aside0 (cr1_Same.l0 kq l0 l1 x5_1 = some r) ∧ Aside0 (kq ≤ k) ∧ Drawn0 w w')
  case atStart => exact ⟨(0), (fs_), H', ⟨Nat.le_refl _⟩, by repeat (first | exact Drawn0.refl _ | apply Drawn0.step)⟩
  case round =>
   clear H'
   try clear c1
   try clear p2
   try clear c3
   try clear c3b0
   try clear c3b1
   try clear c3b2
   obtain ⟨x5_1, rfl, HA, HK1, ⟨m1, rfl⟩⟩ := hrel
   cases gk with
   | zero => exact absurd HA.out (by simp [cr1_Same.l0])
   | succ k1 =>
    have H := HA.out
    clear HA
    simp only [cr1_Same.l0] at H
    by_cases c4 : x5_1 < (l0.length : Int)
    ·rw [if_pos c4] at H
     have c4b0 : decide (x5_1 < (l0.length : Int)) = true := decide_eq_true c4
     clear c4
     by_cases c5 : 0 ≤ x5_1
     ·rw [if_pos c5] at H
      have c5b0 : decide (0 ≤ x5_1) = true := decide_eq_true c5
      clear c5
      by_cases c6 : x5_1 < (l1.length : Int)
      ·rw [if_pos c6] at H
       have c6b0 : decide (x5_1 < (l1.length : Int)) = true := decide_eq_true c6
       clear c6
       by_cases c7 : (rd l0 x5_1) = (rd l1 x5_1)
       ·rw [if_pos c7] at H
        have c7b0 : ((rd l0 x5_1) == (rd l1 x5_1)) = true := beq_iff_eq.mpr c7
        have c7b1 : ((rd l0 x5_1) != (rd l1 x5_1)) = false := bne_eq_false_iff_eq.mpr c7
        clear c7
        have H' := Aside0.mk H
        clear H
        have p459 : 0 ≤ (x5_1 : Int) := of_decide_eq_true (by first | (with_reducible assumption) | assumption)
        have q459 : x5_1 < (l0.length : Int) := of_decide_eq_true (by first | (with_reducible assumption) | assumption)
        obtain ⟨ad459, e459, hx459_0⟩ := Kd.at_int HR0.out x5_1 p459 q459
        cases e459
        replace p459 := eq_true p459
        replace q459 := eq_true q459
        have p460 : 0 ≤ (x5_1 : Int) := of_decide_eq_true (by first | (with_reducible assumption) | assumption)
        have q460 : x5_1 < (l1.length : Int) := of_decide_eq_true (by first | (with_reducible assumption) | assumption)
        obtain ⟨ad460, e460, hx460_0⟩ := Kd.at_int HR1.out x5_1 p460 q460
        cases e460
        replace p460 := eq_true p460
        replace q460 := eq_true q460
        go_wp2
        repeat (go_quiet (fail); try go_wp2)
        go_roundg k1
        case measure => have := HK1.out; omega
        case rel => exact ⟨(wrap64 (x5_1 + 1)), (fs_), H', ⟨by have := HK1.out; omega⟩, by repeat (first | exact Drawn0.refl _ | apply Drawn0.step)⟩
       ·rw [if_neg c7] at H
        have c7b0 : ((rd l0 x5_1) == (rd l1 x5_1)) = false := beq_eq_false_iff_ne.mpr c7
        have c7b1 : ((rd l0 x5_1) != (rd l1 x5_1)) = true := bne_iff_ne.mpr c7
        obtain rfl := Option.some.inj H
        have p459 : 0 ≤ (x5_1 : Int) := of_decide_eq_true (by first | (with_reducible assumption) | assumption)
        have q459 : x5_1 < (l0.length : Int) := of_decide_eq_true (by first | (with_reducible assumption) | assumption)
        obtain ⟨ad459, e459, hx459_0⟩ := Kd.at_int HR0.out x5_1 p459 q459
        cases e459
        replace p459 := eq_true p459
        replace q459 := eq_true q459
        have p460 : 0 ≤ (x5_1 : Int) := of_decide_eq_true (by first | (with_reducible assumption) | assumption)
        have q460 : x5_1 < (l1.length : Int) := of_decide_eq_true (by first | (with_reducible assumption) | assumption)
        obtain ⟨ad460, e460, hx460_0⟩ := Kd.at_int HR1.out x5_1 p460 q460
        cases e460
        replace p460 := eq_true p460
        replace q460 := eq_true q460
        go_wp2
        repeat (go_quiet (fail); try go_wp2)
        go_ret
        exact ⟨fs_, by repeat (first | exact Drawn0.refl _ | apply Drawn0.step)⟩
      ·rw [if_neg c6] at H
       exact absurd H (by simp)
     ·rw [if_neg c5] at H
      exact absurd H (by simp)
    ·rw [if_neg c4] at H
     have c4b0 : decide (x5_1 < (l0.length : Int)) = false := decide_eq_false c4
     clear c4
     obtain rfl := Option.some.inj H
     go_wp2
     repeat (go_quiet (fail); try go_wp2)
     go_ret
     exact ⟨fs_, by repeat (first | exact Drawn0.refl _ | apply Drawn0.step)⟩
 ·rw [if_neg c3] at H
  have c3b0 : ((l0.length : Int) == (l1.length : Int)) = false := beq_eq_false_iff_ne.mpr c3
  have c3b1 : ((l0.length : Int) != (l1.length : Int)) = true := bne_iff_ne.mpr c3
  have c3b2 : (l0.length == l1.length) = false := by first | simpa using c3 | (simp at c3 ⊢; omega)
  obtain rfl := Option.some.inj H
  go_enter Try.func18, Try.ntmps18
  go_wp2
  repeat (go_quiet (fail); try go_wp2)
  go_ret
  exact ⟨fs_, by repeat (first | exact Drawn0.refl _ | apply Drawn0.step)⟩
/-! ### conclavelaw04_anchored: function 17 -/
def conclavelaw04_anchored.f (k : Nat)  : Option (Bool) := (fast_Mul.f k 2 (([1, 2] : List Int)) (([3, 4] : List Int))).bind fun bt467 => ((fast_Transform.f k 1 (([1, 2] : List Int))).bind fun bt474 => ((fast_Transform.f k 1 ([] : List Int)).bind fun bt478 => (if bt467.2 = 0 then (if bt474.2 = 0 then (if bt478.2 = 3 then ((cr1_Same.f k bt467.1 (([3, 10, 8] : List Int))).bind fun t485 => (if t485 = true then ((cr1_Same.f k bt474.1 (([3, 2013265920] : List Int))).bind fun t489 => (some t489)) else (none))) else (none)) else (none)) else (none))))
theorem conclavelaw04_anchored.mono : ∀ k, LeO (conclavelaw04_anchored.f k ) (conclavelaw04_anchored.f (k + 1) ) := by
 intro  k
 unfold conclavelaw04_anchored.f
 repeat' first
   | (with_reducible exact cr1_Same.mono _ _ _)
   | (with_reducible exact fast_Mul.mono _ _ _ _)
   | (with_reducible exact fast_Transform.mono _ _ _)
   | (with_reducible exact LeO.refl _)
   | (with_reducible exact LeO.none _)
   | (with_reducible refine LeO.ite ?_ ?_)
   | (with_reducible refine LeO.bind ?_ (fun _ => ?_))
   | exact cr1_Same.mono _ _ _
   | exact fast_Mul.mono _ _ _ _
   | exact fast_Transform.mono _ _ _
   | exact LeO.none _
   | refine LeO.ite ?_ ?_
   | refine LeO.bind ?_ (fun _ => ?_)
set_option maxHeartbeats 8000000 in
set_option maxRecDepth 100000 in
theorem conclavelaw04_anchored.calls (k : Nat)  (r : Bool) (w : World) (h : conclavelaw04_anchored.f k  = some r) :
  Calls Try.prog 17 #[] w fun e w' => e = .returned (.bool r) ∧ Below w.heap.size w w' := by
 have HB := A_ (Below.refl w.heap.size w)
 have H : ((fast_Mul.f k 2 (([1, 2] : List Int)) (([3, 4] : List Int))).bind fun bt467 => ((fast_Transform.f k 1 (([1, 2] : List Int))).bind fun bt474 => ((fast_Transform.f k 1 ([] : List Int)).bind fun bt478 => (if bt467.2 = 0 then (if bt474.2 = 0 then (if bt478.2 = 3 then ((cr1_Same.f k bt467.1 (([3, 10, 8] : List Int))).bind fun t485 => (if t485 = true then ((cr1_Same.f k bt474.1 (([3, 2013265920] : List Int))).bind fun t489 => (some t489)) else (none))) else (none)) else (none)) else (none))))) = some r := h
 clear h
 obtain ⟨y461, hy461⟩ : ∃ y_ : List Int, y_ = (([1, 2] : List Int)) := ⟨_, rfl⟩
 replace H : ((fast_Mul.f k 2 y461 (([3, 4] : List Int))).bind fun bt467 => ((fast_Transform.f k 1 (([1, 2] : List Int))).bind fun bt474 => ((fast_Transform.f k 1 ([] : List Int)).bind fun bt478 => (if bt467.2 = 0 then (if bt474.2 = 0 then (if bt478.2 = 3 then ((cr1_Same.f k bt467.1 (([3, 10, 8] : List Int))).bind fun t485 => (if t485 = true then ((cr1_Same.f k bt474.1 (([3, 2013265920] : List Int))).bind fun t489 => (some t489)) else (none))) else (none)) else (none)) else (none))))) = some r := by first | (rw [hy461]; with_reducible exact H) | (have H2_ := (Option.bind_some _ _).symm.trans H; rw [hy461]; with_reducible exact H2_) | (have H2_ := (Option.bind_some _ _).symm.trans H; with_reducible exact H2_) | with_reducible exact H | (rw [hy461]; exact H) | exact H
 have Ny461 := Aside0.mk hy461
 clear hy461
 obtain ⟨y464, hy464⟩ : ∃ y_ : List Int, y_ = (([3, 4] : List Int)) := ⟨_, rfl⟩
 replace H : ((fast_Mul.f k 2 y461 y464).bind fun bt467 => ((fast_Transform.f k 1 (([1, 2] : List Int))).bind fun bt474 => ((fast_Transform.f k 1 ([] : List Int)).bind fun bt478 => (if bt467.2 = 0 then (if bt474.2 = 0 then (if bt478.2 = 3 then ((cr1_Same.f k bt467.1 (([3, 10, 8] : List Int))).bind fun t485 => (if t485 = true then ((cr1_Same.f k bt474.1 (([3, 2013265920] : List Int))).bind fun t489 => (some t489)) else (none))) else (none)) else (none)) else (none))))) = some r := by first | (rw [hy464]; with_reducible exact H) | (have H2_ := (Option.bind_some _ _).symm.trans H; rw [hy464]; with_reducible exact H2_) | (have H2_ := (Option.bind_some _ _).symm.trans H; with_reducible exact H2_) | with_reducible exact H | (rw [hy464]; exact H) | exact H
 have Ny464 := Aside0.mk hy464
 clear hy464
 replace H := Option.bind_eq_some_iff.mp H
 obtain ⟨⟨t467, t468⟩, A10, H⟩ := H
 (try dsimp only at H)
 have A1 := Aside0.mk A10
 clear A10
 obtain ⟨y471, hy471⟩ : ∃ y_ : List Int, y_ = (([1, 2] : List Int)) := ⟨_, rfl⟩
 replace H : ((fast_Transform.f k 1 y471).bind fun bt474 => ((fast_Transform.f k 1 ([] : List Int)).bind fun bt478 => (if t468 = 0 then (if bt474.2 = 0 then (if bt478.2 = 3 then ((cr1_Same.f k t467 (([3, 10, 8] : List Int))).bind fun t485 => (if t485 = true then ((cr1_Same.f k bt474.1 (([3, 2013265920] : List Int))).bind fun t489 => (some t489)) else (none))) else (none)) else (none)) else (none)))) = some r := by first | (rw [hy471]; with_reducible exact H) | (have H2_ := (Option.bind_some _ _).symm.trans H; rw [hy471]; with_reducible exact H2_) | (have H2_ := (Option.bind_some _ _).symm.trans H; with_reducible exact H2_) | with_reducible exact H | (rw [hy471]; exact H) | exact H
 have Ny471 := Aside0.mk hy471
 clear hy471
 replace H := Option.bind_eq_some_iff.mp H
 obtain ⟨⟨t474, t477⟩, A20, H⟩ := H
 (try dsimp only at H)
 have A2 := Aside0.mk A20
 clear A20
 replace H := Option.bind_eq_some_iff.mp H
 obtain ⟨⟨t478, t481⟩, A30, H⟩ := H
 replace H : (if t468 = 0 then (if t477 = 0 then (if t481 = 3 then ((cr1_Same.f k t467 (([3, 10, 8] : List Int))).bind fun t485 => (if t485 = true then ((cr1_Same.f k t474 (([3, 2013265920] : List Int))).bind fun t489 => (some t489)) else (none))) else (none)) else (none)) else (none)) = some r := H
 have A3 := Aside0.mk A30
 clear A30
 by_cases c4 : t468 = 0
 ·rw [if_pos c4] at H
  have c4b0 : (t468 == 0) = true := beq_iff_eq.mpr c4
  have c4b1 : (t468 != 0) = false := bne_eq_false_iff_eq.mpr c4
  clear c4
  by_cases c5 : t477 = 0
  ·rw [if_pos c5] at H
   have c5b0 : (t477 == 0) = true := beq_iff_eq.mpr c5
   have c5b1 : (t477 != 0) = false := bne_eq_false_iff_eq.mpr c5
   clear c5
   by_cases c6 : t481 = 3
   ·rw [if_pos c6] at H
    have c6b0 : (t481 == 3) = true := beq_iff_eq.mpr c6
    have c6b1 : (t481 != 3) = false := bne_eq_false_iff_eq.mpr c6
    clear c6
    obtain ⟨y482, hy482⟩ : ∃ y_ : List Int, y_ = (([3, 10, 8] : List Int)) := ⟨_, rfl⟩
    replace H : ((cr1_Same.f k t467 y482).bind fun t485 => (if t485 = true then ((cr1_Same.f k t474 (([3, 2013265920] : List Int))).bind fun t489 => (some t489)) else (none))) = some r := by first | (rw [hy482]; with_reducible exact H) | (have H2_ := (Option.bind_some _ _).symm.trans H; rw [hy482]; with_reducible exact H2_) | (have H2_ := (Option.bind_some _ _).symm.trans H; with_reducible exact H2_) | with_reducible exact H | (rw [hy482]; exact H) | exact H
    have Ny482 := Aside0.mk hy482
    clear hy482
    replace H := Option.bind_eq_some_iff.mp H
    obtain ⟨t485, A70, H⟩ := H
    replace H : (if t485 = true then ((cr1_Same.f k t474 (([3, 2013265920] : List Int))).bind fun t489 => (some t489)) else (none)) = some r := H
    have A7 := Aside0.mk A70
    clear A70
    by_cases c8 : t485 = true
    ·subst c8
     have H1 : ((cr1_Same.f k t474 (([3, 2013265920] : List Int))).bind fun t489 => (some t489)) = some r := by rw [if_pos rfl] at H; exact H
     clear H
     have H := H1
     clear H1
     obtain ⟨y486, hy486⟩ : ∃ y_ : List Int, y_ = (([3, 2013265920] : List Int)) := ⟨_, rfl⟩
     replace H : ((cr1_Same.f k t474 y486).bind fun t489 => (some t489)) = some r := by first | (rw [hy486]; with_reducible exact H) | (have H2_ := (Option.bind_some _ _).symm.trans H; rw [hy486]; with_reducible exact H2_) | (have H2_ := (Option.bind_some _ _).symm.trans H; with_reducible exact H2_) | with_reducible exact H | (rw [hy486]; exact H) | exact H
     have Ny486 := Aside0.mk hy486
     clear hy486
     replace H := Option.bind_eq_some_iff.mp H
     obtain ⟨t489, A90, H⟩ := H
     replace H : (some t489) = some r := H
     have A9 := Aside0.mk A90
     clear A90
     obtain rfl := Option.some.inj H
     go_enter Try.func17, Try.ntmps17
     go_wp2_with (first | ((with_reducible refine gate_dst (N := 8) rfl ?_); (try (refine gate_guard (by rfl) ?_; dsimp only)); refine Kd.R_lit (Kd.int .u64) _ 33 ?hg (N := 8) ?hd (xs := ([1, 2] : List Int)) (inner := [.int .u64 1, .int .u64 2]) (ok := fun _ => True) (okp := fun _ => True) ?hr ?hp (fun _ hk => hk) trivial (Below.refl _ _) (Nat.le_refl _) (by simp) ?_; (case hd => rfl); (case hg => rfl); (case hr => first | (go_simp; done) | (go_simp; rfl)); (case hp => exact (Reps.one (show Kd.M (Kd.int .u64) _ _ _ 1 [.int .u64 1] from rfl) (Reps.one (show Kd.M (Kd.int .u64) _ _ _ 2 [.int .u64 2] from rfl) (Reps.none _ _)))); intro v462 w10 ho11 hb hg_ hnew_; clear hg_ hnew_; (first | rw [← Ny461.out] at ho11 | (simp only [Int.reduceToNat] at ho11; rw [← Ny461.out] at ho11)); have n0_ := A_ (Kd.R_lower ho11 (below_size hb_)); have n1_ := A_ (below_step hb_ hb); clear HB; have HO463 := n0_; have HB := n1_; clear n0_ n1_; clear hb ho11) | ((with_reducible refine gate_dst (N := 9) rfl ?_); (try (refine gate_guard (by rfl) ?_; dsimp only)); refine Kd.R_lit (Kd.int .u64) _ 33 ?hg (N := 9) ?hd (xs := ([3, 4] : List Int)) (inner := [.int .u64 3, .int .u64 4]) (ok := fun _ => True) (okp := fun _ => True) ?hr ?hp (fun _ hk => hk) trivial (Below.refl _ _) (Nat.le_refl _) (by simp) ?_; (case hd => rfl); (case hg => rfl); (case hr => first | (go_simp; done) | (go_simp; rfl)); (case hp => exact (Reps.one (show Kd.M (Kd.int .u64) _ _ _ 3 [.int .u64 3] from rfl) (Reps.one (show Kd.M (Kd.int .u64) _ _ _ 4 [.int .u64 4] from rfl) (Reps.none _ _)))); intro v465 w12 ho13 hb hg_ hnew_; clear hg_ hnew_; (first | rw [← Ny464.out] at ho13 | (simp only [Int.reduceToNat] at ho13; rw [← Ny464.out] at ho13)); have n0_ := A_ (Kd.R_elder' (nR_ HO463) (Kd.R_base ho13) hb); have n1_ := A_ (Kd.R_lower (Kd.R_new' ho13 (Kd.R_lt (nR_ HO463))) (below_size hb_)); have n2_ := A_ (below_step hb_ hb); clear HO463 HB; have HO463 := n0_; have HO466 := n1_; have HB := n2_; clear n0_ n1_ n2_; clear hb ho13; obtain ⟨Ao14, co14, eo14⟩ := Kd.R_slice HO463.out; subst eo14; obtain ⟨Ao15, co15, eo15⟩ := Kd.R_slice HO466.out; subst eo15) | ((with_reducible refine gate_callee (f := 12) rfl ?_); refine goesM_ (some 10) Try.func12 #[.int .u8 2, .slice Ao14 y461.length co14, .slice Ao15 y464.length co15] ?_; (with_reducible refine (fast_Mul.calls k 2 _ _ y461 _ _ y464 t467 t468 _ ?side1 ?side2 ?side3 ?side4 A1.out).mono ?_); (case side1 => repeat (first | exact (Kd.R_reads' HO463.out).2.2 | (with_reducible refine Kd.C_alloc ?_ _) | (with_reducible refine Kd.C_drewN ?_ _) | (with_reducible refine Kd.C_drew ?_))); (case side2 => exact (Kd.R_reads' HO463.out).2.1); (case side3 => repeat (first | exact (Kd.R_reads' HO466.out).2.2 | (with_reducible refine Kd.C_alloc ?_ _) | (with_reducible refine Kd.C_drewN ?_ _) | (with_reducible refine Kd.C_drew ?_))); (case side4 => exact (Kd.R_reads' HO466.out).2.1); rintro e w16 ⟨v469, rfl, ho0, hb⟩; refine ⟨_, rfl, ?_⟩; have n0_ := A_ (Kd.R_elder' (nR_ HO463) (Kd.R_base ho0) hb); have n1_ := A_ (Kd.R_elder' (nR_ HO466) (Kd.R_base ho0) hb); have n2_ := A_ (Kd.R_lower (Kd.R_new' (Kd.R_new' ho0 (Kd.R_lt (nR_ HO463))) (Kd.R_lt (nR_ HO466))) (below_size hb_)); have n3_ := A_ (below_step hb_ hb); clear HO463 HO466 HB; have HO463 := n0_; have HO466 := n1_; have HO470 := n2_; have HB := n3_; clear n0_ n1_ n2_ n3_; (try clear hb); (try clear ho0)) | ((with_reducible refine gate_dst (N := 14) rfl ?_); (try (refine gate_guard (by rfl) ?_; dsimp only)); refine Kd.R_lit (Kd.int .u64) _ 33 ?hg (N := 14) ?hd (xs := ([1, 2] : List Int)) (inner := [.int .u64 1, .int .u64 2]) (ok := fun _ => True) (okp := fun _ => True) ?hr ?hp (fun _ hk => hk) trivial (Below.refl _ _) (Nat.le_refl _) (by simp) ?_; (case hd => rfl); (case hg => rfl); (case hr => first | (go_simp; done) | (go_simp; rfl)); (case hp => exact (Reps.one (show Kd.M (Kd.int .u64) _ _ _ 1 [.int .u64 1] from rfl) (Reps.one (show Kd.M (Kd.int .u64) _ _ _ 2 [.int .u64 2] from rfl) (Reps.none _ _)))); intro v472 w17 ho18 hb hg_ hnew_; clear hg_ hnew_; (first | rw [← Ny471.out] at ho18 | (simp only [Int.reduceToNat] at ho18; rw [← Ny471.out] at ho18)); have n0_ := A_ (Kd.R_elder' (nR_ HO463) (Kd.R_base ho18) hb); have n1_ := A_ (Kd.R_elder' (nR_ HO466) (Kd.R_base ho18) hb); have n2_ := A_ (Kd.R_elder' (nR_ HO470) (Kd.R_base ho18) hb); have n3_ := A_ (Kd.R_lower (Kd.R_new' (Kd.R_new' (Kd.R_new' ho18 (Kd.R_lt (nR_ HO463))) (Kd.R_lt (nR_ HO466))) (Kd.R_lt (nR_ HO470))) (below_size hb_)); have n4_ := A_ (below_step hb_ hb); clear HO463 HO466 HO470 HB; have HO463 := n0_; have HO466 := n1_; have HO470 := n2_; have HO473 := n3_; have HB := n4_; clear n0_ n1_ n2_ n3_ n4_; clear hb ho18; obtain ⟨Ao19, co19, eo19⟩ := Kd.R_slice HO473.out; subst eo19) | ((with_reducible refine gate_callee (f := 10) rfl ?_); refine goesM_ (some 15) Try.func10 #[.int .u8 1, .slice Ao19 y471.length co19] ?_; (with_reducible refine (fast_Transform.calls k 1 (fun k_ => some k_ = (.slice Ao19 y471.length co19 : Value).ownBlock) _ _ y471 t474 t477 _ ?side1 A2.out).mono ?_); (case side1 => exact Kd.R_V (Kd.R_tight rfl (HO473.out))); rintro e w20 ⟨v475, rfl, ho0, hb⟩; refine ⟨_, rfl, ?_⟩; have n0_ := A_ (Kd.R_elder' (nR_ HO463) (Kd.R_base ho0) hb); have n1_ := A_ (Kd.R_elder' (nR_ HO466) (Kd.R_base ho0) hb); have n2_ := A_ (Kd.R_elder' (nR_ HO470) (Kd.R_base ho0) hb); have n3_ := A_ (Kd.R_elder' (nR_ HO473) (Kd.R_base ho0) hb); have n4_ := A_ (Kd.R_lower (Kd.R_new' (Kd.R_new' (Kd.R_new' (Kd.R_new' (Kd.R_mono (ok' := fun k_ => True) ho0 (fun _ hk_ => trivial)) (Kd.R_lt (nR_ HO463))) (Kd.R_lt (nR_ HO466))) (Kd.R_lt (nR_ HO470))) (Kd.R_lt (nR_ HO473))) (below_size hb_)); have n5_ := A_ (below_step hb_ hb); clear HO463 HO466 HO470 HO473 HB; have HO463 := n0_; have HO466 := n1_; have HO470 := n2_; have HO473 := n3_; have HO476 := n4_; have HB := n5_; clear n0_ n1_ n2_ n3_ n4_ n5_; (try clear hb); (try clear ho0)) | ((with_reducible refine gate_callee (f := 10) rfl ?_); refine goesM_ (some 19) Try.func10 #[.int .u8 1, .slice none 0 0] ?_; (refine (fast_Transform.calls k 1 (fun k_ => False) _ _ ([] : List Int) t478 t481 _ ?side1 A3.out).mono ?_); (case side1 => exact Kd.V_nil _ _ _ _ _); rintro e w21 ⟨v479, rfl, ho0, hb⟩; refine ⟨_, rfl, ?_⟩; have n0_ := A_ (Kd.R_elder' (nR_ HO463) (Kd.R_base ho0) hb); have n1_ := A_ (Kd.R_elder' (nR_ HO466) (Kd.R_base ho0) hb); have n2_ := A_ (Kd.R_elder' (nR_ HO470) (Kd.R_base ho0) hb); have n3_ := A_ (Kd.R_elder' (nR_ HO473) (Kd.R_base ho0) hb); have n4_ := A_ (Kd.R_elder' (nR_ HO476) (Kd.R_base ho0) hb); have n5_ := A_ (Kd.R_lower (Kd.R_new' (Kd.R_new' (Kd.R_new' (Kd.R_new' (Kd.R_new' (Kd.R_mono (ok' := fun k_ => True) ho0 (fun _ hk_ => trivial)) (Kd.R_lt (nR_ HO463))) (Kd.R_lt (nR_ HO466))) (Kd.R_lt (nR_ HO470))) (Kd.R_lt (nR_ HO473))) (Kd.R_lt (nR_ HO476))) (below_size hb_)); have n6_ := A_ (below_step hb_ hb); clear HO463 HO466 HO470 HO473 HO476 HB; have HO463 := n0_; have HO466 := n1_; have HO470 := n2_; have HO473 := n3_; have HO476 := n4_; have HO480 := n5_; have HB := n6_; clear n0_ n1_ n2_ n3_ n4_ n5_ n6_; (try clear hb); (try clear ho0)) | ((with_reducible refine gate_dst (N := 34) rfl ?_); (try (refine gate_guard (by rfl) ?_; dsimp only)); refine Kd.R_lit (Kd.int .u64) _ 33 ?hg (N := 34) ?hd (xs := ([3, 10, 8] : List Int)) (inner := [.int .u64 3, .int .u64 10, .int .u64 8]) (ok := fun _ => True) (okp := fun _ => True) ?hr ?hp (fun _ hk => hk) trivial (Below.refl _ _) (Nat.le_refl _) (by simp) ?_; (case hd => rfl); (case hg => rfl); (case hr => first | (go_simp; done) | (go_simp; rfl)); (case hp => exact (Reps.one (show Kd.M (Kd.int .u64) _ _ _ 3 [.int .u64 3] from rfl) (Reps.one (show Kd.M (Kd.int .u64) _ _ _ 10 [.int .u64 10] from rfl) (Reps.one (show Kd.M (Kd.int .u64) _ _ _ 8 [.int .u64 8] from rfl) (Reps.none _ _))))); intro v483 w22 ho23 hb hg_ hnew_; clear hg_ hnew_; (first | rw [← Ny482.out] at ho23 | (simp only [Int.reduceToNat] at ho23; rw [← Ny482.out] at ho23)); have n0_ := A_ (Kd.R_elder' (nR_ HO463) (Kd.R_base ho23) hb); have n1_ := A_ (Kd.R_elder' (nR_ HO466) (Kd.R_base ho23) hb); have n2_ := A_ (Kd.R_elder' (nR_ HO470) (Kd.R_base ho23) hb); have n3_ := A_ (Kd.R_elder' (nR_ HO473) (Kd.R_base ho23) hb); have n4_ := A_ (Kd.R_elder' (nR_ HO476) (Kd.R_base ho23) hb); have n5_ := A_ (Kd.R_elder' (nR_ HO480) (Kd.R_base ho23) hb); have n6_ := A_ (Kd.R_lower (Kd.R_new' (Kd.R_new' (Kd.R_new' (Kd.R_new' (Kd.R_new' (Kd.R_new' ho23 (Kd.R_lt (nR_ HO463))) (Kd.R_lt (nR_ HO466))) (Kd.R_lt (nR_ HO470))) (Kd.R_lt (nR_ HO473))) (Kd.R_lt (nR_ HO476))) (Kd.R_lt (nR_ HO480))) (below_size hb_)); have n7_ := A_ (below_step hb_ hb); clear HO463 HO466 HO470 HO473 HO476 HO480 HB; have HO463 := n0_; have HO466 := n1_; have HO470 := n2_; have HO473 := n3_; have HO476 := n4_; have HO480 := n5_; have HO484 := n6_; have HB := n7_; clear n0_ n1_ n2_ n3_ n4_ n5_ n6_ n7_; clear hb ho23; obtain ⟨Ao24, co24, eo24⟩ := Kd.R_slice HO470.out; subst eo24; obtain ⟨Ao25, co25, eo25⟩ := Kd.R_slice HO484.out; subst eo25) | (go_at_call 18; (with_reducible refine (cr1_Same.calls k _ _ t467 _ _ y482 true _ ?side1 ?side2 ?side3 ?side4 A7.out).mono ?_); (case side1 => repeat (first | exact (Kd.R_reads' HO470.out).2.2 | (with_reducible refine Kd.C_alloc ?_ _) | (with_reducible refine Kd.C_drewN ?_ _) | (with_reducible refine Kd.C_drew ?_))); (case side2 => exact (Kd.R_reads' HO470.out).2.1); (case side3 => repeat (first | exact (Kd.R_reads' HO484.out).2.2 | (with_reducible refine Kd.C_alloc ?_ _) | (with_reducible refine Kd.C_drewN ?_ _) | (with_reducible refine Kd.C_drew ?_))); (case side4 => exact (Kd.R_reads' HO484.out).2.1); rintro e w' ⟨rfl, ⟨nd, rfl⟩⟩) | ((with_reducible refine gate_dst (N := 39) rfl ?_); (try (refine gate_guard (by rfl) ?_; dsimp only)); refine Kd.R_lit (Kd.int .u64) _ 33 ?hg (N := 39) ?hd (xs := ([3, 2013265920] : List Int)) (inner := [.int .u64 3, .int .u64 2013265920]) (ok := fun _ => True) (okp := fun _ => True) ?hr ?hp (fun _ hk => hk) trivial (Below.refl _ _) (Nat.le_refl _) (by simp) ?_; (case hd => rfl); (case hg => rfl); (case hr => first | (go_simp; done) | (go_simp; rfl)); (case hp => exact (Reps.one (show Kd.M (Kd.int .u64) _ _ _ 3 [.int .u64 3] from rfl) (Reps.one (show Kd.M (Kd.int .u64) _ _ _ 2013265920 [.int .u64 2013265920] from rfl) (Reps.none _ _)))); intro v487 w26 ho27 hb hg_ hnew_; clear hg_ hnew_; (first | rw [← Ny486.out] at ho27 | (simp only [Int.reduceToNat] at ho27; rw [← Ny486.out] at ho27)); have n0_ := A_ (Kd.R_elder' (nR_ HO463) (Kd.R_base ho27) hb); have n1_ := A_ (Kd.R_elder' (nR_ HO466) (Kd.R_base ho27) hb); have n2_ := A_ (Kd.R_elder' (nR_ HO470) (Kd.R_base ho27) hb); have n3_ := A_ (Kd.R_elder' (nR_ HO473) (Kd.R_base ho27) hb); have n4_ := A_ (Kd.R_elder' (nR_ HO476) (Kd.R_base ho27) hb); have n5_ := A_ (Kd.R_elder' (nR_ HO480) (Kd.R_base ho27) hb); have n6_ := A_ (Kd.R_elder' (nR_ HO484) (Kd.R_base ho27) hb); have n7_ := A_ (Kd.R_lower (Kd.R_new' (Kd.R_new' (Kd.R_new' (Kd.R_new' (Kd.R_new' (Kd.R_new' (Kd.R_new' ho27 (Kd.R_lt (nR_ HO463))) (Kd.R_lt (nR_ HO466))) (Kd.R_lt (nR_ HO470))) (Kd.R_lt (nR_ HO473))) (Kd.R_lt (nR_ HO476))) (Kd.R_lt (nR_ HO480))) (Kd.R_lt (nR_ HO484))) (below_size hb_)); have n8_ := A_ (below_step hb_ hb); clear HO463 HO466 HO470 HO473 HO476 HO480 HO484 HB; have HO463 := n0_; have HO466 := n1_; have HO470 := n2_; have HO473 := n3_; have HO476 := n4_; have HO480 := n5_; have HO484 := n6_; have HO488 := n7_; have HB := n8_; clear n0_ n1_ n2_ n3_ n4_ n5_ n6_ n7_ n8_; clear hb ho27; obtain ⟨Ao28, co28, eo28⟩ := Kd.R_slice HO476.out; subst eo28; obtain ⟨Ao29, co29, eo29⟩ := Kd.R_slice HO488.out; subst eo29) | (go_at_call 18; (with_reducible refine (cr1_Same.calls k _ _ t474 _ _ y486 t489 _ ?side1 ?side2 ?side3 ?side4 A9.out).mono ?_); (case side1 => repeat (first | exact (Kd.R_reads' HO476.out).2.2 | (with_reducible refine Kd.C_alloc ?_ _) | (with_reducible refine Kd.C_drewN ?_ _) | (with_reducible refine Kd.C_drew ?_))); (case side2 => exact (Kd.R_reads' HO476.out).2.1); (case side3 => repeat (first | exact (Kd.R_reads' HO488.out).2.2 | (with_reducible refine Kd.C_alloc ?_ _) | (with_reducible refine Kd.C_drewN ?_ _) | (with_reducible refine Kd.C_drew ?_))); (case side4 => exact (Kd.R_reads' HO488.out).2.1); rintro e w' ⟨rfl, ⟨nd, rfl⟩⟩))
     go_ret
     exact ⟨fr_, hb_⟩
    ·replace c8 := Bool.eq_false_iff.mpr c8
     subst c8
     have H1 : (none) = some r := by rw [if_neg (show ¬ (false = true) by decide)] at H; exact H
     clear H
     have H := H1
     clear H1
     exact absurd H (by simp)
   ·rw [if_neg c6] at H
    exact absurd H (by simp)
  ·rw [if_neg c5] at H
   exact absurd H (by simp)
 ·rw [if_neg c4] at H
  exact absurd H (by simp)
end Go.Proofs.Ytaegmhniepfdaaa.PFastPowers
