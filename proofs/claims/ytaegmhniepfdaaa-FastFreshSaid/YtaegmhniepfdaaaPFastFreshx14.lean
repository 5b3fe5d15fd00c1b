/- The Go functions as Lean functions, each with the proof that its call comes to just that; written by a program of this session, by the words of the print. -/
import Derived.Test.YtaegmhniepfdaaaPFastFreshx0
import Derived.Test.YtaegmhniepfdaaaPFastFreshx4
import Derived.Test.YtaegmhniepfdaaaPFastFreshx9
import Derived.Test.YtaegmhniepfdaaaPFastFreshx10
import Derived.Test.YtaegmhniepfdaaaPFastFreshx12
import Derived.Test.YtaegmhniepfdaaaPFastFreshx13
namespace Go.Proofs.Ytaegmhniepfdaaa.PFastFresh
open Go.RowKit Go.Proofs.YtaegmhniepfdaaaW.PrintWords Go.Proofs.YtaegmhniepfdaaaW.PrintLast Go.Proofs.YtaegmhniepfdaaaW.PrintMore
attribute [local go_sem] max2_int min2_int max_two min_two max_three min_three max_four min_four   -- for this text's walks alone
set_option linter.unusedVariables false
set_option linter.unusedSimpArgs false
/-! ### fast_Mul: function 12 -/
def fast_Mul.l0 : Nat → List Int → List Int → Int → Int → Int → Option (List Int × Int)
 | 0, _, _, _, _, _ => none
 | k + 1, x8, x9, x12, x455000, x466000 => if x466000 < x12 then (fast_Mul.l0 k x8 x9 x12 x455000 (wrap64 (x466000 * 2))) else ((fast_Mul_1.f x8 x466000).bind fun t466 => ((fast_Mul_1.f x9 x466000).bind fun t469 => ((fast_reckoner_round.f k x455000 t466 t469).bind fun t472 => ((poly_Trim.f k t472).bind fun t475 => (some (t475, 0))))))
def fast_Mul.f (k : Nat) (a0 : Int) (l1 : List Int) (l2 : List Int) : Option (List Int × Int) := (fast_checked.f k a0 l1 l2).bind fun bt447 => (if bt447.2.2 = 0 then (if (mn (bt447.1.length : Int) (bt447.2.1.length : Int)) ≤ 16 then ((poly_Mul.f k a0 bt447.1 bt447.2.1).bind fun bt455 => (some (bt455.1, bt455.2))) else (if (wrap64 ((wrap64 ((bt447.1.length : Int) + (bt447.2.1.length : Int))) - 1)) ≤ 64 then ((fast_reckoner_halves.f k a0 bt447.1 bt447.2.1).bind fun t459 => ((poly_Trim.f k t459).bind fun t462 => (some (t462, 0)))) else (fast_Mul.l0 k bt447.1 bt447.2.1 (wrap64 ((wrap64 ((bt447.1.length : Int) + (bt447.2.1.length : Int))) - 1)) a0 1))) else (some (([] : List Int), bt447.2.2)))
theorem fast_Mul.mono_l : ∀ k, (∀ y0 y1 y2 y3 y4, LeO (fast_Mul.l0 k y0 y1 y2 y3 y4) (fast_Mul.l0 (k + 1) y0 y1 y2 y3 y4))
 | 0 => fun _ _ _ _ _ r h => by simp [fast_Mul.l0] at h
 | k + 1 => by
  have ih0 := fast_Mul.mono_l k
  ·intro y0 y1 y2 y3 y4
   unfold fast_Mul.l0
   repeat' first
   | (with_reducible exact ih0 _ _ _ _ _)
   | (with_reducible exact fast_checked.mono _ _ _ _)
   | (with_reducible exact fast_reckoner_halves.mono _ _ _ _)
   | (with_reducible exact fast_reckoner_round.mono _ _ _ _)
   | (with_reducible exact poly_Mul.mono _ _ _ _)
   | (with_reducible exact poly_Trim.mono _ _)
   | (with_reducible exact LeO.refl _)
   | (with_reducible exact LeO.none _)
   | (with_reducible refine LeO.ite ?_ ?_)
   | (with_reducible refine LeO.bind ?_ (fun _ => ?_))
   | exact ih0 _ _ _ _ _
   | exact fast_checked.mono _ _ _ _
   | exact fast_reckoner_halves.mono _ _ _ _
   | exact fast_reckoner_round.mono _ _ _ _
   | exact poly_Mul.mono _ _ _ _
   | exact poly_Trim.mono _ _
   | exact LeO.none _
   | refine LeO.ite ?_ ?_
   | refine LeO.bind ?_ (fun _ => ?_)
theorem fast_Mul.mono : ∀ a0 a1 a2 k, LeO (fast_Mul.f k a0 a1 a2) (fast_Mul.f (k + 1) a0 a1 a2) := by
 intro a0 a1 a2 k
 have ih0 := fast_Mul.mono_l k
 unfold fast_Mul.f
 repeat' first
   | (with_reducible exact ih0 _ _ _ _ _)
   | (with_reducible exact fast_checked.mono _ _ _ _)
   | (with_reducible exact fast_reckoner_halves.mono _ _ _ _)
   | (with_reducible exact fast_reckoner_round.mono _ _ _ _)
   | (with_reducible exact poly_Mul.mono _ _ _ _)
   | (with_reducible exact poly_Trim.mono _ _)
   | (with_reducible exact LeO.refl _)
   | (with_reducible exact LeO.none _)
   | (with_reducible refine LeO.ite ?_ ?_)
   | (with_reducible refine LeO.bind ?_ (fun _ => ?_))
   | exact ih0 _ _ _ _ _
   | exact fast_checked.mono _ _ _ _
   | exact fast_reckoner_halves.mono _ _ _ _
   | exact fast_reckoner_round.mono _ _ _ _
   | exact poly_Mul.mono _ _ _ _
   | exact poly_Trim.mono _ _
   | exact LeO.none _
   | refine LeO.ite ?_ ?_
   | refine LeO.bind ?_ (fun _ => ?_)
def fast_Mul.T10 : Bool × List (List Nat × List Nat) := (true, [([], []), ([], []), ([], []), ([1, 2], [1, 2]), ([], []), ([], []), ([4, 5, 3], [4, 5]), ([0, 3, 6, 6], [0, 3, 6]), ([7, 7], [7]), ([8, 8, 0, 1, 2, 3, 4, 5, 6, 7, 8], [8]), ([9, 0, 1, 2, 3, 4, 5, 6, 7, 8, 9], [])])
def fast_Mul.B10 : List Nat := [0, 0, 0, 6, 0, 0, 62, 127, 255, 511, 1023]
theorem fast_Mul.tab10 : rtab .any (opsOf Try.f12 10) = fast_Mul.T10 := by kernel_rfl
theorem fast_Mul.bits10 : waitsOk fast_Mul.T10.2 fast_Mul.B10 = true := by kernel_rfl
set_option maxHeartbeats 8000000 in
set_option maxRecDepth 100000 in
theorem fast_Mul.calls (k : Nat) (a0 : Int) (A1 : Option Addr) (c1 : Nat) (l1 : List Int) (A2 : Option Addr) (c2 : Nat) (l2 : List Int) (r1 : List Int) (r2 : Int) (w : World) (hr1 : Kd.C (Kd.int .u64) w A1 l1.length l1) (hc1 : l1.length ≤ c1) (hr2 : Kd.C (Kd.int .u64) w A2 l2.length l2) (hc2 : l2.length ≤ c2) (h : fast_Mul.f k a0 l1 l2 = some (r1, r2)) :
  Calls Try.prog 12 #[.int .u8 a0, .slice A1 l1.length c1, .slice A2 l2.length c2] w fun e w' => ∃ v0_ : Value, e = .returned (.tuple #[v0_, .int .i64 r2]) ∧ Kd.R (Kd.int .u64) 33 w' w.heap.size (fun _ => True) v0_ r1 ∧ Below w.heap.size w w' := by
 have hu47 := Try.underlying47
 have HR1 := Aside0.mk hr1
 have HC1 := Aside0.mk hc1
 clear hr1 hc1
 have HR2 := Aside0.mk hr2
 have HC2 := Aside0.mk hc2
 clear hr2 hc2
 have HB := A_ (Below.refl w.heap.size w)
 have H : ((fast_checked.f k a0 l1 l2).bind fun bt447 => (if bt447.2.2 = 0 then (if (mn (bt447.1.length : Int) (bt447.2.1.length : Int)) ≤ 16 then ((poly_Mul.f k a0 bt447.1 bt447.2.1).bind fun bt455 => (some (bt455.1, bt455.2))) else (if (wrap64 ((wrap64 ((bt447.1.length : Int) + (bt447.2.1.length : Int))) - 1)) ≤ 64 then ((fast_reckoner_halves.f k a0 bt447.1 bt447.2.1).bind fun t459 => ((poly_Trim.f k t459).bind fun t462 => (some (t462, 0)))) else (fast_Mul.l0 k bt447.1 bt447.2.1 (wrap64 ((wrap64 ((bt447.1.length : Int) + (bt447.2.1.length : Int))) - 1)) a0 1))) else (some (([] : List Int), bt447.2.2)))) = some (r1, r2) := h
 clear h
 replace H := Option.bind_eq_some_iff.mp H
 obtain ⟨⟨t447, t450, t453⟩, A40, H⟩ := H
 (try dsimp only at H)
 have A4 := Aside0.mk A40
 clear A40
 by_cases c5 : t453 = 0
 ·rw [if_pos c5] at H
  have c5b0 : (t453 == 0) = true := beq_iff_eq.mpr c5
  have c5b1 : (t453 != 0) = false := bne_eq_false_iff_eq.mpr c5
  clear c5
  obtain ⟨ji6, hji6⟩ : ∃ j_ : Int, (mn (t447.length : Int) (t450.length : Int)) = j_ := ⟨_, rfl⟩
  replace H : (if (ji6) ≤ 16 then ((poly_Mul.f k a0 t447 t450).bind fun bt455 => (some (bt455.1, bt455.2))) else (if (wrap64 ((wrap64 ((t447.length : Int) + (t450.length : Int))) - 1)) ≤ 64 then ((fast_reckoner_halves.f k a0 t447 t450).bind fun t459 => ((poly_Trim.f k t459).bind fun t462 => (some (t462, 0)))) else (fast_Mul.l0 k t447 t450 (wrap64 ((wrap64 ((t447.length : Int) + (t450.length : Int))) - 1)) a0 1))) = some (r1, r2) := by first | (rw [hji6] at H; exact H) | (simp only [hji6] at H ⊢; exact H)
  (try rw [hji6] at A4)
  (try (have hji6l : 0 ≤ ji6 := by (rw [← hji6]; unfold mn; (repeat' split) <;> omega)))
  (try (have hji6m : 0 ≤ ji6 := by omega))
  have hji6N : (if t450.length < t447.length then (t450.length : Int) else (t447.length : Int)) = ji6 := by have h_ := hji6; unfold mn at h_; simp only [Int.ofNat_lt] at h_; exact h_
  have hji6_ : (if (t450.length : Int) < (t447.length : Int) then (t450.length : Int) else (t447.length : Int)) = ji6 := hji6
  by_cases c7 : (ji6) ≤ 16
  ·rw [if_pos c7] at H
   have c7b0 : decide ((ji6) ≤ 16) = true := decide_eq_true c7
   clear c7
   replace H := Option.bind_eq_some_iff.mp H
   obtain ⟨⟨t455, t458⟩, A80, H⟩ := H
   replace H : (some (t455, t458)) = some (r1, r2) := H
   have A8 := Aside0.mk A80
   clear A80
   simp only [Option.some.injEq, Prod.mk.injEq] at H
   obtain ⟨rfl, rfl⟩ := H
   go_enter Try.func12, Try.ntmps12
   go_wp2_with (first | ((with_reducible refine gate_callee (f := 27) rfl ?_); refine goesM_ (some 19) Try.func27 #[.int .u8 a0, .slice A1 l1.length c1, .slice A2 l2.length c2] ?_; (with_reducible refine (fast_checked.calls k a0 (fun k_ => k_ < w.heap.size) _ _ l1 (fun k_ => k_ < w.heap.size) _ _ l2 t447 t450 t453 _ ?side1 ?side2 A4.out).mono ?_); (case side1 => exact Kd.V_mk HC1.out (Kd.F_below (Kd.C_F (Kd.heap_int .u64) HR1.out) hb_)); (case side2 => exact Kd.V_mk HC2.out (Kd.F_below (Kd.C_F (Kd.heap_int .u64) HR2.out) hb_)); rintro e w9 ⟨v448, v451, rfl, ho0, ho1, hb⟩; refine ⟨_, rfl, ?_⟩; have n0_ := A_ (Kd.R_lower (Kd.R_mono (ok' := fun k_ => some k_ ≠ (v451 : Value).ownBlock) ho0 (fun _ hk_ => hk_.2)) (below_size hb_)); have n1_ := A_ (Kd.R_lower (Kd.R_mono (ok' := fun k_ => some k_ ≠ (v448 : Value).ownBlock) ho1 (fun _ hk_ => hk_.2)) (below_size hb_)); have n2_ := A_ (below_step hb_ hb); clear HB; have HO449 := n0_; have HO452 := n1_; have HB := n2_; clear n0_ n1_ n2_; (try clear hb); (try clear ho0); (try clear ho1)) | ((with_reducible refine gate_dst (N := 11) rfl ?_); refine box_event ?hg (N := 11) ?hd (cs := #[.int .u8 0]) (t := 47) ?hr ?_; (case hd => rfl); (case hg => rfl); (case hr => first | (go_simp; done) | (go_simp; rfl)); intro gb454 hg w10 hbox hb; have n0_ := A_ (Kd.R_below (nR_ HO449) hb); have n1_ := A_ (Kd.R_below (nR_ HO452) hb); have n2_ := A_ (below_step hb_ hb); have n3_ := A_ (hbox); have n4_ := A_ ((by rw [hg]; exact (below_size hb_) : w.heap.size ≤ gb454)); have n5_ := A_ ((by rw [hg]; exact (below_size hb_) : w.heap.size ≤ gb454)); clear HO449 HO452 HB; have HO449 := n0_; have HO452 := n1_; have HB := n2_; have BK454 := n3_; have GW454 := n4_; have GE454 := n5_; clear n0_ n1_ n2_ n3_ n4_ n5_; clear hb hbox hg; have hcz11_0 : w10.cell? ⟨gb454, 0, none⟩ = some (.int .u8 0) := (blk_cell BK454.out 0).trans rfl; have hfz11_0 := blk_frozen BK454.out 0) | ((with_reducible refine gate_store (t := 47) (p := 11) rfl ?_); (try (rw [drewN_self w10]; generalize hq_ : World.drewN w10 _ = w10; have n0_ := A_ (Kd.R_at hq_ HO449.out); have n1_ := A_ (Kd.R_at hq_ HO452.out); have n2_ := A_ (blk_at hq_ BK454.out); have n3_ := A_ (below_at hq_ HB.out); clear hq_ HO449 HO452 BK454 HB; have HO449 := n0_; have HO452 := n1_; have BK454 := n2_; have HB := n3_; clear n0_ n1_ n2_ n3_)); refine store_event (t := 47) (p := 11) (v := ?vo_w12) (w1 := (w10.setCell ⟨gb454, 0, none⟩ (.int .u8 a0))) ?hg ?ho ?hn ?hr ?_; (case ho => rfl); (case hg => rfl); (case hn => rfl); (case hr => first | (go_simp; done) | (go_simp; rfl)); intro w12 hw; have n0_ : Aside0 (Kd.R (Kd.int .u64) 33 w12 w.heap.size (fun k_ => some k_ ≠ (v451 : Value).ownBlock) v448 t447) := ⟨(by rw [hw]; exact (by (with_reducible repeat (first | apply Kd.R_alloc | apply Kd.R_drewN | apply Kd.R_drew)); exact Kd.R_mono (Kd.R_far (p := ⟨gb454, 0, none⟩) (Kd.R_types HO449.out BK454.out (by decide)) (fun _ hk => hk.2) (.int .u8 a0)) (fun _ hk => hk.1)))⟩; have n1_ : Aside0 (Kd.R (Kd.int .u64) 33 w12 w.heap.size (fun k_ => some k_ ≠ (v448 : Value).ownBlock) v451 t450) := ⟨(by rw [hw]; exact (by (with_reducible repeat (first | apply Kd.R_alloc | apply Kd.R_drewN | apply Kd.R_drew)); exact Kd.R_mono (Kd.R_far (p := ⟨gb454, 0, none⟩) (Kd.R_types HO452.out BK454.out (by decide)) (fun _ hk => hk.2) (.int .u8 a0)) (fun _ hk => hk.1)))⟩; have n2_ : Aside0 (w12.heap[gb454]? = some (.cells #[.int .u8 a0] 47 (0, 0))) := ⟨(by rw [hw]; exact (by (with_reducible repeat (first | refine blk_drewN ?_ _ | refine blk_drew ?_ | refine blk_alloc ?_ _)); refine blk_put (cs := #[.int .u8 0]) ?_ 0 _ rfl; (with_reducible repeat (first | refine blk_drewN ?_ _ | refine blk_drew ?_ | refine blk_alloc ?_ _)); exact BK454.out))⟩; have n3_ : Aside0 (Below w.heap.size w w12) := ⟨(by rw [hw]; exact hs_)⟩; clear hw HO449 HO452 BK454 HB; have HO449 := n0_; have HO452 := n1_; have BK454 := n2_; have HB := n3_; clear n0_ n1_ n2_ n3_; obtain ⟨Ao13, co13, eo13⟩ := Kd.R_slice HO449.out; subst eo13; obtain ⟨Ao14, co14, eo14⟩ := Kd.R_slice HO452.out; subst eo14) | ((with_reducible refine gate_callee (f := 28) rfl ?_); refine goesM_ (some 59) Try.func28 #[.int .u8 a0, .slice Ao13 t447.length co13, .slice Ao14 t450.length co14] ?_; (with_reducible refine (poly_Mul.calls k a0 (fun k_ => some k_ = (.slice Ao13 t447.length co13 : Value).ownBlock) _ _ t447 (fun k_ => some k_ = (.slice Ao14 t450.length co14 : Value).ownBlock) _ _ t450 t455 t458 _ ?side1 ?side2 A8.out).mono ?_); (case side1 => exact Kd.R_V (Kd.R_tight rfl (Kd.R_types (HO449.out) BK454.out (by decide)))); (case side2 => exact Kd.R_V (Kd.R_tight rfl (Kd.R_types (HO452.out) BK454.out (by decide)))); rintro e w15 ⟨v456, rfl, ho0, hb⟩; refine ⟨_, rfl, ?_⟩; have n0_ := A_ (Kd.R_elder' (nR_ HO449) (Kd.R_base ho0) hb); have n1_ := A_ (Kd.R_elder' (nR_ HO452) (Kd.R_base ho0) hb); have n2_ := A_ (Kd.R_lower (Kd.R_new' (Kd.R_new' (Kd.R_mono (ok' := fun k_ => True) ho0 (fun _ hk_ => trivial)) (Kd.R_lt (nR_ HO449))) (Kd.R_lt (nR_ HO452))) (below_size hs_)); have n3_ := A_ (blk_below (g := gb454) (o := .cells #[.int .u8 a0] 47 (0, 0)) (nb_ BK454) hb); have n4_ := A_ (below_step hs_ hb); clear HO449 HO452 BK454 HB; have HO449 := n0_; have HO452 := n1_; have HO457 := n2_; have BK454 := n3_; have HB := n4_; clear n0_ n1_ n2_ n3_ n4_; (try clear hb); (try clear ho0)))
   go_ret2
   exact ⟨_, by first | rfl | (simp [errW_none, errW_some] <;> rfl) | (simp only [← hji6]; first | rfl | (simp [errW_none, errW_some] <;> rfl)) | (simp [*, errW_none, errW_some] <;> rfl), by (with_reducible repeat (first | apply Kd.R_alloc | apply Kd.R_drewN | apply Kd.R_drew)); exact Kd.R_mono HO457.out (fun _ hk => trivial), hs_⟩
  ·rw [if_neg c7] at H
   have c7b0 : decide ((ji6) ≤ 16) = false := decide_eq_false c7
   clear c7
   by_cases c16 : (wrap64 ((wrap64 ((t447.length : Int) + (t450.length : Int))) - 1)) ≤ 64
   ·rw [if_pos c16] at H
    have c16b0 : decide ((wrap64 ((wrap64 ((t447.length : Int) + (t450.length : Int))) - 1)) ≤ 64) = true := decide_eq_true c16
    clear c16
    replace H := Option.bind_eq_some_iff.mp H
    obtain ⟨t459, A170, H⟩ := H
    replace H : ((poly_Trim.f k t459).bind fun t462 => (some (t462, 0))) = some (r1, r2) := H
    have A17 := Aside0.mk A170
    clear A170
    replace H := Option.bind_eq_some_iff.mp H
    obtain ⟨t462, A180, H⟩ := H
    replace H : (some (t462, 0)) = some (r1, r2) := H
    have A18 := Aside0.mk A180
    clear A180
    simp only [Option.some.injEq, Prod.mk.injEq] at H
    obtain ⟨rfl, rfl⟩ := H
    go_enter Try.func12, Try.ntmps12
    go_wp2_with (first | ((with_reducible refine gate_callee (f := 27) rfl ?_); refine goesM_ (some 19) Try.func27 #[.int .u8 a0, .slice A1 l1.length c1, .slice A2 l2.length c2] ?_; (with_reducible refine (fast_checked.calls k a0 (fun k_ => k_ < w.heap.size) _ _ l1 (fun k_ => k_ < w.heap.size) _ _ l2 t447 t450 t453 _ ?side1 ?side2 A4.out).mono ?_); (case side1 => exact Kd.V_mk HC1.out (Kd.F_below (Kd.C_F (Kd.heap_int .u64) HR1.out) hb_)); (case side2 => exact Kd.V_mk HC2.out (Kd.F_below (Kd.C_F (Kd.heap_int .u64) HR2.out) hb_)); rintro e w19 ⟨v448, v451, rfl, ho0, ho1, hb⟩; refine ⟨_, rfl, ?_⟩; have n0_ := A_ (Kd.R_lower (Kd.R_mono (ok' := fun k_ => some k_ ≠ (v451 : Value).ownBlock) ho0 (fun _ hk_ => hk_.2)) (below_size hb_)); have n1_ := A_ (Kd.R_lower (Kd.R_mono (ok' := fun k_ => some k_ ≠ (v448 : Value).ownBlock) ho1 (fun _ hk_ => hk_.2)) (below_size hb_)); have n2_ := A_ (below_step hb_ hb); clear HB; have HO449 := n0_; have HO452 := n1_; have HB := n2_; clear n0_ n1_ n2_; (try clear hb); (try clear ho0); (try clear ho1)) | ((with_reducible refine gate_dst (N := 11) rfl ?_); refine box_event ?hg (N := 11) ?hd (cs := #[.int .u8 0]) (t := 47) ?hr ?_; (case hd => rfl); (case hg => rfl); (case hr => first | (go_simp; done) | (go_simp; rfl)); intro gb454 hg w20 hbox hb; have n0_ := A_ (Kd.R_below (nR_ HO449) hb); have n1_ := A_ (Kd.R_below (nR_ HO452) hb); have n2_ := A_ (below_step hb_ hb); have n3_ := A_ (hbox); have n4_ := A_ ((by rw [hg]; exact (below_size hb_) : w.heap.size ≤ gb454)); have n5_ := A_ ((by rw [hg]; exact (below_size hb_) : w.heap.size ≤ gb454)); clear HO449 HO452 HB; have HO449 := n0_; have HO452 := n1_; have HB := n2_; have BK454 := n3_; have GW454 := n4_; have GE454 := n5_; clear n0_ n1_ n2_ n3_ n4_ n5_; clear hb hbox hg; have hcz21_0 : w20.cell? ⟨gb454, 0, none⟩ = some (.int .u8 0) := (blk_cell BK454.out 0).trans rfl; have hfz21_0 := blk_frozen BK454.out 0; obtain ⟨Ao22, co22, eo22⟩ := Kd.R_slice HO449.out; subst eo22; obtain ⟨Ao23, co23, eo23⟩ := Kd.R_slice HO452.out; subst eo23) | ((with_reducible refine gate_callee (f := 30) rfl ?_); refine goesM_ (some 68) Try.func30 #[.agg #[.int .u8 a0], .slice Ao22 t447.length co22, .slice Ao23 t450.length co23] ?_; (with_reducible refine (fast_reckoner_halves.calls k a0 _ _ t447 _ _ t450 t459 _ ?side1 ?side2 ?side3 ?side4 A17.out).mono ?_); (case side1 => refine (Kd.R_reads' (e := 33) (base := w.heap.size) (ok := fun k_ => some k_ ≠ (.slice Ao23 t450.length co23 : Value).ownBlock) (n := t447.length) (c := co22) ?_).2.2; exact (by (with_reducible repeat (first | apply Kd.R_alloc | apply Kd.R_drewN | apply Kd.R_drew)); exact (Kd.R_mono (Kd.R_far (p := ⟨gb454, 0, none⟩) (Kd.R_types HO449.out BK454.out (by decide)) (fun _ hk => hk.2) (.int .u8 a0)) (fun _ h_ => h_.1)))); (case side2 => exact (Kd.R_reads' HO449.out).2.1); (case side3 => refine (Kd.R_reads' (e := 33) (base := w.heap.size) (ok := fun k_ => some k_ ≠ (.slice Ao22 t447.length co22 : Value).ownBlock) (n := t450.length) (c := co23) ?_).2.2; exact (by (with_reducible repeat (first | apply Kd.R_alloc | apply Kd.R_drewN | apply Kd.R_drew)); exact (Kd.R_mono (Kd.R_far (p := ⟨gb454, 0, none⟩) (Kd.R_types HO452.out BK454.out (by decide)) (fun _ hk => hk.2) (.int .u8 a0)) (fun _ h_ => h_.1)))); (case side4 => exact (Kd.R_reads' HO452.out).2.1); rintro e w24 ⟨v460, rfl, ho0, hb⟩; refine ⟨_, rfl, ?_⟩; have n0_ := A_ (Kd.R_elder' (by (with_reducible repeat (first | apply Kd.R_alloc | apply Kd.R_drewN | apply Kd.R_drew)); exact (Kd.R_mono (Kd.R_far (p := ⟨gb454, 0, none⟩) (Kd.R_types HO449.out BK454.out (by decide)) (fun _ hk => hk.2) (.int .u8 a0)) (fun _ h_ => h_.1))) (Kd.R_base ho0) hb); have n1_ := A_ (Kd.R_elder' (by (with_reducible repeat (first | apply Kd.R_alloc | apply Kd.R_drewN | apply Kd.R_drew)); exact (Kd.R_mono (Kd.R_far (p := ⟨gb454, 0, none⟩) (Kd.R_types HO452.out BK454.out (by decide)) (fun _ hk => hk.2) (.int .u8 a0)) (fun _ h_ => h_.1))) (Kd.R_base ho0) hb); have n2_ := A_ (Kd.R_lower (Kd.R_new' (Kd.R_new' ho0 (Kd.R_lt (by (with_reducible repeat (first | apply Kd.R_alloc | apply Kd.R_drewN | apply Kd.R_drew)); exact (Kd.R_mono (Kd.R_far (p := ⟨gb454, 0, none⟩) (Kd.R_types HO449.out BK454.out (by decide)) (fun _ hk => hk.2) (.int .u8 a0)) (fun _ h_ => h_.1))))) (Kd.R_lt (by (with_reducible repeat (first | apply Kd.R_alloc | apply Kd.R_drewN | apply Kd.R_drew)); exact (Kd.R_mono (Kd.R_far (p := ⟨gb454, 0, none⟩) (Kd.R_types HO452.out BK454.out (by decide)) (fun _ hk => hk.2) (.int .u8 a0)) (fun _ h_ => h_.1))))) (below_size hs_)); have n3_ := A_ (blk_below (g := gb454) (o := .cells #[.int .u8 a0] 47 (0, 0)) (by (with_reducible repeat (first | refine blk_drewN ?_ _ | refine blk_drew ?_ | refine blk_alloc ?_ _)); refine blk_put (cs := #[.int .u8 0]) ?_ 0 _ rfl; (with_reducible repeat (first | refine blk_drewN ?_ _ | refine blk_drew ?_ | refine blk_alloc ?_ _)); exact BK454.out) hb); have n4_ := A_ (below_step hs_ hb); clear HO449 HO452 BK454 HB; have HO449 := n0_; have HO452 := n1_; have HO461 := n2_; have BK454 := n3_; have HB := n4_; clear n0_ n1_ n2_ n3_ n4_; (try clear hb); (try clear ho0); obtain ⟨Ao25, co25, eo25⟩ := Kd.R_slice HO461.out; subst eo25) | ((with_reducible refine gate_callee (f := 29) rfl ?_); refine goesM_ (some 69) Try.func29 #[.slice Ao25 t459.length co25] ?_; (with_reducible refine (poly_Trim.calls k _ _ t459 t462 _ ?side1 ?side2 A18.out).mono ?_); (case side1 => repeat (first | exact (Kd.R_reads' HO461.out).2.2 | (with_reducible refine Kd.C_alloc ?_ _) | (with_reducible refine Kd.C_drewN ?_ _) | (with_reducible refine Kd.C_drew ?_))); (case side2 => exact (Kd.R_reads' HO461.out).2.1); rintro e w26 ⟨v463, rfl, ho0, hb⟩; refine ⟨_, rfl, ?_⟩; have n0_ := A_ (Kd.R_elder' (nR_ HO449) (Kd.R_base ho0) hb); have n1_ := A_ (Kd.R_elder' (nR_ HO452) (Kd.R_base ho0) hb); have n2_ := A_ (Kd.R_elder' (nR_ HO461) (Kd.R_base ho0) hb); have n3_ := A_ (Kd.R_lower (Kd.R_new' (Kd.R_new' (Kd.R_new' ho0 (Kd.R_lt (nR_ HO449))) (Kd.R_lt (nR_ HO452))) (Kd.R_lt (nR_ HO461))) (below_size hs_)); have n4_ := A_ (blk_below (g := gb454) (o := .cells #[.int .u8 a0] 47 (0, 0)) (nb_ BK454) hb); have n5_ := A_ (below_step hs_ hb); clear HO449 HO452 HO461 BK454 HB; have HO449 := n0_; have HO452 := n1_; have HO461 := n2_; have HO464 := n3_; have BK454 := n4_; have HB := n5_; clear n0_ n1_ n2_ n3_ n4_ n5_; (try clear hb); (try clear ho0)))
    go_ret2
    exact ⟨_, by first | rfl | (simp [errW_none, errW_some] <;> rfl) | (simp only [← hji6]; first | rfl | (simp [errW_none, errW_some] <;> rfl)) | (simp [*, errW_none, errW_some] <;> rfl), by (with_reducible repeat (first | apply Kd.R_alloc | apply Kd.R_drewN | apply Kd.R_drew)); exact Kd.R_mono HO464.out (fun _ hk => trivial), hs_⟩
   ·rw [if_neg c16] at H
    have c16b0 : decide ((wrap64 ((wrap64 ((t447.length : Int) + (t450.length : Int))) - 1)) ≤ 64) = false := decide_eq_false c16
    clear c16
    have H' := Aside0.mk H
    clear H
    go_enter Try.func12, Try.ntmps12
    go_wp2_with (first | ((with_reducible refine gate_callee (f := 27) rfl ?_); refine goesM_ (some 19) Try.func27 #[.int .u8 a0, .slice A1 l1.length c1, .slice A2 l2.length c2] ?_; (with_reducible refine (fast_checked.calls k a0 (fun k_ => k_ < w.heap.size) _ _ l1 (fun k_ => k_ < w.heap.size) _ _ l2 t447 t450 t453 _ ?side1 ?side2 A4.out).mono ?_); (case side1 => exact Kd.V_mk HC1.out (Kd.F_below (Kd.C_F (Kd.heap_int .u64) HR1.out) hb_)); (case side2 => exact Kd.V_mk HC2.out (Kd.F_below (Kd.C_F (Kd.heap_int .u64) HR2.out) hb_)); rintro e w27 ⟨v448, v451, rfl, ho0, ho1, hb⟩; refine ⟨_, rfl, ?_⟩; have n0_ := A_ (Kd.R_lower (Kd.R_mono (ok' := fun k_ => some k_ ≠ (v451 : Value).ownBlock) ho0 (fun _ hk_ => hk_.2)) (below_size hb_)); have n1_ := A_ (Kd.R_lower (Kd.R_mono (ok' := fun k_ => some k_ ≠ (v448 : Value).ownBlock) ho1 (fun _ hk_ => hk_.2)) (below_size hb_)); have n2_ := A_ (below_step hb_ hb); clear HB; have HO449 := n0_; have HO452 := n1_; have HB := n2_; clear n0_ n1_ n2_; (try clear hb); (try clear ho0); (try clear ho1)) | ((with_reducible refine gate_dst (N := 11) rfl ?_); refine box_event ?hg (N := 11) ?hd (cs := #[.int .u8 0]) (t := 47) ?hr ?_; (case hd => rfl); (case hg => rfl); (case hr => first | (go_simp; done) | (go_simp; rfl)); intro gb454 hg w28 hbox hb; have n0_ := A_ (Kd.R_below (nR_ HO449) hb); have n1_ := A_ (Kd.R_below (nR_ HO452) hb); have n2_ := A_ (below_step hb_ hb); have n3_ := A_ (hbox); have n4_ := A_ ((by rw [hg]; exact (below_size hb_) : w.heap.size ≤ gb454)); have n5_ := A_ ((by rw [hg]; exact (below_size hb_) : w.heap.size ≤ gb454)); clear HO449 HO452 HB; have HO449 := n0_; have HO452 := n1_; have HB := n2_; have BK454 := n3_; have GW454 := n4_; have GE454 := n5_; clear n0_ n1_ n2_ n3_ n4_ n5_; clear hb hbox hg; have hcz29_0 : w28.cell? ⟨gb454, 0, none⟩ = some (.int .u8 0) := (blk_cell BK454.out 0).trans rfl; have hfz29_0 := blk_frozen BK454.out 0; obtain ⟨Ao30, co30, eo30⟩ := Kd.R_slice HO449.out; subst eo30; obtain ⟨Ao31, co31, eo31⟩ := Kd.R_slice HO452.out; subst eo31) | ((with_reducible refine gate_dst (N := 13) rfl ?_); refine box_event ?hg (N := 13) ?hd (cs := #[.int .i64 0]) (t := 3) ?hr ?_; (case hd => rfl); (case hg => rfl); (case hr => first | (go_simp; done) | (go_simp; rfl)); intro gb465 hg w32 hbox hb; have n0_ := A_ (Kd.R_below (by (with_reducible repeat (first | apply Kd.R_alloc | apply Kd.R_drewN | apply Kd.R_drew)); exact (Kd.R_mono (Kd.R_far (p := ⟨gb454, 0, none⟩) (Kd.R_types HO449.out BK454.out (by decide)) (fun _ hk => hk.2) (.int .u8 a0)) (fun _ h_ => h_.1))) hb); have n1_ := A_ (Kd.R_below (by (with_reducible repeat (first | apply Kd.R_alloc | apply Kd.R_drewN | apply Kd.R_drew)); exact (Kd.R_mono (Kd.R_far (p := ⟨gb454, 0, none⟩) (Kd.R_types HO452.out BK454.out (by decide)) (fun _ hk => hk.2) (.int .u8 a0)) (fun _ h_ => h_.1))) hb); have n2_ := A_ (blk_below (g := gb454) (o := .cells #[.int .u8 a0] 47 (0, 0)) (by (with_reducible repeat (first | refine blk_drewN ?_ _ | refine blk_drew ?_ | refine blk_alloc ?_ _)); refine blk_put (cs := #[.int .u8 0]) ?_ 0 _ rfl; (with_reducible repeat (first | refine blk_drewN ?_ _ | refine blk_drew ?_ | refine blk_alloc ?_ _)); exact BK454.out) hb); have n3_ := A_ (below_step hs_ hb); have n4_ := A_ (hbox); have n5_ := A_ ((by rw [hg]; exact (below_size hs_) : w.heap.size ≤ gb465)); have n6_ := A_ ((by rw [hg]; exact (below_size hs_) : w.heap.size ≤ gb465)); have n7_ := A_ ((by rw [hg]; exact Nat.ne_of_lt (blk_lt (g := gb454) (o := .cells #[.int .u8 a0] 47 (0, 0)) (by (with_reducible repeat (first | refine blk_drewN ?_ _ | refine blk_drew ?_ | refine blk_alloc ?_ _)); refine blk_put (cs := #[.int .u8 0]) ?_ 0 _ rfl; (with_reducible repeat (first | refine blk_drewN ?_ _ | refine blk_drew ?_ | refine blk_alloc ?_ _)); exact BK454.out)) : gb454 ≠ gb465)); have n8_ := A_ ((by rw [hg]; exact Nat.ne_of_gt (blk_lt (g := gb454) (o := .cells #[.int .u8 a0] 47 (0, 0)) (by (with_reducible repeat (first | refine blk_drewN ?_ _ | refine blk_drew ?_ | refine blk_alloc ?_ _)); refine blk_put (cs := #[.int .u8 0]) ?_ 0 _ rfl; (with_reducible repeat (first | refine blk_drewN ?_ _ | refine blk_drew ?_ | refine blk_alloc ?_ _)); exact BK454.out)) : gb465 ≠ gb454)); clear HO449 HO452 BK454 HB; have HO449 := n0_; have HO452 := n1_; have BK454 := n2_; have HB := n3_; have BK465 := n4_; have GW465 := n5_; have GE465 := n6_; have NB454_465 := n7_; have NB465_454 := n8_; clear n0_ n1_ n2_ n3_ n4_ n5_ n6_ n7_ n8_; clear hb hbox hg; have hnb33 := NB465_454.out; have hnc33 := NB454_465.out; have hcz34_0 : w32.cell? ⟨gb465, 0, none⟩ = some (.int .i64 0) := (blk_cell BK465.out 0).trans rfl; have hfz34_0 := blk_frozen BK465.out 0))
    go_loopg [] k (fun kq w' => ∃ (x466000_1 : Int), Aside0 (fast_Mul.l0 kq t447 t450 (wrap64 ((wrap64 ((t447.length : Int) + (t450.length : Int))) - 1)) a0 x466000_1 = some (r1, r2)) ∧ Aside0 (kq ≤ k) ∧ Aside0 (Kd.R (Kd.int .u64) 33 w' w.heap.size (fun k_ => some k_ ≠ ((.slice Ao31 t450.length co31) : Value).ownBlock) (.slice Ao30 t447.length co30) t447) ∧ Aside0 (Kd.R (Kd.int .u64) 33 w' w.heap.size (fun k_ => some k_ ≠ ((.slice Ao30 t447.length co30) : Value).ownBlock) (.slice Ao31 t450.length co31) t450) ∧ Aside0 (w'.heap[gb454]? = some (.cells #[.int .u8 a0] 47 (0, 0))) ∧ Aside0 (w'.heap[gb465]? = some (.cells #[.int .i64 x466000_1] 3 (0, 0))) ∧ Aside0 (Below w.heap.size w w'))
    case atStart => exact ⟨(1), H', ⟨Nat.le_refl _⟩, ⟨by (with_reducible repeat (first | apply Kd.R_alloc | apply Kd.R_drewN | apply Kd.R_drew)); exact Kd.R_mono (Kd.R_far (p := ⟨gb465, 0, none⟩) (Kd.R_types HO449.out BK465.out (by decide)) (fun _ hk => hk.2) (.int .i64 1)) (fun _ hk => hk.1)⟩, ⟨by (with_reducible repeat (first | apply Kd.R_alloc | apply Kd.R_drewN | apply Kd.R_drew)); exact Kd.R_mono (Kd.R_far (p := ⟨gb465, 0, none⟩) (Kd.R_types HO452.out BK465.out (by decide)) (fun _ hk => hk.2) (.int .i64 1)) (fun _ hk => hk.1)⟩, ⟨by (with_reducible repeat (first | refine blk_drewN ?_ _ | refine blk_drew ?_ | refine blk_alloc ?_ _)); refine blk_far ?_ NB454_465.out _; (with_reducible repeat (first | refine blk_drewN ?_ _ | refine blk_drew ?_ | refine blk_alloc ?_ _)); exact BK454.out⟩, ⟨by (with_reducible repeat (first | refine blk_drewN ?_ _ | refine blk_drew ?_ | refine blk_alloc ?_ _)); refine blk_put (cs := #[.int .i64 0]) ?_ 0 _ rfl; (with_reducible repeat (first | refine blk_drewN ?_ _ | refine blk_drew ?_ | refine blk_alloc ?_ _)); exact BK465.out⟩, ⟨hs_⟩⟩
    case round =>
     clear H'
     try clear c1
     try clear c2
     try clear p2
     try clear c3
     try clear c5
     try clear c5b0
     try clear c5b1
     try clear p6
     try clear c7
     try clear c7b0
     try clear c12
     try clear c16
     try clear c16b0
     try clear c27
     try clear c28
     try clear c29
     try clear c30
     try clear c33
     try clear hcz11_0
     try clear hcz21_0
     try clear hcz29_0
     try clear hcz34_0
     try clear hfz11_0
     try clear hfz21_0
     try clear hfz29_0
     try clear hfz34_0
     obtain ⟨x466000_1, HA, HK1, HO_8, HO_9, BK454, BK465, HB⟩ := hrel
     cases gk with
     | zero => exact absurd HA.out (by simp [fast_Mul.l0])
     | succ k1 =>
      have H := HA.out
      clear HA
      simp only [fast_Mul.l0] at H
      by_cases c35 : x466000_1 < (wrap64 ((wrap64 ((t447.length : Int) + (t450.length : Int))) - 1))
      ·rw [if_pos c35] at H
       have c35b0 : decide (x466000_1 < (wrap64 ((wrap64 ((t447.length : Int) + (t450.length : Int))) - 1))) = true := decide_eq_true c35
       clear c35
       have H' := Aside0.mk H
       clear H
       have hnb36 := NB465_454.out
       have hnc36 := NB454_465.out
       have hcz37_0 : wr.cell? ⟨gb465, 0, none⟩ = some (.int .i64 x466000_1) := (blk_cell BK465.out 0).trans rfl
       have hfz37_0 := blk_frozen BK465.out 0
       go_wp2
       go_roundg k1
       case measure => have := HK1.out; omega
       case rel => exact ⟨(wrap64 (x466000_1 * 2)), H', ⟨by have := HK1.out; omega⟩, ⟨by (with_reducible repeat (first | apply Kd.R_alloc | apply Kd.R_drewN | apply Kd.R_drew)); exact Kd.R_mono (Kd.R_far (p := ⟨gb465, 0, none⟩) (Kd.R_types HO_8.out BK465.out (by decide)) (fun _ hk => hk.2) (.int .i64 (wrap64 (x466000_1 * 2)))) (fun _ hk => hk.1)⟩, ⟨by (with_reducible repeat (first | apply Kd.R_alloc | apply Kd.R_drewN | apply Kd.R_drew)); exact Kd.R_mono (Kd.R_far (p := ⟨gb465, 0, none⟩) (Kd.R_types HO_9.out BK465.out (by decide)) (fun _ hk => hk.2) (.int .i64 (wrap64 (x466000_1 * 2)))) (fun _ hk => hk.1)⟩, ⟨by (with_reducible repeat (first | refine blk_drewN ?_ _ | refine blk_drew ?_ | refine blk_alloc ?_ _)); refine blk_far ?_ NB454_465.out _; (with_reducible repeat (first | refine blk_drewN ?_ _ | refine blk_drew ?_ | refine blk_alloc ?_ _)); exact BK454.out⟩, ⟨by (with_reducible repeat (first | refine blk_drewN ?_ _ | refine blk_drew ?_ | refine blk_alloc ?_ _)); refine blk_put (cs := #[.int .i64 x466000_1]) ?_ 0 _ rfl; (with_reducible repeat (first | refine blk_drewN ?_ _ | refine blk_drew ?_ | refine blk_alloc ?_ _)); exact BK465.out⟩, ⟨hs_⟩⟩
      ·rw [if_neg c35] at H
       have c35b0 : decide (x466000_1 < (wrap64 ((wrap64 ((t447.length : Int) + (t450.length : Int))) - 1))) = false := decide_eq_false c35
       clear c35
       replace H := Option.bind_eq_some_iff.mp H
       obtain ⟨t466, A380, H⟩ := H
       replace H : ((fast_Mul_1.f t450 x466000_1).bind fun t469 => ((fast_reckoner_round.f k1 a0 t466 t469).bind fun t472 => ((poly_Trim.f k1 t472).bind fun t475 => (some (t475, 0))))) = some (r1, r2) := H
       have A38 := Aside0.mk A380
       clear A380
       replace H := Option.bind_eq_some_iff.mp H
       obtain ⟨t469, A390, H⟩ := H
       replace H : ((fast_reckoner_round.f k1 a0 t466 t469).bind fun t472 => ((poly_Trim.f k1 t472).bind fun t475 => (some (t475, 0)))) = some (r1, r2) := H
       have A39 := Aside0.mk A390
       clear A390
       replace H := Option.bind_eq_some_iff.mp H
       obtain ⟨t472, A400, H⟩ := H
       replace H : ((poly_Trim.f k1 t472).bind fun t475 => (some (t475, 0))) = some (r1, r2) := H
       have A40 := Aside0.mk A400
       clear A400
       replace H := Option.bind_eq_some_iff.mp H
       obtain ⟨t475, A410, H⟩ := H
       replace H : (some (t475, 0)) = some (r1, r2) := H
       have A41 := Aside0.mk A410
       clear A410
       simp only [Option.some.injEq, Prod.mk.injEq] at H
       obtain ⟨rfl, rfl⟩ := H
       have hnb42 := NB465_454.out
       have hnc42 := NB454_465.out
       have hcz43_0 : wr.cell? ⟨gb465, 0, none⟩ = some (.int .i64 x466000_1) := (blk_cell BK465.out 0).trans rfl
       have hfz43_0 := blk_frozen BK465.out 0
       try go_wp2
       have n0_ := A_ (Kd.R_drew HO_8.out)
       have n1_ := A_ (Kd.R_drew HO_9.out)
       have n2_ := A_ (blk_drew BK454.out)
       have n3_ := A_ (blk_drew BK465.out)
       have n4_ := A_ (below_drew1 HB.out)
       clear HO_8
       clear HO_9
       clear BK454
       clear BK465
       clear HB
       have HO_8 := n0_
       have HO_9 := n1_
       have BK454 := n2_
       have BK465 := n3_
       have HB := n4_
       clear n0_ n1_ n2_ n3_ n4_
       refine start_ (n := 11) (S := fun w' => w'.cell? ⟨gb454, 0, none⟩ = some (.int .u8 a0)) (ds := []) #[false, false, false, false, false, false, false, false, false, false, false] (by kernel_rfl) rfl rfl ((blk_cell BK454.out 0).trans rfl) (fun hHeld => ?_); refine with_tabW fast_Mul.tab10 fast_Mul.bits10 (fun HT_ HW_ => ?_)
       generalize wr.drew = w44 at HO_8 HO_9 BK454 BK465 HB hHeld ⊢
       refine pure_ (i := 1) (N := some 41) (v := ?_) (a' := ?_) #[false, true, false, false, false, false, false, false, false, false, false] rfl rfl (any_of HT_.out (by kernel_rfl)) (fun _ _ _ h => h) (Or.inl ⟨by rfl, ?_⟩) ?_ ?_
       rotate_left
       ·intro w'
        go_simp
        with_reducible rfl
       rotate_left
       ·simp only [Act.put, List.setIfInBounds_toArray, List.set_cons_zero, List.set_cons_succ, i64_w, i32_w]
        rfl
       refine pure_ (i := 2) (N := some 42) (v := ?_) (a' := ?_) #[false, true, true, false, false, false, false, false, false, false, false] rfl rfl (any_of HT_.out (by kernel_rfl)) (fun _ _ _ h => h) (Or.inl ⟨by rfl, ?_⟩) ?_ ?_
       rotate_left
       ·intro w'
        go_simp
        with_reducible rfl
       rotate_left
       ·simp only [Act.put, List.setIfInBounds_toArray, List.set_cons_zero, List.set_cons_succ, i64_w, i32_w]
        rfl
       refine pure_ (i := 4) (N := some 44) (v := ?_) (a' := ?_) #[false, true, true, false, true, false, false, false, false, false, false] rfl rfl (any_of HT_.out (by kernel_rfl)) (fun _ _ _ h => h) (Or.inl ⟨by rfl, ?_⟩) ?_ ?_
       rotate_left
       ·intro w'
        go_simp
        with_reducible rfl
       rotate_left
       ·simp only [Act.put, List.setIfInBounds_toArray, List.set_cons_zero, List.set_cons_succ, i64_w, i32_w]
        rfl
       refine pure_ (i := 5) (N := some 45) (v := ?_) (a' := ?_) #[false, true, true, false, true, true, false, false, false, false, false] rfl rfl (any_of HT_.out (by kernel_rfl)) (fun _ _ _ h => h) (Or.inl ⟨by rfl, ?_⟩) ?_ ?_
       rotate_left
       ·intro w'
        go_simp
        with_reducible rfl
       rotate_left
       ·simp only [Act.put, List.setIfInBounds_toArray, List.set_cons_zero, List.set_cons_succ, i64_w, i32_w]
        rfl
       refine take_ (i := 0) (N := some 40) (v := ?_) (a' := ?_) #[true, true, true, false, true, true, false, false, false, false, false] rfl rfl (take_ofW HT_.out HW_.out (by kernel_rfl)) (fun _ _ _ h => h) (Or.inl ⟨by rfl, ?_⟩) hHeld ?_ ?_
       rotate_left
       ·intro w' s0
        go_simp
        with_reducible rfl
       rotate_left
       ·simp only [Act.put, List.setIfInBounds_toArray, List.set_cons_zero, List.set_cons_succ, i64_w, i32_w]
        rfl
       refine one_ (i := 3) (N := some 43) #[true, true, true, true, true, true, false, false, false, false, false] rfl rfl (one_of HT_.out (by kernel_rfl)) (by decide) (fun K hK => ?_)
       refine goesKr_ Try.func31 (by kernel_rfl) rfl #[.slice Ao30 t447.length co30, .pointer (some ⟨gb465, 0, none⟩)] (by rfl) rfl rfl (by rfl) (by (try simp only [List.map_toArray, List.map_cons, List.map_nil]); first | done | rfl | (simp only [List.length_drop, List.length_take]; rfl)) ?_
       with_reducible refine (fast_Mul_1.calls (fun k_ => some k_ = (.slice Ao30 t447.length co30 : Value).ownBlock) (.slice Ao30 t447.length co30) t447 x466000_1 t466 w _ ?side1 ?side2 A38.out gb465 ((blk_cell (nb_ BK465) 0).trans rfl)).mono ?_
       (case side1 => repeat (first | (with_reducible first | exact HB.out | apply below_alloc | apply pw_below_drewN | apply below_drew1 | refine below_set ?_ GE454.out | refine below_set ?_ GE465.out) | exact HB.out))
       (case side2 => exact Kd.R_tight rfl HO_8.out)
       rintro e w45 ⟨v467, rfl, ho0, hb, hkp⟩
       refine ⟨_, rfl, ?_⟩
       have n0_ := A_ (Kd.R_mono (ok' := fun k_ => some k_ ≠ (v467 : Value).ownBlock) (Kd.R_keptB (HO_9.out) hkp (fun k_ hk_ hs_ => (hk_) hs_)) (fun k_ hk_ => fun e_ => Or.elim (ho0.1 k_ e_.symm) (fun hs_ => hk_.2.1 hs_) (fun hn_ => Nat.not_le.2 hk_.2.2 hn_)))
       have n1_ := A_ (blk_kept (nb_ BK454) hkp (fun hs_ => (fun e_ => (Kd.R_ne HO_8.out BK454.out (by decide)) e_) hs_))
       have n2_ := A_ (blk_kept (nb_ BK465) hkp (fun hs_ => (fun e_ => (Kd.R_ne HO_8.out BK465.out (by decide)) e_) hs_))
       have n3_ := A_ (Kd.R_mono (ok' := fun k_ => some k_ ≠ (.slice Ao31 t450.length co31 : Value).ownBlock) ho0 (fun k_ hk_ => Or.elim hk_ (fun hs_ => fun e_ => (((HO_9.out).1 k_ e_.symm)) hs_) (fun hn_ => (Kd.fresh' (Kd.R_lt (nR_ HO_9)) k_ hn_))))
       have n4_ := A_ (hb)
       clear HO_9
       clear BK454
       clear BK465
       clear HB
       clear HO_8
       have HO_9 := n0_
       have BK454 := n1_
       have BK465 := n2_
       have HO468 := n3_
       have HB := n4_
       clear n0_ n1_ n2_ n3_ n4_
       (try clear hb)
       (try clear hkp)
       (try clear ho0)
       refine hK.out _ _ ((blk_cell BK454.out 0).trans rfl) (fun hHeld => ?_)
       clear hK K
       refine norm_ (a' := ?_) ?_ ?_
       rotate_left
       ·show Act.put _ (some 43) _ = _
        simp only [Act.put, List.setIfInBounds_toArray, List.set_cons_zero, List.set_cons_succ, i64_w, i32_w]
        rfl
       refine one_ (i := 6) (N := some 46) #[true, true, true, true, true, true, true, false, false, false, false] rfl rfl (one_of HT_.out (by kernel_rfl)) (by decide) (fun K hK => ?_)
       refine goesKr_ Try.func31 (by kernel_rfl) rfl #[.slice Ao31 t450.length co31, .pointer (some ⟨gb465, 0, none⟩)] (by rfl) rfl rfl (by rfl) (by (try simp only [List.map_toArray, List.map_cons, List.map_nil]); first | done | rfl | (simp only [List.length_drop, List.length_take]; rfl)) ?_
       with_reducible refine (fast_Mul_1.calls (fun k_ => some k_ = (.slice Ao31 t450.length co31 : Value).ownBlock) (.slice Ao31 t450.length co31) t450 x466000_1 t469 w _ ?side1 ?side2 A39.out gb465 ((blk_cell (nb_ BK465) 0).trans rfl)).mono ?_
       (case side1 => repeat (first | (with_reducible first | exact HB.out | apply below_alloc | apply pw_below_drewN | apply below_drew1 | refine below_set ?_ GE454.out | refine below_set ?_ GE465.out) | exact HB.out))
       (case side2 => exact Kd.R_tight rfl HO_9.out)
       rintro e w46 ⟨v470, rfl, ho0, hb, hkp⟩
       refine ⟨_, rfl, ?_⟩
       have n0_ := A_ (blk_kept (nb_ BK454) hkp (fun hs_ => (fun e_ => (Kd.R_ne HO_9.out BK454.out (by decide)) e_) hs_))
       have n1_ := A_ (blk_kept (nb_ BK465) hkp (fun hs_ => (fun e_ => (Kd.R_ne HO_9.out BK465.out (by decide)) e_) hs_))
       have n2_ := A_ (Kd.R_mono (ok' := fun k_ => some k_ ≠ (v470 : Value).ownBlock) (Kd.R_keptB (HO468.out) hkp (fun k_ hk_ hs_ => (hk_) hs_)) (fun k_ hk_ => fun e_ => Or.elim (ho0.1 k_ e_.symm) (fun hs_ => hk_.2.1 hs_) (fun hn_ => Nat.not_le.2 hk_.2.2 hn_)))
       have n3_ := A_ (Kd.R_mono (ok' := fun k_ => some k_ ≠ (v467 : Value).ownBlock) ho0 (fun k_ hk_ => Or.elim hk_ (fun hs_ => fun e_ => (((HO468.out).1 k_ e_.symm)) hs_) (fun hn_ => (Kd.fresh' (Kd.R_lt (nR_ HO468)) k_ hn_))))
       have n4_ := A_ (hb)
       clear BK454
       clear BK465
       clear HO468
       clear HB
       clear HO_9
       have BK454 := n0_
       have BK465 := n1_
       have HO468 := n2_
       have HO471 := n3_
       have HB := n4_
       clear n0_ n1_ n2_ n3_ n4_
       (try clear hb)
       (try clear hkp)
       (try clear ho0)
       obtain ⟨Ao47, co47, eo47⟩ := Kd.R_slice HO468.out
       (first | subst eo47 | (injection eo47 with f1_ f2_ f3_; have f4_ := f1_.symm; have f5_ := f3_.symm; clear f1_ f2_ f3_; subst f4_; subst f5_))
       obtain ⟨Ao48, co48, eo48⟩ := Kd.R_slice HO471.out
       (first | subst eo48 | (injection eo48 with f1_ f2_ f3_; have f4_ := f1_.symm; have f5_ := f3_.symm; clear f1_ f2_ f3_; subst f4_; subst f5_))
       refine hK.out _ _ ((blk_cell BK454.out 0).trans rfl) (fun hHeld => ?_)
       clear hK K
       refine norm_ (a' := ?_) ?_ ?_
       rotate_left
       ·show Act.put _ (some 46) _ = _
        simp only [Act.put, List.setIfInBounds_toArray, List.set_cons_zero, List.set_cons_succ, i64_w, i32_w]
        rfl
       refine one_ (i := 7) (N := some 47) #[true, true, true, true, true, true, true, true, false, false, false] rfl rfl (one_of HT_.out (by kernel_rfl)) (by decide) (fun K hK => ?_)
       refine goes_ Try.func32 (by kernel_rfl) rfl #[.agg #[.int .u8 a0], .slice Ao47 t466.length co47, .slice Ao48 t469.length co48] (by rfl) rfl rfl (by (try simp only [List.map_toArray, List.map_cons, List.map_nil]); first | done | rfl | (simp only [List.length_drop, List.length_take]; rfl)) ?_
       with_reducible refine (fast_reckoner_round.calls k1 a0 _ _ t466 _ _ t469 t472 _ ?side1 ?side2 ?side3 ?side4 A40.out).mono ?_
       (case side1 => repeat (first | exact (Kd.R_reads' HO468.out).2.2 | (with_reducible refine Kd.C_alloc ?_ _) | (with_reducible refine Kd.C_drewN ?_ _) | (with_reducible refine Kd.C_drew ?_)))
       (case side2 => exact (Kd.R_reads' HO468.out).2.1)
       (case side3 => repeat (first | exact (Kd.R_reads' HO471.out).2.2 | (with_reducible refine Kd.C_alloc ?_ _) | (with_reducible refine Kd.C_drewN ?_ _) | (with_reducible refine Kd.C_drew ?_)))
       (case side4 => exact (Kd.R_reads' HO471.out).2.1)
       rintro e w49 ⟨v473, rfl, ho0, hb⟩
       refine ⟨_, rfl, ?_⟩
       have n0_ := A_ (Kd.R_elder' (nR_ HO468) (Kd.R_base ho0) hb)
       have n1_ := A_ (Kd.R_elder' (nR_ HO471) (Kd.R_base ho0) hb)
       have n2_ := A_ (Kd.R_lower (Kd.R_new' (Kd.R_new' ho0 (Kd.R_lt (nR_ HO468))) (Kd.R_lt (nR_ HO471))) (below_size hs_))
       have n3_ := A_ (blk_below (g := gb454) (o := .cells #[.int .u8 a0] 47 (0, 0)) (nb_ BK454) hb)
       have n4_ := A_ (blk_below (g := gb465) (o := .cells #[.int .i64 x466000_1] 3 (0, 0)) (nb_ BK465) hb)
       have n5_ := A_ (below_step hs_ hb)
       clear HO468
       clear HO471
       clear BK454
       clear BK465
       clear HB
       have HO468 := n0_
       have HO471 := n1_
       have HO474 := n2_
       have BK454 := n3_
       have BK465 := n4_
       have HB := n5_
       clear n0_ n1_ n2_ n3_ n4_ n5_
       (try clear hb)
       (try clear hb2)
       (try clear hk)
       (try clear hi)
       (try clear ho0)
       obtain ⟨Ao50, co50, eo50⟩ := Kd.R_slice HO474.out
       (first | subst eo50 | (injection eo50 with f1_ f2_ f3_; have f4_ := f1_.symm; have f5_ := f3_.symm; clear f1_ f2_ f3_; subst f4_; subst f5_))
       refine hK.out _ _ ((blk_cell BK454.out 0).trans rfl) (fun hHeld => ?_)
       clear hK K
       refine norm_ (a' := ?_) ?_ ?_
       rotate_left
       ·show Act.put _ (some 47) _ = _
        simp only [Act.put, List.setIfInBounds_toArray, List.set_cons_zero, List.set_cons_succ, i64_w, i32_w]
        rfl
       refine one_ (i := 8) (N := some 48) #[true, true, true, true, true, true, true, true, true, false, false] rfl rfl (one_of HT_.out (by kernel_rfl)) (by decide) (fun K hK => ?_)
       refine goes_ Try.func29 (by kernel_rfl) rfl #[.slice Ao50 t472.length co50] (by rfl) rfl rfl (by (try simp only [List.map_toArray, List.map_cons, List.map_nil]); first | done | rfl | (simp only [List.length_drop, List.length_take]; rfl)) ?_
       with_reducible refine (poly_Trim.calls k1 _ _ t472 t475 _ ?side1 ?side2 A41.out).mono ?_
       (case side1 => repeat (first | exact (Kd.R_reads' HO474.out).2.2 | (with_reducible refine Kd.C_alloc ?_ _) | (with_reducible refine Kd.C_drewN ?_ _) | (with_reducible refine Kd.C_drew ?_)))
       (case side2 => exact (Kd.R_reads' HO474.out).2.1)
       rintro e w51 ⟨v476, rfl, ho0, hb⟩
       refine ⟨_, rfl, ?_⟩
       have n0_ := A_ (Kd.R_elder' (nR_ HO468) (Kd.R_base ho0) hb)
       have n1_ := A_ (Kd.R_elder' (nR_ HO471) (Kd.R_base ho0) hb)
       have n2_ := A_ (Kd.R_elder' (nR_ HO474) (Kd.R_base ho0) hb)
       have n3_ := A_ (Kd.R_lower (Kd.R_new' (Kd.R_new' (Kd.R_new' ho0 (Kd.R_lt (nR_ HO468))) (Kd.R_lt (nR_ HO471))) (Kd.R_lt (nR_ HO474))) (below_size hs_))
       have n4_ := A_ (blk_below (g := gb454) (o := .cells #[.int .u8 a0] 47 (0, 0)) (nb_ BK454) hb)
       have n5_ := A_ (blk_below (g := gb465) (o := .cells #[.int .i64 x466000_1] 3 (0, 0)) (nb_ BK465) hb)
       have n6_ := A_ (below_step hs_ hb)
       clear HO468
       clear HO471
       clear HO474
       clear BK454
       clear BK465
       clear HB
       have HO468 := n0_
       have HO471 := n1_
       have HO474 := n2_
       have HO477 := n3_
       have BK454 := n4_
       have BK465 := n5_
       have HB := n6_
       clear n0_ n1_ n2_ n3_ n4_ n5_ n6_
       (try clear hb)
       (try clear hb2)
       (try clear hk)
       (try clear hi)
       (try clear ho0)
       refine hK.out _ _ ((blk_cell BK454.out 0).trans rfl) (fun hHeld => ?_)
       clear hK K
       refine norm_ (a' := ?_) ?_ ?_
       rotate_left
       ·show Act.put _ (some 48) _ = _
        simp only [Act.put, List.setIfInBounds_toArray, List.set_cons_zero, List.set_cons_succ, i64_w, i32_w]
        rfl
       refine pure_ (i := 9) (N := some 6) (v := ?_) (a' := ?_) #[true, true, true, true, true, true, true, true, true, true, false] rfl rfl (any_of HT_.out (by kernel_rfl)) (fun _ _ _ h => h) (Or.inl ⟨by rfl, ?_⟩) ?_ ?_
       rotate_left
       ·intro w'
        go_simp
        with_reducible rfl
       rotate_left
       ·simp only [Act.put, List.setIfInBounds_toArray, List.set_cons_zero, List.set_cons_succ, i64_w, i32_w]
        rfl
       refine pure_ (i := 10) (N := some 7) (v := ?_) (a' := ?_) #[true, true, true, true, true, true, true, true, true, true, true] rfl rfl (any_of HT_.out (by kernel_rfl)) (fun _ _ _ h => h) (Or.inl ⟨by rfl, ?_⟩) ?_ ?_
       rotate_left
       ·intro w'
        go_simp
        with_reducible rfl
       rotate_left
       ·simp only [Act.put, List.setIfInBounds_toArray, List.set_cons_zero, List.set_cons_succ, i64_w, i32_w]
        rfl
       refine done_ (done_of HT_.out (by kernel_rfl)) ?_
       try go_wp2
       go_ret2
       exact ⟨_, by first | rfl | (simp [errW_none, errW_some] <;> rfl) | (simp only [← hji6]; first | rfl | (simp [errW_none, errW_some] <;> rfl)) | (simp [*, errW_none, errW_some] <;> rfl), by (with_reducible repeat (first | apply Kd.R_alloc | apply Kd.R_drewN | apply Kd.R_drew)); exact Kd.R_mono HO477.out (fun _ hk => trivial), hs_⟩
 ·rw [if_neg c5] at H
  have c5b0 : (t453 == 0) = false := beq_eq_false_iff_ne.mpr c5
  have c5b1 : (t453 != 0) = true := bne_iff_ne.mpr c5
  simp only [Option.some.injEq, Prod.mk.injEq] at H
  obtain ⟨rfl, rfl⟩ := H
  go_enter Try.func12, Try.ntmps12
  go_wp2_with (first | ((with_reducible refine gate_callee (f := 27) rfl ?_); refine goesM_ (some 19) Try.func27 #[.int .u8 a0, .slice A1 l1.length c1, .slice A2 l2.length c2] ?_; (with_reducible refine (fast_checked.calls k a0 (fun k_ => k_ < w.heap.size) _ _ l1 (fun k_ => k_ < w.heap.size) _ _ l2 t447 t450 t453 _ ?side1 ?side2 A4.out).mono ?_); (case side1 => exact Kd.V_mk HC1.out (Kd.F_below (Kd.C_F (Kd.heap_int .u64) HR1.out) hb_)); (case side2 => exact Kd.V_mk HC2.out (Kd.F_below (Kd.C_F (Kd.heap_int .u64) HR2.out) hb_)); rintro e w52 ⟨v448, v451, rfl, ho0, ho1, hb⟩; refine ⟨_, rfl, ?_⟩; have n0_ := A_ (Kd.R_lower (Kd.R_mono (ok' := fun k_ => some k_ ≠ (v451 : Value).ownBlock) ho0 (fun _ hk_ => hk_.2)) (below_size hb_)); have n1_ := A_ (Kd.R_lower (Kd.R_mono (ok' := fun k_ => some k_ ≠ (v448 : Value).ownBlock) ho1 (fun _ hk_ => hk_.2)) (below_size hb_)); have n2_ := A_ (below_step hb_ hb); clear HB; have HO449 := n0_; have HO452 := n1_; have HB := n2_; clear n0_ n1_ n2_; (try clear hb); (try clear ho0); (try clear ho1)))
  go_ret2
  exact ⟨_, fr_, by first | exact Kd.R_nil _ _ _ _ _ | exact Kd.N_nil _ _ _ _ _ | exact Kd.V_nil _ _ _ _ _ | exact Kd.Q_nil _ _ _ _ _ | exact Kd.S_nil _ _ _ _ _, hb_⟩
/-! ### fast_Kara: function 13 -/
def fast_Kara.f (k : Nat) (a0 : Int) (l1 : List Int) (l2 : List Int) : Option (List Int × Int) := (fast_checked.f k a0 l1 l2).bind fun bt478 => (if bt478.2.2 = 0 then ((fast_reckoner_halves.f k a0 bt478.1 bt478.2.1).bind fun t485 => ((poly_Trim.f k t485).bind fun t488 => (some (t488, 0)))) else (some (([] : List Int), bt478.2.2)))
theorem fast_Kara.mono : ∀ a0 a1 a2 k, LeO (fast_Kara.f k a0 a1 a2) (fast_Kara.f (k + 1) a0 a1 a2) := by
 intro a0 a1 a2 k
 unfold fast_Kara.f
 repeat' first
   | (with_reducible exact fast_checked.mono _ _ _ _)
   | (with_reducible exact fast_reckoner_halves.mono _ _ _ _)
   | (with_reducible exact poly_Trim.mono _ _)
   | (with_reducible exact LeO.refl _)
   | (with_reducible exact LeO.none _)
   | (with_reducible refine LeO.ite ?_ ?_)
   | (with_reducible refine LeO.bind ?_ (fun _ => ?_))
   | exact fast_checked.mono _ _ _ _
   | exact fast_reckoner_halves.mono _ _ _ _
   | exact poly_Trim.mono _ _
   | exact LeO.none _
   | refine LeO.ite ?_ ?_
   | refine LeO.bind ?_ (fun _ => ?_)
set_option maxHeartbeats 8000000 in
set_option maxRecDepth 100000 in
theorem fast_Kara.calls (k : Nat) (a0 : Int) (A1 : Option Addr) (c1 : Nat) (l1 : List Int) (A2 : Option Addr) (c2 : Nat) (l2 : List Int) (r1 : List Int) (r2 : Int) (w : World) (hr1 : Kd.C (Kd.int .u64) w A1 l1.length l1) (hc1 : l1.length ≤ c1) (hr2 : Kd.C (Kd.int .u64) w A2 l2.length l2) (hc2 : l2.length ≤ c2) (h : fast_Kara.f k a0 l1 l2 = some (r1, r2)) :
  Calls Try.prog 13 #[.int .u8 a0, .slice A1 l1.length c1, .slice A2 l2.length c2] w fun e w' => ∃ v0_ : Value, e = .returned (.tuple #[v0_, .int .i64 r2]) ∧ Kd.R (Kd.int .u64) 33 w' w.heap.size (fun _ => True) v0_ r1 ∧ Below w.heap.size w w' := by
 have hu47 := Try.underlying47
 have HR1 := Aside0.mk hr1
 have HC1 := Aside0.mk hc1
 clear hr1 hc1
 have HR2 := Aside0.mk hr2
 have HC2 := Aside0.mk hc2
 clear hr2 hc2
 have HB := A_ (Below.refl w.heap.size w)
 have H : ((fast_checked.f k a0 l1 l2).bind fun bt478 => (if bt478.2.2 = 0 then ((fast_reckoner_halves.f k a0 bt478.1 bt478.2.1).bind fun t485 => ((poly_Trim.f k t485).bind fun t488 => (some (t488, 0)))) else (some (([] : List Int), bt478.2.2)))) = some (r1, r2) := h
 clear h
 replace H := Option.bind_eq_some_iff.mp H
 obtain ⟨⟨t478, t481, t484⟩, A40, H⟩ := H
 replace H : (if t484 = 0 then ((fast_reckoner_halves.f k a0 t478 t481).bind fun t485 => ((poly_Trim.f k t485).bind fun t488 => (some (t488, 0)))) else (some (([] : List Int), t484))) = some (r1, r2) := H
 have A4 := Aside0.mk A40
 clear A40
 have HC5 := Aside0.mk H
 clear H
 go_enter Try.func13, Try.ntmps13
 go_upto_if 20 with (first | ((with_reducible refine gate_callee (f := 27) rfl ?_); refine goesM_ (some 15) Try.func27 #[.int .u8 a0, .slice A1 l1.length c1, .slice A2 l2.length c2] ?_; (with_reducible refine (fast_checked.calls k a0 (fun k_ => k_ < w.heap.size) _ _ l1 (fun k_ => k_ < w.heap.size) _ _ l2 t478 t481 t484 _ ?side1 ?side2 A4.out).mono ?_); (case side1 => exact Kd.V_mk HC1.out (Kd.F_below (Kd.C_F (Kd.heap_int .u64) HR1.out) hb_)); (case side2 => exact Kd.V_mk HC2.out (Kd.F_below (Kd.C_F (Kd.heap_int .u64) HR2.out) hb_)); rintro e w6 ⟨v479, v482, rfl, ho0, ho1, hb⟩; refine ⟨_, rfl, ?_⟩; have n0_ := A_ (Kd.R_lower (Kd.R_mono (ok' := fun k_ => some k_ ≠ (v482 : Value).ownBlock) ho0 (fun _ hk_ => hk_.2)) (below_size hb_)); have n1_ := A_ (Kd.R_lower (Kd.R_mono (ok' := fun k_ => some k_ ≠ (v479 : Value).ownBlock) ho1 (fun _ hk_ => hk_.2)) (below_size hb_)); have n2_ := A_ (below_step hb_ hb); clear HB; have HO480 := n0_; have HO483 := n1_; have HB := n2_; clear n0_ n1_ n2_; (try clear hb); (try clear ho0); (try clear ho1)))
 (try simp only [Act.put, List.setIfInBounds_toArray, List.set_cons_zero, List.set_cons_succ])
 have H := HC5.out
 clear HC5
 by_cases c7 : t484 = 0
 ·rw [if_pos c7] at H
  have c7b0 : (t484 == 0) = true := beq_iff_eq.mpr c7
  have c7b1 : (t484 != 0) = false := bne_eq_false_iff_eq.mpr c7
  clear c7
  (first | rw [c7b0] | rw [c7b1] | (simp only [i64_w, i32_w]; first | rw [c7b0] | rw [c7b1]) | skip)
  replace H := Option.bind_eq_some_iff.mp H
  obtain ⟨t485, A80, H⟩ := H
  replace H : ((poly_Trim.f k t485).bind fun t488 => (some (t488, 0))) = some (r1, r2) := H
  have A8 := Aside0.mk A80
  clear A80
  replace H := Option.bind_eq_some_iff.mp H
  obtain ⟨t488, A90, H⟩ := H
  replace H : (some (t488, 0)) = some (r1, r2) := H
  have A9 := Aside0.mk A90
  clear A90
  simp only [Option.some.injEq, Prod.mk.injEq] at H
  obtain ⟨rfl, rfl⟩ := H
  obtain ⟨Ao10, co10, eo10⟩ := Kd.R_slice HO480.out
  subst eo10
  obtain ⟨Ao11, co11, eo11⟩ := Kd.R_slice HO483.out
  subst eo11
  go_wp2_with (first | ((with_reducible refine gate_callee (f := 30) rfl ?_); refine goesM_ (some 26) Try.func30 #[.agg #[.int .u8 a0], .slice Ao10 t478.length co10, .slice Ao11 t481.length co11] ?_; (with_reducible refine (fast_reckoner_halves.calls k a0 _ _ t478 _ _ t481 t485 _ ?side1 ?side2 ?side3 ?side4 A8.out).mono ?_); (case side1 => repeat (first | exact (Kd.R_reads' HO480.out).2.2 | (with_reducible refine Kd.C_alloc ?_ _) | (with_reducible refine Kd.C_drewN ?_ _) | (with_reducible refine Kd.C_drew ?_))); (case side2 => exact (Kd.R_reads' HO480.out).2.1); (case side3 => repeat (first | exact (Kd.R_reads' HO483.out).2.2 | (with_reducible refine Kd.C_alloc ?_ _) | (with_reducible refine Kd.C_drewN ?_ _) | (with_reducible refine Kd.C_drew ?_))); (case side4 => exact (Kd.R_reads' HO483.out).2.1); rintro e w12 ⟨v486, rfl, ho0, hb⟩; refine ⟨_, rfl, ?_⟩; have n0_ := A_ (Kd.R_elder' (nR_ HO480) (Kd.R_base ho0) hb); have n1_ := A_ (Kd.R_elder' (nR_ HO483) (Kd.R_base ho0) hb); have n2_ := A_ (Kd.R_lower (Kd.R_new' (Kd.R_new' ho0 (Kd.R_lt (nR_ HO480))) (Kd.R_lt (nR_ HO483))) (below_size hb_)); have n3_ := A_ (below_step hb_ hb); clear HO480 HO483 HB; have HO480 := n0_; have HO483 := n1_; have HO487 := n2_; have HB := n3_; clear n0_ n1_ n2_ n3_; (try clear hb); (try clear ho0); obtain ⟨Ao13, co13, eo13⟩ := Kd.R_slice HO487.out; subst eo13) | ((with_reducible refine gate_callee (f := 29) rfl ?_); refine goesM_ (some 27) Try.func29 #[.slice Ao13 t485.length co13] ?_; (with_reducible refine (poly_Trim.calls k _ _ t485 t488 _ ?side1 ?side2 A9.out).mono ?_); (case side1 => repeat (first | exact (Kd.R_reads' HO487.out).2.2 | (with_reducible refine Kd.C_alloc ?_ _) | (with_reducible refine Kd.C_drewN ?_ _) | (with_reducible refine Kd.C_drew ?_))); (case side2 => exact (Kd.R_reads' HO487.out).2.1); rintro e w14 ⟨v489, rfl, ho0, hb⟩; refine ⟨_, rfl, ?_⟩; have n0_ := A_ (Kd.R_elder' (nR_ HO480) (Kd.R_base ho0) hb); have n1_ := A_ (Kd.R_elder' (nR_ HO483) (Kd.R_base ho0) hb); have n2_ := A_ (Kd.R_elder' (nR_ HO487) (Kd.R_base ho0) hb); have n3_ := A_ (Kd.R_lower (Kd.R_new' (Kd.R_new' (Kd.R_new' ho0 (Kd.R_lt (nR_ HO480))) (Kd.R_lt (nR_ HO483))) (Kd.R_lt (nR_ HO487))) (below_size hb_)); have n4_ := A_ (below_step hb_ hb); clear HO480 HO483 HO487 HB; have HO480 := n0_; have HO483 := n1_; have HO487 := n2_; have HO490 := n3_; have HB := n4_; clear n0_ n1_ n2_ n3_ n4_; (try clear hb); (try clear ho0)))
  go_ret2
  exact ⟨_, fr_, by (with_reducible repeat (first | apply Kd.R_alloc | apply Kd.R_drewN | apply Kd.R_drew)); exact Kd.R_mono HO490.out (fun _ hk => trivial), hb_⟩
 ·rw [if_neg c7] at H
  have c7b0 : (t484 == 0) = false := beq_eq_false_iff_ne.mpr c7
  have c7b1 : (t484 != 0) = true := bne_iff_ne.mpr c7
  (first | rw [c7b0] | rw [c7b1] | (simp only [i64_w, i32_w]; first | rw [c7b0] | rw [c7b1]) | skip)
  simp only [Option.some.injEq, Prod.mk.injEq] at H
  obtain ⟨rfl, rfl⟩ := H
  go_wp2
  go_ret2
  exact ⟨_, fr_, by first | exact Kd.R_nil _ _ _ _ _ | exact Kd.N_nil _ _ _ _ _ | exact Kd.V_nil _ _ _ _ _ | exact Kd.Q_nil _ _ _ _ _ | exact Kd.S_nil _ _ _ _ _, hb_⟩
/-! ### fast_Round: function 14 -/
def fast_Round.f (k : Nat) (a0 : Int) (l1 : List Int) (l2 : List Int) : Option (List Int × Int) := (fast_shaped.f k a0 (([l1, l2] : List (List Int)))).bind fun t494 => (if t494 = 0 then ((fast_reckoner_round.f k a0 l1 l2).bind fun t495 => (some (t495, 0))) else (some (([] : List Int), t494)))
theorem fast_Round.mono : ∀ a0 a1 a2 k, LeO (fast_Round.f k a0 a1 a2) (fast_Round.f (k + 1) a0 a1 a2) := by
 intro a0 a1 a2 k
 unfold fast_Round.f
 repeat' first
   | (with_reducible exact fast_reckoner_round.mono _ _ _ _)
   | (with_reducible exact fast_shaped.mono _ _ _)
   | (with_reducible exact LeO.refl _)
   | (with_reducible exact LeO.none _)
   | (with_reducible refine LeO.ite ?_ ?_)
   | (with_reducible refine LeO.bind ?_ (fun _ => ?_))
   | exact fast_reckoner_round.mono _ _ _ _
   | exact fast_shaped.mono _ _ _
   | exact LeO.none _
   | refine LeO.ite ?_ ?_
   | refine LeO.bind ?_ (fun _ => ?_)
set_option maxHeartbeats 8000000 in
set_option maxRecDepth 100000 in
theorem fast_Round.calls (k : Nat) (a0 : Int) (P1_ : Nat → Prop) (A1 : Option Addr) (c1 : Nat) (l1 : List Int) (P2_ : Nat → Prop) (A2 : Option Addr) (c2 : Nat) (l2 : List Int) (r1 : List Int) (r2 : Int) (w : World) (hs1 : Kd.V (Kd.int .u64) 33 w w.heap.size (fun k_ => P1_ k_) (.slice A1 l1.length c1) l1) (hs2 : Kd.V (Kd.int .u64) 33 w w.heap.size (fun k_ => P2_ k_) (.slice A2 l2.length c2) l2) (h : fast_Round.f k a0 l1 l2 = some (r1, r2)) :
  Calls Try.prog 14 #[.int .u8 a0, .slice A1 l1.length c1, .slice A2 l2.length c2] w fun e w' => ∃ v0_ : Value, e = .returned (.tuple #[v0_, .int .i64 r2]) ∧ Kd.R (Kd.int .u64) 33 w' w.heap.size (fun k_ => (w.heap.size ≤ k_)) v0_ r1 ∧ Below w.heap.size w w' := by
 have hu47 := Try.underlying47
 have HO1 := A_ (show Kd.V (Kd.int .u64) 33 w w.heap.size (fun k_ => ((P1_ k_ ∨ P2_ k_) ∨ w.heap.size ≤ k_)) (.slice A1 l1.length c1) l1 from Kd.V_mono hs1 (fun k_ hk => .inl (.inl hk)))
 have HO2 := A_ (show Kd.V (Kd.int .u64) 33 w w.heap.size (fun k_ => ((P1_ k_ ∨ P2_ k_) ∨ w.heap.size ≤ k_)) (.slice A2 l2.length c2) l2 from Kd.V_mono hs2 (fun k_ hk => .inl (.inr hk)))
 have HB := A_ (Below.refl w.heap.size w)
 have H : ((fast_shaped.f k a0 (([l1, l2] : List (List Int)))).bind fun t494 => (if t494 = 0 then ((fast_reckoner_round.f k a0 l1 l2).bind fun t495 => (some (t495, 0))) else (some (([] : List Int), t494)))) = some (r1, r2) := h
 clear h
 obtain ⟨y491, hy491⟩ : ∃ y_ : List (List Int), y_ = (([l1, l2] : List (List Int))) := ⟨_, rfl⟩
 replace H : ((fast_shaped.f k a0 y491).bind fun t494 => (if t494 = 0 then ((fast_reckoner_round.f k a0 l1 l2).bind fun t495 => (some (t495, 0))) else (some (([] : List Int), t494)))) = some (r1, r2) := by first | (rw [hy491]; with_reducible exact H) | (have H2_ := (Option.bind_some _ _).symm.trans H; rw [hy491]; with_reducible exact H2_) | (have H2_ := (Option.bind_some _ _).symm.trans H; with_reducible exact H2_) | with_reducible exact H | (rw [hy491]; exact H) | exact H
 have Ny491 := Aside0.mk hy491
 clear hy491
 replace H := Option.bind_eq_some_iff.mp H
 obtain ⟨t494, A40, H⟩ := H
 replace H : (if t494 = 0 then ((fast_reckoner_round.f k a0 l1 l2).bind fun t495 => (some (t495, 0))) else (some (([] : List Int), t494))) = some (r1, r2) := H
 have A4 := Aside0.mk A40
 clear A40
 have HC5 := Aside0.mk H
 clear H
 go_enter Try.func14, Try.ntmps14
 go_upto_if 15 with (first | ((with_reducible refine gate_dst (N := 12) rfl ?_); refine Kd.N_lit (Kd.slice 33 (Kd.int .u64)) _ 22 ?hg (N' := 12) ?hd (xs := ([l1, l2] : List (List Int))) (inner := [.slice A1 l1.length c1, .slice A2 l2.length c2]) (ok := (fun k_ => ((P1_ k_ ∨ P2_ k_) ∨ w.heap.size ≤ k_))) (okp := (fun k_ => ((P1_ k_ ∨ P2_ k_) ∨ w.heap.size ≤ k_))) ?hr ?hp (fun _ hk => hk) ((show ∀ k_, w.heap.size ≤ k_ → (fun k_ => ((P1_ k_ ∨ P2_ k_) ∨ w.heap.size ≤ k_)) k_ from fun k_ hk => (.inr (Nat.le_trans (below_size hb_) hk))) _ (Nat.le_refl _)) (Below.refl _ _) (Nat.le_refl _) (by simp) ?_; (case hd => rfl); (case hg => rfl); (case hr => first | (go_simp; done) | (go_simp; rfl)); (case hp => exact (Reps.one (show Kd.FK (Kd.slice 33 (Kd.int .u64)) _ _ l1 [.slice A1 l1.length c1] from (Kd.FK_slice_mk (Kd.V_reads' (Kd.V_mono (ok' := (fun k_ => ((P1_ k_ ∨ P2_ k_) ∨ w.heap.size ≤ k_))) (HO1.out) (fun k_ hk => hk))).2.1 (Kd.V_F (Kd.V_mono (ok' := (fun k_ => ((P1_ k_ ∨ P2_ k_) ∨ w.heap.size ≤ k_))) (HO1.out) (fun k_ hk => hk))))) (Reps.one (show Kd.FK (Kd.slice 33 (Kd.int .u64)) _ _ l2 [.slice A2 l2.length c2] from (Kd.FK_slice_mk (Kd.V_reads' (Kd.V_mono (ok' := (fun k_ => ((P1_ k_ ∨ P2_ k_) ∨ w.heap.size ≤ k_))) (HO2.out) (fun k_ hk => hk))).2.1 (Kd.V_F (Kd.V_mono (ok' := (fun k_ => ((P1_ k_ ∨ P2_ k_) ∨ w.heap.size ≤ k_))) (HO2.out) (fun k_ hk => hk))))) (Reps.none _ _)))); intro v492 w6 ho7 hb hg_ hnew_; clear hg_ hnew_; (first | rw [← Ny491.out] at ho7 | (simp only [Int.reduceToNat] at ho7; rw [← Ny491.out] at ho7)); have n0_ := A_ (Kd.V_elder' (nV_ HO1) (Kd.N_base ho7) hb); have n1_ := A_ (Kd.V_elder' (nV_ HO2) (Kd.N_base ho7) hb); have n2_ := A_ (Kd.N_lower ho7 (below_size hb_)); have n3_ := A_ (below_step hb_ hb); clear HO1 HO2 HB; have HO1 := n0_; have HO2 := n1_; have HO493 := n2_; have HB := n3_; clear n0_ n1_ n2_ n3_; clear hb ho7; obtain ⟨Ao8, co8, eo8⟩ := Kd.N_slice HO493.out; subst eo8) | ((with_reducible refine gate_callee (f := 24) rfl ?_); refine goesM_ (some 13) Try.func24 #[.int .u8 a0, .slice Ao8 y491.length co8] ?_; (with_reducible refine (fast_shaped.calls k a0 _ _ y491 t494 _ ?side1 ?side2 A4.out).mono ?_); (case side1 => repeat (first | exact (Kd.N_reads' HO493.out).2.2 | (with_reducible refine Kd.C_alloc ?_ _) | (with_reducible refine Kd.C_drewN ?_ _) | (with_reducible refine Kd.C_drew ?_))); (case side2 => exact (Kd.N_reads' HO493.out).2.1); rintro e w9 ⟨rfl, hb⟩; refine ⟨_, rfl, ?_⟩; have n0_ := A_ (Kd.V_below (nV_ HO1) hb); have n1_ := A_ (Kd.V_below (nV_ HO2) hb); have n2_ := A_ (Kd.N_below (nN_ HO493) hb); have n3_ := A_ (below_step hb_ hb); clear HO1 HO2 HO493 HB; have HO1 := n0_; have HO2 := n1_; have HO493 := n2_; have HB := n3_; clear n0_ n1_ n2_ n3_; (try clear hb)))
 (try simp only [Act.put, List.setIfInBounds_toArray, List.set_cons_zero, List.set_cons_succ])
 have H := HC5.out
 clear HC5
 by_cases c10 : t494 = 0
 ·rw [if_pos c10] at H
  have c10b0 : (t494 == 0) = true := beq_iff_eq.mpr c10
  have c10b1 : (t494 != 0) = false := bne_eq_false_iff_eq.mpr c10
  clear c10
  (first | rw [c10b0] | rw [c10b1] | (simp only [i64_w, i32_w]; first | rw [c10b0] | rw [c10b1]) | skip)
  replace H := Option.bind_eq_some_iff.mp H
  obtain ⟨t495, A110, H⟩ := H
  replace H : (some (t495, 0)) = some (r1, r2) := H
  have A11 := Aside0.mk A110
  clear A110
  simp only [Option.some.injEq, Prod.mk.injEq] at H
  obtain ⟨rfl, rfl⟩ := H
  go_wp2_with (first | ((with_reducible refine gate_callee (f := 32) rfl ?_); refine goesM_ (some 21) Try.func32 #[.agg #[.int .u8 a0], .slice A1 l1.length c1, .slice A2 l2.length c2] ?_; (with_reducible refine (fast_reckoner_round.calls k a0 _ _ l1 _ _ l2 t495 _ ?side1 ?side2 ?side3 ?side4 A11.out).mono ?_); (case side1 => repeat (first | exact (Kd.V_reads' HO1.out).2.2 | (with_reducible refine Kd.C_alloc ?_ _) | (with_reducible refine Kd.C_drewN ?_ _) | (with_reducible refine Kd.C_drew ?_))); (case side2 => exact (Kd.V_reads' HO1.out).2.1); (case side3 => repeat (first | exact (Kd.V_reads' HO2.out).2.2 | (with_reducible refine Kd.C_alloc ?_ _) | (with_reducible refine Kd.C_drewN ?_ _) | (with_reducible refine Kd.C_drew ?_))); (case side4 => exact (Kd.V_reads' HO2.out).2.1); rintro e w12 ⟨v496, rfl, ho0, hb⟩; refine ⟨_, rfl, ?_⟩; have n0_ := A_ (Kd.V_elder' (nV_ HO1) (Kd.R_base ho0) hb); have n1_ := A_ (Kd.V_elder' (nV_ HO2) (Kd.R_base ho0) hb); have n2_ := A_ (Kd.N_elder' (nN_ HO493) (Kd.R_base ho0) hb); have n3_ := A_ (Kd.R_lower (Kd.R_newM (M := fun k_ => (w.heap.size ≤ k_)) ho0 (below_size hb_) (fun k_ h_ => h_)) (below_size hb_)); have n4_ := A_ (below_step hb_ hb); clear HO1 HO2 HO493 HB; have HO1 := n0_; have HO2 := n1_; have HO493 := n2_; have HO497 := n3_; have HB := n4_; clear n0_ n1_ n2_ n3_ n4_; (try clear hb); (try clear ho0)))
  go_ret2
  exact ⟨_, fr_, by (with_reducible repeat (first | apply Kd.R_alloc | apply Kd.R_drewN | apply Kd.R_drew)); exact Kd.R_mono HO497.out (fun _ hk => hk.1), hb_⟩
 ·rw [if_neg c10] at H
  have c10b0 : (t494 == 0) = false := beq_eq_false_iff_ne.mpr c10
  have c10b1 : (t494 != 0) = true := bne_iff_ne.mpr c10
  (first | rw [c10b0] | rw [c10b1] | (simp only [i64_w, i32_w]; first | rw [c10b0] | rw [c10b1]) | skip)
  simp only [Option.some.injEq, Prod.mk.injEq] at H
  obtain ⟨rfl, rfl⟩ := H
  go_wp2
  go_ret2
  exact ⟨_, fr_, by first | exact Kd.R_nil _ _ _ _ _ | exact Kd.N_nil _ _ _ _ _ | exact Kd.V_nil _ _ _ _ _ | exact Kd.Q_nil _ _ _ _ _ | exact Kd.S_nil _ _ _ _ _, hb_⟩
/-! ### cr1_Spoil: function 15 -/
mutual
def cr1_Spoil.l0 : Nat → List Int → Int → Int → Option (Unit)
 | 0, _, _, _ => none
 | k + 1, x0, x1, x4 => if x4 < (x0.length : Int) then (if 0 ≤ x4 then (cr1_Spoil.l0 k (x0.set (x4 : Int).toNat (IntKind.u64.wrap (x1 + (IntKind.u64.wrap (x4))))) x1 (wrap64 (x4 + 1))) else (none)) else ((some (([x1, x1, x1] : List Int) : List Int)).bind fun y499 => (if x0.length + y499.length < 17592186044416 then (cr1_Spoil.l1 k (x0 ++ y499) x1 0) else (none)))
def cr1_Spoil.l1 : Nat → List Int → Int → Int → Option (Unit)
 | 0, _, _, _ => none
 | k + 1, x0, x1, x5 => if x5 < (x0.length : Int) then (if 0 ≤ x5 then (cr1_Spoil.l1 k (x0.set (x5 : Int).toNat x1) x1 (wrap64 (x5 + 1))) else (none)) else (some ())
end
def cr1_Spoil.f (k : Nat) (l0 : List Int) (a1 : Int) : Option (Unit) := cr1_Spoil.l0 k l0 a1 0
theorem cr1_Spoil.mono_l : ∀ k, (∀ y0 y1 y2, LeO (cr1_Spoil.l0 k y0 y1 y2) (cr1_Spoil.l0 (k + 1) y0 y1 y2)) ∧ (∀ y0 y1 y2, LeO (cr1_Spoil.l1 k y0 y1 y2) (cr1_Spoil.l1 (k + 1) y0 y1 y2))
 | 0 => ⟨fun _ _ _ r h => by simp [cr1_Spoil.l0] at h, fun _ _ _ r h => by simp [cr1_Spoil.l1] at h⟩
 | k + 1 => by
  obtain ⟨ih0, ih1⟩ := cr1_Spoil.mono_l k
  refine ⟨?_, ?_⟩
  ·intro y0 y1 y2
   unfold cr1_Spoil.l0
   repeat' first
   | (with_reducible exact ih0 _ _ _)
   | (with_reducible exact ih1 _ _ _)
   | (with_reducible exact LeO.refl _)
   | (with_reducible exact LeO.none _)
   | (with_reducible refine LeO.ite ?_ ?_)
   | (with_reducible refine LeO.bind ?_ (fun _ => ?_))
   | exact ih0 _ _ _
   | exact ih1 _ _ _
   | exact LeO.none _
   | refine LeO.ite ?_ ?_
   | refine LeO.bind ?_ (fun _ => ?_)
  ·intro y0 y1 y2
   unfold cr1_Spoil.l1
   repeat' first
   | (with_reducible exact ih0 _ _ _)
   | (with_reducible exact ih1 _ _ _)
   | (with_reducible exact LeO.refl _)
   | (with_reducible exact LeO.none _)
   | (with_reducible refine LeO.ite ?_ ?_)
   | (with_reducible refine LeO.bind ?_ (fun _ => ?_))
   | exact ih0 _ _ _
   | exact ih1 _ _ _
   | exact LeO.none _
   | refine LeO.ite ?_ ?_
   | refine LeO.bind ?_ (fun _ => ?_)
theorem cr1_Spoil.mono : ∀ a0 a1 k, LeO (cr1_Spoil.f k a0 a1) (cr1_Spoil.f (k + 1) a0 a1) := by
 intro a0 a1 k
 obtain ⟨ih0, ih1⟩ := cr1_Spoil.mono_l k
 unfold cr1_Spoil.f
 repeat' first
   | (with_reducible exact ih0 _ _ _)
   | (with_reducible exact ih1 _ _ _)
   | (with_reducible exact LeO.refl _)
   | (with_reducible exact LeO.none _)
   | (with_reducible refine LeO.ite ?_ ?_)
   | (with_reducible refine LeO.bind ?_ (fun _ => ?_))
   | exact ih0 _ _ _
   | exact ih1 _ _ _
   | exact LeO.none _
   | refine LeO.ite ?_ ?_
   | refine LeO.bind ?_ (fun _ => ?_)
set_option maxHeartbeats 8000000 in
set_option maxRecDepth 100000 in
theorem cr1_Spoil.calls (k : Nat) (P0_ : Nat → Prop) (u9000_ : Value) (l0 : List Int) (a1 : Int) (w0 w : World) (hB : Below w0.heap.size w0 w) (ho0 : Kd.R (Kd.int .u64) 33 w w0.heap.size P0_ u9000_ l0) (h : cr1_Spoil.f k l0 a1 = some ()) :
  Calls Try.prog 15 #[u9000_, .int .u64 a1] w fun e w' => e = .returned (.tuple #[]) ∧ Below w0.heap.size w0 w' ∧ Kept w w' (fun k_ => P0_ k_) := by
 have HO0 := A_ (show Kd.R (Kd.int .u64) 33 w w0.heap.size (fun k_ => (P0_ k_ ∨ w.heap.size ≤ k_)) u9000_ l0 from Kd.R_mono ho0 (fun k_ hk => (.inl hk)))
 have HK := A_ (Kept.refl w (fun k_ => P0_ k_))
 have HW0 := Aside0.mk hB.size
 have HB := Aside0.mk hB
 clear hB
 have H : (cr1_Spoil.l0 k l0 a1 0) = some () := h
 clear h
 have H' := Aside0.mk H
 clear H
 go_enter Try.func15, Try.ntmps15
 go_wp2
 go_loopg [4] k (fun kq v4 w' => ∃ (x0_1 : List Int) (x4_1 : Int), v4 = .int .i64 x4_1 ∧ Aside0 (cr1_Spoil.l0 kq x0_1 a1 x4_1 = some ()) ∧ Aside0 (kq ≤ k) ∧ Aside0 (Kd.R (Kd.int .u64) 33 w' w0.heap.size (fun k_ => (P0_ k_ ∨ w.heap.size ≤ k_)) u9000_ x0_1) ∧ Aside0 (Kept w w' (fun k_ => P0_ k_)) ∧ Aside0 (Below w0.heap.size w0 w'))
 case atStart => exact ⟨(l0), (0), (fs_), H', ⟨Nat.le_refl _⟩, ⟨mR_ HO0.out⟩, ⟨by repeat (first | (with_reducible first | exact HK.out | apply Kept.alloc | apply Kept.drewN | apply Kept.drew) | exact HK.out)⟩, ⟨by repeat (first | (with_reducible first | exact HB.out | apply below_alloc | apply pw_below_drewN | apply below_drew1) | exact HB.out)⟩⟩
 case round =>
  clear H'
  try clear c1
  try clear p2
  obtain ⟨x0_1, x4_1, rfl, HA, HK1, HO_0, HK, HB⟩ := hrel
  cases gk with
  | zero => exact absurd HA.out (by simp [cr1_Spoil.l0])
  | succ k1 =>
   have H := HA.out
   clear HA
   simp only [cr1_Spoil.l0] at H
   by_cases c3 : x4_1 < (x0_1.length : Int)
   ·rw [if_pos c3] at H
    have c3b0 : decide (x4_1 < (x0_1.length : Int)) = true := decide_eq_true c3
    clear c3
    by_cases c4 : 0 ≤ x4_1
    ·rw [if_pos c4] at H
     have c4b0 : decide (0 ≤ x4_1) = true := decide_eq_true c4
     clear c4
     obtain ⟨y498, hy498⟩ : ∃ y_ : List Int, y_ = (x0_1.set (x4_1 : Int).toNat (IntKind.u64.wrap (a1 + (IntKind.u64.wrap (x4_1))))) := ⟨_, rfl⟩
     replace H : (cr1_Spoil.l0 k1 y498 a1 (wrap64 (x4_1 + 1))) = some () := by first | (rw [hy498]; with_reducible exact H) | (have H2_ := (Option.bind_some _ _).symm.trans H; rw [hy498]; with_reducible exact H2_) | (have H2_ := (Option.bind_some _ _).symm.trans H; with_reducible exact H2_) | with_reducible exact H | (rw [hy498]; exact H) | exact H
     have Ny498 := Aside0.mk hy498
     clear hy498
     have H' := Aside0.mk H
     clear H
     obtain ⟨Ao6, co6, eo6⟩ := Kd.R_slice HO_0.out
     subst eo6
     have p5 : 0 ≤ (x4_1 : Int) := of_decide_eq_true (by first | (with_reducible assumption) | assumption)
     have q5 : (x4_1 : Int) < ((x0_1.length : Int) : Int) := of_decide_eq_true (by first | (with_reducible assumption) | assumption)
     obtain ⟨go5, co5, eo5, gb5, gl5, cl5, HG5⟩ := Kd.R_form HO_0.out (by omega)
     (first | cases eo5 | (injection eo5 with ea_ en_ ec_; (first | subst ea_ | (injection ea_ with ea_; subst ea_)); subst ec_; clear en_))
     (try simp only [addr_add0] at *)
     have GB5 := Aside0.mk gb5
     have GG5 := Aside0.mk HG5
     clear gb5 gl5 HG5
     have HMgo5 := A_ (show (P0_ go5 ∨ w.heap.size ≤ go5) from (HO_0.out.1 _ rfl))
     obtain ⟨hx5_0, hf5_0⟩ := Kd.R_celln 0 HO_0.out (x4_1 : Int) p5 q5
     replace p5 := eq_true p5
     replace q5 := eq_true q5
     have HP7 := Kd.R_putg HO_0.out (x4_1 : Int) (IntKind.u64.wrap (a1 + (IntKind.u64.wrap (x4_1))))
     go_wp2_with (first | ((with_reducible refine gate_store (t := 33) (p := 18) rfl ?_); refine store_event (t := 33) (p := 18) (v := ?vo_w8) (w1 := (wr.setCell ⟨go5, (x4_1 : Int).toNat, none⟩ (.int .u64 (IntKind.u64.wrap (a1 + (IntKind.u64.wrap (x4_1))))))) ?hg ?ho ?hn ?hr ?_; (case ho => rfl); (case hg => rfl); (case hn => rfl); (case hr => first | (go_simp; done) | (go_simp; rfl)); intro w8 hw; have hg : wr.grownBy w8 (some go5) := (by rw [hw]; exact HP7.2); have hp_ : Kd.R (Kd.int .u64) 33 w8 w0.heap.size (fun k_ => (P0_ k_ ∨ w.heap.size ≤ k_)) (.slice (some ⟨go5, 0, none⟩) x0_1.length co6) y498 := (by rw [hw, Ny498.out]; exact HP7.1); clear HP7; have n0_ := A_ (hp_); have n1_ := A_ ((by rw [hw]; exact below_set (HB.out) GB5.out : Below w0.heap.size w0 w8)); have n2_ := A_ (Kept.of_grown (S := (fun k_ => P0_ k_)) hg (by repeat (first | (with_reducible first | exact HK.out | apply Kept.alloc | apply Kept.drewN | apply Kept.drew) | exact HK.out)) (fun k_ e_ => (HO_0.out.1 k_ e_))); clear HO_0 HB HK; have HO_0 := n0_; have HB := n1_; have HK := n2_; clear n0_ n1_ n2_; clear hg hw hp_))
     go_roundg k1
     case measure => have := HK1.out; omega
     case rel => exact ⟨(y498), (wrap64 (x4_1 + 1)), (fs_), H', ⟨by have := HK1.out; omega⟩, ⟨mR_ HO_0.out⟩, ⟨by repeat (first | (with_reducible first | exact HK.out | apply Kept.alloc | apply Kept.drewN | apply Kept.drew) | exact HK.out)⟩, ⟨by repeat (first | (with_reducible first | exact HB.out | apply below_alloc | apply pw_below_drewN | apply below_drew1) | exact HB.out)⟩⟩
    ·rw [if_neg c4] at H
     exact absurd H (by simp)
   ·rw [if_neg c3] at H
    have c3b0 : decide (x4_1 < (x0_1.length : Int)) = false := decide_eq_false c3
    clear c3
    obtain ⟨y499, hy499⟩ : ∃ y_ : List Int, y_ = (([a1, a1, a1] : List Int)) := ⟨_, rfl⟩
    replace H : (if x0_1.length + y499.length < 17592186044416 then (cr1_Spoil.l1 k1 (x0_1 ++ y499) a1 0) else (none)) = some () := by first | (rw [hy499]; with_reducible exact H) | (have H2_ := (Option.bind_some _ _).symm.trans H; rw [hy499]; with_reducible exact H2_) | (have H2_ := (Option.bind_some _ _).symm.trans H; with_reducible exact H2_) | with_reducible exact H | (rw [hy499]; exact H) | exact H
    have Ny499 := Aside0.mk hy499
    clear hy499
    by_cases c9 : x0_1.length + y499.length < 17592186044416
    ·rw [if_pos c9] at H
     have LMc9 := Aside0.mk c9
     clear c9
     obtain ⟨y502, hy502⟩ : ∃ y_ : List Int, y_ = (x0_1 ++ y499) := ⟨_, rfl⟩
     replace H : (cr1_Spoil.l1 k1 y502 a1 0) = some () := by first | (rw [hy502]; with_reducible exact H) | (have H2_ := (Option.bind_some _ _).symm.trans H; rw [hy502]; with_reducible exact H2_) | (have H2_ := (Option.bind_some _ _).symm.trans H; with_reducible exact H2_) | with_reducible exact H | (rw [hy502]; exact H) | exact H
     have Ny502 := Aside0.mk hy502
     clear hy502
     have H' := Aside0.mk H
     clear H
     obtain ⟨Ao10, co10, eo10⟩ := Kd.R_slice HO_0.out
     subst eo10
     go_wp2_with (first | ((with_reducible refine gate_dst (N := 23) rfl ?_); refine Kd.R_lit (Kd.int .u64) _ 33 ?hg (N := 23) ?hd (xs := ([a1, a1, a1] : List Int)) (inner := [.int .u64 a1, .int .u64 a1, .int .u64 a1]) (ok := fun _ => True) (okp := fun _ => True) ?hr ?hp (fun _ hk => hk) trivial (Below.refl _ _) (Nat.le_refl _) (by simp) ?_; (case hd => rfl); (case hg => rfl); (case hr => first | (go_simp; done) | (go_simp; rfl)); (case hp => exact (Reps.one (show Kd.M (Kd.int .u64) _ _ _ a1 [.int .u64 a1] from rfl) (Reps.one (show Kd.M (Kd.int .u64) _ _ _ a1 [.int .u64 a1] from rfl) (Reps.one (show Kd.M (Kd.int .u64) _ _ _ a1 [.int .u64 a1] from rfl) (Reps.none _ _))))); intro v500 w11 ho12 hb hg_ hnew_; clear hg_ hnew_; (first | rw [← Ny499.out] at ho12 | (simp only [Int.reduceToNat] at ho12; rw [← Ny499.out] at ho12)); have n0_ := A_ (Kd.R_elder' (nR_ HO_0) (Kd.R_base ho12) hb); have n1_ := A_ (Kd.R_lower (Kd.R_new' (Kd.R_newM (M := fun k_ => (P0_ k_ ∨ w.heap.size ≤ k_)) ho12 (by first | exact HK.out.1 | exact (show Kept w _ (fun k_ => P0_ k_) from by repeat (first | (with_reducible first | exact HK.out | apply Kept.alloc | apply Kept.drewN | apply Kept.drew) | exact HK.out)).1) (fun k_ h_ => .inr h_)) (Kd.R_lt (nR_ HO_0))) (below_size hb_)); have n2_ := A_ (Kept.below (S := (fun k_ => P0_ k_)) (by repeat (first | (with_reducible first | exact HK.out | apply Kept.alloc | apply Kept.drewN | apply Kept.drew) | exact HK.out)) hb); have n3_ := A_ (below_step hb_ hb); clear HO_0 HK HB; have HO_0 := n0_; have HO501 := n1_; have HK := n2_; have HB := n3_; clear n0_ n1_ n2_ n3_; clear hb ho12; obtain ⟨Ao14, co14, eo14⟩ := Kd.R_slice HO501.out; subst eo14) | ((with_reducible refine gate_builtin (b := .append) (xs := #[.tmp 19, .tmp 23]) rfl ?_); at_builtin; refine Kd.R_append_rows (Kd.int .u64) (w0 := w0) w0.heap.size rfl (.tmp 19) (.tmp 23) 22 33 (.int .u64 0) 8 rfl Try.underlying22 info33 rfl (by decide) (by omega) (.slice Ao10 x0_1.length co10) x0_1 y499 _ _ _ (fun k_ => (P0_ k_ ∨ w.heap.size ≤ k_) ∧ some k_ ≠ (.slice Ao14 y499.length co14 : Value).ownBlock) (fun _ => False) rfl rfl ?aO ?aR (fun _ _ h => h) (fun _ h => h.elim) ?aF ?aB ?aS ?aL ?_; (case aR => repeat (first | exact (Kd.R_reads' HO501.out).2.2 | (with_reducible refine Kd.C_alloc ?_ _) | (with_reducible refine Kd.C_drewN ?_ _) | (with_reducible refine Kd.C_drew ?_))); (case aB => exact hb_); (case aF => exact (fun k_ hk => ⟨(.inr (Nat.le_trans (by first | exact HK.out.1 | exact (show Kept w _ (fun k_ => P0_ k_) from by repeat (first | (with_reducible first | exact HK.out | apply Kept.alloc | apply Kept.drewN | apply Kept.drew) | exact HK.out)).1) hk)), Kd.fresh' (Kd.R_lt (nR_ HO501)) k_ hk⟩)); (case aO => exact (nR_ HO_0)); (case aS => exact (below_size hb_)); (case aL => have := LMc9.out; omega); intro v503 w13 ho hb hg hat; rw [← Ny502.out] at ho; have n0_ := A_ (Kd.R_after (ok := (fun k_ => (P0_ k_ ∨ w.heap.size ≤ k_))) (by (with_reducible repeat (first | apply Kd.R_alloc | apply Kd.R_drewN | apply Kd.R_drew)); exact Kd.R_mono HO501.out (fun _ hk => ⟨hk.1.1, hk.2⟩)) hg hat); have n1_ := A_ (hb); have n2_ := A_ (Kept.of_grown (S := (fun k_ => P0_ k_)) hg (by repeat (first | (with_reducible first | exact HK.out | apply Kept.alloc | apply Kept.drewN | apply Kept.drew) | exact HK.out)) (fun k_ e_ => (HO_0.out.1 k_ e_).1)); have n3_ := A_ (ho); clear HO501 HB HK HO_0; have HO501 := n0_; have HB := n1_; have HK := n2_; have HO504 := n3_; clear n0_ n1_ n2_ n3_; clear ho hb hg hat))
     go_loopg [5] k1 (fun kq v5 w' => ∃ (x0_2 : List Int) (x5_2 : Int), v5 = .int .i64 x5_2 ∧ Aside0 (cr1_Spoil.l1 kq x0_2 a1 x5_2 = some ()) ∧ Aside0 (kq ≤ k1) ∧ Aside0 (Kd.R (Kd.int .u64) 33 w' w0.heap.size (fun k_ => (P0_ k_ ∨ w.heap.size ≤ k_)) v503 x0_2) ∧ Aside0 (Kept w w' (fun k_ => P0_ k_)) ∧ Aside0 (Below w0.heap.size w0 w'))
     case atStart => exact ⟨(y502), (0), (fs_), H', ⟨Nat.le_refl _⟩, ⟨by (with_reducible repeat (first | apply Kd.R_alloc | apply Kd.R_drewN | apply Kd.R_drew)); exact Kd.R_mono HO504.out (fun _ hk => hk.1)⟩, ⟨by repeat (first | (with_reducible first | exact HK.out | apply Kept.alloc | apply Kept.drewN | apply Kept.drew) | exact HK.out)⟩, ⟨by repeat (first | (with_reducible first | exact HB.out | apply below_alloc | apply pw_below_drewN | apply below_drew1) | exact HB.out)⟩⟩
     case round =>
      clear H'
      try clear c1
      try clear p2
      try clear c3
      try clear c3b0
      try clear c4
      try clear c4b0
      try clear p5
      try clear q5
      try clear hx5
      try clear hf5
      try clear p6
      try clear c9
      try clear hx5_0
      try clear p2
      try clear p5
      try clear q5
      obtain ⟨x0_2, x5_2, rfl, HA, HK2, HO_0, HK, HB⟩ := hrel
      cases gk with
      | zero => exact absurd HA.out (by simp [cr1_Spoil.l1])
      | succ k2 =>
       have H := HA.out
       clear HA
       simp only [cr1_Spoil.l1] at H
       by_cases c15 : x5_2 < (x0_2.length : Int)
       ·rw [if_pos c15] at H
        have c15b0 : decide (x5_2 < (x0_2.length : Int)) = true := decide_eq_true c15
        clear c15
        by_cases c16 : 0 ≤ x5_2
        ·rw [if_pos c16] at H
         have c16b0 : decide (0 ≤ x5_2) = true := decide_eq_true c16
         clear c16
         obtain ⟨y505, hy505⟩ : ∃ y_ : List Int, y_ = (x0_2.set (x5_2 : Int).toNat a1) := ⟨_, rfl⟩
         replace H : (cr1_Spoil.l1 k2 y505 a1 (wrap64 (x5_2 + 1))) = some () := by first | (rw [hy505]; with_reducible exact H) | (have H2_ := (Option.bind_some _ _).symm.trans H; rw [hy505]; with_reducible exact H2_) | (have H2_ := (Option.bind_some _ _).symm.trans H; with_reducible exact H2_) | with_reducible exact H | (rw [hy505]; exact H) | exact H
         have Ny505 := Aside0.mk hy505
         clear hy505
         have H' := Aside0.mk H
         clear H
         obtain ⟨Ao18, co18, eo18⟩ := Kd.R_slice HO_0.out
         subst eo18
         have p17 : 0 ≤ (x5_2 : Int) := of_decide_eq_true (by first | (with_reducible assumption) | assumption)
         have q17 : (x5_2 : Int) < ((x0_2.length : Int) : Int) := of_decide_eq_true (by first | (with_reducible assumption) | assumption)
         obtain ⟨go17, co17, eo17, gb17, gl17, cl17, HG17⟩ := Kd.R_form HO_0.out (by omega)
         (first | cases eo17 | (injection eo17 with ea_ en_ ec_; (first | subst ea_ | (injection ea_ with ea_; subst ea_)); subst ec_; clear en_))
         (try simp only [addr_add0] at *)
         have GB17 := Aside0.mk gb17
         have GG17 := Aside0.mk HG17
         clear gb17 gl17 HG17
         have HMgo17 := A_ (show (P0_ go17 ∨ w.heap.size ≤ go17) from (HO_0.out.1 _ rfl))
         obtain ⟨hx17_0, hf17_0⟩ := Kd.R_celln 0 HO_0.out (x5_2 : Int) p17 q17
         replace p17 := eq_true p17
         replace q17 := eq_true q17
         have HP19 := Kd.R_putg HO_0.out (x5_2 : Int) a1
         go_wp2_with (first | ((with_reducible refine gate_store (t := 33) (p := 34) rfl ?_); refine store_event (t := 33) (p := 34) (v := ?vo_w20) (w1 := (wr.setCell ⟨go17, (x5_2 : Int).toNat, none⟩ (.int .u64 a1))) ?hg ?ho ?hn ?hr ?_; (case ho => rfl); (case hg => rfl); (case hn => rfl); (case hr => first | (go_simp; done) | (go_simp; rfl)); intro w20 hw; have hg : wr.grownBy w20 (some go17) := (by rw [hw]; exact HP19.2); have hp_ : Kd.R (Kd.int .u64) 33 w20 w0.heap.size (fun k_ => (P0_ k_ ∨ w.heap.size ≤ k_)) (.slice (some ⟨go17, 0, none⟩) x0_2.length co18) y505 := (by rw [hw, Ny505.out]; exact HP19.1); clear HP19; have n0_ := A_ (hp_); have n1_ := A_ ((by rw [hw]; exact below_set (HB.out) GB17.out : Below w0.heap.size w0 w20)); have n2_ := A_ (Kept.of_grown (S := (fun k_ => P0_ k_)) hg (by repeat (first | (with_reducible first | exact HK.out | apply Kept.alloc | apply Kept.drewN | apply Kept.drew) | exact HK.out)) (fun k_ e_ => (HO_0.out.1 k_ e_))); clear HO_0 HB HK; have HO_0 := n0_; have HB := n1_; have HK := n2_; clear n0_ n1_ n2_; clear hg hw hp_))
         go_roundg k2
         case measure => have := HK1.out; have := HK2.out; omega
         case rel => exact ⟨(y505), (wrap64 (x5_2 + 1)), (fs_), H', ⟨by have := HK1.out; have := HK2.out; omega⟩, ⟨mR_ HO_0.out⟩, ⟨by repeat (first | (with_reducible first | exact HK.out | apply Kept.alloc | apply Kept.drewN | apply Kept.drew) | exact HK.out)⟩, ⟨by repeat (first | (with_reducible first | exact HB.out | apply below_alloc | apply pw_below_drewN | apply below_drew1) | exact HB.out)⟩⟩
        ·rw [if_neg c16] at H
         exact absurd H (by simp)
       ·rw [if_neg c15] at H
        have c15b0 : decide (x5_2 < (x0_2.length : Int)) = false := decide_eq_false c15
        clear c15
        obtain ⟨Ao21, co21, eo21⟩ := Kd.R_slice HO_0.out
        subst eo21
        go_wp2
        first | go_end0 | ((try simp only [Exit.inBlock, Exit.then]); refine bodyPost_ret (results_none rfl _ _ _) rfl ?_)
        exact ⟨fr_, by repeat (first | (with_reducible first | exact HB.out | apply below_alloc | apply pw_below_drewN | apply below_drew1) | exact HB.out), by repeat (first | (with_reducible first | exact HK.out | apply Kept.alloc | apply Kept.drewN | apply Kept.drew) | exact HK.out)⟩
    ·rw [if_neg c9] at H
     exact absurd H (by simp)
/-! ### cr1_Sum: function 34 -/
def cr1_Sum.f (a0 : Int) (a1 : Int) (a2 : Int) : Option (Int) := if a1 ≥ (IntKind.u64.wrap (a0 - a2)) then (some (IntKind.u64.wrap (a1 - (IntKind.u64.wrap (a0 - a2))))) else (some (IntKind.u64.wrap (a1 + a2)))
set_option maxHeartbeats 8000000 in
set_option maxRecDepth 100000 in
theorem cr1_Sum.calls (a0 : Int) (a1 : Int) (a2 : Int) (r : Int) (w : World) (h : cr1_Sum.f a0 a1 a2 = some r) :
  Calls Try.prog 34 #[.int .u64 a0, .int .u64 a1, .int .u64 a2] w fun e w' => e = .returned (.int .u64 r) ∧ Drawn0 w w' := by
 have H : (if a1 ≥ (IntKind.u64.wrap (a0 - a2)) then (some (IntKind.u64.wrap (a1 - (IntKind.u64.wrap (a0 - a2))))) else (some (IntKind.u64.wrap (a1 + a2)))) = some r := h
 clear h
 by_cases c4 : a1 ≥ (IntKind.u64.wrap (a0 - a2))
 ·rw [if_pos c4] at H
  have c4b0 : decide ((IntKind.u64.wrap (a0 - a2)) ≤ a1) = true := decide_eq_true c4
  clear c4
  obtain rfl := Option.some.inj H
  go_enter Try.func34, Try.ntmps34
  go_wp2
  go_ret
  exact ⟨fs_, by repeat (first | exact Drawn0.refl _ | apply Drawn0.step)⟩
 ·rw [if_neg c4] at H
  have c4b0 : decide ((IntKind.u64.wrap (a0 - a2)) ≤ a1) = false := decide_eq_false c4
  clear c4
  obtain rfl := Option.some.inj H
  go_enter Try.func34, Try.ntmps34
  go_wp2
  go_ret
  exact ⟨fs_, by repeat (first | exact Drawn0.refl _ | apply Drawn0.step)⟩
end Go.Proofs.Ytaegmhniepfdaaa.PFastFresh
