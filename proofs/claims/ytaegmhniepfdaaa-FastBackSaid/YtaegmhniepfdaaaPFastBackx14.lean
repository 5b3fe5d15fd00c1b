/- The Go functions as Lean functions, each with the proof that its call comes to just that; written by a program of this session, by the words of the print. -/
import Derived.Test.YtaegmhniepfdaaaPFastBackx0
import Derived.Test.YtaegmhniepfdaaaPFastBackx8
import Derived.Test.YtaegmhniepfdaaaPFastBackx9
import Derived.Test.YtaegmhniepfdaaaPFastBackx10
import Derived.Test.YtaegmhniepfdaaaPFastBackx11
import Derived.Test.YtaegmhniepfdaaaPFastBackx13
namespace Go.Proofs.Ytaegmhniepfdaaa.PFastBack
open Go.RowKit Go.Proofs.YtaegmhniepfdaaaW.PrintWords Go.Proofs.YtaegmhniepfdaaaW.PrintLast Go.Proofs.YtaegmhniepfdaaaW.PrintMore
attribute [local go_sem] max2_int min2_int max_two min_two max_three min_three max_four min_four   -- for this text's walks alone
set_option linter.unusedVariables false
set_option linter.unusedSimpArgs false
/-! ### fast_Mul_1: function 31 -/
def fast_Mul_1.f (l0 : List Int) (a1 : Int) : Option (List Int) := if 0 ≤ (wrap64 (a1 - (l0.length : Int))) then (if l0.length + (wrap64 (a1 - (l0.length : Int)) : Int).toNat < 17592186044416 then (some (l0 ++ List.replicate (wrap64 (a1 - (l0.length : Int)) : Int).toNat 0)) else (none)) else (none)
set_option maxHeartbeats 8000000 in
set_option maxRecDepth 100000 in
theorem fast_Mul_1.calls (P0_ : Nat → Prop) (u9000_ : Value) (l0 : List Int) (a1 : Int) (r : List Int) (w0 w : World) (hB : Below w0.heap.size w0 w) (ho0 : Kd.R (Kd.int .u64) 33 w w0.heap.size P0_ u9000_ l0) (h : fast_Mul_1.f l0 a1 = some r) (g0_ : Nat) (hk0_ : w.cell? ⟨g0_, 0, none⟩ = some (.int .i64 a1)) :
  Calls Try.prog 31 #[u9000_, .pointer (some ⟨g0_, 0, none⟩)] w fun e w' => ∃ v0_ : Value, e = .returned (v0_) ∧ Kd.R (Kd.int .u64) 33 w' w0.heap.size (fun k_ => (P0_ k_ ∨ w.heap.size ≤ k_)) v0_ r ∧ Below w0.heap.size w0 w' ∧ Kept w w' (fun k_ => P0_ k_) := by
 have HO0 := A_ (show Kd.R (Kd.int .u64) 33 w w0.heap.size (fun k_ => (P0_ k_ ∨ w.heap.size ≤ k_)) u9000_ l0 from Kd.R_mono ho0 (fun k_ hk => (.inl hk)))
 have HK := A_ (Kept.refl w (fun k_ => P0_ k_))
 have HW0 := Aside0.mk hB.size
 have HB := Aside0.mk hB
 clear hB
 have H : (if 0 ≤ (wrap64 (a1 - (l0.length : Int))) then (if l0.length + (wrap64 (a1 - (l0.length : Int)) : Int).toNat < 17592186044416 then (some (l0 ++ List.replicate (wrap64 (a1 - (l0.length : Int)) : Int).toNat 0)) else (none)) else (none)) = some r := h
 clear h
 obtain ⟨ji3, hji3⟩ : ∃ j_ : Int, (wrap64 (a1 - (l0.length : Int))) = j_ := ⟨_, rfl⟩
 replace H : (if 0 ≤ (ji3) then (if l0.length + (ji3 : Int).toNat < 17592186044416 then (some (l0 ++ List.replicate (ji3 : Int).toNat 0)) else (none)) else (none)) = some r := by first | (rw [hji3] at H; exact H) | (simp only [hji3] at H ⊢; exact H)
 have hji3w : (IntKind.i64.wrap (a1 - (l0.length : Int))) = ji3 := (i64_w _).trans hji3
 by_cases c4 : 0 ≤ (ji3)
 ·rw [if_pos c4] at H
  have c4b0 := eq_true c4
  have c4b1 : decide (0 ≤ (ji3)) = true := decide_eq_true c4
  clear c4
  by_cases c5 : l0.length + (ji3 : Int).toNat < 17592186044416
  ·rw [if_pos c5] at H
   have LMc5 := Aside0.mk c5
   clear c5
   obtain ⟨y445, hy445⟩ : ∃ y_ : List Int, y_ = (l0 ++ List.replicate (ji3 : Int).toNat 0) := ⟨_, rfl⟩
   replace H : (some y445) = some r := by first | (rw [hy445]; with_reducible exact H) | (have H2_ := (Option.bind_some _ _).symm.trans H; rw [hy445]; with_reducible exact H2_) | (have H2_ := (Option.bind_some _ _).symm.trans H; with_reducible exact H2_) | with_reducible exact H | (rw [hy445]; exact H) | exact H
   have Ny445 := Aside0.mk hy445
   clear hy445
   obtain rfl := Option.some.inj H
   obtain ⟨Ao6, co6, eo6⟩ := Kd.R_slice HO0.out
   subst eo6
   go_enter Try.func31, Try.ntmps31
   go_wp2_with (first | (at_builtin; refine Kd.R_append_zeros (Kd.int .u64) (w0 := w0) w0.heap.size rfl (.tmp 4) (.tmp 8) 22 3 33 (.int .u64 0) 8 rfl Try.underlying22 Try.underlying3 info33 rfl (by decide) (by omega) (.slice Ao6 l0.length co6) l0 0 (ji3 : Int) (fun k_ => (P0_ k_ ∨ w.heap.size ≤ k_)) rfl rfl rfl ?aF ?aO (of_decide_eq_true (by first | (with_reducible assumption) | assumption)) ?aB ?aS ?aL ?_; (case aB => exact hb_); (case aF => exact (fun k_ hk => (.inr (Nat.le_trans (by first | exact HK.out.1 | exact (show Kept w _ (fun k_ => P0_ k_) from by repeat (first | (with_reducible first | exact HK.out | apply Kept.alloc | apply Kept.drewN | apply Kept.drew) | exact HK.out)).1) hk)))); (case aO => exact (nR_ HO0)); (case aS => exact (below_size hb_)); (case aL => have := LMc5.out; omega); intro v446 w7 ho hb hg hat; rw [← Ny445.out] at ho; have n0_ := A_ (hb); have n1_ := A_ (Kept.of_grown (S := (fun k_ => P0_ k_)) hg (by repeat (first | (with_reducible first | exact HK.out | apply Kept.alloc | apply Kept.drewN | apply Kept.drew) | exact HK.out)) (fun k_ e_ => (HO0.out.1 k_ e_))); have n2_ := A_ (ho); clear HB HK HO0; have HB := n0_; have HK := n1_; have HO447 := n2_; clear n0_ n1_ n2_; clear ho hb hg hat))
   go_ret
   exact ⟨_, by first | rfl | (simp [errW_none, errW_some] <;> rfl) | (simp only [← hji3]; first | rfl | (simp [errW_none, errW_some] <;> rfl)) | (simp [*, errW_none, errW_some] <;> rfl), nR_ HO447, by repeat (first | (with_reducible first | exact HB.out | apply below_alloc | apply pw_below_drewN | apply below_drew1) | exact HB.out), by repeat (first | (with_reducible first | exact HK.out | apply Kept.alloc | apply Kept.drewN | apply Kept.drew) | exact HK.out)⟩
  ·rw [if_neg c5] at H
   exact absurd H (by simp)
 ·rw [if_neg c4] at H
  exact absurd H (by simp)
/-! ### fast_Mul: function 12 -/
def fast_Mul.l0 : Nat → List Int → List Int → Int → Int → Int → Option (List Int × Int)
 | 0, _, _, _, _, _ => none
 | k + 1, x8, x9, x12, x456000, x467000 => if x467000 < x12 then (fast_Mul.l0 k x8 x9 x12 x456000 (wrap64 (x467000 * 2))) else ((fast_Mul_1.f x8 x467000).bind fun t467 => ((fast_Mul_1.f x9 x467000).bind fun t470 => ((fast_reckoner_round.f k x456000 t467 t470).bind fun t473 => ((poly_Trim.f k t473).bind fun t476 => (some (t476, 0))))))
def fast_Mul.f (k : Nat) (a0 : Int) (l1 : List Int) (l2 : List Int) : Option (List Int × Int) := (fast_checked.f k a0 l1 l2).bind fun bt448 => (if bt448.2.2 = 0 then (if (mn (bt448.1.length : Int) (bt448.2.1.length : Int)) ≤ 16 then ((poly_Mul.f k a0 bt448.1 bt448.2.1).bind fun bt456 => (some (bt456.1, bt456.2))) else (if (wrap64 ((wrap64 ((bt448.1.length : Int) + (bt448.2.1.length : Int))) - 1)) ≤ 64 then ((fast_reckoner_halves.f k a0 bt448.1 bt448.2.1).bind fun t460 => ((poly_Trim.f k t460).bind fun t463 => (some (t463, 0)))) else (fast_Mul.l0 k bt448.1 bt448.2.1 (wrap64 ((wrap64 ((bt448.1.length : Int) + (bt448.2.1.length : Int))) - 1)) a0 1))) else (some (([] : List Int), bt448.2.2)))
theorem fast_Mul.mono_l : ∀ k, (∀ y0 y1 y2 y3 y4, LeO (fast_Mul.l0 k y0 y1 y2 y3 y4) (fast_Mul.l0 (k + 1) y0 y1 y2 y3 y4))
 | 0 => fun _ _ _ _ _ r h => by simp [fast_Mul.l0] at h
 | k + 1 => by
  have ih0 := fast_Mul.mono_l k
  ·intro y0 y1 y2 y3 y4
   unfold fast_Mul.l0
   repeat' first
   | (with_reducible exact ih0 _ _ _ _ _)
   | (with_reducible exact fast_checked.mono _ _ _ _)
   | (with_reducible exact fast_reckoner_halves.mono _ _ _ _)
   | (with_reducible exact fast_reckoner_round.mono _ _ _ _)
   | (with_reducible exact poly_Mul.mono _ _ _ _)
   | (with_reducible exact poly_Trim.mono _ _)
   | (with_reducible exact LeO.refl _)
   | (with_reducible exact LeO.none _)
   | (with_reducible refine LeO.ite ?_ ?_)
   | (with_reducible refine LeO.bind ?_ (fun _ => ?_))
   | exact ih0 _ _ _ _ _
   | exact fast_checked.mono _ _ _ _
   | exact fast_reckoner_halves.mono _ _ _ _
   | exact fast_reckoner_round.mono _ _ _ _
   | exact poly_Mul.mono _ _ _ _
   | exact poly_Trim.mono _ _
   | exact LeO.none _
   | refine LeO.ite ?_ ?_
   | refine LeO.bind ?_ (fun _ => ?_)
theorem fast_Mul.mono : ∀ a0 a1 a2 k, LeO (fast_Mul.f k a0 a1 a2) (fast_Mul.f (k + 1) a0 a1 a2) := by
 intro a0 a1 a2 k
 have ih0 := fast_Mul.mono_l k
 unfold fast_Mul.f
 repeat' first
   | (with_reducible exact ih0 _ _ _ _ _)
   | (with_reducible exact fast_checked.mono _ _ _ _)
   | (with_reducible exact fast_reckoner_halves.mono _ _ _ _)
   | (with_reducible exact fast_reckoner_round.mono _ _ _ _)
   | (with_reducible exact poly_Mul.mono _ _ _ _)
   | (with_reducible exact poly_Trim.mono _ _)
   | (with_reducible exact LeO.refl _)
   | (with_reducible exact LeO.none _)
   | (with_reducible refine LeO.ite ?_ ?_)
   | (with_reducible refine LeO.bind ?_ (fun _ => ?_))
   | exact ih0 _ _ _ _ _
   | exact fast_checked.mono _ _ _ _
   | exact fast_reckoner_halves.mono _ _ _ _
   | exact fast_reckoner_round.mono _ _ _ _
   | exact poly_Mul.mono _ _ _ _
   | exact poly_Trim.mono _ _
   | exact LeO.none _
   | refine LeO.ite ?_ ?_
   | refine LeO.bind ?_ (fun _ => ?_)
def fast_Mul.T10 : Bool × List (List Nat × List Nat) := (true, [([], []), ([], []), ([], []), ([1, 2], [1, 2]), ([], []), ([], []), ([4, 5, 3], [4, 5]), ([0, 3, 6, 6], [0, 3, 6]), ([7, 7], [7]), ([8, 8, 0, 1, 2, 3, 4, 5, 6, 7, 8], [8]), ([9, 0, 1, 2, 3, 4, 5, 6, 7, 8, 9], [])])
def fast_Mul.B10 : List Nat := [0, 0, 0, 6, 0, 0, 62, 127, 255, 511, 1023]
theorem fast_Mul.tab10 : rtab .any (opsOf Try.f12 10) = fast_Mul.T10 := by kernel_rfl
theorem fast_Mul.bits10 : waitsOk fast_Mul.T10.2 fast_Mul.B10 = true := by kernel_rfl
set_option maxHeartbeats 8000000 in
set_option maxRecDepth 100000 in
theorem fast_Mul.calls (k : Nat) (a0 : Int) (A1 : Option Addr) (c1 : Nat) (l1 : List Int) (A2 : Option Addr) (c2 : Nat) (l2 : List Int) (r1 : List Int) (r2 : Int) (w : World) (hr1 : Kd.C (Kd.int .u64) w A1 l1.length l1) (hc1 : l1.length ≤ c1) (hr2 : Kd.C (Kd.int .u64) w A2 l2.length l2) (hc2 : l2.length ≤ c2) (h : fast_Mul.f k a0 l1 l2 = some (r1, r2)) :
  Calls Try.prog 12 #[.int .u8 a0, .slice A1 l1.length c1, .slice A2 l2.length c2] w fun e w' => ∃ v0_ : Value, e = .returned (.tuple #[v0_, .int .i64 r2]) ∧ Kd.R (Kd.int .u64) 33 w' w.heap.size (fun _ => True) v0_ r1 ∧ Below w.heap.size w w' := by
 have hu47 := Try.underlying47
 have HR1 := Aside0.mk hr1
 have HC1 := Aside0.mk hc1
 clear hr1 hc1
 have HR2 := Aside0.mk hr2
 have HC2 := Aside0.mk hc2
 clear hr2 hc2
 have HB := A_ (Below.refl w.heap.size w)
 have H : ((fast_checked.f k a0 l1 l2).bind fun bt448 => (if bt448.2.2 = 0 then (if (mn (bt448.1.length : Int) (bt448.2.1.length : Int)) ≤ 16 then ((poly_Mul.f k a0 bt448.1 bt448.2.1).bind fun bt456 => (some (bt456.1, bt456.2))) else (if (wrap64 ((wrap64 ((bt448.1.length : Int) + (bt448.2.1.length : Int))) - 1)) ≤ 64 then ((fast_reckoner_halves.f k a0 bt448.1 bt448.2.1).bind fun t460 => ((poly_Trim.f k t460).bind fun t463 => (some (t463, 0)))) else (fast_Mul.l0 k bt448.1 bt448.2.1 (wrap64 ((wrap64 ((bt448.1.length : Int) + (bt448.2.1.length : Int))) - 1)) a0 1))) else (some (([] : List Int), bt448.2.2)))) = some (r1, r2) := h
 clear h
 replace H := Option.bind_eq_some_iff.mp H
 obtain ⟨⟨t448, t451, t454⟩, A40, H⟩ := H
 (try dsimp only at H)
 have A4 := Aside0.mk A40
 clear A40
 by_cases c5 : t454 = 0
 ·rw [if_pos c5] at H
  have c5b0 : (t454 == 0) = true := beq_iff_eq.mpr c5
  have c5b1 : (t454 != 0) = false := bne_eq_false_iff_eq.mpr c5
  clear c5
  obtain ⟨ji6, hji6⟩ : ∃ j_ : Int, (mn (t448.length : Int) (t451.length : Int)) = j_ := ⟨_, rfl⟩
  replace H : (if (ji6) ≤ 16 then ((poly_Mul.f k a0 t448 t451).bind fun bt456 => (some (bt456.1, bt456.2))) else (if (wrap64 ((wrap64 ((t448.length : Int) + (t451.length : Int))) - 1)) ≤ 64 then ((fast_reckoner_halves.f k a0 t448 t451).bind fun t460 => ((poly_Trim.f k t460).bind fun t463 => (some (t463, 0)))) else (fast_Mul.l0 k t448 t451 (wrap64 ((wrap64 ((t448.length : Int) + (t451.length : Int))) - 1)) a0 1))) = some (r1, r2) := by first | (rw [hji6] at H; exact H) | (simp only [hji6] at H ⊢; exact H)
  (try rw [hji6] at A4)
  (try (have hji6l : 0 ≤ ji6 := by (rw [← hji6]; unfold mn; (repeat' split) <;> omega)))
  (try (have hji6m : 0 ≤ ji6 := by omega))
  have hji6N : (if t451.length < t448.length then (t451.length : Int) else (t448.length : Int)) = ji6 := by have h_ := hji6; unfold mn at h_; simp only [Int.ofNat_lt] at h_; exact h_
  have hji6_ : (if (t451.length : Int) < (t448.length : Int) then (t451.length : Int) else (t448.length : Int)) = ji6 := hji6
  by_cases c7 : (ji6) ≤ 16
  ·rw [if_pos c7] at H
   have c7b0 : decide ((ji6) ≤ 16) = true := decide_eq_true c7
   clear c7
   replace H := Option.bind_eq_some_iff.mp H
   obtain ⟨⟨t456, t459⟩, A80, H⟩ := H
   replace H : (some (t456, t459)) = some (r1, r2) := H
   have A8 := Aside0.mk A80
   clear A80
   simp only [Option.some.injEq, Prod.mk.injEq] at H
   obtain ⟨rfl, rfl⟩ := H
   go_enter Try.func12, Try.ntmps12
   go_wp2_with (first | ((with_reducible refine gate_callee (f := 27) rfl ?_); refine goesM_ (some 19) Try.func27 #[.int .u8 a0, .slice A1 l1.length c1, .slice A2 l2.length c2] ?_; (with_reducible refine (fast_checked.calls k a0 (fun k_ => k_ < w.heap.size) _ _ l1 (fun k_ => k_ < w.heap.size) _ _ l2 t448 t451 t454 _ ?side1 ?side2 A4.out).mono ?_); (case side1 => exact Kd.V_mk HC1.out (Kd.F_below (Kd.C_F (Kd.heap_int .u64) HR1.out) hb_)); (case side2 => exact Kd.V_mk HC2.out (Kd.F_below (Kd.C_F (Kd.heap_int .u64) HR2.out) hb_)); rintro e w9 ⟨v449, v452, rfl, ho0, ho1, hb⟩; refine ⟨_, rfl, ?_⟩; have n0_ := A_ (Kd.R_lower (Kd.R_mono (ok' := fun k_ => some k_ ≠ (v452 : Value).ownBlock) ho0 (fun _ hk_ => hk_.2)) (below_size hb_)); have n1_ := A_ (Kd.R_lower (Kd.R_mono (ok' := fun k_ => some k_ ≠ (v449 : Value).ownBlock) ho1 (fun _ hk_ => hk_.2)) (below_size hb_)); have n2_ := A_ (below_step hb_ hb); clear HB; have HO450 := n0_; have HO453 := n1_; have HB := n2_; clear n0_ n1_ n2_; (try clear hb); (try clear ho0); (try clear ho1)) | ((with_reducible refine gate_dst (N := 11) rfl ?_); refine box_event ?hg (N := 11) ?hd (cs := #[.int .u8 0]) (t := 47) ?hr ?_; (case hd => rfl); (case hg => rfl); (case hr => first | (go_simp; done) | (go_simp; rfl)); intro gb455 hg w10 hbox hb; have n0_ := A_ (Kd.R_below (nR_ HO450) hb); have n1_ := A_ (Kd.R_below (nR_ HO453) hb); have n2_ := A_ (below_step hb_ hb); have n3_ := A_ (hbox); have n4_ := A_ ((by rw [hg]; exact (below_size hb_) : w.heap.size ≤ gb455)); have n5_ := A_ ((by rw [hg]; exact (below_size hb_) : w.heap.size ≤ gb455)); clear HO450 HO453 HB; have HO450 := n0_; have HO453 := n1_; have HB := n2_; have BK455 := n3_; have GW455 := n4_; have GE455 := n5_; clear n0_ n1_ n2_ n3_ n4_ n5_; clear hb hbox hg; have hcz11_0 : w10.cell? ⟨gb455, 0, none⟩ = some (.int .u8 0) := (blk_cell BK455.out 0).trans rfl; have hfz11_0 := blk_frozen BK455.out 0) | ((with_reducible refine gate_store (t := 47) (p := 11) rfl ?_); (try (rw [drewN_self w10]; generalize hq_ : World.drewN w10 _ = w10; have n0_ := A_ (Kd.R_at hq_ HO450.out); have n1_ := A_ (Kd.R_at hq_ HO453.out); have n2_ := A_ (blk_at hq_ BK455.out); have n3_ := A_ (below_at hq_ HB.out); clear hq_ HO450 HO453 BK455 HB; have HO450 := n0_; have HO453 := n1_; have BK455 := n2_; have HB := n3_; clear n0_ n1_ n2_ n3_)); refine store_event (t := 47) (p := 11) (v := ?vo_w12) (w1 := (w10.setCell ⟨gb455, 0, none⟩ (.int .u8 a0))) ?hg ?ho ?hn ?hr ?_; (case ho => rfl); (case hg => rfl); (case hn => rfl); (case hr => first | (go_simp; done) | (go_simp; rfl)); intro w12 hw; have n0_ : Aside0 (Kd.R (Kd.int .u64) 33 w12 w.heap.size (fun k_ => some k_ ≠ (v452 : Value).ownBlock) v449 t448) := ⟨(by rw [hw]; exact (by (with_reducible repeat (first | apply Kd.R_alloc | apply Kd.R_drewN | apply Kd.R_drew)); exact Kd.R_mono (Kd.R_far (p := ⟨gb455, 0, none⟩) (Kd.R_types HO450.out BK455.out (by decide)) (fun _ hk => hk.2) (.int .u8 a0)) (fun _ hk => hk.1)))⟩; have n1_ : Aside0 (Kd.R (Kd.int .u64) 33 w12 w.heap.size (fun k_ => some k_ ≠ (v449 : Value).ownBlock) v452 t451) := ⟨(by rw [hw]; exact (by (with_reducible repeat (first | apply Kd.R_alloc | apply Kd.R_drewN | apply Kd.R_drew)); exact Kd.R_mono (Kd.R_far (p := ⟨gb455, 0, none⟩) (Kd.R_types HO453.out BK455.out (by decide)) (fun _ hk => hk.2) (.int .u8 a0)) (fun _ hk => hk.1)))⟩; have n2_ : Aside0 (w12.heap[gb455]? = some (.cells #[.int .u8 a0] 47 (0, 0))) := ⟨(by rw [hw]; exact (by (with_reducible repeat (first | refine blk_drewN ?_ _ | refine blk_drew ?_ | refine blk_alloc ?_ _)); refine blk_put (cs := #[.int .u8 0]) ?_ 0 _ rfl; (with_reducible repeat (first | refine blk_drewN ?_ _ | refine blk_drew ?_ | refine blk_alloc ?_ _)); exact BK455.out))⟩; have n3_ : Aside0 (Below w.heap.size w w12) := ⟨(by rw [hw]; exact hs_)⟩; clear hw HO450 HO453 BK455 HB; have HO450 := n0_; have HO453 := n1_; have BK455 := n2_; have HB := n3_; clear n0_ n1_ n2_ n3_; obtain ⟨Ao13, co13, eo13⟩ := Kd.R_slice HO450.out; subst eo13; obtain ⟨Ao14, co14, eo14⟩ := Kd.R_slice HO453.out; subst eo14) | ((with_reducible refine gate_callee (f := 28) rfl ?_); refine goesM_ (some 59) Try.func28 #[.int .u8 a0, .slice Ao13 t448.length co13, .slice Ao14 t451.length co14] ?_; (with_reducible refine (poly_Mul.calls k a0 (fun k_ => some k_ = (.slice Ao13 t448.length co13 : Value).ownBlock) _ _ t448 (fun k_ => some k_ = (.slice Ao14 t451.length co14 : Value).ownBlock) _ _ t451 t456 t459 _ ?side1 ?side2 A8.out).mono ?_); (case side1 => exact Kd.R_V (Kd.R_tight rfl (Kd.R_types (HO450.out) BK455.out (by decide)))); (case side2 => exact Kd.R_V (Kd.R_tight rfl (Kd.R_types (HO453.out) BK455.out (by decide)))); rintro e w15 ⟨v457, rfl, ho0, hb⟩; refine ⟨_, rfl, ?_⟩; have n0_ := A_ (Kd.R_elder' (nR_ HO450) (Kd.R_base ho0) hb); have n1_ := A_ (Kd.R_elder' (nR_ HO453) (Kd.R_base ho0) hb); have n2_ := A_ (Kd.R_lower (Kd.R_new' (Kd.R_new' (Kd.R_mono (ok' := fun k_ => True) ho0 (fun _ hk_ => trivial)) (Kd.R_lt (nR_ HO450))) (Kd.R_lt (nR_ HO453))) (below_size hs_)); have n3_ := A_ (blk_below (g := gb455) (o := .cells #[.int .u8 a0] 47 (0, 0)) (nb_ BK455) hb); have n4_ := A_ (below_step hs_ hb); clear HO450 HO453 BK455 HB; have HO450 := n0_; have HO453 := n1_; have HO458 := n2_; have BK455 := n3_; have HB := n4_; clear n0_ n1_ n2_ n3_ n4_; (try clear hb); (try clear ho0)))
   go_ret2
   exact ⟨_, by first | rfl | (simp [errW_none, errW_some] <;> rfl) | (simp only [← hji6]; first | rfl | (simp [errW_none, errW_some] <;> rfl)) | (simp [*, errW_none, errW_some] <;> rfl), by (with_reducible repeat (first | apply Kd.R_alloc | apply Kd.R_drewN | apply Kd.R_drew)); exact Kd.R_mono HO458.out (fun _ hk => trivial), hs_⟩
  ·rw [if_neg c7] at H
   have c7b0 : decide ((ji6) ≤ 16) = false := decide_eq_false c7
   clear c7
   by_cases c16 : (wrap64 ((wrap64 ((t448.length : Int) + (t451.length : Int))) - 1)) ≤ 64
   ·rw [if_pos c16] at H
    have c16b0 : decide ((wrap64 ((wrap64 ((t448.length : Int) + (t451.length : Int))) - 1)) ≤ 64) = true := decide_eq_true c16
    clear c16
    replace H := Option.bind_eq_some_iff.mp H
    obtain ⟨t460, A170, H⟩ := H
    replace H : ((poly_Trim.f k t460).bind fun t463 => (some (t463, 0))) = some (r1, r2) := H
    have A17 := Aside0.mk A170
    clear A170
    replace H := Option.bind_eq_some_iff.mp H
    obtain ⟨t463, A180, H⟩ := H
    replace H : (some (t463, 0)) = some (r1, r2) := H
    have A18 := Aside0.mk A180
    clear A180
    simp only [Option.some.injEq, Prod.mk.injEq] at H
    obtain ⟨rfl, rfl⟩ := H
    go_enter Try.func12, Try.ntmps12
    go_wp2_with (first | ((with_reducible refine gate_callee (f := 27) rfl ?_); refine goesM_ (some 19) Try.func27 #[.int .u8 a0, .slice A1 l1.length c1, .slice A2 l2.length c2] ?_; (with_reducible refine (fast_checked.calls k a0 (fun k_ => k_ < w.heap.size) _ _ l1 (fun k_ => k_ < w.heap.size) _ _ l2 t448 t451 t454 _ ?side1 ?side2 A4.out).mono ?_); (case side1 => exact Kd.V_mk HC1.out (Kd.F_below (Kd.C_F (Kd.heap_int .u64) HR1.out) hb_)); (case side2 => exact Kd.V_mk HC2.out (Kd.F_below (Kd.C_F (Kd.heap_int .u64) HR2.out) hb_)); rintro e w19 ⟨v449, v452, rfl, ho0, ho1, hb⟩; refine ⟨_, rfl, ?_⟩; have n0_ := A_ (Kd.R_lower (Kd.R_mono (ok' := fun k_ => some k_ ≠ (v452 : Value).ownBlock) ho0 (fun _ hk_ => hk_.2)) (below_size hb_)); have n1_ := A_ (Kd.R_lower (Kd.R_mono (ok' := fun k_ => some k_ ≠ (v449 : Value).ownBlock) ho1 (fun _ hk_ => hk_.2)) (below_size hb_)); have n2_ := A_ (below_step hb_ hb); clear HB; have HO450 := n0_; have HO453 := n1_; have HB := n2_; clear n0_ n1_ n2_; (try clear hb); (try clear ho0); (try clear ho1)) | ((with_reducible refine gate_dst (N := 11) rfl ?_); refine box_event ?hg (N := 11) ?hd (cs := #[.int .u8 0]) (t := 47) ?hr ?_; (case hd => rfl); (case hg => rfl); (case hr => first | (go_simp; done) | (go_simp; rfl)); intro gb455 hg w20 hbox hb; have n0_ := A_ (Kd.R_below (nR_ HO450) hb); have n1_ := A_ (Kd.R_below (nR_ HO453) hb); have n2_ := A_ (below_step hb_ hb); have n3_ := A_ (hbox); have n4_ := A_ ((by rw [hg]; exact (below_size hb_) : w.heap.size ≤ gb455)); have n5_ := A_ ((by rw [hg]; exact (below_size hb_) : w.heap.size ≤ gb455)); clear HO450 HO453 HB; have HO450 := n0_; have HO453 := n1_; have HB := n2_; have BK455 := n3_; have GW455 := n4_; have GE455 := n5_; clear n0_ n1_ n2_ n3_ n4_ n5_; clear hb hbox hg; have hcz21_0 : w20.cell? ⟨gb455, 0, none⟩ = some (.int .u8 0) := (blk_cell BK455.out 0).trans rfl; have hfz21_0 := blk_frozen BK455.out 0; obtain ⟨Ao22, co22, eo22⟩ := Kd.R_slice HO450.out; subst eo22; obtain ⟨Ao23, co23, eo23⟩ := Kd.R_slice HO453.out; subst eo23) | ((with_reducible refine gate_callee (f := 30) rfl ?_); refine goesM_ (some 68) Try.func30 #[.agg #[.int .u8 a0], .slice Ao22 t448.length co22, .slice Ao23 t451.length co23] ?_; (with_reducible refine (fast_reckoner_halves.calls k a0 _ _ t448 _ _ t451 t460 _ ?side1 ?side2 ?side3 ?side4 A17.out).mono ?_); (case side1 => refine (Kd.R_reads' (e := 33) (base := w.heap.size) (ok := fun k_ => some k_ ≠ (.slice Ao23 t451.length co23 : Value).ownBlock) (n := t448.length) (c := co22) ?_).2.2; exact (by (with_reducible repeat (first | apply Kd.R_alloc | apply Kd.R_drewN | apply Kd.R_drew)); exact (Kd.R_mono (Kd.R_far (p := ⟨gb455, 0, none⟩) (Kd.R_types HO450.out BK455.out (by decide)) (fun _ hk => hk.2) (.int .u8 a0)) (fun _ h_ => h_.1)))); (case side2 => exact (Kd.R_reads' HO450.out).2.1); (case side3 => refine (Kd.R_reads' (e := 33) (base := w.heap.size) (ok := fun k_ => some k_ ≠ (.slice Ao22 t448.length co22 : Value).ownBlock) (n := t451.length) (c := co23) ?_).2.2; exact (by (with_reducible repeat (first | apply Kd.R_alloc | apply Kd.R_drewN | apply Kd.R_drew)); exact (Kd.R_mono (Kd.R_far (p := ⟨gb455, 0, none⟩) (Kd.R_types HO453.out BK455.out (by decide)) (fun _ hk => hk.2) (.int .u8 a0)) (fun _ h_ => h_.1)))); (case side4 => exact (Kd.R_reads' HO453.out).2.1); rintro e w24 ⟨v461, rfl, ho0, hb⟩; refine ⟨_, rfl, ?_⟩; have n0_ := A_ (Kd.R_elder' (by (with_reducible repeat (first | apply Kd.R_alloc | apply Kd.R_drewN | apply Kd.R_drew)); exact (Kd.R_mono (Kd.R_far (p := ⟨gb455, 0, none⟩) (Kd.R_types HO450.out BK455.out (by decide)) (fun _ hk => hk.2) (.int .u8 a0)) (fun _ h_ => h_.1))) (Kd.R_base ho0) hb); have n1_ := A_ (Kd.R_elder' (by (with_reducible repeat (first | apply Kd.R_alloc | apply Kd.R_drewN | apply Kd.R_drew)); exact (Kd.R_mono (Kd.R_far (p := ⟨gb455, 0, none⟩) (Kd.R_types HO453.out BK455.out (by decide)) (fun _ hk => hk.2) (.int .u8 a0)) (fun _ h_ => h_.1))) (Kd.R_base ho0) hb); have n2_ := A_ (Kd.R_lower (Kd.R_new' (Kd.R_new' ho0 (Kd.R_lt (by (with_reducible repeat (first | apply Kd.R_alloc | apply Kd.R_drewN | apply Kd.R_drew)); exact (Kd.R_mono (Kd.R_far (p := ⟨gb455, 0, none⟩) (Kd.R_types HO450.out BK455.out (by decide)) (fun _ hk => hk.2) (.int .u8 a0)) (fun _ h_ => h_.1))))) (Kd.R_lt (by (with_reducible repeat (first | apply Kd.R_alloc | apply Kd.R_drewN | apply Kd.R_drew)); exact (Kd.R_mono (Kd.R_far (p := ⟨gb455, 0, none⟩) (Kd.R_types HO453.out BK455.out (by decide)) (fun _ hk => hk.2) (.int .u8 a0)) (fun _ h_ => h_.1))))) (below_size hs_)); have n3_ := A_ (blk_below (g := gb455) (o := .cells #[.int .u8 a0] 47 (0, 0)) (by (with_reducible repeat (first | refine blk_drewN ?_ _ | refine blk_drew ?_ | refine blk_alloc ?_ _)); refine blk_put (cs := #[.int .u8 0]) ?_ 0 _ rfl; (with_reducible repeat (first | refine blk_drewN ?_ _ | refine blk_drew ?_ | refine blk_alloc ?_ _)); exact BK455.out) hb); have n4_ := A_ (below_step hs_ hb); clear HO450 HO453 BK455 HB; have HO450 := n0_; have HO453 := n1_; have HO462 := n2_; have BK455 := n3_; have HB := n4_; clear n0_ n1_ n2_ n3_ n4_; (try clear hb); (try clear ho0); obtain ⟨Ao25, co25, eo25⟩ := Kd.R_slice HO462.out; subst eo25) | ((with_reducible refine gate_callee (f := 29) rfl ?_); refine goesM_ (some 69) Try.func29 #[.slice Ao25 t460.length co25] ?_; (with_reducible refine (poly_Trim.calls k _ _ t460 t463 _ ?side1 ?side2 A18.out).mono ?_); (case side1 => repeat (first | exact (Kd.R_reads' HO462.out).2.2 | (with_reducible refine Kd.C_alloc ?_ _) | (with_reducible refine Kd.C_drewN ?_ _) | (with_reducible refine Kd.C_drew ?_))); (case side2 => exact (Kd.R_reads' HO462.out).2.1); rintro e w26 ⟨v464, rfl, ho0, hb⟩; refine ⟨_, rfl, ?_⟩; have n0_ := A_ (Kd.R_elder' (nR_ HO450) (Kd.R_base ho0) hb); have n1_ := A_ (Kd.R_elder' (nR_ HO453) (Kd.R_base ho0) hb); have n2_ := A_ (Kd.R_elder' (nR_ HO462) (Kd.R_base ho0) hb); have n3_ := A_ (Kd.R_lower (Kd.R_new' (Kd.R_new' (Kd.R_new' ho0 (Kd.R_lt (nR_ HO450))) (Kd.R_lt (nR_ HO453))) (Kd.R_lt (nR_ HO462))) (below_size hs_)); have n4_ := A_ (blk_below (g := gb455) (o := .cells #[.int .u8 a0] 47 (0, 0)) (nb_ BK455) hb); have n5_ := A_ (below_step hs_ hb); clear HO450 HO453 HO462 BK455 HB; have HO450 := n0_; have HO453 := n1_; have HO462 := n2_; have HO465 := n3_; have BK455 := n4_; have HB := n5_; clear n0_ n1_ n2_ n3_ n4_ n5_; (try clear hb); (try clear ho0)))
    go_ret2
    exact ⟨_, by first | rfl | (simp [errW_none, errW_some] <;> rfl) | (simp only [← hji6]; first | rfl | (simp [errW_none, errW_some] <;> rfl)) | (simp [*, errW_none, errW_some] <;> rfl), by (with_reducible repeat (first | apply Kd.R_alloc | apply Kd.R_drewN | apply Kd.R_drew)); exact Kd.R_mono HO465.out (fun _ hk => trivial), hs_⟩
   ·rw [if_neg c16] at H
    have c16b0 : decide ((wrap64 ((wrap64 ((t448.length : Int) + (t451.length : Int))) - 1)) ≤ 64) = false := decide_eq_false c16
    clear c16
    have H' := Aside0.mk H
    clear H
    go_enter Try.func12, Try.ntmps12
    go_wp2_with (first | ((with_reducible refine gate_callee (f := 27) rfl ?_); refine goesM_ (some 19) Try.func27 #[.int .u8 a0, .slice A1 l1.length c1, .slice A2 l2.length c2] ?_; (with_reducible refine (fast_checked.calls k a0 (fun k_ => k_ < w.heap.size) _ _ l1 (fun k_ => k_ < w.heap.size) _ _ l2 t448 t451 t454 _ ?side1 ?side2 A4.out).mono ?_); (case side1 => exact Kd.V_mk HC1.out (Kd.F_below (Kd.C_F (Kd.heap_int .u64) HR1.out) hb_)); (case side2 => exact Kd.V_mk HC2.out (Kd.F_below (Kd.C_F (Kd.heap_int .u64) HR2.out) hb_)); rintro e w27 ⟨v449, v452, rfl, ho0, ho1, hb⟩; refine ⟨_, rfl, ?_⟩; have n0_ := A_ (Kd.R_lower (Kd.R_mono (ok' := fun k_ => some k_ ≠ (v452 : Value).ownBlock) ho0 (fun _ hk_ => hk_.2)) (below_size hb_)); have n1_ := A_ (Kd.R_lower (Kd.R_mono (ok' := fun k_ => some k_ ≠ (v449 : Value).ownBlock) ho1 (fun _ hk_ => hk_.2)) (below_size hb_)); have n2_ := A_ (below_step hb_ hb); clear HB; have HO450 := n0_; have HO453 := n1_; have HB := n2_; clear n0_ n1_ n2_; (try clear hb); (try clear ho0); (try clear ho1)) | ((with_reducible refine gate_dst (N := 11) rfl ?_); refine box_event ?hg (N := 11) ?hd (cs := #[.int .u8 0]) (t := 47) ?hr ?_; (case hd => rfl); (case hg => rfl); (case hr => first | (go_simp; done) | (go_simp; rfl)); intro gb455 hg w28 hbox hb; have n0_ := A_ (Kd.R_below (nR_ HO450) hb); have n1_ := A_ (Kd.R_below (nR_ HO453) hb); have n2_ := A_ (below_step hb_ hb); have n3_ := A_ (hbox); have n4_ := A_ ((by rw [hg]; exact (below_size hb_) : w.heap.size ≤ gb455)); have n5_ := A_ ((by rw [hg]; exact (below_size hb_) : w.heap.size ≤ gb455)); clear HO450 HO453 HB; have HO450 := n0_; have HO453 := n1_; have HB := n2_; have BK455 := n3_; have GW455 := n4_; have GE455 := n5_; clear n0_ n1_ n2_ n3_ n4_ n5_; clear hb hbox hg; have hcz29_0 : w28.cell? ⟨gb455, 0, none⟩ = some (.int .u8 0) := (blk_cell BK455.out 0).trans rfl; have hfz29_0 := blk_frozen BK455.out 0; obtain ⟨Ao30, co30, eo30⟩ := Kd.R_slice HO450.out; subst eo30; obtain ⟨Ao31, co31, eo31⟩ := Kd.R_slice HO453.out; subst eo31) | ((with_reducible refine gate_dst (N := 13) rfl ?_); refine box_event ?hg (N := 13) ?hd (cs := #[.int .i64 0]) (t := 3) ?hr ?_; (case hd => rfl); (case hg => rfl); (case hr => first | (go_simp; done) | (go_simp; rfl)); intro gb466 hg w32 hbox hb; have n0_ := A_ (Kd.R_below (by (with_reducible repeat (first | apply Kd.R_alloc | apply Kd.R_drewN | apply Kd.R_drew)); exact (Kd.R_mono (Kd.R_far (p := ⟨gb455, 0, none⟩) (Kd.R_types HO450.out BK455.out (by decide)) (fun _ hk => hk.2) (.int .u8 a0)) (fun _ h_ => h_.1))) hb); have n1_ := A_ (Kd.R_below (by (with_reducible repeat (first | apply Kd.R_alloc | apply Kd.R_drewN | apply Kd.R_drew)); exact (Kd.R_mono (Kd.R_far (p := ⟨gb455, 0, none⟩) (Kd.R_types HO453.out BK455.out (by decide)) (fun _ hk => hk.2) (.int .u8 a0)) (fun _ h_ => h_.1))) hb); have n2_ := A_ (blk_below (g := gb455) (o := .cells #[.int .u8 a0] 47 (0, 0)) (by (with_reducible repeat (first | refine blk_drewN ?_ _ | refine blk_drew ?_ | refine blk_alloc ?_ _)); refine blk_put (cs := #[.int .u8 0]) ?_ 0 _ rfl; (with_reducible repeat (first | refine blk_drewN ?_ _ | refine blk_drew ?_ | refine blk_alloc ?_ _)); exact BK455.out) hb); have n3_ := A_ (below_step hs_ hb); have n4_ := A_ (hbox); have n5_ := A_ ((by rw [hg]; exact (below_size hs_) : w.heap.size ≤ gb466)); have n6_ := A_ ((by rw [hg]; exact (below_size hs_) : w.heap.size ≤ gb466)); have n7_ := A_ ((by rw [hg]; exact Nat.ne_of_lt (blk_lt (g := gb455) (o := .cells #[.int .u8 a0] 47 (0, 0)) (by (with_reducible repeat (first | refine blk_drewN ?_ _ | refine blk_drew ?_ | refine blk_alloc ?_ _)); refine blk_put (cs := #[.int .u8 0]) ?_ 0 _ rfl; (with_reducible repeat (first | refine blk_drewN ?_ _ | refine blk_drew ?_ | refine blk_alloc ?_ _)); exact BK455.out)) : gb455 ≠ gb466)); have n8_ := A_ ((by rw [hg]; exact Nat.ne_of_gt (blk_lt (g := gb455) (o := .cells #[.int .u8 a0] 47 (0, 0)) (by (with_reducible repeat (first | refine blk_drewN ?_ _ | refine blk_drew ?_ | refine blk_alloc ?_ _)); refine blk_put (cs := #[.int .u8 0]) ?_ 0 _ rfl; (with_reducible repeat (first | refine blk_drewN ?_ _ | refine blk_drew ?_ | refine blk_alloc ?_ _)); exact BK455.out)) : gb466 ≠ gb455)); clear HO450 HO453 BK455 HB; have HO450 := n0_; have HO453 := n1_; have BK455 := n2_; have HB := n3_; have BK466 := n4_; have GW466 := n5_; have GE466 := n6_; have NB455_466 := n7_; have NB466_455 := n8_; clear n0_ n1_ n2_ n3_ n4_ n5_ n6_ n7_ n8_; clear hb hbox hg; have hnb33 := NB466_455.out; have hnc33 := NB455_466.out; have hcz34_0 : w32.cell? ⟨gb466, 0, none⟩ = some (.int .i64 0) := (blk_cell BK466.out 0).trans rfl; have hfz34_0 := blk_frozen BK466.out 0))
    go_loopg [] k (fun kq w' => ∃ (x467000_1 : Int), Aside0 (fast_Mul.l0 kq t448 t451 (wrap64 ((wrap64 ((t448.length : Int) + (t451.length : Int))) - 1)) a0 x467000_1 = some (r1, r2)) ∧ Aside0 (kq ≤ k) ∧ Aside0 (Kd.R (Kd.int .u64) 33 w' w.heap.size (fun k_ => some k_ ≠ ((.slice Ao31 t451.length co31) : Value).ownBlock) (.slice Ao30 t448.length co30) t448) ∧ Aside0 (Kd.R (Kd.int .u64) 33 w' w.heap.size (fun k_ => some k_ ≠ ((.slice Ao30 t448.length co30) : Value).ownBlock) (.slice Ao31 t451.length co31) t451) ∧ Aside0 (w'.heap[gb455]? = some (.cells #[.int .u8 a0] 47 (0, 0))) ∧ Aside0 (w'.heap[gb466]? = some (.cells #[.int .i64 x467000_1] 3 (0, 0))) ∧ Aside0 (Below w.heap.size w w'))
    case atStart => exact ⟨(1), H', ⟨Nat.le_refl _⟩, ⟨by (with_reducible repeat (first | apply Kd.R_alloc | apply Kd.R_drewN | apply Kd.R_drew)); exact Kd.R_mono (Kd.R_far (p := ⟨gb466, 0, none⟩) (Kd.R_types HO450.out BK466.out (by decide)) (fun _ hk => hk.2) (.int .i64 1)) (fun _ hk => hk.1)⟩, ⟨by (with_reducible repeat (first | apply Kd.R_alloc | apply Kd.R_drewN | apply Kd.R_drew)); exact Kd.R_mono (Kd.R_far (p := ⟨gb466, 0, none⟩) (Kd.R_types HO453.out BK466.out (by decide)) (fun _ hk => hk.2) (.int .i64 1)) (fun _ hk => hk.1)⟩, ⟨by (with_reducible repeat (first | refine blk_drewN ?_ _ | refine blk_drew ?_ | refine blk_alloc ?_ _)); refine blk_far ?_ NB455_466.out _; (with_reducible repeat (first | refine blk_drewN ?_ _ | refine blk_drew ?_ | refine blk_alloc ?_ _)); exact BK455.out⟩, ⟨by (with_reducible repeat (first | refine blk_drewN ?_ _ | refine blk_drew ?_ | refine blk_alloc ?_ _)); refine blk_put (cs := #[.int .i64 0]) ?_ 0 _ rfl; (with_reducible repeat (first | refine blk_drewN ?_ _ | refine blk_drew ?_ | refine blk_alloc ?_ _)); exact BK466.out⟩, ⟨hs_⟩⟩
    case round =>
     clear H'
     try clear c1
     try clear c2
     try clear p2
     try clear c3
     try clear c5
     try clear c5b0
     try clear c5b1
     try clear p6
     try clear c7
     try clear c7b0
     try clear c12
     try clear c16
     try clear c16b0
     try clear c27
     try clear c28
     try clear c29
     try clear c30
     try clear c33
     try clear hcz11_0
     try clear hcz21_0
     try clear hcz29_0
     try clear hcz34_0
     try clear hfz11_0
     try clear hfz21_0
     try clear hfz29_0
     try clear hfz34_0
     obtain ⟨x467000_1, HA, HK1, HO_8, HO_9, BK455, BK466, HB⟩ := hrel
     cases gk with
     | zero => exact absurd HA.out (by simp [fast_Mul.l0])
     | succ k1 =>
      have H := HA.out
      clear HA
      simp only [fast_Mul.l0] at H
      by_cases c35 : x467000_1 < (wrap64 ((wrap64 ((t448.length : Int) + (t451.length : Int))) - 1))
      ·rw [if_pos c35] at H
       have c35b0 : decide (x467000_1 < (wrap64 ((wrap64 ((t448.length : Int) + (t451.length : Int))) - 1))) = true := decide_eq_true c35
       clear c35
       have H' := Aside0.mk H
       clear H
       have hnb36 := NB466_455.out
       have hnc36 := NB455_466.out
       have hcz37_0 : wr.cell? ⟨gb466, 0, none⟩ = some (.int .i64 x467000_1) := (blk_cell BK466.out 0).trans rfl
       have hfz37_0 := blk_frozen BK466.out 0
       go_wp2
       go_roundg k1
       case measure => have := HK1.out; omega
       case rel => exact ⟨(wrap64 (x467000_1 * 2)), H', ⟨by have := HK1.out; omega⟩, ⟨by (with_reducible repeat (first | apply Kd.R_alloc | apply Kd.R_drewN | apply Kd.R_drew)); exact Kd.R_mono (Kd.R_far (p := ⟨gb466, 0, none⟩) (Kd.R_types HO_8.out BK466.out (by decide)) (fun _ hk => hk.2) (.int .i64 (wrap64 (x467000_1 * 2)))) (fun _ hk => hk.1)⟩, ⟨by (with_reducible repeat (first | apply Kd.R_alloc | apply Kd.R_drewN | apply Kd.R_drew)); exact Kd.R_mono (Kd.R_far (p := ⟨gb466, 0, none⟩) (Kd.R_types HO_9.out BK466.out (by decide)) (fun _ hk => hk.2) (.int .i64 (wrap64 (x467000_1 * 2)))) (fun _ hk => hk.1)⟩, ⟨by (with_reducible repeat (first | refine blk_drewN ?_ _ | refine blk_drew ?_ | refine blk_alloc ?_ _)); refine blk_far ?_ NB455_466.out _; (with_reducible repeat (first | refine blk_drewN ?_ _ | refine blk_drew ?_ | refine blk_alloc ?_ _)); exact BK455.out⟩, ⟨by (with_reducible repeat (first | refine blk_drewN ?_ _ | refine blk_drew ?_ | refine blk_alloc ?_ _)); refine blk_put (cs := #[.int .i64 x467000_1]) ?_ 0 _ rfl; (with_reducible repeat (first | refine blk_drewN ?_ _ | refine blk_drew ?_ | refine blk_alloc ?_ _)); exact BK466.out⟩, ⟨hs_⟩⟩
      ·rw [if_neg c35] at H
       have c35b0 : decide (x467000_1 < (wrap64 ((wrap64 ((t448.length : Int) + (t451.length : Int))) - 1))) = false := decide_eq_false c35
       clear c35
       replace H := Option.bind_eq_some_iff.mp H
       obtain ⟨t467, A380, H⟩ := H
       replace H : ((fast_Mul_1.f t451 x467000_1).bind fun t470 => ((fast_reckoner_round.f k1 a0 t467 t470).bind fun t473 => ((poly_Trim.f k1 t473).bind fun t476 => (some (t476, 0))))) = some (r1, r2) := H
       have A38 := Aside0.mk A380
       clear A380
       replace H := Option.bind_eq_some_iff.mp H
       obtain ⟨t470, A390, H⟩ := H
       replace H : ((fast_reckoner_round.f k1 a0 t467 t470).bind fun t473 => ((poly_Trim.f k1 t473).bind fun t476 => (some (t476, 0)))) = some (r1, r2) := H
       have A39 := Aside0.mk A390
       clear A390
       replace H := Option.bind_eq_some_iff.mp H
       obtain ⟨t473, A400, H⟩ := H
       replace H : ((poly_Trim.f k1 t473).bind fun t476 => (some (t476, 0))) = some (r1, r2) := H
       have A40 := Aside0.mk A400
       clear A400
       replace H := Option.bind_eq_some_iff.mp H
       obtain ⟨t476, A410, H⟩ := H
       replace H : (some (t476, 0)) = some (r1, r2) := H
       have A41 := Aside0.mk A410
       clear A410
       simp only [Option.some.injEq, Prod.mk.injEq] at H
       obtain ⟨rfl, rfl⟩ := H
       have hnb42 := NB466_455.out
       have hnc42 := NB455_466.out
       have hcz43_0 : wr.cell? ⟨gb466, 0, none⟩ = some (.int .i64 x467000_1) := (blk_cell BK466.out 0).trans rfl
       have hfz43_0 := blk_frozen BK466.out 0
       try go_wp2
       have n0_ := A_ (Kd.R_drew HO_8.out)
       have n1_ := A_ (Kd.R_drew HO_9.out)
       have n2_ := A_ (blk_drew BK455.out)
       have n3_ := A_ (blk_drew BK466.out)
       have n4_ := A_ (below_drew1 HB.out)
       clear HO_8
       clear HO_9
       clear BK455
       clear BK466
       clear HB
       have HO_8 := n0_
       have HO_9 := n1_
       have BK455 := n2_
       have BK466 := n3_
       have HB := n4_
       clear n0_ n1_ n2_ n3_ n4_
       refine start_ (n := 11) (S := fun w' => w'.cell? ⟨gb455, 0, none⟩ = some (.int .u8 a0)) (ds := []) #[false, false, false, false, false, false, false, false, false, false, false] (by kernel_rfl) rfl rfl ((blk_cell BK455.out 0).trans rfl) (fun hHeld => ?_); refine with_tabW fast_Mul.tab10 fast_Mul.bits10 (fun HT_ HW_ => ?_)
       generalize wr.drew = w44 at HO_8 HO_9 BK455 BK466 HB hHeld ⊢
       refine pure_ (i := 1) (N := some 41) (v := ?_) (a' := ?_) #[false, true, false, false, false, false, false, false, false, false, false] rfl rfl (any_of HT_.out (by kernel_rfl)) (fun _ _ _ h => h) (Or.inl ⟨by rfl, ?_⟩) ?_ ?_
       rotate_left
       ·intro w'
        go_simp
        with_reducible rfl
       rotate_left
       ·simp only [Act.put, List.setIfInBounds_toArray, List.set_cons_zero, List.set_cons_succ, i64_w, i32_w]
        rfl
       refine pure_ (i := 2) (N := some 42) (v := ?_) (a' := ?_) #[false, true, true, false, false, false, false, false, false, false, false] rfl rfl (any_of HT_.out (by kernel_rfl)) (fun _ _ _ h => h) (Or.inl ⟨by rfl, ?_⟩) ?_ ?_
       rotate_left
       ·intro w'
        go_simp
        with_reducible rfl
       rotate_left
       ·simp only [Act.put, List.setIfInBounds_toArray, List.set_cons_zero, List.set_cons_succ, i64_w, i32_w]
        rfl
       refine pure_ (i := 4) (N := some 44) (v := ?_) (a' := ?_) #[false, true, true, false, true, false, false, false, false, false, false] rfl rfl (any_of HT_.out (by kernel_rfl)) (fun _ _ _ h => h) (Or.inl ⟨by rfl, ?_⟩) ?_ ?_
       rotate_left
       ·intro w'
        go_simp
        with_reducible rfl
       rotate_left
       ·simp only [Act.put, List.setIfInBounds_toArray, List.set_cons_zero, List.set_cons_succ, i64_w, i32_w]
        rfl
       refine pure_ (i := 5) (N := some 45) (v := ?_) (a' := ?_) #[false, true, true, false, true, true, false, false, false, false, false] rfl rfl (any_of HT_.out (by kernel_rfl)) (fun _ _ _ h => h) (Or.inl ⟨by rfl, ?_⟩) ?_ ?_
       rotate_left
       ·intro w'
        go_simp
        with_reducible rfl
       rotate_left
       ·simp only [Act.put, List.setIfInBounds_toArray, List.set_cons_zero, List.set_cons_succ, i64_w, i32_w]
        rfl
       refine take_ (i := 0) (N := some 40) (v := ?_) (a' := ?_) #[true, true, true, false, true, true, false, false, false, false, false] rfl rfl (take_ofW HT_.out HW_.out (by kernel_rfl)) (fun _ _ _ h => h) (Or.inl ⟨by rfl, ?_⟩) hHeld ?_ ?_
       rotate_left
       ·intro w' s0
        go_simp
        with_reducible rfl
       rotate_left
       ·simp only [Act.put, List.setIfInBounds_toArray, List.set_cons_zero, List.set_cons_succ, i64_w, i32_w]
        rfl
       refine one_ (i := 3) (N := some 43) #[true, true, true, true, true, true, false, false, false, false, false] rfl rfl (one_of HT_.out (by kernel_rfl)) (by decide) (fun K hK => ?_)
       refine goesKr_ Try.func31 (by kernel_rfl) rfl #[.slice Ao30 t448.length co30, .pointer (some ⟨gb466, 0, none⟩)] (by rfl) rfl rfl (by rfl) (by (try simp only [List.map_toArray, List.map_cons, List.map_nil]); first | done | rfl | (simp only [List.length_drop, List.length_take]; rfl)) ?_
       with_reducible refine (fast_Mul_1.calls (fun k_ => some k_ = (.slice Ao30 t448.length co30 : Value).ownBlock) (.slice Ao30 t448.length co30) t448 x467000_1 t467 w _ ?side1 ?side2 A38.out gb466 ((blk_cell (nb_ BK466) 0).trans rfl)).mono ?_
       (case side1 => repeat (first | (with_reducible first | exact HB.out | apply below_alloc | apply pw_below_drewN | apply below_drew1 | refine below_set ?_ GE455.out | refine below_set ?_ GE466.out) | exact HB.out))
       (case side2 => exact Kd.R_tight rfl HO_8.out)
       rintro e w45 ⟨v468, rfl, ho0, hb, hkp⟩
       refine ⟨_, rfl, ?_⟩
       have n0_ := A_ (Kd.R_mono (ok' := fun k_ => some k_ ≠ (v468 : Value).ownBlock) (Kd.R_keptB (HO_9.out) hkp (fun k_ hk_ hs_ => (hk_) hs_)) (fun k_ hk_ => fun e_ => Or.elim (ho0.1 k_ e_.symm) (fun hs_ => hk_.2.1 hs_) (fun hn_ => Nat.not_le.2 hk_.2.2 hn_)))
       have n1_ := A_ (blk_kept (nb_ BK455) hkp (fun hs_ => (fun e_ => (Kd.R_ne HO_8.out BK455.out (by decide)) e_) hs_))
       have n2_ := A_ (blk_kept (nb_ BK466) hkp (fun hs_ => (fun e_ => (Kd.R_ne HO_8.out BK466.out (by decide)) e_) hs_))
       have n3_ := A_ (Kd.R_mono (ok' := fun k_ => some k_ ≠ (.slice Ao31 t451.length co31 : Value).ownBlock) ho0 (fun k_ hk_ => Or.elim hk_ (fun hs_ => fun e_ => (((HO_9.out).1 k_ e_.symm)) hs_) (fun hn_ => (Kd.fresh' (Kd.R_lt (nR_ HO_9)) k_ hn_))))
       have n4_ := A_ (hb)
       clear HO_9
       clear BK455
       clear BK466
       clear HB
       clear HO_8
       have HO_9 := n0_
       have BK455 := n1_
       have BK466 := n2_
       have HO469 := n3_
       have HB := n4_
       clear n0_ n1_ n2_ n3_ n4_
       (try clear hb)
       (try clear hkp)
       (try clear ho0)
       refine hK.out _ _ ((blk_cell BK455.out 0).trans rfl) (fun hHeld => ?_)
       clear hK K
       refine norm_ (a' := ?_) ?_ ?_
       rotate_left
       ·show Act.put _ (some 43) _ = _
        simp only [Act.put, List.setIfInBounds_toArray, List.set_cons_zero, List.set_cons_succ, i64_w, i32_w]
        rfl
       refine one_ (i := 6) (N := some 46) #[true, true, true, true, true, true, true, false, false, false, false] rfl rfl (one_of HT_.out (by kernel_rfl)) (by decide) (fun K hK => ?_)
       refine goesKr_ Try.func31 (by kernel_rfl) rfl #[.slice Ao31 t451.length co31, .pointer (some ⟨gb466, 0, none⟩)] (by rfl) rfl rfl (by rfl) (by (try simp only [List.map_toArray, List.map_cons, List.map_nil]); first | done | rfl | (simp only [List.length_drop, List.length_take]; rfl)) ?_
       with_reducible refine (fast_Mul_1.calls (fun k_ => some k_ = (.slice Ao31 t451.length co31 : Value).ownBlock) (.slice Ao31 t451.length co31) t451 x467000_1 t470 w _ ?side1 ?side2 A39.out gb466 ((blk_cell (nb_ BK466) 0).trans rfl)).mono ?_
       (case side1 => repeat (first | (with_reducible first | exact HB.out | apply below_alloc | apply pw_below_drewN | apply below_drew1 | refine below_set ?_ GE455.out | refine below_set ?_ GE466.out) | exact HB.out))
       (case side2 => exact Kd.R_tight rfl HO_9.out)
       rintro e w46 ⟨v471, rfl, ho0, hb, hkp⟩
       refine ⟨_, rfl, ?_⟩
       have n0_ := A_ (blk_kept (nb_ BK455) hkp (fun hs_ => (fun e_ => (Kd.R_ne HO_9.out BK455.out (by decide)) e_) hs_))
       have n1_ := A_ (blk_kept (nb_ BK466) hkp (fun hs_ => (fun e_ => (Kd.R_ne HO_9.out BK466.out (by decide)) e_) hs_))
       have n2_ := A_ (Kd.R_mono (ok' := fun k_ => some k_ ≠ (v471 : Value).ownBlock) (Kd.R_keptB (HO469.out) hkp (fun k_ hk_ hs_ => (hk_) hs_)) (fun k_ hk_ => fun e_ => Or.elim (ho0.1 k_ e_.symm) (fun hs_ => hk_.2.1 hs_) (fun hn_ => Nat.not_le.2 hk_.2.2 hn_)))
       have n3_ := A_ (Kd.R_mono (ok' := fun k_ => some k_ ≠ (v468 : Value).ownBlock) ho0 (fun k_ hk_ => Or.elim hk_ (fun hs_ => fun e_ => (((HO469.out).1 k_ e_.symm)) hs_) (fun hn_ => (Kd.fresh' (Kd.R_lt (nR_ HO469)) k_ hn_))))
       have n4_ := A_ (hb)
       clear BK455
       clear BK466
       clear HO469
       clear HB
       clear HO_9
       have BK455 := n0_
       have BK466 := n1_
       have HO469 := n2_
       have HO472 := n3_
       have HB := n4_
       clear n0_ n1_ n2_ n3_ n4_
       (try clear hb)
       (try clear hkp)
       (try clear ho0)
       obtain ⟨Ao47, co47, eo47⟩ := Kd.R_slice HO469.out
       (first | subst eo47 | (injection eo47 with f1_ f2_ f3_; have f4_ := f1_.symm; have f5_ := f3_.symm; clear f1_ f2_ f3_; subst f4_; subst f5_))
       obtain ⟨Ao48, co48, eo48⟩ := Kd.R_slice HO472.out
       (first | subst eo48 | (injection eo48 with f1_ f2_ f3_; have f4_ := f1_.symm; have f5_ := f3_.symm; clear f1_ f2_ f3_; subst f4_; subst f5_))
       refine hK.out _ _ ((blk_cell BK455.out 0).trans rfl) (fun hHeld => ?_)
       clear hK K
       refine norm_ (a' := ?_) ?_ ?_
       rotate_left
       ·show Act.put _ (some 46) _ = _
        simp only [Act.put, List.setIfInBounds_toArray, List.set_cons_zero, List.set_cons_succ, i64_w, i32_w]
        rfl
       refine one_ (i := 7) (N := some 47) #[true, true, true, true, true, true, true, true, false, false, false] rfl rfl (one_of HT_.out (by kernel_rfl)) (by decide) (fun K hK => ?_)
       refine goes_ Try.func32 (by kernel_rfl) rfl #[.agg #[.int .u8 a0], .slice Ao47 t467.length co47, .slice Ao48 t470.length co48] (by rfl) rfl rfl (by (try simp only [List.map_toArray, List.map_cons, List.map_nil]); first | done | rfl | (simp only [List.length_drop, List.length_take]; rfl)) ?_
       with_reducible refine (fast_reckoner_round.calls k1 a0 _ _ t467 _ _ t470 t473 _ ?side1 ?side2 ?side3 ?side4 A40.out).mono ?_
       (case side1 => repeat (first | exact (Kd.R_reads' HO469.out).2.2 | (with_reducible refine Kd.C_alloc ?_ _) | (with_reducible refine Kd.C_drewN ?_ _) | (with_reducible refine Kd.C_drew ?_)))
       (case side2 => exact (Kd.R_reads' HO469.out).2.1)
       (case side3 => repeat (first | exact (Kd.R_reads' HO472.out).2.2 | (with_reducible refine Kd.C_alloc ?_ _) | (with_reducible refine Kd.C_drewN ?_ _) | (with_reducible refine Kd.C_drew ?_)))
       (case side4 => exact (Kd.R_reads' HO472.out).2.1)
       rintro e w49 ⟨v474, rfl, ho0, hb⟩
       refine ⟨_, rfl, ?_⟩
       have n0_ := A_ (Kd.R_elder' (nR_ HO469) (Kd.R_base ho0) hb)
       have n1_ := A_ (Kd.R_elder' (nR_ HO472) (Kd.R_base ho0) hb)
       have n2_ := A_ (Kd.R_lower (Kd.R_new' (Kd.R_new' ho0 (Kd.R_lt (nR_ HO469))) (Kd.R_lt (nR_ HO472))) (below_size hs_))
       have n3_ := A_ (blk_below (g := gb455) (o := .cells #[.int .u8 a0] 47 (0, 0)) (nb_ BK455) hb)
       have n4_ := A_ (blk_below (g := gb466) (o := .cells #[.int .i64 x467000_1] 3 (0, 0)) (nb_ BK466) hb)
       have n5_ := A_ (below_step hs_ hb)
       clear HO469
       clear HO472
       clear BK455
       clear BK466
       clear HB
       have HO469 := n0_
       have HO472 := n1_
       have HO475 := n2_
       have BK455 := n3_
       have BK466 := n4_
       have HB := n5_
       clear n0_ n1_ n2_ n3_ n4_ n5_
       (try clear hb)
       (try clear hb2)
       (try clear hk)
       (try clear hi)
       (try clear ho0)
       obtain ⟨Ao50, co50, eo50⟩ := Kd.R_slice HO475.out
       (first | subst eo50 | (injection eo50 with f1_ f2_ f3_; have f4_ := f1_.symm; have f5_ := f3_.symm; clear f1_ f2_ f3_; subst f4_; subst f5_))
       refine hK.out _ _ ((blk_cell BK455.out 0).trans rfl) (fun hHeld => ?_)
       clear hK K
       refine norm_ (a' := ?_) ?_ ?_
       rotate_left
       ·show Act.put _ (some 47) _ = _
        simp only [Act.put, List.setIfInBounds_toArray, List.set_cons_zero, List.set_cons_succ, i64_w, i32_w]
        rfl
       refine one_ (i := 8) (N := some 48) #[true, true, true, true, true, true, true, true, true, false, false] rfl rfl (one_of HT_.out (by kernel_rfl)) (by decide) (fun K hK => ?_)
       refine goes_ Try.func29 (by kernel_rfl) rfl #[.slice Ao50 t473.length co50] (by rfl) rfl rfl (by (try simp only [List.map_toArray, List.map_cons, List.map_nil]); first | done | rfl | (simp only [List.length_drop, List.length_take]; rfl)) ?_
       with_reducible refine (poly_Trim.calls k1 _ _ t473 t476 _ ?side1 ?side2 A41.out).mono ?_
       (case side1 => repeat (first | exact (Kd.R_reads' HO475.out).2.2 | (with_reducible refine Kd.C_alloc ?_ _) | (with_reducible refine Kd.C_drewN ?_ _) | (with_reducible refine Kd.C_drew ?_)))
       (case side2 => exact (Kd.R_reads' HO475.out).2.1)
       rintro e w51 ⟨v477, rfl, ho0, hb⟩
       refine ⟨_, rfl, ?_⟩
       have n0_ := A_ (Kd.R_elder' (nR_ HO469) (Kd.R_base ho0) hb)
       have n1_ := A_ (Kd.R_elder' (nR_ HO472) (Kd.R_base ho0) hb)
       have n2_ := A_ (Kd.R_elder' (nR_ HO475) (Kd.R_base ho0) hb)
       have n3_ := A_ (Kd.R_lower (Kd.R_new' (Kd.R_new' (Kd.R_new' ho0 (Kd.R_lt (nR_ HO469))) (Kd.R_lt (nR_ HO472))) (Kd.R_lt (nR_ HO475))) (below_size hs_))
       have n4_ := A_ (blk_below (g := gb455) (o := .cells #[.int .u8 a0] 47 (0, 0)) (nb_ BK455) hb)
       have n5_ := A_ (blk_below (g := gb466) (o := .cells #[.int .i64 x467000_1] 3 (0, 0)) (nb_ BK466) hb)
       have n6_ := A_ (below_step hs_ hb)
       clear HO469
       clear HO472
       clear HO475
       clear BK455
       clear BK466
       clear HB
       have HO469 := n0_
       have HO472 := n1_
       have HO475 := n2_
       have HO478 := n3_
       have BK455 := n4_
       have BK466 := n5_
       have HB := n6_
       clear n0_ n1_ n2_ n3_ n4_ n5_ n6_
       (try clear hb)
       (try clear hb2)
       (try clear hk)
       (try clear hi)
       (try clear ho0)
       refine hK.out _ _ ((blk_cell BK455.out 0).trans rfl) (fun hHeld => ?_)
       clear hK K
       refine norm_ (a' := ?_) ?_ ?_
       rotate_left
       ·show Act.put _ (some 48) _ = _
        simp only [Act.put, List.setIfInBounds_toArray, List.set_cons_zero, List.set_cons_succ, i64_w, i32_w]
        rfl
       refine pure_ (i := 9) (N := some 6) (v := ?_) (a' := ?_) #[true, true, true, true, true, true, true, true, true, true, false] rfl rfl (any_of HT_.out (by kernel_rfl)) (fun _ _ _ h => h) (Or.inl ⟨by rfl, ?_⟩) ?_ ?_
       rotate_left
       ·intro w'
        go_simp
        with_reducible rfl
       rotate_left
       ·simp only [Act.put, List.setIfInBounds_toArray, List.set_cons_zero, List.set_cons_succ, i64_w, i32_w]
        rfl
       refine pure_ (i := 10) (N := some 7) (v := ?_) (a' := ?_) #[true, true, true, true, true, true, true, true, true, true, true] rfl rfl (any_of HT_.out (by kernel_rfl)) (fun _ _ _ h => h) (Or.inl ⟨by rfl, ?_⟩) ?_ ?_
       rotate_left
       ·intro w'
        go_simp
        with_reducible rfl
       rotate_left
       ·simp only [Act.put, List.setIfInBounds_toArray, List.set_cons_zero, List.set_cons_succ, i64_w, i32_w]
        rfl
       refine done_ (done_of HT_.out (by kernel_rfl)) ?_
       try go_wp2
       go_ret2
       exact ⟨_, by first | rfl | (simp [errW_none, errW_some] <;> rfl) | (simp only [← hji6]; first | rfl | (simp [errW_none, errW_some] <;> rfl)) | (simp [*, errW_none, errW_some] <;> rfl), by (with_reducible repeat (first | apply Kd.R_alloc | apply Kd.R_drewN | apply Kd.R_drew)); exact Kd.R_mono HO478.out (fun _ hk => trivial), hs_⟩
 ·rw [if_neg c5] at H
  have c5b0 : (t454 == 0) = false := beq_eq_false_iff_ne.mpr c5
  have c5b1 : (t454 != 0) = true := bne_iff_ne.mpr c5
  simp only [Option.some.injEq, Prod.mk.injEq] at H
  obtain ⟨rfl, rfl⟩ := H
  go_enter Try.func12, Try.ntmps12
  go_wp2_with (first | ((with_reducible refine gate_callee (f := 27) rfl ?_); refine goesM_ (some 19) Try.func27 #[.int .u8 a0, .slice A1 l1.length c1, .slice A2 l2.length c2] ?_; (with_reducible refine (fast_checked.calls k a0 (fun k_ => k_ < w.heap.size) _ _ l1 (fun k_ => k_ < w.heap.size) _ _ l2 t448 t451 t454 _ ?side1 ?side2 A4.out).mono ?_); (case side1 => exact Kd.V_mk HC1.out (Kd.F_below (Kd.C_F (Kd.heap_int .u64) HR1.out) hb_)); (case side2 => exact Kd.V_mk HC2.out (Kd.F_below (Kd.C_F (Kd.heap_int .u64) HR2.out) hb_)); rintro e w52 ⟨v449, v452, rfl, ho0, ho1, hb⟩; refine ⟨_, rfl, ?_⟩; have n0_ := A_ (Kd.R_lower (Kd.R_mono (ok' := fun k_ => some k_ ≠ (v452 : Value).ownBlock) ho0 (fun _ hk_ => hk_.2)) (below_size hb_)); have n1_ := A_ (Kd.R_lower (Kd.R_mono (ok' := fun k_ => some k_ ≠ (v449 : Value).ownBlock) ho1 (fun _ hk_ => hk_.2)) (below_size hb_)); have n2_ := A_ (below_step hb_ hb); clear HB; have HO450 := n0_; have HO453 := n1_; have HB := n2_; clear n0_ n1_ n2_; (try clear hb); (try clear ho0); (try clear ho1)))
  go_ret2
  exact ⟨_, fr_, by first | exact Kd.R_nil _ _ _ _ _ | exact Kd.N_nil _ _ _ _ _ | exact Kd.V_nil _ _ _ _ _ | exact Kd.Q_nil _ _ _ _ _ | exact Kd.S_nil _ _ _ _ _, hb_⟩
/-! ### cr1_Same: function 18 -/
def cr1_Same.l0 : Nat → List Int → List Int → Int → Option (Bool)
 | 0, _, _, _ => none
 | k + 1, x0, x1, x5 => if x5 < (x0.length : Int) then (if 0 ≤ x5 then (if x5 < (x1.length : Int) then (if (rd x0 x5) = (rd x1 x5) then (cr1_Same.l0 k x0 x1 (wrap64 (x5 + 1))) else (some false)) else (none)) else (none)) else (some true)
def cr1_Same.f (k : Nat) (l0 : List Int) (l1 : List Int) : Option (Bool) := if (l0.length : Int) = (l1.length : Int) then (cr1_Same.l0 k l0 l1 0) else (some false)
theorem cr1_Same.mono_l : ∀ k, (∀ y0 y1 y2, LeO (cr1_Same.l0 k y0 y1 y2) (cr1_Same.l0 (k + 1) y0 y1 y2))
 | 0 => fun _ _ _ r h => by simp [cr1_Same.l0] at h
 | k + 1 => by
  have ih0 := cr1_Same.mono_l k
  ·intro y0 y1 y2
   unfold cr1_Same.l0
   repeat' first
   | (with_reducible exact ih0 _ _ _)
   | (with_reducible exact LeO.refl _)
   | (with_reducible exact LeO.none _)
   | (with_reducible refine LeO.ite ?_ ?_)
   | (with_reducible refine LeO.bind ?_ (fun _ => ?_))
   | exact ih0 _ _ _
   | exact LeO.none _
   | refine LeO.ite ?_ ?_
   | refine LeO.bind ?_ (fun _ => ?_)
theorem cr1_Same.mono : ∀ a0 a1 k, LeO (cr1_Same.f k a0 a1) (cr1_Same.f (k + 1) a0 a1) := by
 intro a0 a1 k
 have ih0 := cr1_Same.mono_l k
 unfold cr1_Same.f
 repeat' first
   | (with_reducible exact ih0 _ _ _)
   | (with_reducible exact LeO.refl _)
   | (with_reducible exact LeO.none _)
   | (with_reducible refine LeO.ite ?_ ?_)
   | (with_reducible refine LeO.bind ?_ (fun _ => ?_))
   | exact ih0 _ _ _
   | exact LeO.none _
   | refine LeO.ite ?_ ?_
   | refine LeO.bind ?_ (fun _ => ?_)
set_option maxHeartbeats 8000000 in
set_option maxRecDepth 100000 in
theorem cr1_Same.calls (k : Nat) (A0 : Option Addr) (c0 : Nat) (l0 : List Int) (A1 : Option Addr) (c1 : Nat) (l1 : List Int) (r : Bool) (w : World) (hr0 : Kd.C (Kd.int .u64) w A0 l0.length l0) (hc0 : l0.length ≤ c0) (hr1 : Kd.C (Kd.int .u64) w A1 l1.length l1) (hc1 : l1.length ≤ c1) (h : cr1_Same.f k l0 l1 = some r) :
  Calls Try.prog 18 #[.slice A0 l0.length c0, .slice A1 l1.length c1] w fun e w' => e = .returned (.bool r) ∧ Drawn0 w w' := by
 have HR0 := Aside0.mk hr0
 have HC0 := Aside0.mk hc0
 clear hr0 hc0
 have HR1 := Aside0.mk hr1
 have HC1 := Aside0.mk hc1
 clear hr1 hc1
 have H : (if (l0.length : Int) = (l1.length : Int) then (cr1_Same.l0 k l0 l1 0) else (some false)) = some r := h
 clear h
 by_cases c3 : (l0.length : Int) = (l1.length : Int)
 ·rw [if_pos c3] at H
  have c3b0 : ((l0.length : Int) == (l1.length : Int)) = true := beq_iff_eq.mpr c3
  have c3b1 : ((l0.length : Int) != (l1.length : Int)) = false := bne_eq_false_iff_eq.mpr c3
  have c3b2 : (l0.length == l1.length) = true := by first | simpa using c3 | (simp at c3 ⊢; omega)
  clear c3
  have H' := Aside0.mk H
  clear H
  go_enter Try.func18, Try.ntmps18
  go_wp2
  repeat (go_quiet (fail); try go_wp2)
  go_loopg [5] k (fun kq v5 w' => ∃ (x5_1 : Int), v5 = .int .i64 x5_1 ∧ Aside0 (cr1_Same.l0 kq l0 l1 x5_1 = some r) ∧ Aside0 (kq ≤ k) ∧ Drawn0 w w')
  case atStart => exact ⟨(0), (fs_), H', ⟨Nat.le_refl _⟩, by repeat (first | exact Drawn0.refl _ | apply Drawn0.step)⟩
  case round =>
   clear H'
   try clear c1
   try clear p2
   try clear c3
   try clear c3b0
   try clear c3b1
   try clear c3b2
   obtain ⟨x5_1, rfl, HA, HK1, ⟨m1, rfl⟩⟩ := hrel
   cases gk with
   | zero => exact absurd HA.out (by simp [cr1_Same.l0])
   | succ k1 =>
    have H := HA.out
    clear HA
    simp only [cr1_Same.l0] at H
    by_cases c4 : x5_1 < (l0.length : Int)
    ·rw [if_pos c4] at H
     have c4b0 : decide (x5_1 < (l0.length : Int)) = true := decide_eq_true c4
     clear c4
     by_cases c5 : 0 ≤ x5_1
     ·rw [if_pos c5] at H
      have c5b0 : decide (0 ≤ x5_1) = true := decide_eq_true c5
      clear c5
      by_cases c6 : x5_1 < (l1.length : Int)
      ·rw [if_pos c6] at H
       have c6b0 : decide (x5_1 < (l1.length : Int)) = true := decide_eq_true c6
       clear c6
       by_cases c7 : (rd l0 x5_1) = (rd l1 x5_1)
       ·rw [if_pos c7] at H
        have c7b0 : ((rd l0 x5_1) == (rd l1 x5_1)) = true := beq_iff_eq.mpr c7
        have c7b1 : ((rd l0 x5_1) != (rd l1 x5_1)) = false := bne_eq_false_iff_eq.mpr c7
        clear c7
        have H' := Aside0.mk H
        clear H
        have p479 : 0 ≤ (x5_1 : Int) := of_decide_eq_true (by first | (with_reducible assumption) | assumption)
        have q479 : x5_1 < (l0.length : Int) := of_decide_eq_true (by first | (with_reducible assumption) | assumption)
        obtain ⟨ad479, e479, hx479_0⟩ := Kd.at_int HR0.out x5_1 p479 q479
        cases e479
        replace p479 := eq_true p479
        replace q479 := eq_true q479
        have p480 : 0 ≤ (x5_1 : Int) := of_decide_eq_true (by first | (with_reducible assumption) | assumption)
        have q480 : x5_1 < (l1.length : Int) := of_decide_eq_true (by first | (with_reducible assumption) | assumption)
        obtain ⟨ad480, e480, hx480_0⟩ := Kd.at_int HR1.out x5_1 p480 q480
        cases e480
        replace p480 := eq_true p480
        replace q480 := eq_true q480
        go_wp2
        repeat (go_quiet (fail); try go_wp2)
        go_roundg k1
        case measure => have := HK1.out; omega
        case rel => exact ⟨(wrap64 (x5_1 + 1)), (fs_), H', ⟨by have := HK1.out; omega⟩, by repeat (first | exact Drawn0.refl _ | apply Drawn0.step)⟩
       ·rw [if_neg c7] at H
        have c7b0 : ((rd l0 x5_1) == (rd l1 x5_1)) = false := beq_eq_false_iff_ne.mpr c7
        have c7b1 : ((rd l0 x5_1) != (rd l1 x5_1)) = true := bne_iff_ne.mpr c7
        obtain rfl := Option.some.inj H
        have p479 : 0 ≤ (x5_1 : Int) := of_decide_eq_true (by first | (with_reducible assumption) | assumption)
        have q479 : x5_1 < (l0.length : Int) := of_decide_eq_true (by first | (with_reducible assumption) | assumption)
        obtain ⟨ad479, e479, hx479_0⟩ := Kd.at_int HR0.out x5_1 p479 q479
        cases e479
        replace p479 := eq_true p479
        replace q479 := eq_true q479
        have p480 : 0 ≤ (x5_1 : Int) := of_decide_eq_true (by first | (with_reducible assumption) | assumption)
        have q480 : x5_1 < (l1.length : Int) := of_decide_eq_true (by first | (with_reducible assumption) | assumption)
        obtain ⟨ad480, e480, hx480_0⟩ := Kd.at_int HR1.out x5_1 p480 q480
        cases e480
        replace p480 := eq_true p480
        replace q480 := eq_true q480
        go_wp2
        repeat (go_quiet (fail); try go_wp2)
        go_ret
        exact ⟨fs_, by repeat (first | exact Drawn0.refl _ | apply Drawn0.step)⟩
      ·rw [if_neg c6] at H
       exact absurd H (by simp)
     ·rw [if_neg c5] at H
      exact absurd H (by simp)
    ·rw [if_neg c4] at H
     have c4b0 : decide (x5_1 < (l0.length : Int)) = false := decide_eq_false c4
     clear c4
     obtain rfl := Option.some.inj H
     go_wp2
     repeat (go_quiet (fail); try go_wp2)
     go_ret
     exact ⟨fs_, by repeat (first | exact Drawn0.refl _ | apply Drawn0.step)⟩
 ·rw [if_neg c3] at H
  have c3b0 : ((l0.length : Int) == (l1.length : Int)) = false := beq_eq_false_iff_ne.mpr c3
  have c3b1 : ((l0.length : Int) != (l1.length : Int)) = true := bne_iff_ne.mpr c3
  have c3b2 : (l0.length == l1.length) = false := by first | simpa using c3 | (simp at c3 ⊢; omega)
  obtain rfl := Option.some.inj H
  go_enter Try.func18, Try.ntmps18
  go_wp2
  repeat (go_quiet (fail); try go_wp2)
  go_ret
  exact ⟨fs_, by repeat (first | exact Drawn0.refl _ | apply Drawn0.step)⟩
/-! ### conclavelaw04_anchored: function 17 -/
def conclavelaw04_anchored.f (k : Nat)  : Option (Bool) := (fast_Mul.f k 2 (([1, 2] : List Int)) (([3, 4] : List Int))).bind fun bt487 => ((fast_Transform.f k 1 (([1, 2] : List Int))).bind fun bt494 => ((fast_Transform.f k 1 ([] : List Int)).bind fun bt498 => (if bt487.2 = 0 then (if bt494.2 = 0 then (if bt498.2 = 3 then ((cr1_Same.f k bt487.1 (([3, 10, 8] : List Int))).bind fun t505 => (if t505 = true then ((cr1_Same.f k bt494.1 (([3, 2013265920] : List Int))).bind fun t509 => (some t509)) else (none))) else (none)) else (none)) else (none))))
theorem conclavelaw04_anchored.mono : ∀ k, LeO (conclavelaw04_anchored.f k ) (conclavelaw04_anchored.f (k + 1) ) := by
 intro  k
 unfold conclavelaw04_anchored.f
 repeat' first
   | (with_reducible exact cr1_Same.mono _ _ _)
   | (with_reducible exact fast_Mul.mono _ _ _ _)
   | (with_reducible exact fast_Transform.mono _ _ _)
   | (with_reducible exact LeO.refl _)
   | (with_reducible exact LeO.none _)
   | (with_reducible refine LeO.ite ?_ ?_)
   | (with_reducible refine LeO.bind ?_ (fun _ => ?_))
   | exact cr1_Same.mono _ _ _
   | exact fast_Mul.mono _ _ _ _
   | exact fast_Transform.mono _ _ _
   | exact LeO.none _
   | refine LeO.ite ?_ ?_
   | refine LeO.bind ?_ (fun _ => ?_)
set_option maxHeartbeats 8000000 in
set_option maxRecDepth 100000 in
theorem conclavelaw04_anchored.calls (k : Nat)  (r : Bool) (w : World) (h : conclavelaw04_anchored.f k  = some r) :
  Calls Try.prog 17 #[] w fun e w' => e = .returned (.bool r) ∧ Below w.heap.size w w' := by
 have HB := A_ (Below.refl w.heap.size w)
 have H : ((fast_Mul.f k 2 (([1, 2] : List Int)) (([3, 4] : List Int))).bind fun bt487 => ((fast_Transform.f k 1 (([1, 2] : List Int))).bind fun bt494 => ((fast_Transform.f k 1 ([] : List Int)).bind fun bt498 => (if bt487.2 = 0 then (if bt494.2 = 0 then (if bt498.2 = 3 then ((cr1_Same.f k bt487.1 (([3, 10, 8] : List Int))).bind fun t505 => (if t505 = true then ((cr1_Same.f k bt494.1 (([3, 2013265920] : List Int))).bind fun t509 => (some t509)) else (none))) else (none)) else (none)) else (none))))) = some r := h
 clear h
 obtain ⟨y481, hy481⟩ : ∃ y_ : List Int, y_ = (([1, 2] : List Int)) := ⟨_, rfl⟩
 replace H : ((fast_Mul.f k 2 y481 (([3, 4] : List Int))).bind fun bt487 => ((fast_Transform.f k 1 (([1, 2] : List Int))).bind fun bt494 => ((fast_Transform.f k 1 ([] : List Int)).bind fun bt498 => (if bt487.2 = 0 then (if bt494.2 = 0 then (if bt498.2 = 3 then ((cr1_Same.f k bt487.1 (([3, 10, 8] : List Int))).bind fun t505 => (if t505 = true then ((cr1_Same.f k bt494.1 (([3, 2013265920] : List Int))).bind fun t509 => (some t509)) else (none))) else (none)) else (none)) else (none))))) = some r := by first | (rw [hy481]; with_reducible exact H) | (have H2_ := (Option.bind_some _ _).symm.trans H; rw [hy481]; with_reducible exact H2_) | (have H2_ := (Option.bind_some _ _).symm.trans H; with_reducible exact H2_) | with_reducible exact H | (rw [hy481]; exact H) | exact H
 have Ny481 := Aside0.mk hy481
 clear hy481
 obtain ⟨y484, hy484⟩ : ∃ y_ : List Int, y_ = (([3, 4] : List Int)) := ⟨_, rfl⟩
 replace H : ((fast_Mul.f k 2 y481 y484).bind fun bt487 => ((fast_Transform.f k 1 (([1, 2] : List Int))).bind fun bt494 => ((fast_Transform.f k 1 ([] : List Int)).bind fun bt498 => (if bt487.2 = 0 then (if bt494.2 = 0 then (if bt498.2 = 3 then ((cr1_Same.f k bt487.1 (([3, 10, 8] : List Int))).bind fun t505 => (if t505 = true then ((cr1_Same.f k bt494.1 (([3, 2013265920] : List Int))).bind fun t509 => (some t509)) else (none))) else (none)) else (none)) else (none))))) = some r := by first | (rw [hy484]; with_reducible exact H) | (have H2_ := (Option.bind_some _ _).symm.trans H; rw [hy484]; with_reducible exact H2_) | (have H2_ := (Option.bind_some _ _).symm.trans H; with_reducible exact H2_) | with_reducible exact H | (rw [hy484]; exact H) | exact H
 have Ny484 := Aside0.mk hy484
 clear hy484
 replace H := Option.bind_eq_some_iff.mp H
 obtain ⟨⟨t487, t488⟩, A10, H⟩ := H
 (try dsimp only at H)
 have A1 := Aside0.mk A10
 clear A10
 obtain ⟨y491, hy491⟩ : ∃ y_ : List Int, y_ = (([1, 2] : List Int)) := ⟨_, rfl⟩
 replace H : ((fast_Transform.f k 1 y491).bind fun bt494 => ((fast_Transform.f k 1 ([] : List Int)).bind fun bt498 => (if t488 = 0 then (if bt494.2 = 0 then (if bt498.2 = 3 then ((cr1_Same.f k t487 (([3, 10, 8] : List Int))).bind fun t505 => (if t505 = true then ((cr1_Same.f k bt494.1 (([3, 2013265920] : List Int))).bind fun t509 => (some t509)) else (none))) else (none)) else (none)) else (none)))) = some r := by first | (rw [hy491]; with_reducible exact H) | (have H2_ := (Option.bind_some _ _).symm.trans H; rw [hy491]; with_reducible exact H2_) | (have H2_ := (Option.bind_some _ _).symm.trans H; with_reducible exact H2_) | with_reducible exact H | (rw [hy491]; exact H) | exact H
 have Ny491 := Aside0.mk hy491
 clear hy491
 replace H := Option.bind_eq_some_iff.mp H
 obtain ⟨⟨t494, t497⟩, A20, H⟩ := H
 (try dsimp only at H)
 have A2 := Aside0.mk A20
 clear A20
 replace H := Option.bind_eq_some_iff.mp H
 obtain ⟨⟨t498, t501⟩, A30, H⟩ := H
 replace H : (if t488 = 0 then (if t497 = 0 then (if t501 = 3 then ((cr1_Same.f k t487 (([3, 10, 8] : List Int))).bind fun t505 => (if t505 = true then ((cr1_Same.f k t494 (([3, 2013265920] : List Int))).bind fun t509 => (some t509)) else (none))) else (none)) else (none)) else (none)) = some r := H
 have A3 := Aside0.mk A30
 clear A30
 by_cases c4 : t488 = 0
 ·rw [if_pos c4] at H
  have c4b0 : (t488 == 0) = true := beq_iff_eq.mpr c4
  have c4b1 : (t488 != 0) = false := bne_eq_false_iff_eq.mpr c4
  clear c4
  by_cases c5 : t497 = 0
  ·rw [if_pos c5] at H
   have c5b0 : (t497 == 0) = true := beq_iff_eq.mpr c5
   have c5b1 : (t497 != 0) = false := bne_eq_false_iff_eq.mpr c5
   clear c5
   by_cases c6 : t501 = 3
   ·rw [if_pos c6] at H
    have c6b0 : (t501 == 3) = true := beq_iff_eq.mpr c6
    have c6b1 : (t501 != 3) = false := bne_eq_false_iff_eq.mpr c6
    clear c6
    obtain ⟨y502, hy502⟩ : ∃ y_ : List Int, y_ = (([3, 10, 8] : List Int)) := ⟨_, rfl⟩
    replace H : ((cr1_Same.f k t487 y502).bind fun t505 => (if t505 = true then ((cr1_Same.f k t494 (([3, 2013265920] : List Int))).bind fun t509 => (some t509)) else (none))) = some r := by first | (rw [hy502]; with_reducible exact H) | (have H2_ := (Option.bind_some _ _).symm.trans H; rw [hy502]; with_reducible exact H2_) | (have H2_ := (Option.bind_some _ _).symm.trans H; with_reducible exact H2_) | with_reducible exact H | (rw [hy502]; exact H) | exact H
    have Ny502 := Aside0.mk hy502
    clear hy502
    replace H := Option.bind_eq_some_iff.mp H
    obtain ⟨t505, A70, H⟩ := H
    replace H : (if t505 = true then ((cr1_Same.f k t494 (([3, 2013265920] : List Int))).bind fun t509 => (some t509)) else (none)) = some r := H
    have A7 := Aside0.mk A70
    clear A70
    by_cases c8 : t505 = true
    ·subst c8
     have H1 : ((cr1_Same.f k t494 (([3, 2013265920] : List Int))).bind fun t509 => (some t509)) = some r := by rw [if_pos rfl] at H; exact H
     clear H
     have H := H1
     clear H1
     obtain ⟨y506, hy506⟩ : ∃ y_ : List Int, y_ = (([3, 2013265920] : List Int)) := ⟨_, rfl⟩
     replace H : ((cr1_Same.f k t494 y506).bind fun t509 => (some t509)) = some r := by first | (rw [hy506]; with_reducible exact H) | (have H2_ := (Option.bind_some _ _).symm.trans H; rw [hy506]; with_reducible exact H2_) | (have H2_ := (Option.bind_some _ _).symm.trans H; with_reducible exact H2_) | with_reducible exact H | (rw [hy506]; exact H) | exact H
     have Ny506 := Aside0.mk hy506
     clear hy506
     replace H := Option.bind_eq_some_iff.mp H
     obtain ⟨t509, A90, H⟩ := H
     replace H : (some t509) = some r := H
     have A9 := Aside0.mk A90
     clear A90
     obtain rfl := Option.some.inj H
     go_enter Try.func17, Try.ntmps17
     go_wp2_with (first | ((with_reducible refine gate_dst (N := 8) rfl ?_); (try (refine gate_guard (by rfl) ?_; dsimp only)); refine Kd.R_lit (Kd.int .u64) _ 33 ?hg (N := 8) ?hd (xs := ([1, 2] : List Int)) (inner := [.int .u64 1, .int .u64 2]) (ok := fun _ => True) (okp := fun _ => True) ?hr ?hp (fun _ hk => hk) trivial (Below.refl _ _) (Nat.le_refl _) (by simp) ?_; (case hd => rfl); (case hg => rfl); (case hr => first | (go_simp; done) | (go_simp; rfl)); (case hp => exact (Reps.one (show Kd.M (Kd.int .u64) _ _ _ 1 [.int .u64 1] from rfl) (Reps.one (show Kd.M (Kd.int .u64) _ _ _ 2 [.int .u64 2] from rfl) (Reps.none _ _)))); intro v482 w10 ho11 hb hg_ hnew_; clear hg_ hnew_; (first | rw [← Ny481.out] at ho11 | (simp only [Int.reduceToNat] at ho11; rw [← Ny481.out] at ho11)); have n0_ := A_ (Kd.R_lower ho11 (below_size hb_)); have n1_ := A_ (below_step hb_ hb); clear HB; have HO483 := n0_; have HB := n1_; clear n0_ n1_; clear hb ho11) | ((with_reducible refine gate_dst (N := 9) rfl ?_); (try (refine gate_guard (by rfl) ?_; dsimp only)); refine Kd.R_lit (Kd.int .u64) _ 33 ?hg (N := 9) ?hd (xs := ([3, 4] : List Int)) (inner := [.int .u64 3, .int .u64 4]) (ok := fun _ => True) (okp := fun _ => True) ?hr ?hp (fun _ hk => hk) trivial (Below.refl _ _) (Nat.le_refl _) (by simp) ?_; (case hd => rfl); (case hg => rfl); (case hr => first | (go_simp; done) | (go_simp; rfl)); (case hp => exact (Reps.one (show Kd.M (Kd.int .u64) _ _ _ 3 [.int .u64 3] from rfl) (Reps.one (show Kd.M (Kd.int .u64) _ _ _ 4 [.int .u64 4] from rfl) (Reps.none _ _)))); intro v485 w12 ho13 hb hg_ hnew_; clear hg_ hnew_; (first | rw [← Ny484.out] at ho13 | (simp only [Int.reduceToNat] at ho13; rw [← Ny484.out] at ho13)); have n0_ := A_ (Kd.R_elder' (nR_ HO483) (Kd.R_base ho13) hb); have n1_ := A_ (Kd.R_lower (Kd.R_new' ho13 (Kd.R_lt (nR_ HO483))) (below_size hb_)); have n2_ := A_ (below_step hb_ hb); clear HO483 HB; have HO483 := n0_; have HO486 := n1_; have HB := n2_; clear n0_ n1_ n2_; clear hb ho13; obtain ⟨Ao14, co14, eo14⟩ := Kd.R_slice HO483.out; subst eo14; obtain ⟨Ao15, co15, eo15⟩ := Kd.R_slice HO486.out; subst eo15) | ((with_reducible refine gate_callee (f := 12) rfl ?_); refine goesM_ (some 10) Try.func12 #[.int .u8 2, .slice Ao14 y481.length co14, .slice Ao15 y484.length co15] ?_; (with_reducible refine (fast_Mul.calls k 2 _ _ y481 _ _ y484 t487 t488 _ ?side1 ?side2 ?side3 ?side4 A1.out).mono ?_); (case side1 => repeat (first | exact (Kd.R_reads' HO483.out).2.2 | (with_reducible refine Kd.C_alloc ?_ _) | (with_reducible refine Kd.C_drewN ?_ _) | (with_reducible refine Kd.C_drew ?_))); (case side2 => exact (Kd.R_reads' HO483.out).2.1); (case side3 => repeat (first | exact (Kd.R_reads' HO486.out).2.2 | (with_reducible refine Kd.C_alloc ?_ _) | (with_reducible refine Kd.C_drewN ?_ _) | (with_reducible refine Kd.C_drew ?_))); (case side4 => exact (Kd.R_reads' HO486.out).2.1); rintro e w16 ⟨v489, rfl, ho0, hb⟩; refine ⟨_, rfl, ?_⟩; have n0_ := A_ (Kd.R_elder' (nR_ HO483) (Kd.R_base ho0) hb); have n1_ := A_ (Kd.R_elder' (nR_ HO486) (Kd.R_base ho0) hb); have n2_ := A_ (Kd.R_lower (Kd.R_new' (Kd.R_new' ho0 (Kd.R_lt (nR_ HO483))) (Kd.R_lt (nR_ HO486))) (below_size hb_)); have n3_ := A_ (below_step hb_ hb); clear HO483 HO486 HB; have HO483 := n0_; have HO486 := n1_; have HO490 := n2_; have HB := n3_; clear n0_ n1_ n2_ n3_; (try clear hb); (try clear ho0)) | ((with_reducible refine gate_dst (N := 14) rfl ?_); (try (refine gate_guard (by rfl) ?_; dsimp only)); refine Kd.R_lit (Kd.int .u64) _ 33 ?hg (N := 14) ?hd (xs := ([1, 2] : List Int)) (inner := [.int .u64 1, .int .u64 2]) (ok := fun _ => True) (okp := fun _ => True) ?hr ?hp (fun _ hk => hk) trivial (Below.refl _ _) (Nat.le_refl _) (by simp) ?_; (case hd => rfl); (case hg => rfl); (case hr => first | (go_simp; done) | (go_simp; rfl)); (case hp => exact (Reps.one (show Kd.M (Kd.int .u64) _ _ _ 1 [.int .u64 1] from rfl) (Reps.one (show Kd.M (Kd.int .u64) _ _ _ 2 [.int .u64 2] from rfl) (Reps.none _ _)))); intro v492 w17 ho18 hb hg_ hnew_; clear hg_ hnew_; (first | rw [← Ny491.out] at ho18 | (simp only [Int.reduceToNat] at ho18; rw [← Ny491.out] at ho18)); have n0_ := A_ (Kd.R_elder' (nR_ HO483) (Kd.R_base ho18) hb); have n1_ := A_ (Kd.R_elder' (nR_ HO486) (Kd.R_base ho18) hb); have n2_ := A_ (Kd.R_elder' (nR_ HO490) (Kd.R_base ho18) hb); have n3_ := A_ (Kd.R_lower (Kd.R_new' (Kd.R_new' (Kd.R_new' ho18 (Kd.R_lt (nR_ HO483))) (Kd.R_lt (nR_ HO486))) (Kd.R_lt (nR_ HO490))) (below_size hb_)); have n4_ := A_ (below_step hb_ hb); clear HO483 HO486 HO490 HB; have HO483 := n0_; have HO486 := n1_; have HO490 := n2_; have HO493 := n3_; have HB := n4_; clear n0_ n1_ n2_ n3_ n4_; clear hb ho18; obtain ⟨Ao19, co19, eo19⟩ := Kd.R_slice HO493.out; subst eo19) | ((with_reducible refine gate_callee (f := 10) rfl ?_); refine goesM_ (some 15) Try.func10 #[.int .u8 1, .slice Ao19 y491.length co19] ?_; (with_reducible refine (fast_Transform.calls k 1 (fun k_ => some k_ = (.slice Ao19 y491.length co19 : Value).ownBlock) _ _ y491 t494 t497 _ ?side1 A2.out).mono ?_); (case side1 => exact Kd.R_V (Kd.R_tight rfl (HO493.out))); rintro e w20 ⟨v495, rfl, ho0, hb⟩; refine ⟨_, rfl, ?_⟩; have n0_ := A_ (Kd.R_elder' (nR_ HO483) (Kd.R_base ho0) hb); have n1_ := A_ (Kd.R_elder' (nR_ HO486) (Kd.R_base ho0) hb); have n2_ := A_ (Kd.R_elder' (nR_ HO490) (Kd.R_base ho0) hb); have n3_ := A_ (Kd.R_elder' (nR_ HO493) (Kd.R_base ho0) hb); have n4_ := A_ (Kd.R_lower (Kd.R_new' (Kd.R_new' (Kd.R_new' (Kd.R_new' (Kd.R_mono (ok' := fun k_ => True) ho0 (fun _ hk_ => trivial)) (Kd.R_lt (nR_ HO483))) (Kd.R_lt (nR_ HO486))) (Kd.R_lt (nR_ HO490))) (Kd.R_lt (nR_ HO493))) (below_size hb_)); have n5_ := A_ (below_step hb_ hb); clear HO483 HO486 HO490 HO493 HB; have HO483 := n0_; have HO486 := n1_; have HO490 := n2_; have HO493 := n3_; have HO496 := n4_; have HB := n5_; clear n0_ n1_ n2_ n3_ n4_ n5_; (try clear hb); (try clear ho0)) | ((with_reducible refine gate_callee (f := 10) rfl ?_); refine goesM_ (some 19) Try.func10 #[.int .u8 1, .slice none 0 0] ?_; (refine (fast_Transform.calls k 1 (fun k_ => False) _ _ ([] : List Int) t498 t501 _ ?side1 A3.out).mono ?_); (case side1 => exact Kd.V_nil _ _ _ _ _); rintro e w21 ⟨v499, rfl, ho0, hb⟩; refine ⟨_, rfl, ?_⟩; have n0_ := A_ (Kd.R_elder' (nR_ HO483) (Kd.R_base ho0) hb); have n1_ := A_ (Kd.R_elder' (nR_ HO486) (Kd.R_base ho0) hb); have n2_ := A_ (Kd.R_elder' (nR_ HO490) (Kd.R_base ho0) hb); have n3_ := A_ (Kd.R_elder' (nR_ HO493) (Kd.R_base ho0) hb); have n4_ := A_ (Kd.R_elder' (nR_ HO496) (Kd.R_base ho0) hb); have n5_ := A_ (Kd.R_lower (Kd.R_new' (Kd.R_new' (Kd.R_new' (Kd.R_new' (Kd.R_new' (Kd.R_mono (ok' := fun k_ => True) ho0 (fun _ hk_ => trivial)) (Kd.R_lt (nR_ HO483))) (Kd.R_lt (nR_ HO486))) (Kd.R_lt (nR_ HO490))) (Kd.R_lt (nR_ HO493))) (Kd.R_lt (nR_ HO496))) (below_size hb_)); have n6_ := A_ (below_step hb_ hb); clear HO483 HO486 HO490 HO493 HO496 HB; have HO483 := n0_; have HO486 := n1_; have HO490 := n2_; have HO493 := n3_; have HO496 := n4_; have HO500 := n5_; have HB := n6_; clear n0_ n1_ n2_ n3_ n4_ n5_ n6_; (try clear hb); (try clear ho0)) | ((with_reducible refine gate_dst (N := 34) rfl ?_); (try (refine gate_guard (by rfl) ?_; dsimp only)); refine Kd.R_lit (Kd.int .u64) _ 33 ?hg (N := 34) ?hd (xs := ([3, 10, 8] : List Int)) (inner := [.int .u64 3, .int .u64 10, .int .u64 8]) (ok := fun _ => True) (okp := fun _ => True) ?hr ?hp (fun _ hk => hk) trivial (Below.refl _ _) (Nat.le_refl _) (by simp) ?_; (case hd => rfl); (case hg => rfl); (case hr => first | (go_simp; done) | (go_simp; rfl)); (case hp => exact (Reps.one (show Kd.M (Kd.int .u64) _ _ _ 3 [.int .u64 3] from rfl) (Reps.one (show Kd.M (Kd.int .u64) _ _ _ 10 [.int .u64 10] from rfl) (Reps.one (show Kd.M (Kd.int .u64) _ _ _ 8 [.int .u64 8] from rfl) (Reps.none _ _))))); intro v503 w22 ho23 hb hg_ hnew_; clear hg_ hnew_; (first | rw [← Ny502.out] at ho23 | (simp only [Int.reduceToNat] at ho23; rw [← Ny502.out] at ho23)); have n0_ := A_ (Kd.R_elder' (nR_ HO483) (Kd.R_base ho23) hb); have n1_ := A_ (Kd.R_elder' (nR_ HO486) (Kd.R_base ho23) hb); have n2_ := A_ (Kd.R_elder' (nR_ HO490) (Kd.R_base ho23) hb); have n3_ := A_ (Kd.R_elder' (nR_ HO493) (Kd.R_base ho23) hb); have n4_ := A_ (Kd.R_elder' (nR_ HO496) (Kd.R_base ho23) hb); have n5_ := A_ (Kd.R_elder' (nR_ HO500) (Kd.R_base ho23) hb); have n6_ := A_ (Kd.R_lower (Kd.R_new' (Kd.R_new' (Kd.R_new' (Kd.R_new' (Kd.R_new' (Kd.R_new' ho23 (Kd.R_lt (nR_ HO483))) (Kd.R_lt (nR_ HO486))) (Kd.R_lt (nR_ HO490))) (Kd.R_lt (nR_ HO493))) (Kd.R_lt (nR_ HO496))) (Kd.R_lt (nR_ HO500))) (below_size hb_)); have n7_ := A_ (below_step hb_ hb); clear HO483 HO486 HO490 HO493 HO496 HO500 HB; have HO483 := n0_; have HO486 := n1_; have HO490 := n2_; have HO493 := n3_; have HO496 := n4_; have HO500 := n5_; have HO504 := n6_; have HB := n7_; clear n0_ n1_ n2_ n3_ n4_ n5_ n6_ n7_; clear hb ho23; obtain ⟨Ao24, co24, eo24⟩ := Kd.R_slice HO490.out; subst eo24; obtain ⟨Ao25, co25, eo25⟩ := Kd.R_slice HO504.out; subst eo25) | (go_at_call 18; (with_reducible refine (cr1_Same.calls k _ _ t487 _ _ y502 true _ ?side1 ?side2 ?side3 ?side4 A7.out).mono ?_); (case side1 => repeat (first | exact (Kd.R_reads' HO490.out).2.2 | (with_reducible refine Kd.C_alloc ?_ _) | (with_reducible refine Kd.C_drewN ?_ _) | (with_reducible refine Kd.C_drew ?_))); (case side2 => exact (Kd.R_reads' HO490.out).2.1); (case side3 => repeat (first | exact (Kd.R_reads' HO504.out).2.2 | (with_reducible refine Kd.C_alloc ?_ _) | (with_reducible refine Kd.C_drewN ?_ _) | (with_reducible refine Kd.C_drew ?_))); (case side4 => exact (Kd.R_reads' HO504.out).2.1); rintro e w' ⟨rfl, ⟨nd, rfl⟩⟩) | ((with_reducible refine gate_dst (N := 39) rfl ?_); (try (refine gate_guard (by rfl) ?_; dsimp only)); refine Kd.R_lit (Kd.int .u64) _ 33 ?hg (N := 39) ?hd (xs := ([3, 2013265920] : List Int)) (inner := [.int .u64 3, .int .u64 2013265920]) (ok := fun _ => True) (okp := fun _ => True) ?hr ?hp (fun _ hk => hk) trivial (Below.refl _ _) (Nat.le_refl _) (by simp) ?_; (case hd => rfl); (case hg => rfl); (case hr => first | (go_simp; done) | (go_simp; rfl)); (case hp => exact (Reps.one (show Kd.M (Kd.int .u64) _ _ _ 3 [.int .u64 3] from rfl) (Reps.one (show Kd.M (Kd.int .u64) _ _ _ 2013265920 [.int .u64 2013265920] from rfl) (Reps.none _ _)))); intro v507 w26 ho27 hb hg_ hnew_; clear hg_ hnew_; (first | rw [← Ny506.out] at ho27 | (simp only [Int.reduceToNat] at ho27; rw [← Ny506.out] at ho27)); have n0_ := A_ (Kd.R_elder' (nR_ HO483) (Kd.R_base ho27) hb); have n1_ := A_ (Kd.R_elder' (nR_ HO486) (Kd.R_base ho27) hb); have n2_ := A_ (Kd.R_elder' (nR_ HO490) (Kd.R_base ho27) hb); have n3_ := A_ (Kd.R_elder' (nR_ HO493) (Kd.R_base ho27) hb); have n4_ := A_ (Kd.R_elder' (nR_ HO496) (Kd.R_base ho27) hb); have n5_ := A_ (Kd.R_elder' (nR_ HO500) (Kd.R_base ho27) hb); have n6_ := A_ (Kd.R_elder' (nR_ HO504) (Kd.R_base ho27) hb); have n7_ := A_ (Kd.R_lower (Kd.R_new' (Kd.R_new' (Kd.R_new' (Kd.R_new' (Kd.R_new' (Kd.R_new' (Kd.R_new' ho27 (Kd.R_lt (nR_ HO483))) (Kd.R_lt (nR_ HO486))) (Kd.R_lt (nR_ HO490))) (Kd.R_lt (nR_ HO493))) (Kd.R_lt (nR_ HO496))) (Kd.R_lt (nR_ HO500))) (Kd.R_lt (nR_ HO504))) (below_size hb_)); have n8_ := A_ (below_step hb_ hb); clear HO483 HO486 HO490 HO493 HO496 HO500 HO504 HB; have HO483 := n0_; have HO486 := n1_; have HO490 := n2_; have HO493 := n3_; have HO496 := n4_; have HO500 := n5_; have HO504 := n6_; have HO508 := n7_; have HB := n8_; clear n0_ n1_ n2_ n3_ n4_ n5_ n6_ n7_ n8_; clear hb ho27; obtain ⟨Ao28, co28, eo28⟩ := Kd.R_slice HO496.out; subst eo28; obtain ⟨Ao29, co29, eo29⟩ := Kd.R_slice HO508.out; subst eo29) | (go_at_call 18; (with_reducible refine (cr1_Same.calls k _ _ t494 _ _ y506 t509 _ ?side1 ?side2 ?side3 ?side4 A9.out).mono ?_); (case side1 => repeat (first | exact (Kd.R_reads' HO496.out).2.2 | (with_reducible refine Kd.C_alloc ?_ _) | (with_reducible refine Kd.C_drewN ?_ _) | (with_reducible refine Kd.C_drew ?_))); (case side2 => exact (Kd.R_reads' HO496.out).2.1); (case side3 => repeat (first | exact (Kd.R_reads' HO508.out).2.2 | (with_reducible refine Kd.C_alloc ?_ _) | (with_reducible refine Kd.C_drewN ?_ _) | (with_reducible refine Kd.C_drew ?_))); (case side4 => exact (Kd.R_reads' HO508.out).2.1); rintro e w' ⟨rfl, ⟨nd, rfl⟩⟩))
     go_ret
     exact ⟨fr_, hb_⟩
    ·replace c8 := Bool.eq_false_iff.mpr c8
     subst c8
     have H1 : (none) = some r := by rw [if_neg (show ¬ (false = true) by decide)] at H; exact H
     clear H
     have H := H1
     clear H1
     exact absurd H (by simp)
   ·rw [if_neg c6] at H
    exact absurd H (by simp)
  ·rw [if_neg c5] at H
   exact absurd H (by simp)
 ·rw [if_neg c4] at H
  exact absurd H (by simp)
/-! ### cr1_Sum: function 34 -/
def cr1_Sum.f (a0 : Int) (a1 : Int) (a2 : Int) : Option (Int) := if a1 ≥ (IntKind.u64.wrap (a0 - a2)) then (some (IntKind.u64.wrap (a1 - (IntKind.u64.wrap (a0 - a2))))) else (some (IntKind.u64.wrap (a1 + a2)))
set_option maxHeartbeats 8000000 in
set_option maxRecDepth 100000 in
theorem cr1_Sum.calls (a0 : Int) (a1 : Int) (a2 : Int) (r : Int) (w : World) (h : cr1_Sum.f a0 a1 a2 = some r) :
  Calls Try.prog 34 #[.int .u64 a0, .int .u64 a1, .int .u64 a2] w fun e w' => e = .returned (.int .u64 r) ∧ Drawn0 w w' := by
 have H : (if a1 ≥ (IntKind.u64.wrap (a0 - a2)) then (some (IntKind.u64.wrap (a1 - (IntKind.u64.wrap (a0 - a2))))) else (some (IntKind.u64.wrap (a1 + a2)))) = some r := h
 clear h
 by_cases c4 : a1 ≥ (IntKind.u64.wrap (a0 - a2))
 ·rw [if_pos c4] at H
  have c4b0 : decide ((IntKind.u64.wrap (a0 - a2)) ≤ a1) = true := decide_eq_true c4
  clear c4
  obtain rfl := Option.some.inj H
  go_enter Try.func34, Try.ntmps34
  go_wp2
  go_ret
  exact ⟨fs_, by repeat (first | exact Drawn0.refl _ | apply Drawn0.step)⟩
 ·rw [if_neg c4] at H
  have c4b0 : decide ((IntKind.u64.wrap (a0 - a2)) ≤ a1) = false := decide_eq_false c4
  clear c4
  obtain rfl := Option.some.inj H
  go_enter Try.func34, Try.ntmps34
  go_wp2
  go_ret
  exact ⟨fs_, by repeat (first | exact Drawn0.refl _ | apply Drawn0.step)⟩
end Go.Proofs.Ytaegmhniepfdaaa.PFastBack
