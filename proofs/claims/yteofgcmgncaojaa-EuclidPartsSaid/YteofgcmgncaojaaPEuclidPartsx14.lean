/- The Go functions as Lean functions, each with the proof that its call comes to just that; written by a program of this session, by the words of the print. -/
import Derived.Test.YteofgcmgncaojaaPEuclidPartsx0
import Derived.Test.YteofgcmgncaojaaPEuclidPartsx1
import Derived.Test.YteofgcmgncaojaaPEuclidPartsx9
import Derived.Test.YteofgcmgncaojaaPEuclidPartsx10
import Derived.Test.YteofgcmgncaojaaPEuclidPartsx12
import Derived.Test.YteofgcmgncaojaaPEuclidPartsx13
namespace Go.Proofs.Yteofgcmgncaojaa.PEuclidParts
open Go.RowKit Go.Proofs.YteofgcmgncaojaaW.PrintWords Go.Proofs.YteofgcmgncaojaaW.PrintLast Go.Proofs.YteofgcmgncaojaaW.PrintMore
attribute [local go_sem] max2_int min2_int max_two min_two max_three min_three max_four min_four   -- for this text's walks alone
set_option linter.unusedVariables false
set_option linter.unusedSimpArgs false
/-! ### conclavelaw05_EuclidParts: function 9 -/
mutual
def conclavelaw05_EuclidParts.j0 : Nat → Int → List Int → List Int → Bool → Int → Bool → List Int → List Int → Option (Bool)
 | 0, _, _, _, _, _, _, _, _ => none
 | k + 1, x7, x9, x10, x11, x12, x55, x573000, x573001 => if x55 = true then ((conclavelaw05_anchored.f k).bind fun t586 => (if t586 = true then (some (x12 != 0)) else (none))) else (if x12 = 0 then (conclavelaw05_EuclidParts.j1 k x7 x9 x10 x12 (!x11) x573000 x573001) else (conclavelaw05_EuclidParts.j1 k x7 x9 x10 x12 true x573000 x573001))
def conclavelaw05_EuclidParts.j1 : Nat → Int → List Int → List Int → Int → Bool → List Int → List Int → Option (Bool)
 | 0, _, _, _, _, _, _, _ => none
 | k + 1, x7, x9, x10, x12, x66, x573000, x573001 => if x66 = true then ((conclavelaw05_anchored.f k).bind fun t587 => (if t587 = true then (if x12 = 0 then (if (x9.length : Int) = 0 then (some ((x10.length : Int) == 0)) else (none)) else (none)) else (none))) else ((cr3_Mul.f k x7 x9 x10).bind fun bt588 => ((cr3_Mul.f k x7 x573000 x10).bind fun bt592 => ((cr3_Sub.f k x7 bt588.1 bt592.1).bind fun bt596 => ((cr3_DivMod.f k x7 bt596.1 x573001).bind fun bt600 => ((conclavelaw05_anchored.f k).bind fun t607 => (if t607 = true then (if bt588.2 = 0 then (if bt592.2 = 0 then (if (bt600.2.1.length : Int) = 0 then (if (x10.length : Int) > 0 then (if 0 ≤ (wrap64 ((x10.length : Int) - 1)) then (if (wrap64 ((x10.length : Int) - 1)) < (x10.length : Int) then (some ((rd x10 (wrap64 ((x10.length : Int) - 1))) == 1)) else (none)) else (none)) else (none)) else (none)) else (none)) else (none)) else (none)))))))
end
def conclavelaw05_EuclidParts.f (k : Nat) (a0 : Int) (l1_0 : List Int) (l1_1 : List Int) (a2 : Int) : Option (Bool) := (conclavelaw05_usual.f k a0 l1_0 l1_1).bind fun bt573 => ((euclid_Ratio.f k bt573.1 l1_0 l1_1 a2).bind fun bt575 => (if bt573.2 = true then (if a2 < 0 then (conclavelaw05_EuclidParts.j0 k bt573.1 bt575.1 bt575.2.1 bt575.2.2.1 bt575.2.2.2 true l1_0 l1_1) else ((cr3_Trim.f k l1_1).bind fun t583 => (conclavelaw05_EuclidParts.j0 k bt573.1 bt575.1 bt575.2.1 bt575.2.2.1 bt575.2.2.2 ((t583.length : Int) == 0) l1_0 l1_1))) else (conclavelaw05_EuclidParts.j0 k bt573.1 bt575.1 bt575.2.1 bt575.2.2.1 bt575.2.2.2 true l1_0 l1_1)))
theorem conclavelaw05_EuclidParts.mono_l : ∀ k, (∀ y0 y1 y2 y3 y4 y5 y6 y7, LeO (conclavelaw05_EuclidParts.j0 k y0 y1 y2 y3 y4 y5 y6 y7) (conclavelaw05_EuclidParts.j0 (k + 1) y0 y1 y2 y3 y4 y5 y6 y7)) ∧ (∀ y0 y1 y2 y3 y4 y5 y6, LeO (conclavelaw05_EuclidParts.j1 k y0 y1 y2 y3 y4 y5 y6) (conclavelaw05_EuclidParts.j1 (k + 1) y0 y1 y2 y3 y4 y5 y6))
 | 0 => ⟨fun _ _ _ _ _ _ _ _ r h => by simp [conclavelaw05_EuclidParts.j0] at h, fun _ _ _ _ _ _ _ r h => by simp [conclavelaw05_EuclidParts.j1] at h⟩
 | k + 1 => by
  obtain ⟨ih0, ih1⟩ := conclavelaw05_EuclidParts.mono_l k
  refine ⟨?_, ?_⟩
  ·intro y0 y1 y2 y3 y4 y5 y6 y7
   unfold conclavelaw05_EuclidParts.j0
   repeat' first
   | (with_reducible exact ih0 _ _ _ _ _ _ _ _)
   | (with_reducible exact ih1 _ _ _ _ _ _ _)
   | (with_reducible exact conclavelaw05_anchored.mono _)
   | (with_reducible exact conclavelaw05_usual.mono _ _ _ _)
   | (with_reducible exact cr3_DivMod.mono _ _ _ _)
   | (with_reducible exact cr3_Mul.mono _ _ _ _)
   | (with_reducible exact cr3_Sub.mono _ _ _ _)
   | (with_reducible exact cr3_Trim.mono _ _)
   | (with_reducible exact euclid_Ratio.mono _ _ _ _ _)
   | (with_reducible exact LeO.refl _)
   | (with_reducible exact LeO.none _)
   | (with_reducible refine LeO.ite ?_ ?_)
   | (with_reducible refine LeO.bind ?_ (fun _ => ?_))
   | exact ih0 _ _ _ _ _ _ _ _
   | exact ih1 _ _ _ _ _ _ _
   | exact conclavelaw05_anchored.mono _
   | exact conclavelaw05_usual.mono _ _ _ _
   | exact cr3_DivMod.mono _ _ _ _
   | exact cr3_Mul.mono _ _ _ _
   | exact cr3_Sub.mono _ _ _ _
   | exact cr3_Trim.mono _ _
   | exact euclid_Ratio.mono _ _ _ _ _
   | exact LeO.none _
   | refine LeO.ite ?_ ?_
   | refine LeO.bind ?_ (fun _ => ?_)
  ·intro y0 y1 y2 y3 y4 y5 y6
   unfold conclavelaw05_EuclidParts.j1
   repeat' first
   | (with_reducible exact ih0 _ _ _ _ _ _ _ _)
   | (with_reducible exact ih1 _ _ _ _ _ _ _)
   | (with_reducible exact conclavelaw05_anchored.mono _)
   | (with_reducible exact conclavelaw05_usual.mono _ _ _ _)
   | (with_reducible exact cr3_DivMod.mono _ _ _ _)
   | (with_reducible exact cr3_Mul.mono _ _ _ _)
   | (with_reducible exact cr3_Sub.mono _ _ _ _)
   | (with_reducible exact cr3_Trim.mono _ _)
   | (with_reducible exact euclid_Ratio.mono _ _ _ _ _)
   | (with_reducible exact LeO.refl _)
   | (with_reducible exact LeO.none _)
   | (with_reducible refine LeO.ite ?_ ?_)
   | (with_reducible refine LeO.bind ?_ (fun _ => ?_))
   | exact ih0 _ _ _ _ _ _ _ _
   | exact ih1 _ _ _ _ _ _ _
   | exact conclavelaw05_anchored.mono _
   | exact conclavelaw05_usual.mono _ _ _ _
   | exact cr3_DivMod.mono _ _ _ _
   | exact cr3_Mul.mono _ _ _ _
   | exact cr3_Sub.mono _ _ _ _
   | exact cr3_Trim.mono _ _
   | exact euclid_Ratio.mono _ _ _ _ _
   | exact LeO.none _
   | refine LeO.ite ?_ ?_
   | refine LeO.bind ?_ (fun _ => ?_)
theorem conclavelaw05_EuclidParts.mono : ∀ a0 a1 a2 a3 k, LeO (conclavelaw05_EuclidParts.f k a0 a1 a2 a3) (conclavelaw05_EuclidParts.f (k + 1) a0 a1 a2 a3) := by
 intro a0 a1 a2 a3 k
 obtain ⟨ih0, ih1⟩ := conclavelaw05_EuclidParts.mono_l k
 unfold conclavelaw05_EuclidParts.f
 repeat' first
   | (with_reducible exact ih0 _ _ _ _ _ _ _ _)
   | (with_reducible exact ih1 _ _ _ _ _ _ _)
   | (with_reducible exact conclavelaw05_anchored.mono _)
   | (with_reducible exact conclavelaw05_usual.mono _ _ _ _)
   | (with_reducible exact cr3_DivMod.mono _ _ _ _)
   | (with_reducible exact cr3_Mul.mono _ _ _ _)
   | (with_reducible exact cr3_Sub.mono _ _ _ _)
   | (with_reducible exact cr3_Trim.mono _ _)
   | (with_reducible exact euclid_Ratio.mono _ _ _ _ _)
   | (with_reducible exact LeO.refl _)
   | (with_reducible exact LeO.none _)
   | (with_reducible refine LeO.ite ?_ ?_)
   | (with_reducible refine LeO.bind ?_ (fun _ => ?_))
   | exact ih0 _ _ _ _ _ _ _ _
   | exact ih1 _ _ _ _ _ _ _
   | exact conclavelaw05_anchored.mono _
   | exact conclavelaw05_usual.mono _ _ _ _
   | exact cr3_DivMod.mono _ _ _ _
   | exact cr3_Mul.mono _ _ _ _
   | exact cr3_Sub.mono _ _ _ _
   | exact cr3_Trim.mono _ _
   | exact euclid_Ratio.mono _ _ _ _ _
   | exact LeO.none _
   | refine LeO.ite ?_ ?_
   | refine LeO.bind ?_ (fun _ => ?_)
set_option maxHeartbeats 8000000 in
set_option maxRecDepth 100000 in
theorem conclavelaw05_EuclidParts.calls (k : Nat) (a0 : Int) (A1_0 : Option Addr) (c1_0 : Nat) (l1_0 : List Int) (A1_1 : Option Addr) (c1_1 : Nat) (l1_1 : List Int) (a2 : Int) (r : Bool) (w : World) (hr1_0 : Kd.C (Kd.int .u64) w A1_0 l1_0.length l1_0) (hc1_0 : l1_0.length ≤ c1_0) (hr1_1 : Kd.C (Kd.int .u64) w A1_1 l1_1.length l1_1) (hc1_1 : l1_1.length ≤ c1_1) (h : conclavelaw05_EuclidParts.f k a0 l1_0 l1_1 a2 = some r) :
  Calls Try.prog 9 #[.int .u8 a0, .agg #[.slice A1_0 l1_0.length c1_0, .slice A1_1 l1_1.length c1_1], .int .i64 a2] w fun e w' => e = .returned (.bool r) ∧ Below w.heap.size w w' := by
 have hu35 := Try.underlying35
 have HR1_0 := Aside0.mk hr1_0
 have HC1_0 := Aside0.mk hc1_0
 clear hr1_0 hc1_0
 have HR1_1 := Aside0.mk hr1_1
 have HC1_1 := Aside0.mk hc1_1
 clear hr1_1 hc1_1
 have HB := A_ (Below.refl w.heap.size w)
 have H : ((conclavelaw05_usual.f k a0 l1_0 l1_1).bind fun bt573 => ((euclid_Ratio.f k bt573.1 l1_0 l1_1 a2).bind fun bt575 => (if bt573.2 = true then (if a2 < 0 then (conclavelaw05_EuclidParts.j0 k bt573.1 bt575.1 bt575.2.1 bt575.2.2.1 bt575.2.2.2 true l1_0 l1_1) else ((cr3_Trim.f k l1_1).bind fun t583 => (conclavelaw05_EuclidParts.j0 k bt573.1 bt575.1 bt575.2.1 bt575.2.2.1 bt575.2.2.2 ((t583.length : Int) == 0) l1_0 l1_1))) else (conclavelaw05_EuclidParts.j0 k bt573.1 bt575.1 bt575.2.1 bt575.2.2.1 bt575.2.2.2 true l1_0 l1_1)))) = some r := h
 clear h
 replace H := Option.bind_eq_some_iff.mp H
 obtain ⟨⟨t573, t574⟩, A40, H⟩ := H
 (try dsimp only at H)
 have A4 := Aside0.mk A40
 clear A40
 replace H := Option.bind_eq_some_iff.mp H
 obtain ⟨⟨t575, t578, t581, t582⟩, A50, H⟩ := H
 (try dsimp only at H)
 have A5 := Aside0.mk A50
 clear A50
 have HC6 := Aside0.mk H
 clear H
 go_enter Try.func9, Try.ntmps9
 go_upto_region 3 with (first | ((with_reducible refine gate_dst (N := 4) rfl ?_); (try (refine gate_guard (by rfl) ?_; dsimp only)); refine box_event ?hg (N := 4) ?hd (cs := #[.slice A1_0 l1_0.length c1_0, .slice A1_1 l1_1.length c1_1]) (t := 35) ?hr ?_; (case hd => rfl); (case hg => rfl); (case hr => first | (go_simp; done) | (go_simp; rfl)); intro gb572 hg w7 hbox hb; have n0_ := A_ (below_step hb_ hb); have n1_ := A_ (hbox); have n2_ := A_ ((by rw [hg]; exact (below_size hb_) : w.heap.size ≤ gb572)); have n3_ := A_ ((by rw [hg]; exact (below_size hb_) : w.heap.size ≤ gb572)); clear HB; have HB := n0_; have BK572 := n1_; have GW572 := n2_; have GE572 := n3_; clear n0_ n1_ n2_ n3_; clear hb hbox hg; have hcz8_0 : w7.cell? ⟨gb572, 0, none⟩ = some (.slice A1_0 l1_0.length c1_0) := (blk_cell BK572.out 0).trans rfl; have hcz8_1 : w7.cell? ⟨gb572, 1, none⟩ = some (.slice A1_1 l1_1.length c1_1) := (blk_cell BK572.out 1).trans rfl; have hfz8_0 := blk_frozen BK572.out 0; have hfz8_1 := blk_frozen BK572.out 1) | ((with_reducible refine gate_callee (f := 15) rfl ?_); refine goesM_ (some 28) Try.func15 #[.int .u8 a0, .slice A1_0 l1_0.length c1_0, .slice A1_1 l1_1.length c1_1] ?_; (with_reducible refine (conclavelaw05_usual.calls k a0 _ _ l1_0 _ _ l1_1 t573 t574 _ ?side1 ?side2 ?side3 ?side4 A4.out).mono ?_); (case side1 => repeat (first | exact (Kd.C_below HR1_0.out HB.out) | (with_reducible refine Kd.C_alloc ?_ _) | (with_reducible refine Kd.C_drewN ?_ _) | (with_reducible refine Kd.C_drew ?_))); (case side2 => exact HC1_0.out); (case side3 => repeat (first | exact (Kd.C_below HR1_1.out HB.out) | (with_reducible refine Kd.C_alloc ?_ _) | (with_reducible refine Kd.C_drewN ?_ _) | (with_reducible refine Kd.C_drew ?_))); (case side4 => exact HC1_1.out); rintro e w' ⟨rfl, ⟨nd, rfl⟩⟩; refine ⟨_, rfl, ?_⟩) | ((with_reducible refine gate_callee (f := 24) rfl ?_); refine goesM_ (some 38) Try.func24 #[.int .u8 t573, .slice A1_0 l1_0.length c1_0, .slice A1_1 l1_1.length c1_1, .int .i64 a2] ?_; (with_reducible refine (euclid_Ratio.calls k t573 (fun k_ => k_ < w.heap.size) _ _ l1_0 (fun k_ => k_ < w.heap.size) _ _ l1_1 a2 t575 t578 t581 t582 _ ?side1 ?side2 A5.out).mono ?_); (case side1 => exact Kd.V_mk HC1_0.out (Kd.F_below (Kd.C_F (Kd.heap_int .u64) HR1_0.out) hs_)); (case side2 => exact Kd.V_mk HC1_1.out (Kd.F_below (Kd.C_F (Kd.heap_int .u64) HR1_1.out) hs_)); rintro e w9 ⟨v576, v579, rfl, ho0, ho1, hb⟩; refine ⟨_, rfl, ?_⟩; have n0_ := A_ (Kd.R_lower (Kd.R_mono (ok' := fun k_ => True) ho0 (fun _ hk_ => trivial)) (below_size hs_)); have n1_ := A_ (Kd.R_lower (Kd.R_mono (ok' := fun k_ => True) ho1 (fun _ hk_ => trivial)) (below_size hs_)); have n2_ := A_ (blk_below (g := gb572) (o := .cells #[.slice A1_0 l1_0.length c1_0, .slice A1_1 l1_1.length c1_1] 35 (0, 0)) (nb_ BK572) hb); have n3_ := A_ (below_step hs_ hb); clear BK572 HB; have HO577 := n0_; have HO580 := n1_; have BK572 := n2_; have HB := n3_; clear n0_ n1_ n2_ n3_; (try clear hb); (try clear ho0); (try clear ho1)))
 (try simp only [Act.put, List.setIfInBounds_toArray, List.set_cons_zero, List.set_cons_succ])
 go_cut [55] (fun v55 wc => ∃ (kq : Nat) (x55_5 : Bool), v55 = .bool x55_5 ∧ Aside0 (conclavelaw05_EuclidParts.j0 kq t573 t575 t578 t581 t582 x55_5 l1_0 l1_1 = some r) ∧ Aside0 (kq ≤ k) ∧ Aside0 (Kd.R (Kd.int .u64) 40 wc w.heap.size (fun _ => True) v576 t575) ∧ Aside0 (Kd.R (Kd.int .u64) 40 wc w.heap.size (fun _ => True) v579 t578) ∧ Aside0 (wc.heap[gb572]? = some (.cells #[(.slice A1_0 l1_0.length c1_0), (.slice A1_1 l1_1.length c1_1)] 35 (0, 0))) ∧ Aside0 (Below w.heap.size w wc))
 case first =>
  have H := HC6.out
  clear HC6
  by_cases c10 : t574 = true
  ·subst c10
   have H1 : (if a2 < 0 then (conclavelaw05_EuclidParts.j0 k t573 t575 t578 t581 t582 true l1_0 l1_1) else ((cr3_Trim.f k l1_1).bind fun t583 => (conclavelaw05_EuclidParts.j0 k t573 t575 t578 t581 t582 ((t583.length : Int) == 0) l1_0 l1_1))) = some r := by rw [if_pos rfl] at H; exact H
   clear H
   have H := H1
   clear H1
   by_cases c11 : a2 < 0
   ·rw [if_pos c11] at H
    have c11b0 : decide (a2 < 0) = true := decide_eq_true c11
    clear c11
    (first | rw [c11b0] | (simp only [i64_w, i32_w]; first | rw [c11b0]) | skip)
    have H' := Aside0.mk H
    clear H
    go_wp2
    go_meet
    case rel => exact ⟨_, (true), (fs_), H', ⟨fo_⟩, ⟨mR_ HO577.out⟩, ⟨mR_ HO580.out⟩, ⟨mb_ BK572.out⟩, ⟨hs_⟩⟩
   ·rw [if_neg c11] at H
    have c11b0 : decide (a2 < 0) = false := decide_eq_false c11
    clear c11
    (first | rw [c11b0] | (simp only [i64_w, i32_w]; first | rw [c11b0]) | skip)
    replace H := Option.bind_eq_some_iff.mp H
    obtain ⟨t583, A120, H⟩ := H
    replace H : (conclavelaw05_EuclidParts.j0 k t573 t575 t578 t581 t582 ((t583.length : Int) == 0) l1_0 l1_1) = some r := H
    have A12 := Aside0.mk A120
    clear A120
    have H' := Aside0.mk H
    clear H
    have hcz13_0 : w9.cell? ⟨gb572, 0, none⟩ = some (.slice A1_0 l1_0.length c1_0) := (blk_cell BK572.out 0).trans rfl
    have hcz13_1 : w9.cell? ⟨gb572, 1, none⟩ = some (.slice A1_1 l1_1.length c1_1) := (blk_cell BK572.out 1).trans rfl
    have hfz13_0 := blk_frozen BK572.out 0
    have hfz13_1 := blk_frozen BK572.out 1
    go_wp2_with (first | (go_at_call 20; (with_reducible refine (cr3_Trim.calls k _ _ l1_1 t583 _ ?side1 ?side2 A12.out).mono ?_); (case side1 => repeat (first | exact (Kd.C_below HR1_1.out HB.out) | (with_reducible refine Kd.C_alloc ?_ _) | (with_reducible refine Kd.C_drewN ?_ _) | (with_reducible refine Kd.C_drew ?_))); (case side2 => exact HC1_1.out); rintro e w14 ⟨v584, rfl, ho0, hb⟩; have n0_ := A_ (Kd.R_below (nR_ HO577) hb); have n1_ := A_ (Kd.R_below (nR_ HO580) hb); have n2_ := A_ (Kd.R_lower (Kd.R_mono (ok' := fun _ => True) ho0 (fun _ _ => trivial)) (below_size hs_)); have n3_ := A_ (blk_below (g := gb572) (o := .cells #[.slice A1_0 l1_0.length c1_0, .slice A1_1 l1_1.length c1_1] 35 (0, 0)) (nb_ BK572) hb); have n4_ := A_ (below_step hs_ hb); clear HO577 HO580 BK572 HB; have HO577 := n0_; have HO580 := n1_; have HO585 := n2_; have BK572 := n3_; have HB := n4_; clear n0_ n1_ n2_ n3_ n4_; (try clear hb); (try clear hb2); (try clear hk); (try clear hi); (try clear ho0); obtain ⟨Ao15, co15, eo15⟩ := Kd.R_slice HO585.out; subst eo15))
    go_meet
    case rel => exact ⟨_, (((t583.length : Int) == 0)), (fs_), H', ⟨fo_⟩, ⟨mR_ HO577.out⟩, ⟨mR_ HO580.out⟩, ⟨mb_ BK572.out⟩, ⟨hs_⟩⟩
  ·replace c10 := Bool.eq_false_iff.mpr c10
   subst c10
   have H1 : (conclavelaw05_EuclidParts.j0 k t573 t575 t578 t581 t582 true l1_0 l1_1) = some r := by rw [if_neg (show ¬ (false = true) by decide)] at H; exact H
   clear H
   have H := H1
   clear H1
   have H' := Aside0.mk H
   clear H
   go_wp2
   go_meet
   case rel => exact ⟨_, (true), (fs_), H', ⟨fo_⟩, ⟨mR_ HO577.out⟩, ⟨mR_ HO580.out⟩, ⟨mb_ BK572.out⟩, ⟨hs_⟩⟩
 case rest =>
  clear HC6
  try clear c1
  try clear c2
  try clear p2
  try clear c9
  try clear c10
  try clear c11
  try clear c11b0
  try clear c15
  try clear hcz13_0
  try clear hcz13_1
  try clear hcz8_0
  try clear hcz8_1
  try clear hfz13_0
  try clear hfz13_1
  try clear hfz8_0
  try clear hfz8_1
  obtain ⟨kq, x55_5, rfl, HA, HJ5, HO_9, HO_10, BK572, HB⟩ := hcut
  cases kq with
  | zero => exact absurd HA.out (by simp [conclavelaw05_EuclidParts.j0])
  | succ kj5 =>
   have H := HA.out
   clear HA
   simp only [conclavelaw05_EuclidParts.j0] at H
   by_cases c16 : x55_5 = true
   ·subst c16
    have H1 : ((conclavelaw05_anchored.f kj5).bind fun t586 => (if t586 = true then (some (t582 != 0)) else (none))) = some r := by rw [if_pos rfl] at H; exact H
    clear H
    have H := H1
    clear H1
    replace H := Option.bind_eq_some_iff.mp H
    obtain ⟨t586, A170, H⟩ := H
    replace H : (if t586 = true then (some (t582 != 0)) else (none)) = some r := H
    have A17 := Aside0.mk A170
    clear A170
    by_cases c18 : t586 = true
    ·subst c18
     have H1 : (some (t582 != 0)) = some r := by rw [if_pos rfl] at H; exact H
     clear H
     have H := H1
     clear H1
     obtain rfl := Option.some.inj H
     go_wp2_with (first | ((with_reducible refine gate_callee (f := 17) rfl ?_); refine goesM_ (some 56) Try.func17 #[] ?_; (with_reducible refine (conclavelaw05_anchored.calls kj5  true _ A17.out).mono ?_); rintro e w19 ⟨rfl, hb⟩; refine ⟨_, rfl, ?_⟩; have n0_ := A_ (Kd.R_below (nR_ HO_9) hb); have n1_ := A_ (Kd.R_below (nR_ HO_10) hb); have n2_ := A_ (blk_below (g := gb572) (o := .cells #[.slice A1_0 l1_0.length c1_0, .slice A1_1 l1_1.length c1_1] 35 (0, 0)) (nb_ BK572) hb); have n3_ := A_ (below_step hs_ hb); clear HO_9 HO_10 BK572 HB; have HO_9 := n0_; have HO_10 := n1_; have BK572 := n2_; have HB := n3_; clear n0_ n1_ n2_ n3_; (try clear hb)))
     go_ret
     exact ⟨fr_, hs_⟩
    ·replace c18 := Bool.eq_false_iff.mpr c18
     subst c18
     have H1 : (none) = some r := by rw [if_neg (show ¬ (false = true) by decide)] at H; exact H
     clear H
     have H := H1
     clear H1
     exact absurd H (by simp)
   ·replace c16 := Bool.eq_false_iff.mpr c16
    subst c16
    have H1 : (if t582 = 0 then (conclavelaw05_EuclidParts.j1 kj5 t573 t575 t578 t582 (!t581) l1_0 l1_1) else (conclavelaw05_EuclidParts.j1 kj5 t573 t575 t578 t582 true l1_0 l1_1)) = some r := by rw [if_neg (show ¬ (false = true) by decide)] at H; exact H
    clear H
    have H := H1
    clear H1
    have HC20 := Aside0.mk H
    clear H
    go_upto_region 5 with (fail)
    go_cut [66] (fun v66 wc => ∃ (kq : Nat) (x66_19 : Bool), v66 = .bool x66_19 ∧ Aside0 (conclavelaw05_EuclidParts.j1 kq t573 t575 t578 t582 x66_19 l1_0 l1_1 = some r) ∧ Aside0 (kq ≤ kj5) ∧ Aside0 (Kd.R (Kd.int .u64) 40 wc w.heap.size (fun _ => True) v576 t575) ∧ Aside0 (Kd.R (Kd.int .u64) 40 wc w.heap.size (fun _ => True) v579 t578) ∧ Aside0 (wc.heap[gb572]? = some (.cells #[(.slice A1_0 l1_0.length c1_0), (.slice A1_1 l1_1.length c1_1)] 35 (0, 0))) ∧ Aside0 (Below w.heap.size w wc))
    case first =>
     have H := HC20.out
     clear HC20
     by_cases c21 : t582 = 0
     ·rw [if_pos c21] at H
      have c21b0 : (t582 == 0) = true := beq_iff_eq.mpr c21
      have c21b1 : (t582 != 0) = false := bne_eq_false_iff_eq.mpr c21
      clear c21
      (first | rw [c21b0] | rw [c21b1] | (simp only [i64_w, i32_w]; first | rw [c21b0] | rw [c21b1]) | skip)
      have H' := Aside0.mk H
      clear H
      go_wp2
      go_meet
      case rel => exact ⟨_, (!t581), (fs_), H', ⟨by have := HJ5.out; first | omega | exact Nat.le_refl _⟩, ⟨mR_ HO_9.out⟩, ⟨mR_ HO_10.out⟩, ⟨mb_ BK572.out⟩, ⟨hs_⟩⟩
     ·rw [if_neg c21] at H
      have c21b0 : (t582 == 0) = false := beq_eq_false_iff_ne.mpr c21
      have c21b1 : (t582 != 0) = true := bne_iff_ne.mpr c21
      (first | rw [c21b0] | rw [c21b1] | (simp only [i64_w, i32_w]; first | rw [c21b0] | rw [c21b1]) | skip)
      have H' := Aside0.mk H
      clear H
      go_wp2
      go_meet
      case rel => exact ⟨_, (true), (fs_), H', ⟨by have := HJ5.out; first | omega | exact Nat.le_refl _⟩, ⟨mR_ HO_9.out⟩, ⟨mR_ HO_10.out⟩, ⟨mb_ BK572.out⟩, ⟨hs_⟩⟩
    case rest =>
     clear HC20
     try clear c1
     try clear c2
     try clear p2
     try clear c9
     try clear c10
     try clear c11
     try clear c11b0
     try clear c15
     try clear c16
     try clear c17
     try clear c18
     try clear c21
     try clear c21b0
     try clear c21b1
     try clear hcz13_0
     try clear hcz13_1
     try clear hcz8_0
     try clear hcz8_1
     try clear hfz13_0
     try clear hfz13_1
     try clear hfz8_0
     try clear hfz8_1
     try clear p2
     obtain ⟨kq, x66_19, rfl, HA, HJ19, HO_9, HO_10, BK572, HB⟩ := hcut
     cases kq with
     | zero => exact absurd HA.out (by simp [conclavelaw05_EuclidParts.j1])
     | succ kj19 =>
      have H := HA.out
      clear HA
      simp only [conclavelaw05_EuclidParts.j1] at H
      by_cases c22 : x66_19 = true
      ·subst c22
       have H1 : ((conclavelaw05_anchored.f kj19).bind fun t587 => (if t587 = true then (if t582 = 0 then (if (t575.length : Int) = 0 then (some ((t578.length : Int) == 0)) else (none)) else (none)) else (none))) = some r := by rw [if_pos rfl] at H; exact H
       clear H
       have H := H1
       clear H1
       replace H := Option.bind_eq_some_iff.mp H
       obtain ⟨t587, A230, H⟩ := H
       replace H : (if t587 = true then (if t582 = 0 then (if (t575.length : Int) = 0 then (some ((t578.length : Int) == 0)) else (none)) else (none)) else (none)) = some r := H
       have A23 := Aside0.mk A230
       clear A230
       by_cases c24 : t587 = true
       ·subst c24
        have H1 : (if t582 = 0 then (if (t575.length : Int) = 0 then (some ((t578.length : Int) == 0)) else (none)) else (none)) = some r := by rw [if_pos rfl] at H; exact H
        clear H
        have H := H1
        clear H1
        by_cases c25 : t582 = 0
        ·rw [if_pos c25] at H
         have c25b0 : (t582 == 0) = true := beq_iff_eq.mpr c25
         have c25b1 : (t582 != 0) = false := bne_eq_false_iff_eq.mpr c25
         clear c25
         by_cases c26 : (t575.length : Int) = 0
         ·rw [if_pos c26] at H
          have c26b0 : ((t575.length : Int) == 0) = true := beq_iff_eq.mpr c26
          have c26b1 : ((t575.length : Int) != 0) = false := bne_eq_false_iff_eq.mpr c26
          clear c26
          obtain rfl := Option.some.inj H
          go_wp2_with (first | ((with_reducible refine gate_callee (f := 17) rfl ?_); refine goesM_ (some 67) Try.func17 #[] ?_; (with_reducible refine (conclavelaw05_anchored.calls kj19  true _ A23.out).mono ?_); rintro e w27 ⟨rfl, hb⟩; refine ⟨_, rfl, ?_⟩; have n0_ := A_ (Kd.R_below (nR_ HO_9) hb); have n1_ := A_ (Kd.R_below (nR_ HO_10) hb); have n2_ := A_ (blk_below (g := gb572) (o := .cells #[.slice A1_0 l1_0.length c1_0, .slice A1_1 l1_1.length c1_1] 35 (0, 0)) (nb_ BK572) hb); have n3_ := A_ (below_step hs_ hb); clear HO_9 HO_10 BK572 HB; have HO_9 := n0_; have HO_10 := n1_; have BK572 := n2_; have HB := n3_; clear n0_ n1_ n2_ n3_; (try clear hb); obtain ⟨Ao28, co28, eo28⟩ := Kd.R_slice HO_9.out; subst eo28; obtain ⟨Ao29, co29, eo29⟩ := Kd.R_slice HO_10.out; subst eo29))
          go_ret
          exact ⟨fr_, hs_⟩
         ·rw [if_neg c26] at H
          exact absurd H (by simp)
        ·rw [if_neg c25] at H
         exact absurd H (by simp)
       ·replace c24 := Bool.eq_false_iff.mpr c24
        subst c24
        have H1 : (none) = some r := by rw [if_neg (show ¬ (false = true) by decide)] at H; exact H
        clear H
        have H := H1
        clear H1
        exact absurd H (by simp)
      ·replace c22 := Bool.eq_false_iff.mpr c22
       subst c22
       have H1 : ((cr3_Mul.f kj19 t573 t575 t578).bind fun bt588 => ((cr3_Mul.f kj19 t573 l1_0 t578).bind fun bt592 => ((cr3_Sub.f kj19 t573 bt588.1 bt592.1).bind fun bt596 => ((cr3_DivMod.f kj19 t573 bt596.1 l1_1).bind fun bt600 => ((conclavelaw05_anchored.f kj19).bind fun t607 => (if t607 = true then (if bt588.2 = 0 then (if bt592.2 = 0 then (if (bt600.2.1.length : Int) = 0 then (if (t578.length : Int) > 0 then (if 0 ≤ (wrap64 ((t578.length : Int) - 1)) then (if (wrap64 ((t578.length : Int) - 1)) < (t578.length : Int) then (some ((rd t578 (wrap64 ((t578.length : Int) - 1))) == 1)) else (none)) else (none)) else (none)) else (none)) else (none)) else (none)) else (none))))))) = some r := by rw [if_neg (show ¬ (false = true) by decide)] at H; exact H
       clear H
       have H := H1
       clear H1
       replace H := Option.bind_eq_some_iff.mp H
       obtain ⟨⟨t588, t589⟩, A300, H⟩ := H
       (try dsimp only at H)
       have A30 := Aside0.mk A300
       clear A300
       replace H := Option.bind_eq_some_iff.mp H
       obtain ⟨⟨t592, t593⟩, A310, H⟩ := H
       (try dsimp only at H)
       have A31 := Aside0.mk A310
       clear A310
       replace H := Option.bind_eq_some_iff.mp H
       obtain ⟨⟨t596, t597⟩, A320, H⟩ := H
       (try dsimp only at H)
       have A32 := Aside0.mk A320
       clear A320
       replace H := Option.bind_eq_some_iff.mp H
       obtain ⟨⟨t600, t601, t602⟩, A330, H⟩ := H
       (try dsimp only at H)
       have A33 := Aside0.mk A330
       clear A330
       replace H := Option.bind_eq_some_iff.mp H
       obtain ⟨t607, A340, H⟩ := H
       (try dsimp only at H)
       have A34 := Aside0.mk A340
       clear A340
       by_cases c35 : t607 = true
       ·subst c35
        have H1 : (if t589 = 0 then (if t593 = 0 then (if (t601.length : Int) = 0 then (if (t578.length : Int) > 0 then (if 0 ≤ (wrap64 ((t578.length : Int) - 1)) then (if (wrap64 ((t578.length : Int) - 1)) < (t578.length : Int) then (some ((rd t578 (wrap64 ((t578.length : Int) - 1))) == 1)) else (none)) else (none)) else (none)) else (none)) else (none)) else (none)) = some r := by rw [if_pos rfl] at H; exact H
        clear H
        have H := H1
        clear H1
        by_cases c36 : t589 = 0
        ·rw [if_pos c36] at H
         have c36b0 : (t589 == 0) = true := beq_iff_eq.mpr c36
         have c36b1 : (t589 != 0) = false := bne_eq_false_iff_eq.mpr c36
         clear c36
         by_cases c37 : t593 = 0
         ·rw [if_pos c37] at H
          have c37b0 : (t593 == 0) = true := beq_iff_eq.mpr c37
          have c37b1 : (t593 != 0) = false := bne_eq_false_iff_eq.mpr c37
          clear c37
          by_cases c38 : (t601.length : Int) = 0
          ·rw [if_pos c38] at H
           have c38b0 : ((t601.length : Int) == 0) = true := beq_iff_eq.mpr c38
           have c38b1 : ((t601.length : Int) != 0) = false := bne_eq_false_iff_eq.mpr c38
           clear c38
           by_cases c39 : (t578.length : Int) > 0
           ·rw [if_pos c39] at H
            have c39b0 : decide (0 < (t578.length : Int)) = true := decide_eq_true c39
            have c39b1 : decide (0 < t578.length) = true := decide_eq_true (by omega)
            clear c39
            obtain ⟨ji40, hji40⟩ : ∃ j_ : Int, (wrap64 ((t578.length : Int) - 1)) = j_ := ⟨_, rfl⟩
            replace H : (if 0 ≤ (ji40) then (if (ji40) < (t578.length : Int) then (some ((rd t578 (ji40)) == 1)) else (none)) else (none)) = some r := by first | (rw [hji40] at H; exact H) | (simp only [hji40] at H ⊢; exact H)
            (try rw [hji40] at A30)
            (try rw [hji40] at A31)
            (try rw [hji40] at A32)
            (try rw [hji40] at A33)
            (try rw [hji40] at A34)
            have hji40w : (IntKind.i64.wrap ((t578.length : Int) - 1)) = ji40 := (i64_w _).trans hji40
            by_cases c41 : 0 ≤ (ji40)
            ·rw [if_pos c41] at H
             have c41b0 : decide (0 ≤ (ji40)) = true := decide_eq_true c41
             clear c41
             by_cases c42 : (ji40) < (t578.length : Int)
             ·rw [if_pos c42] at H
              have c42b0 : decide ((ji40) < (t578.length : Int)) = true := decide_eq_true c42
              clear c42
              obtain rfl := Option.some.inj H
              obtain ⟨Ao43, co43, eo43⟩ := Kd.R_slice HO_9.out
              subst eo43
              obtain ⟨Ao44, co44, eo44⟩ := Kd.R_slice HO_10.out
              subst eo44
              go_wp2_with (first | ((with_reducible refine gate_callee (f := 18) rfl ?_); refine goesM_ (some 86) Try.func18 #[.int .u8 t573, .slice Ao43 t575.length co43, .slice Ao44 t578.length co44] ?_; (with_reducible refine (cr3_Mul.calls kj19 t573 _ _ t575 _ _ t578 t588 t589 _ ?side1 ?side2 ?side3 ?side4 A30.out).mono ?_); (case side1 => repeat (first | exact (Kd.R_reads' HO_9.out).2.2 | (with_reducible refine Kd.C_alloc ?_ _) | (with_reducible refine Kd.C_drewN ?_ _) | (with_reducible refine Kd.C_drew ?_))); (case side2 => exact (Kd.R_reads' HO_9.out).2.1); (case side3 => repeat (first | exact (Kd.R_reads' HO_10.out).2.2 | (with_reducible refine Kd.C_alloc ?_ _) | (with_reducible refine Kd.C_drewN ?_ _) | (with_reducible refine Kd.C_drew ?_))); (case side4 => exact (Kd.R_reads' HO_10.out).2.1); rintro e w45 ⟨v590, rfl, ho0, hb⟩; refine ⟨_, rfl, ?_⟩; have n0_ := A_ (Kd.R_below (nR_ HO_9) hb); have n1_ := A_ (Kd.R_below (nR_ HO_10) hb); have n2_ := A_ (Kd.R_lower (Kd.R_mono (ok' := fun _ => True) ho0 (fun _ _ => trivial)) (below_size hs_)); have n3_ := A_ (blk_below (g := gb572) (o := .cells #[.slice A1_0 l1_0.length c1_0, .slice A1_1 l1_1.length c1_1] 35 (0, 0)) (nb_ BK572) hb); have n4_ := A_ (below_step hs_ hb); clear HO_9 HO_10 BK572 HB; have HO_9 := n0_; have HO_10 := n1_; have HO591 := n2_; have BK572 := n3_; have HB := n4_; clear n0_ n1_ n2_ n3_ n4_; (try clear hb); (try clear ho0); have hcz46_0 : w45.cell? ⟨gb572, 0, none⟩ = some (.slice A1_0 l1_0.length c1_0) := (blk_cell BK572.out 0).trans rfl; have hcz46_1 : w45.cell? ⟨gb572, 1, none⟩ = some (.slice A1_1 l1_1.length c1_1) := (blk_cell BK572.out 1).trans rfl; have hfz46_0 := blk_frozen BK572.out 0; have hfz46_1 := blk_frozen BK572.out 1) | ((with_reducible refine gate_callee (f := 18) rfl ?_); refine goesM_ (some 94) Try.func18 #[.int .u8 t573, .slice A1_0 l1_0.length c1_0, .slice Ao44 t578.length co44] ?_; (with_reducible refine (cr3_Mul.calls kj19 t573 _ _ l1_0 _ _ t578 t592 t593 _ ?side1 ?side2 ?side3 ?side4 A31.out).mono ?_); (case side1 => repeat (first | exact (Kd.C_below HR1_0.out HB.out) | (with_reducible refine Kd.C_alloc ?_ _) | (with_reducible refine Kd.C_drewN ?_ _) | (with_reducible refine Kd.C_drew ?_))); (case side2 => exact HC1_0.out); (case side3 => repeat (first | exact (Kd.R_reads' HO_10.out).2.2 | (with_reducible refine Kd.C_alloc ?_ _) | (with_reducible refine Kd.C_drewN ?_ _) | (with_reducible refine Kd.C_drew ?_))); (case side4 => exact (Kd.R_reads' HO_10.out).2.1); rintro e w47 ⟨v594, rfl, ho0, hb⟩; refine ⟨_, rfl, ?_⟩; have n0_ := A_ (Kd.R_below (nR_ HO_9) hb); have n1_ := A_ (Kd.R_below (nR_ HO_10) hb); have n2_ := A_ (Kd.R_below (nR_ HO591) hb); have n3_ := A_ (Kd.R_lower (Kd.R_mono (ok' := fun _ => True) ho0 (fun _ _ => trivial)) (below_size hs_)); have n4_ := A_ (blk_below (g := gb572) (o := .cells #[.slice A1_0 l1_0.length c1_0, .slice A1_1 l1_1.length c1_1] 35 (0, 0)) (nb_ BK572) hb); have n5_ := A_ (below_step hs_ hb); clear HO_9 HO_10 HO591 BK572 HB; have HO_9 := n0_; have HO_10 := n1_; have HO591 := n2_; have HO595 := n3_; have BK572 := n4_; have HB := n5_; clear n0_ n1_ n2_ n3_ n4_ n5_; (try clear hb); (try clear ho0); obtain ⟨Ao48, co48, eo48⟩ := Kd.R_slice HO591.out; subst eo48; obtain ⟨Ao49, co49, eo49⟩ := Kd.R_slice HO595.out; subst eo49) | ((with_reducible refine gate_callee (f := 26) rfl ?_); refine goesM_ (some 101) Try.func26 #[.int .u8 t573, .slice Ao48 t588.length co48, .slice Ao49 t592.length co49] ?_; (with_reducible refine (cr3_Sub.calls kj19 t573 _ _ t588 _ _ t592 t596 t597 _ ?side1 ?side2 ?side3 ?side4 A32.out).mono ?_); (case side1 => repeat (first | exact (Kd.R_reads' HO591.out).2.2 | (with_reducible refine Kd.C_alloc ?_ _) | (with_reducible refine Kd.C_drewN ?_ _) | (with_reducible refine Kd.C_drew ?_))); (case side2 => exact (Kd.R_reads' HO591.out).2.1); (case side3 => repeat (first | exact (Kd.R_reads' HO595.out).2.2 | (with_reducible refine Kd.C_alloc ?_ _) | (with_reducible refine Kd.C_drewN ?_ _) | (with_reducible refine Kd.C_drew ?_))); (case side4 => exact (Kd.R_reads' HO595.out).2.1); rintro e w50 ⟨v598, rfl, ho0, hb⟩; refine ⟨_, rfl, ?_⟩; have n0_ := A_ (Kd.R_below (nR_ HO_9) hb); have n1_ := A_ (Kd.R_below (nR_ HO_10) hb); have n2_ := A_ (Kd.R_below (nR_ HO591) hb); have n3_ := A_ (Kd.R_below (nR_ HO595) hb); have n4_ := A_ (Kd.R_lower (Kd.R_mono (ok' := fun _ => True) ho0 (fun _ _ => trivial)) (below_size hs_)); have n5_ := A_ (blk_below (g := gb572) (o := .cells #[.slice A1_0 l1_0.length c1_0, .slice A1_1 l1_1.length c1_1] 35 (0, 0)) (nb_ BK572) hb); have n6_ := A_ (below_step hs_ hb); clear HO_9 HO_10 HO591 HO595 BK572 HB; have HO_9 := n0_; have HO_10 := n1_; have HO591 := n2_; have HO595 := n3_; have HO599 := n4_; have BK572 := n5_; have HB := n6_; clear n0_ n1_ n2_ n3_ n4_ n5_ n6_; (try clear hb); (try clear ho0); have hcz51_0 : w50.cell? ⟨gb572, 0, none⟩ = some (.slice A1_0 l1_0.length c1_0) := (blk_cell BK572.out 0).trans rfl; have hcz51_1 : w50.cell? ⟨gb572, 1, none⟩ = some (.slice A1_1 l1_1.length c1_1) := (blk_cell BK572.out 1).trans rfl; have hfz51_0 := blk_frozen BK572.out 0; have hfz51_1 := blk_frozen BK572.out 1; obtain ⟨Ao52, co52, eo52⟩ := Kd.R_slice HO599.out; subst eo52) | ((with_reducible refine gate_callee (f := 19) rfl ?_); refine goesM_ (some 109) Try.func19 #[.int .u8 t573, .slice Ao52 t596.length co52, .slice A1_1 l1_1.length c1_1] ?_; (with_reducible refine (cr3_DivMod.calls kj19 t573 _ _ t596 _ _ l1_1 t600 t601 t602 _ ?side1 ?side2 ?side3 ?side4 A33.out).mono ?_); (case side1 => repeat (first | exact (Kd.R_reads' HO599.out).2.2 | (with_reducible refine Kd.C_alloc ?_ _) | (with_reducible refine Kd.C_drewN ?_ _) | (with_reducible refine Kd.C_drew ?_))); (case side2 => exact (Kd.R_reads' HO599.out).2.1); (case side3 => repeat (first | exact (Kd.C_below HR1_1.out HB.out) | (with_reducible refine Kd.C_alloc ?_ _) | (with_reducible refine Kd.C_drewN ?_ _) | (with_reducible refine Kd.C_drew ?_))); (case side4 => exact HC1_1.out); rintro e w53 ⟨v603, v605, rfl, ho0, ho1, hb⟩; refine ⟨_, rfl, ?_⟩; have n0_ := A_ (Kd.R_below (nR_ HO_9) hb); have n1_ := A_ (Kd.R_below (nR_ HO_10) hb); have n2_ := A_ (Kd.R_below (nR_ HO591) hb); have n3_ := A_ (Kd.R_below (nR_ HO595) hb); have n4_ := A_ (Kd.R_below (nR_ HO599) hb); have n5_ := A_ (Kd.R_lower (Kd.R_mono (ok' := fun _ => True) ho0 (fun _ _ => trivial)) (below_size hs_)); have n6_ := A_ (Kd.R_lower (Kd.R_mono (ok' := fun _ => True) ho1 (fun _ _ => trivial)) (below_size hs_)); have n7_ := A_ (blk_below (g := gb572) (o := .cells #[.slice A1_0 l1_0.length c1_0, .slice A1_1 l1_1.length c1_1] 35 (0, 0)) (nb_ BK572) hb); have n8_ := A_ (below_step hs_ hb); clear HO_9 HO_10 HO591 HO595 HO599 BK572 HB; have HO_9 := n0_; have HO_10 := n1_; have HO591 := n2_; have HO595 := n3_; have HO599 := n4_; have HO604 := n5_; have HO606 := n6_; have BK572 := n7_; have HB := n8_; clear n0_ n1_ n2_ n3_ n4_ n5_ n6_ n7_ n8_; (try clear hb); (try clear ho0); (try clear ho1)) | ((with_reducible refine gate_callee (f := 17) rfl ?_); refine goesM_ (some 113) Try.func17 #[] ?_; (with_reducible refine (conclavelaw05_anchored.calls kj19  true _ A34.out).mono ?_); rintro e w54 ⟨rfl, hb⟩; refine ⟨_, rfl, ?_⟩; have n0_ := A_ (Kd.R_below (nR_ HO_9) hb); have n1_ := A_ (Kd.R_below (nR_ HO_10) hb); have n2_ := A_ (Kd.R_below (nR_ HO591) hb); have n3_ := A_ (Kd.R_below (nR_ HO595) hb); have n4_ := A_ (Kd.R_below (nR_ HO599) hb); have n5_ := A_ (Kd.R_below (nR_ HO604) hb); have n6_ := A_ (Kd.R_below (nR_ HO606) hb); have n7_ := A_ (blk_below (g := gb572) (o := .cells #[.slice A1_0 l1_0.length c1_0, .slice A1_1 l1_1.length c1_1] 35 (0, 0)) (nb_ BK572) hb); have n8_ := A_ (below_step hs_ hb); clear HO_9 HO_10 HO591 HO595 HO599 HO604 HO606 BK572 HB; have HO_9 := n0_; have HO_10 := n1_; have HO591 := n2_; have HO595 := n3_; have HO599 := n4_; have HO604 := n5_; have HO606 := n6_; have BK572 := n7_; have HB := n8_; clear n0_ n1_ n2_ n3_ n4_ n5_ n6_ n7_ n8_; (try clear hb); obtain ⟨Ao55, co55, eo55⟩ := Kd.R_slice HO606.out; subst eo55; have p608 : 0 ≤ ((ji40) : Int) := of_decide_eq_true (by first | (with_reducible assumption) | assumption); have q608 : (ji40) < (t578.length : Int) := of_decide_eq_true (by first | (with_reducible assumption) | assumption); obtain ⟨ad608, e608, hx608_0⟩ := Kd.at_int (Kd.R_reads' HO_10.out).2.2 (ji40) p608 q608; cases e608; replace p608 := eq_true p608; replace q608 := eq_true q608))
              go_ret
              exact ⟨by first | rfl | (simp [errW_none, errW_some] <;> rfl) | (simp only [← hji40]; first | rfl | (simp [errW_none, errW_some] <;> rfl)) | (simp [*, errW_none, errW_some] <;> rfl), hs_⟩
             ·rw [if_neg c42] at H
              exact absurd H (by simp)
            ·rw [if_neg c41] at H
             exact absurd H (by simp)
           ·rw [if_neg c39] at H
            exact absurd H (by simp)
          ·rw [if_neg c38] at H
           exact absurd H (by simp)
         ·rw [if_neg c37] at H
          exact absurd H (by simp)
        ·rw [if_neg c36] at H
         exact absurd H (by simp)
       ·replace c35 := Bool.eq_false_iff.mpr c35
        subst c35
        have H1 : (none) = some r := by rw [if_neg (show ¬ (false = true) by decide)] at H; exact H
        clear H
        have H := H1
        clear H1
        exact absurd H (by simp)
/-- THE ONE PURE STATEMENT of conclavelaw05_EuclidParts: yours. -/
def conclavelaw05_EuclidParts.Pure : Prop := ∀ (a0 : Int) (l1_0 : List Int) (l1_1 : List Int) (a2 : Int), (Lit.int .u8 a0).wf = true → l1_0.length ≤ maxLen → l1_0.length * 8 ≤ 140737488351232 → (∀ x ∈ l1_0, (Lit.int .u64 x).wf = true) → l1_1.length ≤ maxLen → l1_1.length * 8 ≤ 140737488351232 → (∀ x ∈ l1_1, (Lit.int .u64 x).wf = true) → (Lit.int .i64 a2).wf = true → ∃ k, conclavelaw05_EuclidParts.f k a0 l1_0 l1_1 a2 = some true
theorem conclavelaw05_EuclidParts.walk (P : conclavelaw05_EuclidParts.Pure) (a0 : Int) (a1_0 : Option Addr) (len1_0 cap1_0 : Nat) (z1_0 : List Int) (a1_1 : Option Addr) (len1_1 cap1_1 : Nat) (z1_1 : List Int) (a2 : Int) (w : World) (w0 : (Lit.int .u8 a0).wf = true) (w1_0 : (a1_0 = none ∧ len1_0 = 0 ∧ cap1_0 = 0 ∧ z1_0 = []) ∨ ∃ x, a1_0 = some x ∧ len1_0 ≤ cap1_0 ∧ cap1_0 ≤ maxLen ∧ z1_0.length = cap1_0 ∧ (∀ i, i < z1_0.length → w.cell? (x.add i) = some (.int .u64 (z1_0.getD i 0))) ∧ ∀ n ∈ z1_0, (Lit.int .u64 n).wf = true) (y1_0 : len1_0 * 8 ≤ 140737488351232) (w1_1 : (a1_1 = none ∧ len1_1 = 0 ∧ cap1_1 = 0 ∧ z1_1 = []) ∨ ∃ x, a1_1 = some x ∧ len1_1 ≤ cap1_1 ∧ cap1_1 ≤ maxLen ∧ z1_1.length = cap1_1 ∧ (∀ i, i < z1_1.length → w.cell? (x.add i) = some (.int .u64 (z1_1.getD i 0))) ∧ ∀ n ∈ z1_1, (Lit.int .u64 n).wf = true) (y1_1 : len1_1 * 8 ≤ 140737488351232) (w2 : (Lit.int .i64 a2).wf = true) :
  Calls Try.prog 9 #[.int .u8 a0, .agg #[.slice a1_0 len1_0 cap1_0, .slice a1_1 len1_1 cap1_1], .int .i64 a2] w fun e w' => e = .returned (.bool true) ∧ Below w.heap.size w w' := by
 obtain ⟨l1_0, rfl, hr1_0, hm1_0, hw1_0, hc1_0⟩ := ReadsInt.ofRowC w1_0
 obtain ⟨l1_1, rfl, hr1_1, hm1_1, hw1_1, hc1_1⟩ := ReadsInt.ofRowC w1_1
 obtain ⟨k, h⟩ := P a0 l1_0 l1_1 a2 w0 hm1_0 y1_0 hw1_0 hm1_1 y1_1 hw1_1 w2
 refine (conclavelaw05_EuclidParts.calls k a0 _ _ l1_0 _ _ l1_1 a2 true w (Kd.C_of_reads (d := (0 : Int)) (h1 := fun _ => rfl) hr1_0) hc1_0 (Kd.C_of_reads (d := (0 : Int)) (h1 := fun _ => rfl) hr1_1) hc1_1 h).mono ?_
 rintro e w' ⟨rfl, hd⟩
 exact ⟨rfl, hd⟩
end Go.Proofs.Yteofgcmgncaojaa.PEuclidParts
