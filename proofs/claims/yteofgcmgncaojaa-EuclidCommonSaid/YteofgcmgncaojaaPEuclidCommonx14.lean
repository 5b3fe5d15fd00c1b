/- The Go functions as Lean functions, each with the proof that its call comes to just that; written by a program of this session, by the words of the print. -/
import Derived.Test.YteofgcmgncaojaaPEuclidCommonx0
import Derived.Test.YteofgcmgncaojaaPEuclidCommonx5
import Derived.Test.YteofgcmgncaojaaPEuclidCommonx6
import Derived.Test.YteofgcmgncaojaaPEuclidCommonx10
import Derived.Test.YteofgcmgncaojaaPEuclidCommonx11
import Derived.Test.YteofgcmgncaojaaPEuclidCommonx13
namespace Go.Proofs.Yteofgcmgncaojaa.PEuclidCommon
open Go.RowKit Go.Proofs.YteofgcmgncaojaaW.PrintWords Go.Proofs.YteofgcmgncaojaaW.PrintLast Go.Proofs.YteofgcmgncaojaaW.PrintMore
attribute [local go_sem] max2_int min2_int max_two min_two max_three min_three max_four min_four   -- for this text's walks alone
set_option linter.unusedVariables false
set_option linter.unusedSimpArgs false
/-! ### conclavelaw05_EuclidCommon: function 4 -/
mutual
def conclavelaw05_EuclidCommon.j0 : Nat → List Int → Int → Bool → List Int → List Int → Option (Bool)
 | 0, _, _, _, _, _ => none
 | k + 1, x2, x7, x60, x534000, x534001 => if x60 = true then ((euclid_GCD.f k 0 ([] : List Int) ([] : List Int)).bind fun bt537 => ((conclavelaw05_anchored.f k).bind fun t541 => (if t541 = true then (some (bt537.2 == 2)) else (none)))) else ((cr3_Mul.f k x7 x534000 x2).bind fun bt542 => ((cr3_Mul.f k x7 x534001 x2).bind fun bt546 => ((euclid_GCD.f k x7 bt542.1 bt546.1).bind fun bt550 => (if bt550.2 = 0 then (if (bt550.1.length : Int) > 0 then (if 0 ≤ (wrap64 ((bt550.1.length : Int) - 1)) then (if (wrap64 ((bt550.1.length : Int) - 1)) < (bt550.1.length : Int) then (conclavelaw05_EuclidCommon.j1 k x2 x7 bt542.1 bt546.1 bt550.1 ((rd bt550.1 (wrap64 ((bt550.1.length : Int) - 1))) != 1)) else (none)) else (none)) else (conclavelaw05_EuclidCommon.j1 k x2 x7 bt542.1 bt546.1 bt550.1 false)) else (conclavelaw05_EuclidCommon.j1 k x2 x7 bt542.1 bt546.1 bt550.1 true)))))
def conclavelaw05_EuclidCommon.j1 : Nat → List Int → Int → List Int → List Int → List Int → Bool → Option (Bool)
 | 0, _, _, _, _, _, _ => none
 | k + 1, x2, x7, x11, x13, x15, x108 => if x108 = true then (none) else (if (x15.length : Int) = 0 then ((conclavelaw05_anchored.f k).bind fun t555 => (if t555 = true then (if (x11.length : Int) = 0 then (some ((x13.length : Int) == 0)) else (none)) else (none))) else ((cr3_DivMod.f k x7 x11 x15).bind fun bt556 => ((cr3_DivMod.f k x7 x13 x15).bind fun bt563 => ((cr3_Trim.f k x2).bind fun t570 => (if (t570.length : Int) = 0 then ((conclavelaw05_anchored.f k).bind fun t573 => (if t573 = true then (if (bt556.2.1.length : Int) = 0 then (some ((bt563.2.1.length : Int) == 0)) else (none)) else (none))) else ((cr3_DivMod.f k x7 x15 x2).bind fun bt574 => ((conclavelaw05_anchored.f k).bind fun t581 => (if t581 = true then (if (bt556.2.1.length : Int) = 0 then (if (bt563.2.1.length : Int) = 0 then (some ((bt574.2.1.length : Int) == 0)) else (none)) else (none)) else (none)))))))))
end
def conclavelaw05_EuclidCommon.f (k : Nat) (a0 : Int) (l1_0 : List Int) (l1_1 : List Int) (l2 : List Int) : Option (Bool) := (conclavelaw05_usual.f k a0 l1_0 l1_1).bind fun bt534 => (if bt534.2 = true then ((cr3_Bad.f k bt534.1 l2 ([] : List Int)).bind fun t536 => (if t536 = 0 then (if (wrap64 ((l1_0.length : Int) + (l2.length : Int))) > 2048 then (conclavelaw05_EuclidCommon.j0 k l2 bt534.1 true l1_0 l1_1) else (conclavelaw05_EuclidCommon.j0 k l2 bt534.1 (decide ((wrap64 ((l1_1.length : Int) + (l2.length : Int))) > 2048)) l1_0 l1_1)) else (conclavelaw05_EuclidCommon.j0 k l2 bt534.1 true l1_0 l1_1))) else (conclavelaw05_EuclidCommon.j0 k l2 bt534.1 true l1_0 l1_1))
theorem conclavelaw05_EuclidCommon.mono_l : ∀ k, (∀ y0 y1 y2 y3 y4, LeO (conclavelaw05_EuclidCommon.j0 k y0 y1 y2 y3 y4) (conclavelaw05_EuclidCommon.j0 (k + 1) y0 y1 y2 y3 y4)) ∧ (∀ y0 y1 y2 y3 y4 y5, LeO (conclavelaw05_EuclidCommon.j1 k y0 y1 y2 y3 y4 y5) (conclavelaw05_EuclidCommon.j1 (k + 1) y0 y1 y2 y3 y4 y5))
 | 0 => ⟨fun _ _ _ _ _ r h => by simp [conclavelaw05_EuclidCommon.j0] at h, fun _ _ _ _ _ _ r h => by simp [conclavelaw05_EuclidCommon.j1] at h⟩
 | k + 1 => by
  obtain ⟨ih0, ih1⟩ := conclavelaw05_EuclidCommon.mono_l k
  refine ⟨?_, ?_⟩
  ·intro y0 y1 y2 y3 y4
   unfold conclavelaw05_EuclidCommon.j0
   repeat' first
   | (with_reducible exact ih0 _ _ _ _ _)
   | (with_reducible exact ih1 _ _ _ _ _ _)
   | (with_reducible exact conclavelaw05_anchored.mono _)
   | (with_reducible exact conclavelaw05_usual.mono _ _ _ _)
   | (with_reducible exact cr3_Bad.mono _ _ _ _)
   | (with_reducible exact cr3_DivMod.mono _ _ _ _)
   | (with_reducible exact cr3_Mul.mono _ _ _ _)
   | (with_reducible exact cr3_Trim.mono _ _)
   | (with_reducible exact euclid_GCD.mono _ _ _ _)
   | (with_reducible exact LeO.refl _)
   | (with_reducible exact LeO.none _)
   | (with_reducible refine LeO.ite ?_ ?_)
   | (with_reducible refine LeO.bind ?_ (fun _ => ?_))
   | exact ih0 _ _ _ _ _
   | exact ih1 _ _ _ _ _ _
   | exact conclavelaw05_anchored.mono _
   | exact conclavelaw05_usual.mono _ _ _ _
   | exact cr3_Bad.mono _ _ _ _
   | exact cr3_DivMod.mono _ _ _ _
   | exact cr3_Mul.mono _ _ _ _
   | exact cr3_Trim.mono _ _
   | exact euclid_GCD.mono _ _ _ _
   | exact LeO.none _
   | refine LeO.ite ?_ ?_
   | refine LeO.bind ?_ (fun _ => ?_)
  ·intro y0 y1 y2 y3 y4 y5
   unfold conclavelaw05_EuclidCommon.j1
   repeat' first
   | (with_reducible exact ih0 _ _ _ _ _)
   | (with_reducible exact ih1 _ _ _ _ _ _)
   | (with_reducible exact conclavelaw05_anchored.mono _)
   | (with_reducible exact conclavelaw05_usual.mono _ _ _ _)
   | (with_reducible exact cr3_Bad.mono _ _ _ _)
   | (with_reducible exact cr3_DivMod.mono _ _ _ _)
   | (with_reducible exact cr3_Mul.mono _ _ _ _)
   | (with_reducible exact cr3_Trim.mono _ _)
   | (with_reducible exact euclid_GCD.mono _ _ _ _)
   | (with_reducible exact LeO.refl _)
   | (with_reducible exact LeO.none _)
   | (with_reducible refine LeO.ite ?_ ?_)
   | (with_reducible refine LeO.bind ?_ (fun _ => ?_))
   | exact ih0 _ _ _ _ _
   | exact ih1 _ _ _ _ _ _
   | exact conclavelaw05_anchored.mono _
   | exact conclavelaw05_usual.mono _ _ _ _
   | exact cr3_Bad.mono _ _ _ _
   | exact cr3_DivMod.mono _ _ _ _
   | exact cr3_Mul.mono _ _ _ _
   | exact cr3_Trim.mono _ _
   | exact euclid_GCD.mono _ _ _ _
   | exact LeO.none _
   | refine LeO.ite ?_ ?_
   | refine LeO.bind ?_ (fun _ => ?_)
theorem conclavelaw05_EuclidCommon.mono : ∀ a0 a1 a2 a3 k, LeO (conclavelaw05_EuclidCommon.f k a0 a1 a2 a3) (conclavelaw05_EuclidCommon.f (k + 1) a0 a1 a2 a3) := by
 intro a0 a1 a2 a3 k
 obtain ⟨ih0, ih1⟩ := conclavelaw05_EuclidCommon.mono_l k
 unfold conclavelaw05_EuclidCommon.f
 repeat' first
   | (with_reducible exact ih0 _ _ _ _ _)
   | (with_reducible exact ih1 _ _ _ _ _ _)
   | (with_reducible exact conclavelaw05_anchored.mono _)
   | (with_reducible exact conclavelaw05_usual.mono _ _ _ _)
   | (with_reducible exact cr3_Bad.mono _ _ _ _)
   | (with_reducible exact cr3_DivMod.mono _ _ _ _)
   | (with_reducible exact cr3_Mul.mono _ _ _ _)
   | (with_reducible exact cr3_Trim.mono _ _)
   | (with_reducible exact euclid_GCD.mono _ _ _ _)
   | (with_reducible exact LeO.refl _)
   | (with_reducible exact LeO.none _)
   | (with_reducible refine LeO.ite ?_ ?_)
   | (with_reducible refine LeO.bind ?_ (fun _ => ?_))
   | exact ih0 _ _ _ _ _
   | exact ih1 _ _ _ _ _ _
   | exact conclavelaw05_anchored.mono _
   | exact conclavelaw05_usual.mono _ _ _ _
   | exact cr3_Bad.mono _ _ _ _
   | exact cr3_DivMod.mono _ _ _ _
   | exact cr3_Mul.mono _ _ _ _
   | exact cr3_Trim.mono _ _
   | exact euclid_GCD.mono _ _ _ _
   | exact LeO.none _
   | refine LeO.ite ?_ ?_
   | refine LeO.bind ?_ (fun _ => ?_)
set_option maxHeartbeats 8000000 in
set_option maxRecDepth 100000 in
theorem conclavelaw05_EuclidCommon.calls (k : Nat) (a0 : Int) (A1_0 : Option Addr) (c1_0 : Nat) (l1_0 : List Int) (A1_1 : Option Addr) (c1_1 : Nat) (l1_1 : List Int) (A2 : Option Addr) (c2 : Nat) (l2 : List Int) (r : Bool) (w : World) (hr1_0 : Kd.C (Kd.int .u64) w A1_0 l1_0.length l1_0) (hc1_0 : l1_0.length ≤ c1_0) (hr1_1 : Kd.C (Kd.int .u64) w A1_1 l1_1.length l1_1) (hc1_1 : l1_1.length ≤ c1_1) (hr2 : Kd.C (Kd.int .u64) w A2 l2.length l2) (hc2 : l2.length ≤ c2) (h : conclavelaw05_EuclidCommon.f k a0 l1_0 l1_1 l2 = some r) :
  Calls Try.prog 4 #[.int .u8 a0, .agg #[.slice A1_0 l1_0.length c1_0, .slice A1_1 l1_1.length c1_1], .slice A2 l2.length c2] w fun e w' => e = .returned (.bool r) ∧ Below w.heap.size w w' := by
 have hu35 := Try.underlying35
 have HR1_0 := Aside0.mk hr1_0
 have HC1_0 := Aside0.mk hc1_0
 clear hr1_0 hc1_0
 have HR1_1 := Aside0.mk hr1_1
 have HC1_1 := Aside0.mk hc1_1
 clear hr1_1 hc1_1
 have HR2 := Aside0.mk hr2
 have HC2 := Aside0.mk hc2
 clear hr2 hc2
 have HB := A_ (Below.refl w.heap.size w)
 have H : ((conclavelaw05_usual.f k a0 l1_0 l1_1).bind fun bt534 => (if bt534.2 = true then ((cr3_Bad.f k bt534.1 l2 ([] : List Int)).bind fun t536 => (if t536 = 0 then (if (wrap64 ((l1_0.length : Int) + (l2.length : Int))) > 2048 then (conclavelaw05_EuclidCommon.j0 k l2 bt534.1 true l1_0 l1_1) else (conclavelaw05_EuclidCommon.j0 k l2 bt534.1 (decide ((wrap64 ((l1_1.length : Int) + (l2.length : Int))) > 2048)) l1_0 l1_1)) else (conclavelaw05_EuclidCommon.j0 k l2 bt534.1 true l1_0 l1_1))) else (conclavelaw05_EuclidCommon.j0 k l2 bt534.1 true l1_0 l1_1))) = some r := h
 clear h
 replace H := Option.bind_eq_some_iff.mp H
 obtain ⟨⟨t534, t535⟩, A40, H⟩ := H
 (try dsimp only at H)
 have A4 := Aside0.mk A40
 clear A40
 have HC5 := Aside0.mk H
 clear H
 go_enter Try.func4, Try.ntmps4
 go_upto_region 2 with (first | ((with_reducible refine gate_dst (N := 4) rfl ?_); (try (refine gate_guard (by rfl) ?_; dsimp only)); refine box_event ?hg (N := 4) ?hd (cs := #[.slice A1_0 l1_0.length c1_0, .slice A1_1 l1_1.length c1_1]) (t := 35) ?hr ?_; (case hd => rfl); (case hg => rfl); (case hr => first | (go_simp; done) | (go_simp; rfl)); intro gb533 hg w6 hbox hb; have n0_ := A_ (below_step hb_ hb); have n1_ := A_ (hbox); have n2_ := A_ ((by rw [hg]; exact (below_size hb_) : w.heap.size ≤ gb533)); have n3_ := A_ ((by rw [hg]; exact (below_size hb_) : w.heap.size ≤ gb533)); clear HB; have HB := n0_; have BK533 := n1_; have GW533 := n2_; have GE533 := n3_; clear n0_ n1_ n2_ n3_; clear hb hbox hg; have hcz7_0 : w6.cell? ⟨gb533, 0, none⟩ = some (.slice A1_0 l1_0.length c1_0) := (blk_cell BK533.out 0).trans rfl; have hcz7_1 : w6.cell? ⟨gb533, 1, none⟩ = some (.slice A1_1 l1_1.length c1_1) := (blk_cell BK533.out 1).trans rfl; have hfz7_0 := blk_frozen BK533.out 0; have hfz7_1 := blk_frozen BK533.out 1) | ((with_reducible refine gate_callee (f := 15) rfl ?_); refine goesM_ (some 32) Try.func15 #[.int .u8 a0, .slice A1_0 l1_0.length c1_0, .slice A1_1 l1_1.length c1_1] ?_; (with_reducible refine (conclavelaw05_usual.calls k a0 _ _ l1_0 _ _ l1_1 t534 t535 _ ?side1 ?side2 ?side3 ?side4 A4.out).mono ?_); (case side1 => repeat (first | exact (Kd.C_below HR1_0.out HB.out) | (with_reducible refine Kd.C_alloc ?_ _) | (with_reducible refine Kd.C_drewN ?_ _) | (with_reducible refine Kd.C_drew ?_))); (case side2 => exact HC1_0.out); (case side3 => repeat (first | exact (Kd.C_below HR1_1.out HB.out) | (with_reducible refine Kd.C_alloc ?_ _) | (with_reducible refine Kd.C_drewN ?_ _) | (with_reducible refine Kd.C_drew ?_))); (case side4 => exact HC1_1.out); rintro e w' ⟨rfl, ⟨nd, rfl⟩⟩; refine ⟨_, rfl, ?_⟩))
 (try simp only [Act.put, List.setIfInBounds_toArray, List.set_cons_zero, List.set_cons_succ])
 go_cut [60] (fun v60 wc => ∃ (kq : Nat) (x60_4 : Bool), v60 = .bool x60_4 ∧ Aside0 (conclavelaw05_EuclidCommon.j0 kq l2 t534 x60_4 l1_0 l1_1 = some r) ∧ Aside0 (kq ≤ k) ∧ Aside0 (wc.heap[gb533]? = some (.cells #[(.slice A1_0 l1_0.length c1_0), (.slice A1_1 l1_1.length c1_1)] 35 (0, 0))) ∧ Aside0 (Below w.heap.size w wc))
 case first =>
  have H := HC5.out
  clear HC5
  by_cases c8 : t535 = true
  ·subst c8
   have H1 : ((cr3_Bad.f k t534 l2 ([] : List Int)).bind fun t536 => (if t536 = 0 then (if (wrap64 ((l1_0.length : Int) + (l2.length : Int))) > 2048 then (conclavelaw05_EuclidCommon.j0 k l2 t534 true l1_0 l1_1) else (conclavelaw05_EuclidCommon.j0 k l2 t534 (decide ((wrap64 ((l1_1.length : Int) + (l2.length : Int))) > 2048)) l1_0 l1_1)) else (conclavelaw05_EuclidCommon.j0 k l2 t534 true l1_0 l1_1))) = some r := by rw [if_pos rfl] at H; exact H
   clear H
   have H := H1
   clear H1
   replace H := Option.bind_eq_some_iff.mp H
   obtain ⟨t536, A90, H⟩ := H
   (try dsimp only at H)
   have A9 := Aside0.mk A90
   clear A90
   by_cases c10 : t536 = 0
   ·rw [if_pos c10] at H
    have c10b0 : (t536 == 0) = true := beq_iff_eq.mpr c10
    have c10b1 : (t536 != 0) = false := bne_eq_false_iff_eq.mpr c10
    clear c10
    (first | rw [c10b0] | rw [c10b1] | (simp only [i64_w, i32_w]; first | rw [c10b0] | rw [c10b1]) | skip)
    by_cases c11 : (wrap64 ((l1_0.length : Int) + (l2.length : Int))) > 2048
    ·rw [if_pos c11] at H
     have c11b0 : decide (2048 < (wrap64 ((l1_0.length : Int) + (l2.length : Int)))) = true := decide_eq_true c11
     clear c11
     have H' := Aside0.mk H
     clear H
     go_wp2_with (first | (go_at_call 16; (refine (cr3_Bad.calls k t534 _ _ l2 _ _ ([] : List Int) t536 _ ?side1 ?side2 ?side3 ?side4 A9.out).mono ?_); (case side1 => repeat (first | exact (Kd.C_below HR2.out HB.out) | (with_reducible refine Kd.C_alloc ?_ _) | (with_reducible refine Kd.C_drewN ?_ _) | (with_reducible refine Kd.C_drew ?_))); (case side2 => exact HC2.out); (case side3 => exact Kd.C_nil _ _); (case side4 => exact Nat.le_refl _); rintro e w' ⟨rfl, ⟨nd, rfl⟩⟩; have hcz12_0 : w6.cell? ⟨gb533, 0, none⟩ = some (.slice A1_0 l1_0.length c1_0) := (blk_cell BK533.out 0).trans rfl; have hcz12_1 : w6.cell? ⟨gb533, 1, none⟩ = some (.slice A1_1 l1_1.length c1_1) := (blk_cell BK533.out 1).trans rfl; have hfz12_0 := blk_frozen BK533.out 0; have hfz12_1 := blk_frozen BK533.out 1))
     go_meet
     case rel => exact ⟨_, (true), (fs_), H', ⟨fo_⟩, ⟨mb_ BK533.out⟩, ⟨hs_⟩⟩
    ·rw [if_neg c11] at H
     have c11b0 : decide (2048 < (wrap64 ((l1_0.length : Int) + (l2.length : Int)))) = false := decide_eq_false c11
     clear c11
     have H' := Aside0.mk H
     clear H
     go_wp2_with (first | (go_at_call 16; (refine (cr3_Bad.calls k t534 _ _ l2 _ _ ([] : List Int) t536 _ ?side1 ?side2 ?side3 ?side4 A9.out).mono ?_); (case side1 => repeat (first | exact (Kd.C_below HR2.out HB.out) | (with_reducible refine Kd.C_alloc ?_ _) | (with_reducible refine Kd.C_drewN ?_ _) | (with_reducible refine Kd.C_drew ?_))); (case side2 => exact HC2.out); (case side3 => exact Kd.C_nil _ _); (case side4 => exact Nat.le_refl _); rintro e w' ⟨rfl, ⟨nd, rfl⟩⟩; have hcz13_0 : w6.cell? ⟨gb533, 0, none⟩ = some (.slice A1_0 l1_0.length c1_0) := (blk_cell BK533.out 0).trans rfl; have hcz13_1 : w6.cell? ⟨gb533, 1, none⟩ = some (.slice A1_1 l1_1.length c1_1) := (blk_cell BK533.out 1).trans rfl; have hfz13_0 := blk_frozen BK533.out 0; have hfz13_1 := blk_frozen BK533.out 1))
     go_meet
     case rel => exact ⟨_, (decide ((wrap64 ((l1_1.length : Int) + (l2.length : Int))) > 2048)), (fs_), H', ⟨fo_⟩, ⟨mb_ BK533.out⟩, ⟨hs_⟩⟩
   ·rw [if_neg c10] at H
    have c10b0 : (t536 == 0) = false := beq_eq_false_iff_ne.mpr c10
    have c10b1 : (t536 != 0) = true := bne_iff_ne.mpr c10
    (first | rw [c10b0] | rw [c10b1] | (simp only [i64_w, i32_w]; first | rw [c10b0] | rw [c10b1]) | skip)
    have H' := Aside0.mk H
    clear H
    go_wp2_with (first | (go_at_call 16; (refine (cr3_Bad.calls k t534 _ _ l2 _ _ ([] : List Int) t536 _ ?side1 ?side2 ?side3 ?side4 A9.out).mono ?_); (case side1 => repeat (first | exact (Kd.C_below HR2.out HB.out) | (with_reducible refine Kd.C_alloc ?_ _) | (with_reducible refine Kd.C_drewN ?_ _) | (with_reducible refine Kd.C_drew ?_))); (case side2 => exact HC2.out); (case side3 => exact Kd.C_nil _ _); (case side4 => exact Nat.le_refl _); rintro e w' ⟨rfl, ⟨nd, rfl⟩⟩))
    go_meet
    case rel => exact ⟨_, (true), (fs_), H', ⟨fo_⟩, ⟨mb_ BK533.out⟩, ⟨hs_⟩⟩
  ·replace c8 := Bool.eq_false_iff.mpr c8
   subst c8
   have H1 : (conclavelaw05_EuclidCommon.j0 k l2 t534 true l1_0 l1_1) = some r := by rw [if_neg (show ¬ (false = true) by decide)] at H; exact H
   clear H
   have H := H1
   clear H1
   have H' := Aside0.mk H
   clear H
   go_wp2
   go_meet
   case rel => exact ⟨_, (true), (fs_), H', ⟨fo_⟩, ⟨mb_ BK533.out⟩, ⟨hs_⟩⟩
 case rest =>
  clear HC5
  try clear c1
  try clear c2
  try clear p2
  try clear c4
  try clear p6
  try clear c8
  try clear c10
  try clear c10b0
  try clear c10b1
  try clear c11
  try clear c11b0
  try clear hcz12_0
  try clear hcz12_1
  try clear hcz13_0
  try clear hcz13_1
  try clear hcz7_0
  try clear hcz7_1
  try clear hfz12_0
  try clear hfz12_1
  try clear hfz13_0
  try clear hfz13_1
  try clear hfz7_0
  try clear hfz7_1
  obtain ⟨kq, x60_4, rfl, HA, HJ4, BK533, HB⟩ := hcut
  cases kq with
  | zero => exact absurd HA.out (by simp [conclavelaw05_EuclidCommon.j0])
  | succ kj4 =>
   have H := HA.out
   clear HA
   simp only [conclavelaw05_EuclidCommon.j0] at H
   by_cases c14 : x60_4 = true
   ·subst c14
    have H1 : ((euclid_GCD.f kj4 0 ([] : List Int) ([] : List Int)).bind fun bt537 => ((conclavelaw05_anchored.f kj4).bind fun t541 => (if t541 = true then (some (bt537.2 == 2)) else (none)))) = some r := by rw [if_pos rfl] at H; exact H
    clear H
    have H := H1
    clear H1
    replace H := Option.bind_eq_some_iff.mp H
    obtain ⟨⟨t537, t540⟩, A150, H⟩ := H
    replace H : ((conclavelaw05_anchored.f kj4).bind fun t541 => (if t541 = true then (some (t540 == 2)) else (none))) = some r := H
    have A15 := Aside0.mk A150
    clear A150
    replace H := Option.bind_eq_some_iff.mp H
    obtain ⟨t541, A160, H⟩ := H
    replace H : (if t541 = true then (some (t540 == 2)) else (none)) = some r := H
    have A16 := Aside0.mk A160
    clear A160
    by_cases c17 : t541 = true
    ·subst c17
     have H1 : (some (t540 == 2)) = some r := by rw [if_pos rfl] at H; exact H
     clear H
     have H := H1
     clear H1
     obtain rfl := Option.some.inj H
     go_wp2_with (first | ((with_reducible refine gate_callee (f := 10) rfl ?_); refine goesM_ (some 62) Try.func10 #[.int .u8 0, .slice none 0 0, .slice none 0 0] ?_; (refine (euclid_GCD.calls kj4 0 (fun k_ => False) _ _ ([] : List Int) (fun k_ => False) _ _ ([] : List Int) t537 t540 _ ?side1 ?side2 A15.out).mono ?_); (case side1 => exact Kd.V_nil _ _ _ _ _); (case side2 => exact Kd.V_nil _ _ _ _ _); rintro e w18 ⟨v538, rfl, ho0, hb⟩; refine ⟨_, rfl, ?_⟩; have n0_ := A_ (Kd.R_lower (Kd.R_mono (ok' := fun k_ => True) ho0 (fun _ hk_ => trivial)) (below_size hs_)); have n1_ := A_ (blk_below (g := gb533) (o := .cells #[.slice A1_0 l1_0.length c1_0, .slice A1_1 l1_1.length c1_1] 35 (0, 0)) (nb_ BK533) hb); have n2_ := A_ (below_step hs_ hb); clear BK533 HB; have HO539 := n0_; have BK533 := n1_; have HB := n2_; clear n0_ n1_ n2_; (try clear hb); (try clear ho0)) | ((with_reducible refine gate_callee (f := 17) rfl ?_); refine goesM_ (some 65) Try.func17 #[] ?_; (with_reducible refine (conclavelaw05_anchored.calls kj4  true _ A16.out).mono ?_); rintro e w19 ⟨rfl, hb⟩; refine ⟨_, rfl, ?_⟩; have n0_ := A_ (Kd.R_below (nR_ HO539) hb); have n1_ := A_ (blk_below (g := gb533) (o := .cells #[.slice A1_0 l1_0.length c1_0, .slice A1_1 l1_1.length c1_1] 35 (0, 0)) (nb_ BK533) hb); have n2_ := A_ (below_step hs_ hb); clear HO539 BK533 HB; have HO539 := n0_; have BK533 := n1_; have HB := n2_; clear n0_ n1_ n2_; (try clear hb)))
     go_ret
     exact ⟨fr_, hs_⟩
    ·replace c17 := Bool.eq_false_iff.mpr c17
     subst c17
     have H1 : (none) = some r := by rw [if_neg (show ¬ (false = true) by decide)] at H; exact H
     clear H
     have H := H1
     clear H1
     exact absurd H (by simp)
   ·replace c14 := Bool.eq_false_iff.mpr c14
    subst c14
    have H1 : ((cr3_Mul.f kj4 t534 l1_0 l2).bind fun bt542 => ((cr3_Mul.f kj4 t534 l1_1 l2).bind fun bt546 => ((euclid_GCD.f kj4 t534 bt542.1 bt546.1).bind fun bt550 => (if bt550.2 = 0 then (if (bt550.1.length : Int) > 0 then (if 0 ≤ (wrap64 ((bt550.1.length : Int) - 1)) then (if (wrap64 ((bt550.1.length : Int) - 1)) < (bt550.1.length : Int) then (conclavelaw05_EuclidCommon.j1 kj4 l2 t534 bt542.1 bt546.1 bt550.1 ((rd bt550.1 (wrap64 ((bt550.1.length : Int) - 1))) != 1)) else (none)) else (none)) else (conclavelaw05_EuclidCommon.j1 kj4 l2 t534 bt542.1 bt546.1 bt550.1 false)) else (conclavelaw05_EuclidCommon.j1 kj4 l2 t534 bt542.1 bt546.1 bt550.1 true))))) = some r := by rw [if_neg (show ¬ (false = true) by decide)] at H; exact H
    clear H
    have H := H1
    clear H1
    replace H := Option.bind_eq_some_iff.mp H
    obtain ⟨⟨t542, t543⟩, A200, H⟩ := H
    (try dsimp only at H)
    have A20 := Aside0.mk A200
    clear A200
    replace H := Option.bind_eq_some_iff.mp H
    obtain ⟨⟨t546, t547⟩, A210, H⟩ := H
    (try dsimp only at H)
    have A21 := Aside0.mk A210
    clear A210
    replace H := Option.bind_eq_some_iff.mp H
    obtain ⟨⟨t550, t553⟩, A220, H⟩ := H
    (try dsimp only at H)
    have A22 := Aside0.mk A220
    clear A220
    have HC23 := Aside0.mk H
    clear H
    have hcz24_0 : wc.cell? ⟨gb533, 0, none⟩ = some (.slice A1_0 l1_0.length c1_0) := (blk_cell BK533.out 0).trans rfl
    have hcz24_1 : wc.cell? ⟨gb533, 1, none⟩ = some (.slice A1_1 l1_1.length c1_1) := (blk_cell BK533.out 1).trans rfl
    have hfz24_0 := blk_frozen BK533.out 0
    have hfz24_1 := blk_frozen BK533.out 1
    go_upto_region 8 with (first | ((with_reducible refine gate_callee (f := 18) rfl ?_); refine goesM_ (some 75) Try.func18 #[.int .u8 t534, .slice A1_0 l1_0.length c1_0, .slice A2 l2.length c2] ?_; (with_reducible refine (cr3_Mul.calls kj4 t534 _ _ l1_0 _ _ l2 t542 t543 _ ?side1 ?side2 ?side3 ?side4 A20.out).mono ?_); (case side1 => repeat (first | exact (Kd.C_below HR1_0.out HB.out) | (with_reducible refine Kd.C_alloc ?_ _) | (with_reducible refine Kd.C_drewN ?_ _) | (with_reducible refine Kd.C_drew ?_))); (case side2 => exact HC1_0.out); (case side3 => repeat (first | exact (Kd.C_below HR2.out HB.out) | (with_reducible refine Kd.C_alloc ?_ _) | (with_reducible refine Kd.C_drewN ?_ _) | (with_reducible refine Kd.C_drew ?_))); (case side4 => exact HC2.out); rintro e w25 ⟨v544, rfl, ho0, hb⟩; refine ⟨_, rfl, ?_⟩; have n0_ := A_ (Kd.R_lower (Kd.R_mono (ok' := fun _ => True) ho0 (fun _ _ => trivial)) (below_size hs_)); have n1_ := A_ (blk_below (g := gb533) (o := .cells #[.slice A1_0 l1_0.length c1_0, .slice A1_1 l1_1.length c1_1] 35 (0, 0)) (nb_ BK533) hb); have n2_ := A_ (below_step hs_ hb); clear BK533 HB; have HO545 := n0_; have BK533 := n1_; have HB := n2_; clear n0_ n1_ n2_; (try clear hb); (try clear ho0); have hcz26_0 : w25.cell? ⟨gb533, 0, none⟩ = some (.slice A1_0 l1_0.length c1_0) := (blk_cell BK533.out 0).trans rfl; have hcz26_1 : w25.cell? ⟨gb533, 1, none⟩ = some (.slice A1_1 l1_1.length c1_1) := (blk_cell BK533.out 1).trans rfl; have hfz26_0 := blk_frozen BK533.out 0; have hfz26_1 := blk_frozen BK533.out 1) | ((with_reducible refine gate_callee (f := 18) rfl ?_); refine goesM_ (some 83) Try.func18 #[.int .u8 t534, .slice A1_1 l1_1.length c1_1, .slice A2 l2.length c2] ?_; (with_reducible refine (cr3_Mul.calls kj4 t534 _ _ l1_1 _ _ l2 t546 t547 _ ?side1 ?side2 ?side3 ?side4 A21.out).mono ?_); (case side1 => repeat (first | exact (Kd.C_below HR1_1.out HB.out) | (with_reducible refine Kd.C_alloc ?_ _) | (with_reducible refine Kd.C_drewN ?_ _) | (with_reducible refine Kd.C_drew ?_))); (case side2 => exact HC1_1.out); (case side3 => repeat (first | exact (Kd.C_below HR2.out HB.out) | (with_reducible refine Kd.C_alloc ?_ _) | (with_reducible refine Kd.C_drewN ?_ _) | (with_reducible refine Kd.C_drew ?_))); (case side4 => exact HC2.out); rintro e w27 ⟨v548, rfl, ho0, hb⟩; refine ⟨_, rfl, ?_⟩; have n0_ := A_ (Kd.R_below (nR_ HO545) hb); have n1_ := A_ (Kd.R_lower (Kd.R_mono (ok' := fun _ => True) ho0 (fun _ _ => trivial)) (below_size hs_)); have n2_ := A_ (blk_below (g := gb533) (o := .cells #[.slice A1_0 l1_0.length c1_0, .slice A1_1 l1_1.length c1_1] 35 (0, 0)) (nb_ BK533) hb); have n3_ := A_ (below_step hs_ hb); clear HO545 BK533 HB; have HO545 := n0_; have HO549 := n1_; have BK533 := n2_; have HB := n3_; clear n0_ n1_ n2_ n3_; (try clear hb); (try clear ho0); obtain ⟨Ao28, co28, eo28⟩ := Kd.R_slice HO545.out; subst eo28; obtain ⟨Ao29, co29, eo29⟩ := Kd.R_slice HO549.out; subst eo29) | ((with_reducible refine gate_callee (f := 10) rfl ?_); refine goesM_ (some 90) Try.func10 #[.int .u8 t534, .slice Ao28 t542.length co28, .slice Ao29 t546.length co29] ?_; (with_reducible refine (euclid_GCD.calls kj4 t534 (fun k_ => some k_ = (.slice Ao28 t542.length co28 : Value).ownBlock) _ _ t542 (fun k_ => some k_ = (.slice Ao29 t546.length co29 : Value).ownBlock) _ _ t546 t550 t553 _ ?side1 ?side2 A22.out).mono ?_); (case side1 => exact Kd.R_V (Kd.R_tight rfl (HO545.out))); (case side2 => exact Kd.R_V (Kd.R_tight rfl (HO549.out))); rintro e w30 ⟨v551, rfl, ho0, hb⟩; refine ⟨_, rfl, ?_⟩; have n0_ := A_ (Kd.R_below (nR_ HO545) hb); have n1_ := A_ (Kd.R_below (nR_ HO549) hb); have n2_ := A_ (Kd.R_lower (Kd.R_mono (ok' := fun k_ => True) ho0 (fun _ hk_ => trivial)) (below_size hs_)); have n3_ := A_ (blk_below (g := gb533) (o := .cells #[.slice A1_0 l1_0.length c1_0, .slice A1_1 l1_1.length c1_1] 35 (0, 0)) (nb_ BK533) hb); have n4_ := A_ (below_step hs_ hb); clear HO545 HO549 BK533 HB; have HO545 := n0_; have HO549 := n1_; have HO552 := n2_; have BK533 := n3_; have HB := n4_; clear n0_ n1_ n2_ n3_ n4_; (try clear hb); (try clear ho0)))
    (try simp only [Act.put, List.setIfInBounds_toArray, List.set_cons_zero, List.set_cons_succ])
    go_cut [108] (fun v108 wc => ∃ (kq : Nat) (x108_22 : Bool), v108 = .bool x108_22 ∧ Aside0 (conclavelaw05_EuclidCommon.j1 kq l2 t534 t542 t546 t550 x108_22 = some r) ∧ Aside0 (kq ≤ kj4) ∧ Aside0 (Kd.R (Kd.int .u64) 40 wc w.heap.size (fun _ => True) (.slice Ao28 t542.length co28) t542) ∧ Aside0 (Kd.R (Kd.int .u64) 40 wc w.heap.size (fun _ => True) (.slice Ao29 t546.length co29) t546) ∧ Aside0 (Kd.R (Kd.int .u64) 40 wc w.heap.size (fun _ => True) v551 t550) ∧ Aside0 (wc.heap[gb533]? = some (.cells #[(.slice A1_0 l1_0.length c1_0), (.slice A1_1 l1_1.length c1_1)] 35 (0, 0))) ∧ Aside0 (Below w.heap.size w wc))
    case first =>
     have H := HC23.out
     clear HC23
     by_cases c31 : t553 = 0
     ·rw [if_pos c31] at H
      have c31b0 : (t553 == 0) = true := beq_iff_eq.mpr c31
      have c31b1 : (t553 != 0) = false := bne_eq_false_iff_eq.mpr c31
      clear c31
      (first | rw [c31b0] | rw [c31b1] | (simp only [i64_w, i32_w]; first | rw [c31b0] | rw [c31b1]) | skip)
      by_cases c32 : (t550.length : Int) > 0
      ·rw [if_pos c32] at H
       have c32b0 : decide (0 < (t550.length : Int)) = true := decide_eq_true c32
       have c32b1 : decide (0 < t550.length) = true := decide_eq_true (by omega)
       clear c32
       obtain ⟨ji33, hji33⟩ : ∃ j_ : Int, (wrap64 ((t550.length : Int) - 1)) = j_ := ⟨_, rfl⟩
       replace H : (if 0 ≤ (ji33) then (if (ji33) < (t550.length : Int) then (conclavelaw05_EuclidCommon.j1 kj4 l2 t534 t542 t546 t550 ((rd t550 (ji33)) != 1)) else (none)) else (none)) = some r := by first | (rw [hji33] at H; exact H) | (simp only [hji33] at H ⊢; exact H)
       have hji33w : (IntKind.i64.wrap ((t550.length : Int) - 1)) = ji33 := (i64_w _).trans hji33
       by_cases c34 : 0 ≤ (ji33)
       ·rw [if_pos c34] at H
        have c34b0 : decide (0 ≤ (ji33)) = true := decide_eq_true c34
        clear c34
        by_cases c35 : (ji33) < (t550.length : Int)
        ·rw [if_pos c35] at H
         have c35b0 : decide ((ji33) < (t550.length : Int)) = true := decide_eq_true c35
         clear c35
         have H' := Aside0.mk H
         clear H
         obtain ⟨Ao36, co36, eo36⟩ := Kd.R_slice HO552.out
         subst eo36
         have p554 : 0 ≤ ((ji33) : Int) := of_decide_eq_true (by first | (with_reducible assumption) | assumption)
         have q554 : (ji33) < (t550.length : Int) := of_decide_eq_true (by first | (with_reducible assumption) | assumption)
         obtain ⟨ad554, e554, hx554_0⟩ := Kd.at_int (Kd.R_reads' HO552.out).2.2 (ji33) p554 q554
         cases e554
         replace p554 := eq_true p554
         replace q554 := eq_true q554
         go_wp2
         go_meet
         case rel => exact ⟨_, (((rd t550 (ji33)) != 1)), (by first | rfl | (simp; done) | (simp only [← hji33] <;> (first | rfl | simp)) | (simp [*]; done)), H', ⟨by have := HJ4.out; first | omega | exact Nat.le_refl _⟩, ⟨mR_ HO545.out⟩, ⟨mR_ HO549.out⟩, ⟨mR_ HO552.out⟩, ⟨mb_ BK533.out⟩, ⟨hs_⟩⟩
        ·rw [if_neg c35] at H
         exact absurd H (by simp)
       ·rw [if_neg c34] at H
        exact absurd H (by simp)
      ·rw [if_neg c32] at H
       have c32b0 : decide (0 < (t550.length : Int)) = false := decide_eq_false c32
       have c32b1 : decide (0 < t550.length) = false := decide_eq_false (by omega)
       clear c32
       have H' := Aside0.mk H
       clear H
       obtain ⟨Ao37, co37, eo37⟩ := Kd.R_slice HO552.out
       subst eo37
       go_wp2
       go_meet
       case rel => exact ⟨_, (false), (fs_), H', ⟨by have := HJ4.out; first | omega | exact Nat.le_refl _⟩, ⟨mR_ HO545.out⟩, ⟨mR_ HO549.out⟩, ⟨mR_ HO552.out⟩, ⟨mb_ BK533.out⟩, ⟨hs_⟩⟩
     ·rw [if_neg c31] at H
      have c31b0 : (t553 == 0) = false := beq_eq_false_iff_ne.mpr c31
      have c31b1 : (t553 != 0) = true := bne_iff_ne.mpr c31
      (first | rw [c31b0] | rw [c31b1] | (simp only [i64_w, i32_w]; first | rw [c31b0] | rw [c31b1]) | skip)
      have H' := Aside0.mk H
      clear H
      go_wp2
      go_meet
      case rel => exact ⟨_, (true), (fs_), H', ⟨by have := HJ4.out; first | omega | exact Nat.le_refl _⟩, ⟨mR_ HO545.out⟩, ⟨mR_ HO549.out⟩, ⟨mR_ HO552.out⟩, ⟨mb_ BK533.out⟩, ⟨hs_⟩⟩
    case rest =>
     clear HC23
     try clear c1
     try clear c2
     try clear p2
     try clear c3
     try clear c4
     try clear p5
     try clear q5
     try clear hx5
     try clear p6
     try clear c8
     try clear c10
     try clear c10b0
     try clear c10b1
     try clear c11
     try clear c11b0
     try clear c14
     try clear c15
     try clear c17
     try clear c18
     try clear c31
     try clear c31b0
     try clear c31b1
     try clear c32
     try clear c32b0
     try clear c32b1
     try clear c34
     try clear c34b0
     try clear c35
     try clear c35b0
     try clear hcz12_0
     try clear hcz12_1
     try clear hcz13_0
     try clear hcz13_1
     try clear hcz24_0
     try clear hcz24_1
     try clear hcz26_0
     try clear hcz26_1
     try clear hcz7_0
     try clear hcz7_1
     try clear hfz12_0
     try clear hfz12_1
     try clear hfz13_0
     try clear hfz13_1
     try clear hfz24_0
     try clear hfz24_1
     try clear hfz26_0
     try clear hfz26_1
     try clear hfz7_0
     try clear hfz7_1
     try clear hx554_0
     try clear p2
     try clear p554
     try clear p6
     try clear q554
     obtain ⟨kq, x108_22, rfl, HA, HJ22, HO_11, HO_13, HO_15, BK533, HB⟩ := hcut
     cases kq with
     | zero => exact absurd HA.out (by simp [conclavelaw05_EuclidCommon.j1])
     | succ kj22 =>
      have H := HA.out
      clear HA
      simp only [conclavelaw05_EuclidCommon.j1] at H
      by_cases c38 : x108_22 = true
      ·subst c38
       have H1 : (none) = some r := by rw [if_pos rfl] at H; exact H
       clear H
       have H := H1
       clear H1
       exact absurd H (by simp)
      ·replace c38 := Bool.eq_false_iff.mpr c38
       subst c38
       have H1 : (if (t550.length : Int) = 0 then ((conclavelaw05_anchored.f kj22).bind fun t555 => (if t555 = true then (if (t542.length : Int) = 0 then (some ((t546.length : Int) == 0)) else (none)) else (none))) else ((cr3_DivMod.f kj22 t534 t542 t550).bind fun bt556 => ((cr3_DivMod.f kj22 t534 t546 t550).bind fun bt563 => ((cr3_Trim.f kj22 l2).bind fun t570 => (if (t570.length : Int) = 0 then ((conclavelaw05_anchored.f kj22).bind fun t573 => (if t573 = true then (if (bt556.2.1.length : Int) = 0 then (some ((bt563.2.1.length : Int) == 0)) else (none)) else (none))) else ((cr3_DivMod.f kj22 t534 t550 l2).bind fun bt574 => ((conclavelaw05_anchored.f kj22).bind fun t581 => (if t581 = true then (if (bt556.2.1.length : Int) = 0 then (if (bt563.2.1.length : Int) = 0 then (some ((bt574.2.1.length : Int) == 0)) else (none)) else (none)) else (none))))))))) = some r := by rw [if_neg (show ¬ (false = true) by decide)] at H; exact H
       clear H
       have H := H1
       clear H1
       by_cases c39 : (t550.length : Int) = 0
       ·rw [if_pos c39] at H
        have c39b0 : ((t550.length : Int) == 0) = true := beq_iff_eq.mpr c39
        have c39b1 : ((t550.length : Int) != 0) = false := bne_eq_false_iff_eq.mpr c39
        clear c39
        replace H := Option.bind_eq_some_iff.mp H
        obtain ⟨t555, A400, H⟩ := H
        replace H : (if t555 = true then (if (t542.length : Int) = 0 then (some ((t546.length : Int) == 0)) else (none)) else (none)) = some r := H
        have A40 := Aside0.mk A400
        clear A400
        by_cases c41 : t555 = true
        ·subst c41
         have H1 : (if (t542.length : Int) = 0 then (some ((t546.length : Int) == 0)) else (none)) = some r := by rw [if_pos rfl] at H; exact H
         clear H
         have H := H1
         clear H1
         by_cases c42 : (t542.length : Int) = 0
         ·rw [if_pos c42] at H
          have c42b0 : ((t542.length : Int) == 0) = true := beq_iff_eq.mpr c42
          have c42b1 : ((t542.length : Int) != 0) = false := bne_eq_false_iff_eq.mpr c42
          clear c42
          obtain rfl := Option.some.inj H
          obtain ⟨Ao43, co43, eo43⟩ := Kd.R_slice HO_15.out
          subst eo43
          go_wp2_with (first | ((with_reducible refine gate_callee (f := 17) rfl ?_); refine goesM_ (some 112) Try.func17 #[] ?_; (with_reducible refine (conclavelaw05_anchored.calls kj22  true _ A40.out).mono ?_); rintro e w44 ⟨rfl, hb⟩; refine ⟨_, rfl, ?_⟩; have n0_ := A_ (Kd.R_below (nR_ HO_11) hb); have n1_ := A_ (Kd.R_below (nR_ HO_13) hb); have n2_ := A_ (Kd.R_below (nR_ HO_15) hb); have n3_ := A_ (blk_below (g := gb533) (o := .cells #[.slice A1_0 l1_0.length c1_0, .slice A1_1 l1_1.length c1_1] 35 (0, 0)) (nb_ BK533) hb); have n4_ := A_ (below_step hs_ hb); clear HO_11 HO_13 HO_15 BK533 HB; have HO_11 := n0_; have HO_13 := n1_; have HO_15 := n2_; have BK533 := n3_; have HB := n4_; clear n0_ n1_ n2_ n3_ n4_; (try clear hb)))
          go_ret
          exact ⟨fr_, hs_⟩
         ·rw [if_neg c42] at H
          exact absurd H (by simp)
        ·replace c41 := Bool.eq_false_iff.mpr c41
         subst c41
         have H1 : (none) = some r := by rw [if_neg (show ¬ (false = true) by decide)] at H; exact H
         clear H
         have H := H1
         clear H1
         exact absurd H (by simp)
       ·rw [if_neg c39] at H
        have c39b0 : ((t550.length : Int) == 0) = false := beq_eq_false_iff_ne.mpr c39
        have c39b1 : ((t550.length : Int) != 0) = true := bne_iff_ne.mpr c39
        have c39b2 : ¬ (t550 = []) := fun h_ => c39 (by rw [h_]; rfl)
        replace H := Option.bind_eq_some_iff.mp H
        obtain ⟨⟨t556, t557, t558⟩, A450, H⟩ := H
        (try dsimp only at H)
        have A45 := Aside0.mk A450
        clear A450
        replace H := Option.bind_eq_some_iff.mp H
        obtain ⟨⟨t563, t564, t565⟩, A460, H⟩ := H
        (try dsimp only at H)
        have A46 := Aside0.mk A460
        clear A460
        replace H := Option.bind_eq_some_iff.mp H
        obtain ⟨t570, A470, H⟩ := H
        (try dsimp only at H)
        have A47 := Aside0.mk A470
        clear A470
        have HC48 := Aside0.mk H
        clear H
        obtain ⟨Ao49, co49, eo49⟩ := Kd.R_slice HO_15.out
        subst eo49
        go_upto_if 142 with (first | ((with_reducible refine gate_callee (f := 19) rfl ?_); refine goesM_ (some 127) Try.func19 #[.int .u8 t534, .slice Ao28 t542.length co28, .slice Ao49 t550.length co49] ?_; (with_reducible refine (cr3_DivMod.calls kj22 t534 _ _ t542 _ _ t550 t556 t557 t558 _ ?side1 ?side2 ?side3 ?side4 A45.out).mono ?_); (case side1 => repeat (first | exact (Kd.R_reads' HO_11.out).2.2 | (with_reducible refine Kd.C_alloc ?_ _) | (with_reducible refine Kd.C_drewN ?_ _) | (with_reducible refine Kd.C_drew ?_))); (case side2 => exact (Kd.R_reads' HO_11.out).2.1); (case side3 => repeat (first | exact (Kd.R_reads' HO_15.out).2.2 | (with_reducible refine Kd.C_alloc ?_ _) | (with_reducible refine Kd.C_drewN ?_ _) | (with_reducible refine Kd.C_drew ?_))); (case side4 => exact (Kd.R_reads' HO_15.out).2.1); rintro e w50 ⟨v559, v561, rfl, ho0, ho1, hb⟩; refine ⟨_, rfl, ?_⟩; have n0_ := A_ (Kd.R_below (nR_ HO_11) hb); have n1_ := A_ (Kd.R_below (nR_ HO_13) hb); have n2_ := A_ (Kd.R_below (nR_ HO_15) hb); have n3_ := A_ (Kd.R_lower (Kd.R_mono (ok' := fun _ => True) ho0 (fun _ _ => trivial)) (below_size hs_)); have n4_ := A_ (Kd.R_lower (Kd.R_mono (ok' := fun _ => True) ho1 (fun _ _ => trivial)) (below_size hs_)); have n5_ := A_ (blk_below (g := gb533) (o := .cells #[.slice A1_0 l1_0.length c1_0, .slice A1_1 l1_1.length c1_1] 35 (0, 0)) (nb_ BK533) hb); have n6_ := A_ (below_step hs_ hb); clear HO_11 HO_13 HO_15 BK533 HB; have HO_11 := n0_; have HO_13 := n1_; have HO_15 := n2_; have HO560 := n3_; have HO562 := n4_; have BK533 := n5_; have HB := n6_; clear n0_ n1_ n2_ n3_ n4_ n5_ n6_; (try clear hb); (try clear ho0); (try clear ho1)) | ((with_reducible refine gate_callee (f := 19) rfl ?_); refine goesM_ (some 135) Try.func19 #[.int .u8 t534, .slice Ao29 t546.length co29, .slice Ao49 t550.length co49] ?_; (with_reducible refine (cr3_DivMod.calls kj22 t534 _ _ t546 _ _ t550 t563 t564 t565 _ ?side1 ?side2 ?side3 ?side4 A46.out).mono ?_); (case side1 => repeat (first | exact (Kd.R_reads' HO_13.out).2.2 | (with_reducible refine Kd.C_alloc ?_ _) | (with_reducible refine Kd.C_drewN ?_ _) | (with_reducible refine Kd.C_drew ?_))); (case side2 => exact (Kd.R_reads' HO_13.out).2.1); (case side3 => repeat (first | exact (Kd.R_reads' HO_15.out).2.2 | (with_reducible refine Kd.C_alloc ?_ _) | (with_reducible refine Kd.C_drewN ?_ _) | (with_reducible refine Kd.C_drew ?_))); (case side4 => exact (Kd.R_reads' HO_15.out).2.1); rintro e w51 ⟨v566, v568, rfl, ho0, ho1, hb⟩; refine ⟨_, rfl, ?_⟩; have n0_ := A_ (Kd.R_below (nR_ HO_11) hb); have n1_ := A_ (Kd.R_below (nR_ HO_13) hb); have n2_ := A_ (Kd.R_below (nR_ HO_15) hb); have n3_ := A_ (Kd.R_below (nR_ HO560) hb); have n4_ := A_ (Kd.R_below (nR_ HO562) hb); have n5_ := A_ (Kd.R_lower (Kd.R_mono (ok' := fun _ => True) ho0 (fun _ _ => trivial)) (below_size hs_)); have n6_ := A_ (Kd.R_lower (Kd.R_mono (ok' := fun _ => True) ho1 (fun _ _ => trivial)) (below_size hs_)); have n7_ := A_ (blk_below (g := gb533) (o := .cells #[.slice A1_0 l1_0.length c1_0, .slice A1_1 l1_1.length c1_1] 35 (0, 0)) (nb_ BK533) hb); have n8_ := A_ (below_step hs_ hb); clear HO_11 HO_13 HO_15 HO560 HO562 BK533 HB; have HO_11 := n0_; have HO_13 := n1_; have HO_15 := n2_; have HO560 := n3_; have HO562 := n4_; have HO567 := n5_; have HO569 := n6_; have BK533 := n7_; have HB := n8_; clear n0_ n1_ n2_ n3_ n4_ n5_ n6_ n7_ n8_; (try clear hb); (try clear ho0); (try clear ho1)) | ((with_reducible refine gate_callee (f := 20) rfl ?_); refine goesM_ (some 140) Try.func20 #[.slice A2 l2.length c2] ?_; (with_reducible refine (cr3_Trim.calls kj22 _ _ l2 t570 _ ?side1 ?side2 A47.out).mono ?_); (case side1 => repeat (first | exact (Kd.C_below HR2.out HB.out) | (with_reducible refine Kd.C_alloc ?_ _) | (with_reducible refine Kd.C_drewN ?_ _) | (with_reducible refine Kd.C_drew ?_))); (case side2 => exact HC2.out); rintro e w52 ⟨v571, rfl, ho0, hb⟩; refine ⟨_, rfl, ?_⟩; have n0_ := A_ (Kd.R_below (nR_ HO_11) hb); have n1_ := A_ (Kd.R_below (nR_ HO_13) hb); have n2_ := A_ (Kd.R_below (nR_ HO_15) hb); have n3_ := A_ (Kd.R_below (nR_ HO560) hb); have n4_ := A_ (Kd.R_below (nR_ HO562) hb); have n5_ := A_ (Kd.R_below (nR_ HO567) hb); have n6_ := A_ (Kd.R_below (nR_ HO569) hb); have n7_ := A_ (Kd.R_lower (Kd.R_mono (ok' := fun _ => True) ho0 (fun _ _ => trivial)) (below_size hs_)); have n8_ := A_ (blk_below (g := gb533) (o := .cells #[.slice A1_0 l1_0.length c1_0, .slice A1_1 l1_1.length c1_1] 35 (0, 0)) (nb_ BK533) hb); have n9_ := A_ (below_step hs_ hb); clear HO_11 HO_13 HO_15 HO560 HO562 HO567 HO569 BK533 HB; have HO_11 := n0_; have HO_13 := n1_; have HO_15 := n2_; have HO560 := n3_; have HO562 := n4_; have HO567 := n5_; have HO569 := n6_; have HO572 := n7_; have BK533 := n8_; have HB := n9_; clear n0_ n1_ n2_ n3_ n4_ n5_ n6_ n7_ n8_ n9_; (try clear hb); (try clear ho0); obtain ⟨Ao53, co53, eo53⟩ := Kd.R_slice HO572.out; subst eo53))
        (try simp only [Act.put, List.setIfInBounds_toArray, List.set_cons_zero, List.set_cons_succ])
        have H := HC48.out
        clear HC48
        by_cases c54 : (t570.length : Int) = 0
        ·rw [if_pos c54] at H
         have c54b0 : ((t570.length : Int) == 0) = true := beq_iff_eq.mpr c54
         have c54b1 : ((t570.length : Int) != 0) = false := bne_eq_false_iff_eq.mpr c54
         clear c54
         (first | rw [c54b0] | rw [c54b1] | (simp only [i64_w, i32_w]; first | rw [c54b0] | rw [c54b1]) | skip)
         replace H := Option.bind_eq_some_iff.mp H
         obtain ⟨t573, A550, H⟩ := H
         replace H : (if t573 = true then (if (t557.length : Int) = 0 then (some ((t564.length : Int) == 0)) else (none)) else (none)) = some r := H
         have A55 := Aside0.mk A550
         clear A550
         by_cases c56 : t573 = true
         ·subst c56
          have H1 : (if (t557.length : Int) = 0 then (some ((t564.length : Int) == 0)) else (none)) = some r := by rw [if_pos rfl] at H; exact H
          clear H
          have H := H1
          clear H1
          by_cases c57 : (t557.length : Int) = 0
          ·rw [if_pos c57] at H
           have c57b0 : ((t557.length : Int) == 0) = true := beq_iff_eq.mpr c57
           have c57b1 : ((t557.length : Int) != 0) = false := bne_eq_false_iff_eq.mpr c57
           clear c57
           obtain rfl := Option.some.inj H
           go_wp2_with (first | ((with_reducible refine gate_callee (f := 17) rfl ?_); refine goesM_ (some 143) Try.func17 #[] ?_; (with_reducible refine (conclavelaw05_anchored.calls kj22  true _ A55.out).mono ?_); rintro e w58 ⟨rfl, hb⟩; refine ⟨_, rfl, ?_⟩; have n0_ := A_ (Kd.R_below (nR_ HO_11) hb); have n1_ := A_ (Kd.R_below (nR_ HO_13) hb); have n2_ := A_ (Kd.R_below (nR_ HO_15) hb); have n3_ := A_ (Kd.R_below (nR_ HO560) hb); have n4_ := A_ (Kd.R_below (nR_ HO562) hb); have n5_ := A_ (Kd.R_below (nR_ HO567) hb); have n6_ := A_ (Kd.R_below (nR_ HO569) hb); have n7_ := A_ (Kd.R_below (nR_ HO572) hb); have n8_ := A_ (blk_below (g := gb533) (o := .cells #[.slice A1_0 l1_0.length c1_0, .slice A1_1 l1_1.length c1_1] 35 (0, 0)) (nb_ BK533) hb); have n9_ := A_ (below_step hs_ hb); clear HO_11 HO_13 HO_15 HO560 HO562 HO567 HO569 HO572 BK533 HB; have HO_11 := n0_; have HO_13 := n1_; have HO_15 := n2_; have HO560 := n3_; have HO562 := n4_; have HO567 := n5_; have HO569 := n6_; have HO572 := n7_; have BK533 := n8_; have HB := n9_; clear n0_ n1_ n2_ n3_ n4_ n5_ n6_ n7_ n8_ n9_; (try clear hb); obtain ⟨Ao59, co59, eo59⟩ := Kd.R_slice HO562.out; subst eo59; obtain ⟨Ao60, co60, eo60⟩ := Kd.R_slice HO569.out; subst eo60))
           go_ret
           exact ⟨fr_, hs_⟩
          ·rw [if_neg c57] at H
           exact absurd H (by simp)
         ·replace c56 := Bool.eq_false_iff.mpr c56
          subst c56
          have H1 : (none) = some r := by rw [if_neg (show ¬ (false = true) by decide)] at H; exact H
          clear H
          have H := H1
          clear H1
          exact absurd H (by simp)
        ·rw [if_neg c54] at H
         have c54b0 : ((t570.length : Int) == 0) = false := beq_eq_false_iff_ne.mpr c54
         have c54b1 : ((t570.length : Int) != 0) = true := bne_iff_ne.mpr c54
         have c54b2 : ¬ (t570 = []) := fun h_ => c54 (by rw [h_]; rfl)
         (first | rw [c54b0] | rw [c54b1] | (simp only [i64_w, i32_w]; first | rw [c54b0] | rw [c54b1]) | skip)
         replace H := Option.bind_eq_some_iff.mp H
         obtain ⟨⟨t574, t575, t576⟩, A610, H⟩ := H
         replace H : ((conclavelaw05_anchored.f kj22).bind fun t581 => (if t581 = true then (if (t557.length : Int) = 0 then (if (t564.length : Int) = 0 then (some ((t575.length : Int) == 0)) else (none)) else (none)) else (none))) = some r := H
         have A61 := Aside0.mk A610
         clear A610
         replace H := Option.bind_eq_some_iff.mp H
         obtain ⟨t581, A620, H⟩ := H
         replace H : (if t581 = true then (if (t557.length : Int) = 0 then (if (t564.length : Int) = 0 then (some ((t575.length : Int) == 0)) else (none)) else (none)) else (none)) = some r := H
         have A62 := Aside0.mk A620
         clear A620
         by_cases c63 : t581 = true
         ·subst c63
          have H1 : (if (t557.length : Int) = 0 then (if (t564.length : Int) = 0 then (some ((t575.length : Int) == 0)) else (none)) else (none)) = some r := by rw [if_pos rfl] at H; exact H
          clear H
          have H := H1
          clear H1
          by_cases c64 : (t557.length : Int) = 0
          ·rw [if_pos c64] at H
           have c64b0 : ((t557.length : Int) == 0) = true := beq_iff_eq.mpr c64
           have c64b1 : ((t557.length : Int) != 0) = false := bne_eq_false_iff_eq.mpr c64
           clear c64
           by_cases c65 : (t564.length : Int) = 0
           ·rw [if_pos c65] at H
            have c65b0 : ((t564.length : Int) == 0) = true := beq_iff_eq.mpr c65
            have c65b1 : ((t564.length : Int) != 0) = false := bne_eq_false_iff_eq.mpr c65
            clear c65
            obtain rfl := Option.some.inj H
            go_wp2_with (first | ((with_reducible refine gate_callee (f := 19) rfl ?_); refine goesM_ (some 158) Try.func19 #[.int .u8 t534, .slice Ao49 t550.length co49, .slice A2 l2.length c2] ?_; (with_reducible refine (cr3_DivMod.calls kj22 t534 _ _ t550 _ _ l2 t574 t575 t576 _ ?side1 ?side2 ?side3 ?side4 A61.out).mono ?_); (case side1 => repeat (first | exact (Kd.R_reads' HO_15.out).2.2 | (with_reducible refine Kd.C_alloc ?_ _) | (with_reducible refine Kd.C_drewN ?_ _) | (with_reducible refine Kd.C_drew ?_))); (case side2 => exact (Kd.R_reads' HO_15.out).2.1); (case side3 => repeat (first | exact (Kd.C_below HR2.out HB.out) | (with_reducible refine Kd.C_alloc ?_ _) | (with_reducible refine Kd.C_drewN ?_ _) | (with_reducible refine Kd.C_drew ?_))); (case side4 => exact HC2.out); rintro e w66 ⟨v577, v579, rfl, ho0, ho1, hb⟩; refine ⟨_, rfl, ?_⟩; have n0_ := A_ (Kd.R_below (nR_ HO_11) hb); have n1_ := A_ (Kd.R_below (nR_ HO_13) hb); have n2_ := A_ (Kd.R_below (nR_ HO_15) hb); have n3_ := A_ (Kd.R_below (nR_ HO560) hb); have n4_ := A_ (Kd.R_below (nR_ HO562) hb); have n5_ := A_ (Kd.R_below (nR_ HO567) hb); have n6_ := A_ (Kd.R_below (nR_ HO569) hb); have n7_ := A_ (Kd.R_below (nR_ HO572) hb); have n8_ := A_ (Kd.R_lower (Kd.R_mono (ok' := fun _ => True) ho0 (fun _ _ => trivial)) (below_size hs_)); have n9_ := A_ (Kd.R_lower (Kd.R_mono (ok' := fun _ => True) ho1 (fun _ _ => trivial)) (below_size hs_)); have n10_ := A_ (blk_below (g := gb533) (o := .cells #[.slice A1_0 l1_0.length c1_0, .slice A1_1 l1_1.length c1_1] 35 (0, 0)) (nb_ BK533) hb); have n11_ := A_ (below_step hs_ hb); clear HO_11 HO_13 HO_15 HO560 HO562 HO567 HO569 HO572 BK533 HB; have HO_11 := n0_; have HO_13 := n1_; have HO_15 := n2_; have HO560 := n3_; have HO562 := n4_; have HO567 := n5_; have HO569 := n6_; have HO572 := n7_; have HO578 := n8_; have HO580 := n9_; have BK533 := n10_; have HB := n11_; clear n0_ n1_ n2_ n3_ n4_ n5_ n6_ n7_ n8_ n9_ n10_ n11_; (try clear hb); (try clear ho0); (try clear ho1)) | ((with_reducible refine gate_callee (f := 17) rfl ?_); refine goesM_ (some 162) Try.func17 #[] ?_; (with_reducible refine (conclavelaw05_anchored.calls kj22  true _ A62.out).mono ?_); rintro e w67 ⟨rfl, hb⟩; refine ⟨_, rfl, ?_⟩; have n0_ := A_ (Kd.R_below (nR_ HO_11) hb); have n1_ := A_ (Kd.R_below (nR_ HO_13) hb); have n2_ := A_ (Kd.R_below (nR_ HO_15) hb); have n3_ := A_ (Kd.R_below (nR_ HO560) hb); have n4_ := A_ (Kd.R_below (nR_ HO562) hb); have n5_ := A_ (Kd.R_below (nR_ HO567) hb); have n6_ := A_ (Kd.R_below (nR_ HO569) hb); have n7_ := A_ (Kd.R_below (nR_ HO572) hb); have n8_ := A_ (Kd.R_below (nR_ HO578) hb); have n9_ := A_ (Kd.R_below (nR_ HO580) hb); have n10_ := A_ (blk_below (g := gb533) (o := .cells #[.slice A1_0 l1_0.length c1_0, .slice A1_1 l1_1.length c1_1] 35 (0, 0)) (nb_ BK533) hb); have n11_ := A_ (below_step hs_ hb); clear HO_11 HO_13 HO_15 HO560 HO562 HO567 HO569 HO572 HO578 HO580 BK533 HB; have HO_11 := n0_; have HO_13 := n1_; have HO_15 := n2_; have HO560 := n3_; have HO562 := n4_; have HO567 := n5_; have HO569 := n6_; have HO572 := n7_; have HO578 := n8_; have HO580 := n9_; have BK533 := n10_; have HB := n11_; clear n0_ n1_ n2_ n3_ n4_ n5_ n6_ n7_ n8_ n9_ n10_ n11_; (try clear hb); obtain ⟨Ao68, co68, eo68⟩ := Kd.R_slice HO562.out; subst eo68; obtain ⟨Ao69, co69, eo69⟩ := Kd.R_slice HO569.out; subst eo69; obtain ⟨Ao70, co70, eo70⟩ := Kd.R_slice HO580.out; subst eo70))
            go_ret
            exact ⟨fr_, hs_⟩
           ·rw [if_neg c65] at H
            exact absurd H (by simp)
          ·rw [if_neg c64] at H
           exact absurd H (by simp)
         ·replace c63 := Bool.eq_false_iff.mpr c63
          subst c63
          have H1 : (none) = some r := by rw [if_neg (show ¬ (false = true) by decide)] at H; exact H
          clear H
          have H := H1
          clear H1
          exact absurd H (by simp)
/-- THE ONE PURE STATEMENT of conclavelaw05_EuclidCommon: yours. -/
def conclavelaw05_EuclidCommon.Pure : Prop := ∀ (a0 : Int) (l1_0 : List Int) (l1_1 : List Int) (l2 : List Int), (Lit.int .u8 a0).wf = true → l1_0.length ≤ maxLen → l1_0.length * 8 ≤ 140737488351232 → (∀ x ∈ l1_0, (Lit.int .u64 x).wf = true) → l1_1.length ≤ maxLen → l1_1.length * 8 ≤ 140737488351232 → (∀ x ∈ l1_1, (Lit.int .u64 x).wf = true) → l2.length ≤ maxLen → l2.length * 8 ≤ 140737488351232 → (∀ x ∈ l2, (Lit.int .u64 x).wf = true) → ∃ k, conclavelaw05_EuclidCommon.f k a0 l1_0 l1_1 l2 = some true
theorem conclavelaw05_EuclidCommon.walk (P : conclavelaw05_EuclidCommon.Pure) (a0 : Int) (a1_0 : Option Addr) (len1_0 cap1_0 : Nat) (z1_0 : List Int) (a1_1 : Option Addr) (len1_1 cap1_1 : Nat) (z1_1 : List Int) (a2 : Option Addr) (len2 cap2 : Nat) (z2 : List Int) (w : World) (w0 : (Lit.int .u8 a0).wf = true) (w1_0 : (a1_0 = none ∧ len1_0 = 0 ∧ cap1_0 = 0 ∧ z1_0 = []) ∨ ∃ x, a1_0 = some x ∧ len1_0 ≤ cap1_0 ∧ cap1_0 ≤ maxLen ∧ z1_0.length = cap1_0 ∧ (∀ i, i < z1_0.length → w.cell? (x.add i) = some (.int .u64 (z1_0.getD i 0))) ∧ ∀ n ∈ z1_0, (Lit.int .u64 n).wf = true) (y1_0 : len1_0 * 8 ≤ 140737488351232) (w1_1 : (a1_1 = none ∧ len1_1 = 0 ∧ cap1_1 = 0 ∧ z1_1 = []) ∨ ∃ x, a1_1 = some x ∧ len1_1 ≤ cap1_1 ∧ cap1_1 ≤ maxLen ∧ z1_1.length = cap1_1 ∧ (∀ i, i < z1_1.length → w.cell? (x.add i) = some (.int .u64 (z1_1.getD i 0))) ∧ ∀ n ∈ z1_1, (Lit.int .u64 n).wf = true) (y1_1 : len1_1 * 8 ≤ 140737488351232) (w2 : (a2 = none ∧ len2 = 0 ∧ cap2 = 0 ∧ z2 = []) ∨ ∃ x, a2 = some x ∧ len2 ≤ cap2 ∧ cap2 ≤ maxLen ∧ z2.length = cap2 ∧ (∀ i, i < z2.length → w.cell? (x.add i) = some (.int .u64 (z2.getD i 0))) ∧ ∀ n ∈ z2, (Lit.int .u64 n).wf = true) (y2 : len2 * 8 ≤ 140737488351232) :
  Calls Try.prog 4 #[.int .u8 a0, .agg #[.slice a1_0 len1_0 cap1_0, .slice a1_1 len1_1 cap1_1], .slice a2 len2 cap2] w fun e w' => e = .returned (.bool true) ∧ Below w.heap.size w w' := by
 obtain ⟨l1_0, rfl, hr1_0, hm1_0, hw1_0, hc1_0⟩ := ReadsInt.ofRowC w1_0
 obtain ⟨l1_1, rfl, hr1_1, hm1_1, hw1_1, hc1_1⟩ := ReadsInt.ofRowC w1_1
 obtain ⟨l2, rfl, hr2, hm2, hw2, hc2⟩ := ReadsInt.ofRowC w2
 obtain ⟨k, h⟩ := P a0 l1_0 l1_1 l2 w0 hm1_0 y1_0 hw1_0 hm1_1 y1_1 hw1_1 hm2 y2 hw2
 refine (conclavelaw05_EuclidCommon.calls k a0 _ _ l1_0 _ _ l1_1 _ _ l2 true w (Kd.C_of_reads (d := (0 : Int)) (h1 := fun _ => rfl) hr1_0) hc1_0 (Kd.C_of_reads (d := (0 : Int)) (h1 := fun _ => rfl) hr1_1) hc1_1 (Kd.C_of_reads (d := (0 : Int)) (h1 := fun _ => rfl) hr2) hc2 h).mono ?_
 rintro e w' ⟨rfl, hd⟩
 exact ⟨rfl, hd⟩
end Go.Proofs.Yteofgcmgncaojaa.PEuclidCommon
