/- The Go functions as Lean functions, each with the proof that its call comes to just that; written by a program of this session, by the words of the print. -/
import Derived.Test.YtkaongcpekhbdaaPTreeTreesx0
import Derived.Test.YtkaongcpekhbdaaPTreeTreesx1
import Derived.Test.YtkaongcpekhbdaaPTreeTreesx6
import Derived.Test.YtkaongcpekhbdaaPTreeTreesx8
import Derived.Test.YtkaongcpekhbdaaPTreeTreesx13
namespace Go.Proofs.Ytkaongcpekhbdaa.PTreeTrees
open Go.RowKit Go.Proofs.YtkaongcpekhbdaaW.PrintWords Go.Proofs.YtkaongcpekhbdaaW.PrintLast Go.Proofs.YtkaongcpekhbdaaW.PrintMore
attribute [local go_sem] max2_int min2_int max_two min_two max_three min_three max_four min_four   -- for this text's walks alone
set_option linter.unusedVariables false
set_option linter.unusedSimpArgs false
/-! ### conclavelaw06_TreeTrees: function 4 -/
mutual
def conclavelaw06_TreeTrees.j0 : Nat → List (List (List Int)) → List (List (List Int)) → Bool → Option (Bool)
 | 0, _, _, _ => none
 | k + 1, x10, x12, x60 => if x60 = true then (none) else (conclavelaw06_TreeTrees.l0 k x10 x12 0)
def conclavelaw06_TreeTrees.l0 : Nat → List (List (List Int)) → List (List (List Int)) → Int → Option (Bool)
 | 0, _, _, _ => none
 | k + 1, x10, x12, x14 => if x14 < (x10.length : Int) then (if 0 ≤ x14 then (if x14 < (x12.length : Int) then ((cr1_Rows.f k (rd_L2 x10 x14) (rd_L2 x12 x14)).bind fun t496 => (if t496 = true then (conclavelaw06_TreeTrees.l0 k x10 x12 (wrap64 (x14 + 1))) else (none))) else (none)) else (none)) else ((conclavelaw06_anchored.f k).bind fun t497 => (some t497))
end
def conclavelaw06_TreeTrees.f (k : Nat) (a0 : Int) (l1 : List Int) : Option (Bool) := (tree_Zero.f k a0 l1).bind fun bt477 => ((cr6_Zero.f k a0 l1).bind fun bt481 => ((tree_Tree.f k a0 l1).bind fun bt485 => ((cr6_Tree.f k a0 l1).bind fun bt489 => ((cr1_Same.f k bt477.1 bt481.1).bind fun t493 => (if t493 = true then (if bt477.2 = bt481.2 then (if bt485.2 = bt489.2 then (conclavelaw06_TreeTrees.j0 k bt485.1 bt489.1 ((bt485.1.length : Int) != (bt489.1.length : Int))) else (conclavelaw06_TreeTrees.j0 k bt485.1 bt489.1 true)) else (conclavelaw06_TreeTrees.j0 k bt485.1 bt489.1 true)) else (conclavelaw06_TreeTrees.j0 k bt485.1 bt489.1 true))))))
theorem conclavelaw06_TreeTrees.mono_l : ∀ k, (∀ y0 y1 y2, LeO (conclavelaw06_TreeTrees.j0 k y0 y1 y2) (conclavelaw06_TreeTrees.j0 (k + 1) y0 y1 y2)) ∧ (∀ y0 y1 y2, LeO (conclavelaw06_TreeTrees.l0 k y0 y1 y2) (conclavelaw06_TreeTrees.l0 (k + 1) y0 y1 y2))
 | 0 => ⟨fun _ _ _ r h => by simp [conclavelaw06_TreeTrees.j0] at h, fun _ _ _ r h => by simp [conclavelaw06_TreeTrees.l0] at h⟩
 | k + 1 => by
  obtain ⟨ih0, ih1⟩ := conclavelaw06_TreeTrees.mono_l k
  refine ⟨?_, ?_⟩
  ·intro y0 y1 y2
   unfold conclavelaw06_TreeTrees.j0
   repeat' first
   | (with_reducible exact ih0 _ _ _)
   | (with_reducible exact ih1 _ _ _)
   | (with_reducible exact conclavelaw06_anchored.mono _)
   | (with_reducible exact cr1_Rows.mono _ _ _)
   | (with_reducible exact cr1_Same.mono _ _ _)
   | (with_reducible exact cr6_Tree.mono _ _ _)
   | (with_reducible exact cr6_Zero.mono _ _ _)
   | (with_reducible exact tree_Tree.mono _ _ _)
   | (with_reducible exact tree_Zero.mono _ _ _)
   | (with_reducible exact LeO.refl _)
   | (with_reducible exact LeO.none _)
   | (with_reducible refine LeO.ite ?_ ?_)
   | (with_reducible refine LeO.bind ?_ (fun _ => ?_))
   | exact ih0 _ _ _
   | exact ih1 _ _ _
   | exact conclavelaw06_anchored.mono _
   | exact cr1_Rows.mono _ _ _
   | exact cr1_Same.mono _ _ _
   | exact cr6_Tree.mono _ _ _
   | exact cr6_Zero.mono _ _ _
   | exact tree_Tree.mono _ _ _
   | exact tree_Zero.mono _ _ _
   | exact LeO.none _
   | refine LeO.ite ?_ ?_
   | refine LeO.bind ?_ (fun _ => ?_)
  ·intro y0 y1 y2
   unfold conclavelaw06_TreeTrees.l0
   repeat' first
   | (with_reducible exact ih0 _ _ _)
   | (with_reducible exact ih1 _ _ _)
   | (with_reducible exact conclavelaw06_anchored.mono _)
   | (with_reducible exact cr1_Rows.mono _ _ _)
   | (with_reducible exact cr1_Same.mono _ _ _)
   | (with_reducible exact cr6_Tree.mono _ _ _)
   | (with_reducible exact cr6_Zero.mono _ _ _)
   | (with_reducible exact tree_Tree.mono _ _ _)
   | (with_reducible exact tree_Zero.mono _ _ _)
   | (with_reducible exact LeO.refl _)
   | (with_reducible exact LeO.none _)
   | (with_reducible refine LeO.ite ?_ ?_)
   | (with_reducible refine LeO.bind ?_ (fun _ => ?_))
   | exact ih0 _ _ _
   | exact ih1 _ _ _
   | exact conclavelaw06_anchored.mono _
   | exact cr1_Rows.mono _ _ _
   | exact cr1_Same.mono _ _ _
   | exact cr6_Tree.mono _ _ _
   | exact cr6_Zero.mono _ _ _
   | exact tree_Tree.mono _ _ _
   | exact tree_Zero.mono _ _ _
   | exact LeO.none _
   | refine LeO.ite ?_ ?_
   | refine LeO.bind ?_ (fun _ => ?_)
theorem conclavelaw06_TreeTrees.mono : ∀ a0 a1 k, LeO (conclavelaw06_TreeTrees.f k a0 a1) (conclavelaw06_TreeTrees.f (k + 1) a0 a1) := by
 intro a0 a1 k
 obtain ⟨ih0, ih1⟩ := conclavelaw06_TreeTrees.mono_l k
 unfold conclavelaw06_TreeTrees.f
 repeat' first
   | (with_reducible exact ih0 _ _ _)
   | (with_reducible exact ih1 _ _ _)
   | (with_reducible exact conclavelaw06_anchored.mono _)
   | (with_reducible exact cr1_Rows.mono _ _ _)
   | (with_reducible exact cr1_Same.mono _ _ _)
   | (with_reducible exact cr6_Tree.mono _ _ _)
   | (with_reducible exact cr6_Zero.mono _ _ _)
   | (with_reducible exact tree_Tree.mono _ _ _)
   | (with_reducible exact tree_Zero.mono _ _ _)
   | (with_reducible exact LeO.refl _)
   | (with_reducible exact LeO.none _)
   | (with_reducible refine LeO.ite ?_ ?_)
   | (with_reducible refine LeO.bind ?_ (fun _ => ?_))
   | exact ih0 _ _ _
   | exact ih1 _ _ _
   | exact conclavelaw06_anchored.mono _
   | exact cr1_Rows.mono _ _ _
   | exact cr1_Same.mono _ _ _
   | exact cr6_Tree.mono _ _ _
   | exact cr6_Zero.mono _ _ _
   | exact tree_Tree.mono _ _ _
   | exact tree_Zero.mono _ _ _
   | exact LeO.none _
   | refine LeO.ite ?_ ?_
   | refine LeO.bind ?_ (fun _ => ?_)
set_option maxHeartbeats 8000000 in
set_option maxRecDepth 100000 in
theorem conclavelaw06_TreeTrees.calls (k : Nat) (a0 : Int) (A1 : Option Addr) (c1 : Nat) (l1 : List Int) (r : Bool) (w : World) (hr1 : Kd.C (Kd.int .u64) w A1 l1.length l1) (hc1 : l1.length ≤ c1) (h : conclavelaw06_TreeTrees.f k a0 l1 = some r) :
  Calls Try.prog 4 #[.int .u8 a0, .slice A1 l1.length c1] w fun e w' => e = .returned (.bool r) ∧ Below w.heap.size w w' := by
 have HR1 := Aside0.mk hr1
 have HC1 := Aside0.mk hc1
 clear hr1 hc1
 have HB := A_ (Below.refl w.heap.size w)
 have H : ((tree_Zero.f k a0 l1).bind fun bt477 => ((cr6_Zero.f k a0 l1).bind fun bt481 => ((tree_Tree.f k a0 l1).bind fun bt485 => ((cr6_Tree.f k a0 l1).bind fun bt489 => ((cr1_Same.f k bt477.1 bt481.1).bind fun t493 => (if t493 = true then (if bt477.2 = bt481.2 then (if bt485.2 = bt489.2 then (conclavelaw06_TreeTrees.j0 k bt485.1 bt489.1 ((bt485.1.length : Int) != (bt489.1.length : Int))) else (conclavelaw06_TreeTrees.j0 k bt485.1 bt489.1 true)) else (conclavelaw06_TreeTrees.j0 k bt485.1 bt489.1 true)) else (conclavelaw06_TreeTrees.j0 k bt485.1 bt489.1 true))))))) = some r := h
 clear h
 replace H := Option.bind_eq_some_iff.mp H
 obtain ⟨⟨t477, t480⟩, A30, H⟩ := H
 (try dsimp only at H)
 have A3 := Aside0.mk A30
 clear A30
 replace H := Option.bind_eq_some_iff.mp H
 obtain ⟨⟨t481, t482⟩, A40, H⟩ := H
 (try dsimp only at H)
 have A4 := Aside0.mk A40
 clear A40
 replace H := Option.bind_eq_some_iff.mp H
 obtain ⟨⟨t485, t488⟩, A50, H⟩ := H
 (try dsimp only at H)
 have A5 := Aside0.mk A50
 clear A50
 replace H := Option.bind_eq_some_iff.mp H
 obtain ⟨⟨t489, t490⟩, A60, H⟩ := H
 (try dsimp only at H)
 have A6 := Aside0.mk A60
 clear A60
 have HC7 := Aside0.mk H
 clear H
 go_enter Try.func4, Try.ntmps4
 go_upto_region 6 with (first | (go_at_call 15; (with_reducible refine (tree_Zero.calls k a0 (fun k_ => k_ < w.heap.size) _ _ l1 t477 t480 _ ?side1 A3.out).mono ?_); (case side1 => exact Kd.V_mk HC1.out (Kd.F_below (Kd.C_F (Kd.heap_int .u64) HR1.out) hb_)); rintro e w8 ⟨v478, rfl, ho0, hb⟩; have n0_ := A_ (Kd.V_lower (Kd.V_mono (ok' := fun k_ => True) ho0 (fun k_ hk_ => trivial)) (below_size hb_)); have n1_ := A_ (below_step hb_ hb); clear HB; have HO479 := n0_; have HB := n1_; clear n0_ n1_; (try clear hb); (try clear hb2); (try clear hk); (try clear hi); (try clear ho0)) | (go_at_call 16; (with_reducible refine (cr6_Zero.calls k a0 _ _ l1 t481 t482 _ ?side1 ?side2 A4.out).mono ?_); (case side1 => repeat (first | exact (Kd.C_below HR1.out HB.out) | (with_reducible refine Kd.C_alloc ?_ _) | (with_reducible refine Kd.C_drewN ?_ _) | (with_reducible refine Kd.C_drew ?_))); (case side2 => exact HC1.out); rintro e w9 ⟨v483, rfl, ho0, hb⟩; have n0_ := A_ (Kd.V_elder' (nV_ HO479) (Kd.R_base ho0) hb); have n1_ := A_ (Kd.R_lower ho0 (below_size hb_)); have n2_ := A_ (below_step hb_ hb); clear HO479 HB; have HO479 := n0_; have HO484 := n1_; have HB := n2_; clear n0_ n1_ n2_; (try clear hb); (try clear hb2); (try clear hk); (try clear hi); (try clear ho0)) | (go_at_call 17; (with_reducible refine (tree_Tree.calls k a0 (fun k_ => k_ < w.heap.size) _ _ l1 t485 t488 _ ?side1 A5.out).mono ?_); (case side1 => exact Kd.V_mk HC1.out (Kd.F_below (Kd.C_F (Kd.heap_int .u64) HR1.out) hb_)); rintro e w10 ⟨v486, rfl, ho0, hb⟩; have n0_ := A_ (Kd.V_elder' (nV_ HO479) (Kd.N_base ho0) hb); have n1_ := A_ (Kd.R_below (nR_ HO484) hb); have n2_ := A_ (Kd.N_lower (Kd.N_mono (ok' := fun k_ => some k_ ≠ (v483 : Value).ownBlock) ho0 (fun k_ hk_ => Or.elim hk_ (fun hs_ => fun e_ => Nat.not_le.2 hs_ (Kd.R_base HO484.out k_ e_.symm)) (fun hn_ => (Kd.fresh' (Kd.R_lt (nR_ HO484)) k_ hn_)))) (below_size hb_)); have n3_ := A_ (below_step hb_ hb); clear HO479 HO484 HB; have HO479 := n0_; have HO484 := n1_; have HO487 := n2_; have HB := n3_; clear n0_ n1_ n2_ n3_; (try clear hb); (try clear hb2); (try clear hk); (try clear hi); (try clear ho0)) | (go_at_call 18; (with_reducible refine (cr6_Tree.calls k a0 _ _ l1 t489 t490 _ ?side1 ?side2 A6.out).mono ?_); (case side1 => repeat (first | exact (Kd.C_below HR1.out HB.out) | (with_reducible refine Kd.C_alloc ?_ _) | (with_reducible refine Kd.C_drewN ?_ _) | (with_reducible refine Kd.C_drew ?_))); (case side2 => exact HC1.out); rintro e w11 ⟨v491, rfl, ho0, hb⟩; have n0_ := A_ (Kd.V_elder' (nV_ HO479) (Kd.R_base ho0) hb); have n1_ := A_ (Kd.R_below (nR_ HO484) hb); have n2_ := A_ (Kd.N_elder' (nN_ HO487) (Kd.R_base ho0) hb); have n3_ := A_ (Kd.N_lower (Kd.N_mono (ok' := fun k_ => some k_ ≠ (v483 : Value).ownBlock ∧ some k_ ≠ (v486 : Value).ownBlock) (Kd.R_N (Kd.R_bound ho0)) (fun k_ hk_ => ⟨(Kd.fresh' (Kd.R_lt (nR_ HO484)) k_ hk_.2.1), (Kd.fresh' (Kd.N_lt (nN_ HO487)) k_ hk_.2.1)⟩)) (below_size hb_)); have n4_ := A_ (below_step hb_ hb); clear HO479 HO484 HO487 HB; have HO479 := n0_; have HO484 := n1_; have HO487 := n2_; have HO492 := n3_; have HB := n4_; clear n0_ n1_ n2_ n3_ n4_; (try clear hb); (try clear hb2); (try clear hk); (try clear hi); (try clear ho0)))
 repeat (go_quiet (first | (go_at_call 15; (with_reducible refine (tree_Zero.calls k a0 (fun k_ => k_ < w.heap.size) _ _ l1 t477 t480 _ ?side1 A3.out).mono ?_); (case side1 => exact Kd.V_mk HC1.out (Kd.F_below (Kd.C_F (Kd.heap_int .u64) HR1.out) hb_)); rintro e w8 ⟨v478, rfl, ho0, hb⟩; have n0_ := A_ (Kd.V_lower (Kd.V_mono (ok' := fun k_ => True) ho0 (fun k_ hk_ => trivial)) (below_size hb_)); have n1_ := A_ (below_step hb_ hb); clear HB; have HO479 := n0_; have HB := n1_; clear n0_ n1_; (try clear hb); (try clear hb2); (try clear hk); (try clear hi); (try clear ho0)) | (go_at_call 16; (with_reducible refine (cr6_Zero.calls k a0 _ _ l1 t481 t482 _ ?side1 ?side2 A4.out).mono ?_); (case side1 => repeat (first | exact (Kd.C_below HR1.out HB.out) | (with_reducible refine Kd.C_alloc ?_ _) | (with_reducible refine Kd.C_drewN ?_ _) | (with_reducible refine Kd.C_drew ?_))); (case side2 => exact HC1.out); rintro e w9 ⟨v483, rfl, ho0, hb⟩; have n0_ := A_ (Kd.V_elder' (nV_ HO479) (Kd.R_base ho0) hb); have n1_ := A_ (Kd.R_lower ho0 (below_size hb_)); have n2_ := A_ (below_step hb_ hb); clear HO479 HB; have HO479 := n0_; have HO484 := n1_; have HB := n2_; clear n0_ n1_ n2_; (try clear hb); (try clear hb2); (try clear hk); (try clear hi); (try clear ho0)) | (go_at_call 17; (with_reducible refine (tree_Tree.calls k a0 (fun k_ => k_ < w.heap.size) _ _ l1 t485 t488 _ ?side1 A5.out).mono ?_); (case side1 => exact Kd.V_mk HC1.out (Kd.F_below (Kd.C_F (Kd.heap_int .u64) HR1.out) hb_)); rintro e w10 ⟨v486, rfl, ho0, hb⟩; have n0_ := A_ (Kd.V_elder' (nV_ HO479) (Kd.N_base ho0) hb); have n1_ := A_ (Kd.R_below (nR_ HO484) hb); have n2_ := A_ (Kd.N_lower (Kd.N_mono (ok' := fun k_ => some k_ ≠ (v483 : Value).ownBlock) ho0 (fun k_ hk_ => Or.elim hk_ (fun hs_ => fun e_ => Nat.not_le.2 hs_ (Kd.R_base HO484.out k_ e_.symm)) (fun hn_ => (Kd.fresh' (Kd.R_lt (nR_ HO484)) k_ hn_)))) (below_size hb_)); have n3_ := A_ (below_step hb_ hb); clear HO479 HO484 HB; have HO479 := n0_; have HO484 := n1_; have HO487 := n2_; have HB := n3_; clear n0_ n1_ n2_ n3_; (try clear hb); (try clear hb2); (try clear hk); (try clear hi); (try clear ho0)) | (go_at_call 18; (with_reducible refine (cr6_Tree.calls k a0 _ _ l1 t489 t490 _ ?side1 ?side2 A6.out).mono ?_); (case side1 => repeat (first | exact (Kd.C_below HR1.out HB.out) | (with_reducible refine Kd.C_alloc ?_ _) | (with_reducible refine Kd.C_drewN ?_ _) | (with_reducible refine Kd.C_drew ?_))); (case side2 => exact HC1.out); rintro e w11 ⟨v491, rfl, ho0, hb⟩; have n0_ := A_ (Kd.V_elder' (nV_ HO479) (Kd.R_base ho0) hb); have n1_ := A_ (Kd.R_below (nR_ HO484) hb); have n2_ := A_ (Kd.N_elder' (nN_ HO487) (Kd.R_base ho0) hb); have n3_ := A_ (Kd.N_lower (Kd.N_mono (ok' := fun k_ => some k_ ≠ (v483 : Value).ownBlock ∧ some k_ ≠ (v486 : Value).ownBlock) (Kd.R_N (Kd.R_bound ho0)) (fun k_ hk_ => ⟨(Kd.fresh' (Kd.R_lt (nR_ HO484)) k_ hk_.2.1), (Kd.fresh' (Kd.N_lt (nN_ HO487)) k_ hk_.2.1)⟩)) (below_size hb_)); have n4_ := A_ (below_step hb_ hb); clear HO479 HO484 HO487 HB; have HO479 := n0_; have HO484 := n1_; have HO487 := n2_; have HO492 := n3_; have HB := n4_; clear n0_ n1_ n2_ n3_ n4_; (try clear hb); (try clear hb2); (try clear hk); (try clear hi); (try clear ho0))); go_upto_region 6 with (first | (go_at_call 15; (with_reducible refine (tree_Zero.calls k a0 (fun k_ => k_ < w.heap.size) _ _ l1 t477 t480 _ ?side1 A3.out).mono ?_); (case side1 => exact Kd.V_mk HC1.out (Kd.F_below (Kd.C_F (Kd.heap_int .u64) HR1.out) hb_)); rintro e w8 ⟨v478, rfl, ho0, hb⟩; have n0_ := A_ (Kd.V_lower (Kd.V_mono (ok' := fun k_ => True) ho0 (fun k_ hk_ => trivial)) (below_size hb_)); have n1_ := A_ (below_step hb_ hb); clear HB; have HO479 := n0_; have HB := n1_; clear n0_ n1_; (try clear hb); (try clear hb2); (try clear hk); (try clear hi); (try clear ho0)) | (go_at_call 16; (with_reducible refine (cr6_Zero.calls k a0 _ _ l1 t481 t482 _ ?side1 ?side2 A4.out).mono ?_); (case side1 => repeat (first | exact (Kd.C_below HR1.out HB.out) | (with_reducible refine Kd.C_alloc ?_ _) | (with_reducible refine Kd.C_drewN ?_ _) | (with_reducible refine Kd.C_drew ?_))); (case side2 => exact HC1.out); rintro e w9 ⟨v483, rfl, ho0, hb⟩; have n0_ := A_ (Kd.V_elder' (nV_ HO479) (Kd.R_base ho0) hb); have n1_ := A_ (Kd.R_lower ho0 (below_size hb_)); have n2_ := A_ (below_step hb_ hb); clear HO479 HB; have HO479 := n0_; have HO484 := n1_; have HB := n2_; clear n0_ n1_ n2_; (try clear hb); (try clear hb2); (try clear hk); (try clear hi); (try clear ho0)) | (go_at_call 17; (with_reducible refine (tree_Tree.calls k a0 (fun k_ => k_ < w.heap.size) _ _ l1 t485 t488 _ ?side1 A5.out).mono ?_); (case side1 => exact Kd.V_mk HC1.out (Kd.F_below (Kd.C_F (Kd.heap_int .u64) HR1.out) hb_)); rintro e w10 ⟨v486, rfl, ho0, hb⟩; have n0_ := A_ (Kd.V_elder' (nV_ HO479) (Kd.N_base ho0) hb); have n1_ := A_ (Kd.R_below (nR_ HO484) hb); have n2_ := A_ (Kd.N_lower (Kd.N_mono (ok' := fun k_ => some k_ ≠ (v483 : Value).ownBlock) ho0 (fun k_ hk_ => Or.elim hk_ (fun hs_ => fun e_ => Nat.not_le.2 hs_ (Kd.R_base HO484.out k_ e_.symm)) (fun hn_ => (Kd.fresh' (Kd.R_lt (nR_ HO484)) k_ hn_)))) (below_size hb_)); have n3_ := A_ (below_step hb_ hb); clear HO479 HO484 HB; have HO479 := n0_; have HO484 := n1_; have HO487 := n2_; have HB := n3_; clear n0_ n1_ n2_ n3_; (try clear hb); (try clear hb2); (try clear hk); (try clear hi); (try clear ho0)) | (go_at_call 18; (with_reducible refine (cr6_Tree.calls k a0 _ _ l1 t489 t490 _ ?side1 ?side2 A6.out).mono ?_); (case side1 => repeat (first | exact (Kd.C_below HR1.out HB.out) | (with_reducible refine Kd.C_alloc ?_ _) | (with_reducible refine Kd.C_drewN ?_ _) | (with_reducible refine Kd.C_drew ?_))); (case side2 => exact HC1.out); rintro e w11 ⟨v491, rfl, ho0, hb⟩; have n0_ := A_ (Kd.V_elder' (nV_ HO479) (Kd.R_base ho0) hb); have n1_ := A_ (Kd.R_below (nR_ HO484) hb); have n2_ := A_ (Kd.N_elder' (nN_ HO487) (Kd.R_base ho0) hb); have n3_ := A_ (Kd.N_lower (Kd.N_mono (ok' := fun k_ => some k_ ≠ (v483 : Value).ownBlock ∧ some k_ ≠ (v486 : Value).ownBlock) (Kd.R_N (Kd.R_bound ho0)) (fun k_ hk_ => ⟨(Kd.fresh' (Kd.R_lt (nR_ HO484)) k_ hk_.2.1), (Kd.fresh' (Kd.N_lt (nN_ HO487)) k_ hk_.2.1)⟩)) (below_size hb_)); have n4_ := A_ (below_step hb_ hb); clear HO479 HO484 HO487 HB; have HO479 := n0_; have HO484 := n1_; have HO487 := n2_; have HO492 := n3_; have HB := n4_; clear n0_ n1_ n2_ n3_ n4_; (try clear hb); (try clear hb2); (try clear hk); (try clear hi); (try clear ho0))))
 (try simp only [Act.put, List.setIfInBounds_toArray, List.set_cons_zero, List.set_cons_succ])
 go_cut [60] (fun v60 wc => ∃ (kq : Nat) (x60_6 : Bool), v60 = .bool x60_6 ∧ Aside0 (conclavelaw06_TreeTrees.j0 kq t485 t489 x60_6 = some r) ∧ Aside0 (kq ≤ k) ∧ Aside0 (Kd.N (Kd.slice 22 (Kd.slice 49 (Kd.int .u64))) 23 wc w.heap.size (fun k_ => some k_ ≠ (v491 : Value).ownBlock) v486 t485) ∧ Aside0 (Kd.N (Kd.slice 22 (Kd.slice 49 (Kd.int .u64))) 23 wc w.heap.size (fun k_ => some k_ ≠ (v486 : Value).ownBlock) v491 t489) ∧ Aside0 (Below w.heap.size w wc))
 case first =>
  have H := HC7.out
  clear HC7
  replace H := Option.bind_eq_some_iff.mp H
  obtain ⟨t493, A120, H⟩ := H
  (try dsimp only at H)
  have A12 := Aside0.mk A120
  clear A120
  by_cases c13 : t493 = true
  ·subst c13
   have H1 : (if t480 = t482 then (if t488 = t490 then (conclavelaw06_TreeTrees.j0 k t485 t489 ((t485.length : Int) != (t489.length : Int))) else (conclavelaw06_TreeTrees.j0 k t485 t489 true)) else (conclavelaw06_TreeTrees.j0 k t485 t489 true)) = some r := by rw [if_pos rfl] at H; exact H
   clear H
   have H := H1
   clear H1
   by_cases c14 : t480 = t482
   ·rw [if_pos c14] at H
    have c14b0 : (t480 == t482) = true := beq_iff_eq.mpr c14
    have c14b1 : (t480 != t482) = false := bne_eq_false_iff_eq.mpr c14
    clear c14
    (first | rw [c14b0] | rw [c14b1] | (simp only [i64_w, i32_w]; first | rw [c14b0] | rw [c14b1]) | skip)
    by_cases c15 : t488 = t490
    ·rw [if_pos c15] at H
     have c15b0 : (t488 == t490) = true := beq_iff_eq.mpr c15
     have c15b1 : (t488 != t490) = false := bne_eq_false_iff_eq.mpr c15
     clear c15
     have H' := Aside0.mk H
     clear H
     obtain ⟨Ao16, co16, eo16⟩ := Kd.V_slice HO479.out
     subst eo16
     obtain ⟨Ao17, co17, eo17⟩ := Kd.R_slice HO484.out
     subst eo17
     go_wp2_with (first | (go_at_call 14; (with_reducible refine (cr1_Same.calls k _ _ t477 _ _ t481 true _ ?side1 ?side2 ?side3 ?side4 A12.out).mono ?_); (case side1 => repeat (first | exact (Kd.V_reads' HO479.out).2.2 | (with_reducible refine Kd.C_alloc ?_ _) | (with_reducible refine Kd.C_drewN ?_ _) | (with_reducible refine Kd.C_drew ?_))); (case side2 => exact (Kd.V_reads' HO479.out).2.1); (case side3 => repeat (first | exact (Kd.R_reads' HO484.out).2.2 | (with_reducible refine Kd.C_alloc ?_ _) | (with_reducible refine Kd.C_drewN ?_ _) | (with_reducible refine Kd.C_drew ?_))); (case side4 => exact (Kd.R_reads' HO484.out).2.1); rintro e w' ⟨rfl, ⟨nd, rfl⟩⟩; (try first | exact ⟨rfl, _, World.drewN_drewN _ _ _⟩ | exact ⟨rfl, _, Eq.trans (World.drewN_drewN _ _ _) (congrArg (World.drewN _) (Nat.add_assoc _ _ _))⟩); obtain ⟨Ao18, co18, eo18⟩ := Kd.N_slice HO487.out; subst eo18; obtain ⟨Ao19, co19, eo19⟩ := Kd.N_slice HO492.out; subst eo19))
     repeat (go_quiet (first | (go_at_call 14; (with_reducible refine (cr1_Same.calls k _ _ t477 _ _ t481 true _ ?side1 ?side2 ?side3 ?side4 A12.out).mono ?_); (case side1 => repeat (first | exact (Kd.V_reads' HO479.out).2.2 | (with_reducible refine Kd.C_alloc ?_ _) | (with_reducible refine Kd.C_drewN ?_ _) | (with_reducible refine Kd.C_drew ?_))); (case side2 => exact (Kd.V_reads' HO479.out).2.1); (case side3 => repeat (first | exact (Kd.R_reads' HO484.out).2.2 | (with_reducible refine Kd.C_alloc ?_ _) | (with_reducible refine Kd.C_drewN ?_ _) | (with_reducible refine Kd.C_drew ?_))); (case side4 => exact (Kd.R_reads' HO484.out).2.1); rintro e w' ⟨rfl, ⟨nd, rfl⟩⟩; (try first | exact ⟨rfl, _, World.drewN_drewN _ _ _⟩ | exact ⟨rfl, _, Eq.trans (World.drewN_drewN _ _ _) (congrArg (World.drewN _) (Nat.add_assoc _ _ _))⟩); obtain ⟨Ao18, co18, eo18⟩ := Kd.N_slice HO487.out; subst eo18; obtain ⟨Ao19, co19, eo19⟩ := Kd.N_slice HO492.out; subst eo19)); try go_wp2_with (first | (go_at_call 14; (with_reducible refine (cr1_Same.calls k _ _ t477 _ _ t481 true _ ?side1 ?side2 ?side3 ?side4 A12.out).mono ?_); (case side1 => repeat (first | exact (Kd.V_reads' HO479.out).2.2 | (with_reducible refine Kd.C_alloc ?_ _) | (with_reducible refine Kd.C_drewN ?_ _) | (with_reducible refine Kd.C_drew ?_))); (case side2 => exact (Kd.V_reads' HO479.out).2.1); (case side3 => repeat (first | exact (Kd.R_reads' HO484.out).2.2 | (with_reducible refine Kd.C_alloc ?_ _) | (with_reducible refine Kd.C_drewN ?_ _) | (with_reducible refine Kd.C_drew ?_))); (case side4 => exact (Kd.R_reads' HO484.out).2.1); rintro e w' ⟨rfl, ⟨nd, rfl⟩⟩; (try first | exact ⟨rfl, _, World.drewN_drewN _ _ _⟩ | exact ⟨rfl, _, Eq.trans (World.drewN_drewN _ _ _) (congrArg (World.drewN _) (Nat.add_assoc _ _ _))⟩); obtain ⟨Ao18, co18, eo18⟩ := Kd.N_slice HO487.out; subst eo18; obtain ⟨Ao19, co19, eo19⟩ := Kd.N_slice HO492.out; subst eo19)))
     go_meet
     case rel => exact ⟨_, (((t485.length : Int) != (t489.length : Int))), (fs_), H', ⟨fo_⟩, ⟨by (with_reducible repeat (first | apply Kd.N_alloc | apply Kd.N_drewN | apply Kd.N_drew)); exact Kd.N_mono HO487.out (fun _ hk => hk.2)⟩, ⟨by (with_reducible repeat (first | apply Kd.N_alloc | apply Kd.N_drewN | apply Kd.N_drew)); exact Kd.N_mono HO492.out (fun _ hk => hk.2)⟩, ⟨by repeat (first | (with_reducible first | exact HB.out | apply below_alloc | apply pw_below_drewN | apply below_drew1) | exact HB.out)⟩⟩
    ·rw [if_neg c15] at H
     have c15b0 : (t488 == t490) = false := beq_eq_false_iff_ne.mpr c15
     have c15b1 : (t488 != t490) = true := bne_iff_ne.mpr c15
     have H' := Aside0.mk H
     clear H
     obtain ⟨Ao20, co20, eo20⟩ := Kd.V_slice HO479.out
     subst eo20
     obtain ⟨Ao21, co21, eo21⟩ := Kd.R_slice HO484.out
     subst eo21
     go_wp2_with (first | (go_at_call 14; (with_reducible refine (cr1_Same.calls k _ _ t477 _ _ t481 true _ ?side1 ?side2 ?side3 ?side4 A12.out).mono ?_); (case side1 => repeat (first | exact (Kd.V_reads' HO479.out).2.2 | (with_reducible refine Kd.C_alloc ?_ _) | (with_reducible refine Kd.C_drewN ?_ _) | (with_reducible refine Kd.C_drew ?_))); (case side2 => exact (Kd.V_reads' HO479.out).2.1); (case side3 => repeat (first | exact (Kd.R_reads' HO484.out).2.2 | (with_reducible refine Kd.C_alloc ?_ _) | (with_reducible refine Kd.C_drewN ?_ _) | (with_reducible refine Kd.C_drew ?_))); (case side4 => exact (Kd.R_reads' HO484.out).2.1); rintro e w' ⟨rfl, ⟨nd, rfl⟩⟩; (try first | exact ⟨rfl, _, World.drewN_drewN _ _ _⟩ | exact ⟨rfl, _, Eq.trans (World.drewN_drewN _ _ _) (congrArg (World.drewN _) (Nat.add_assoc _ _ _))⟩)))
     repeat (go_quiet (first | (go_at_call 14; (with_reducible refine (cr1_Same.calls k _ _ t477 _ _ t481 true _ ?side1 ?side2 ?side3 ?side4 A12.out).mono ?_); (case side1 => repeat (first | exact (Kd.V_reads' HO479.out).2.2 | (with_reducible refine Kd.C_alloc ?_ _) | (with_reducible refine Kd.C_drewN ?_ _) | (with_reducible refine Kd.C_drew ?_))); (case side2 => exact (Kd.V_reads' HO479.out).2.1); (case side3 => repeat (first | exact (Kd.R_reads' HO484.out).2.2 | (with_reducible refine Kd.C_alloc ?_ _) | (with_reducible refine Kd.C_drewN ?_ _) | (with_reducible refine Kd.C_drew ?_))); (case side4 => exact (Kd.R_reads' HO484.out).2.1); rintro e w' ⟨rfl, ⟨nd, rfl⟩⟩; (try first | exact ⟨rfl, _, World.drewN_drewN _ _ _⟩ | exact ⟨rfl, _, Eq.trans (World.drewN_drewN _ _ _) (congrArg (World.drewN _) (Nat.add_assoc _ _ _))⟩))); try go_wp2_with (first | (go_at_call 14; (with_reducible refine (cr1_Same.calls k _ _ t477 _ _ t481 true _ ?side1 ?side2 ?side3 ?side4 A12.out).mono ?_); (case side1 => repeat (first | exact (Kd.V_reads' HO479.out).2.2 | (with_reducible refine Kd.C_alloc ?_ _) | (with_reducible refine Kd.C_drewN ?_ _) | (with_reducible refine Kd.C_drew ?_))); (case side2 => exact (Kd.V_reads' HO479.out).2.1); (case side3 => repeat (first | exact (Kd.R_reads' HO484.out).2.2 | (with_reducible refine Kd.C_alloc ?_ _) | (with_reducible refine Kd.C_drewN ?_ _) | (with_reducible refine Kd.C_drew ?_))); (case side4 => exact (Kd.R_reads' HO484.out).2.1); rintro e w' ⟨rfl, ⟨nd, rfl⟩⟩; (try first | exact ⟨rfl, _, World.drewN_drewN _ _ _⟩ | exact ⟨rfl, _, Eq.trans (World.drewN_drewN _ _ _) (congrArg (World.drewN _) (Nat.add_assoc _ _ _))⟩))))
     go_meet
     case rel => exact ⟨_, (true), (fs_), H', ⟨fo_⟩, ⟨by (with_reducible repeat (first | apply Kd.N_alloc | apply Kd.N_drewN | apply Kd.N_drew)); exact Kd.N_mono HO487.out (fun _ hk => hk.2)⟩, ⟨by (with_reducible repeat (first | apply Kd.N_alloc | apply Kd.N_drewN | apply Kd.N_drew)); exact Kd.N_mono HO492.out (fun _ hk => hk.2)⟩, ⟨by repeat (first | (with_reducible first | exact HB.out | apply below_alloc | apply pw_below_drewN | apply below_drew1) | exact HB.out)⟩⟩
   ·rw [if_neg c14] at H
    have c14b0 : (t480 == t482) = false := beq_eq_false_iff_ne.mpr c14
    have c14b1 : (t480 != t482) = true := bne_iff_ne.mpr c14
    (first | rw [c14b0] | rw [c14b1] | (simp only [i64_w, i32_w]; first | rw [c14b0] | rw [c14b1]) | skip)
    have H' := Aside0.mk H
    clear H
    obtain ⟨Ao22, co22, eo22⟩ := Kd.V_slice HO479.out
    subst eo22
    obtain ⟨Ao23, co23, eo23⟩ := Kd.R_slice HO484.out
    subst eo23
    go_wp2_with (first | (go_at_call 14; (with_reducible refine (cr1_Same.calls k _ _ t477 _ _ t481 true _ ?side1 ?side2 ?side3 ?side4 A12.out).mono ?_); (case side1 => repeat (first | exact (Kd.V_reads' HO479.out).2.2 | (with_reducible refine Kd.C_alloc ?_ _) | (with_reducible refine Kd.C_drewN ?_ _) | (with_reducible refine Kd.C_drew ?_))); (case side2 => exact (Kd.V_reads' HO479.out).2.1); (case side3 => repeat (first | exact (Kd.R_reads' HO484.out).2.2 | (with_reducible refine Kd.C_alloc ?_ _) | (with_reducible refine Kd.C_drewN ?_ _) | (with_reducible refine Kd.C_drew ?_))); (case side4 => exact (Kd.R_reads' HO484.out).2.1); rintro e w' ⟨rfl, ⟨nd, rfl⟩⟩; (try first | exact ⟨rfl, _, World.drewN_drewN _ _ _⟩ | exact ⟨rfl, _, Eq.trans (World.drewN_drewN _ _ _) (congrArg (World.drewN _) (Nat.add_assoc _ _ _))⟩)))
    repeat (go_quiet (first | (go_at_call 14; (with_reducible refine (cr1_Same.calls k _ _ t477 _ _ t481 true _ ?side1 ?side2 ?side3 ?side4 A12.out).mono ?_); (case side1 => repeat (first | exact (Kd.V_reads' HO479.out).2.2 | (with_reducible refine Kd.C_alloc ?_ _) | (with_reducible refine Kd.C_drewN ?_ _) | (with_reducible refine Kd.C_drew ?_))); (case side2 => exact (Kd.V_reads' HO479.out).2.1); (case side3 => repeat (first | exact (Kd.R_reads' HO484.out).2.2 | (with_reducible refine Kd.C_alloc ?_ _) | (with_reducible refine Kd.C_drewN ?_ _) | (with_reducible refine Kd.C_drew ?_))); (case side4 => exact (Kd.R_reads' HO484.out).2.1); rintro e w' ⟨rfl, ⟨nd, rfl⟩⟩; (try first | exact ⟨rfl, _, World.drewN_drewN _ _ _⟩ | exact ⟨rfl, _, Eq.trans (World.drewN_drewN _ _ _) (congrArg (World.drewN _) (Nat.add_assoc _ _ _))⟩))); try go_wp2_with (first | (go_at_call 14; (with_reducible refine (cr1_Same.calls k _ _ t477 _ _ t481 true _ ?side1 ?side2 ?side3 ?side4 A12.out).mono ?_); (case side1 => repeat (first | exact (Kd.V_reads' HO479.out).2.2 | (with_reducible refine Kd.C_alloc ?_ _) | (with_reducible refine Kd.C_drewN ?_ _) | (with_reducible refine Kd.C_drew ?_))); (case side2 => exact (Kd.V_reads' HO479.out).2.1); (case side3 => repeat (first | exact (Kd.R_reads' HO484.out).2.2 | (with_reducible refine Kd.C_alloc ?_ _) | (with_reducible refine Kd.C_drewN ?_ _) | (with_reducible refine Kd.C_drew ?_))); (case side4 => exact (Kd.R_reads' HO484.out).2.1); rintro e w' ⟨rfl, ⟨nd, rfl⟩⟩; (try first | exact ⟨rfl, _, World.drewN_drewN _ _ _⟩ | exact ⟨rfl, _, Eq.trans (World.drewN_drewN _ _ _) (congrArg (World.drewN _) (Nat.add_assoc _ _ _))⟩))))
    go_meet
    case rel => exact ⟨_, (true), (fs_), H', ⟨fo_⟩, ⟨by (with_reducible repeat (first | apply Kd.N_alloc | apply Kd.N_drewN | apply Kd.N_drew)); exact Kd.N_mono HO487.out (fun _ hk => hk.2)⟩, ⟨by (with_reducible repeat (first | apply Kd.N_alloc | apply Kd.N_drewN | apply Kd.N_drew)); exact Kd.N_mono HO492.out (fun _ hk => hk.2)⟩, ⟨by repeat (first | (with_reducible first | exact HB.out | apply below_alloc | apply pw_below_drewN | apply below_drew1) | exact HB.out)⟩⟩
  ·replace c13 := Bool.eq_false_iff.mpr c13
   subst c13
   have H1 : (conclavelaw06_TreeTrees.j0 k t485 t489 true) = some r := by rw [if_neg (show ¬ (false = true) by decide)] at H; exact H
   clear H
   have H := H1
   clear H1
   have H' := Aside0.mk H
   clear H
   obtain ⟨Ao24, co24, eo24⟩ := Kd.V_slice HO479.out
   subst eo24
   obtain ⟨Ao25, co25, eo25⟩ := Kd.R_slice HO484.out
   subst eo25
   go_wp2_with (first | (go_at_call 14; (with_reducible refine (cr1_Same.calls k _ _ t477 _ _ t481 false _ ?side1 ?side2 ?side3 ?side4 A12.out).mono ?_); (case side1 => repeat (first | exact (Kd.V_reads' HO479.out).2.2 | (with_reducible refine Kd.C_alloc ?_ _) | (with_reducible refine Kd.C_drewN ?_ _) | (with_reducible refine Kd.C_drew ?_))); (case side2 => exact (Kd.V_reads' HO479.out).2.1); (case side3 => repeat (first | exact (Kd.R_reads' HO484.out).2.2 | (with_reducible refine Kd.C_alloc ?_ _) | (with_reducible refine Kd.C_drewN ?_ _) | (with_reducible refine Kd.C_drew ?_))); (case side4 => exact (Kd.R_reads' HO484.out).2.1); rintro e w' ⟨rfl, ⟨nd, rfl⟩⟩; (try first | exact ⟨rfl, _, World.drewN_drewN _ _ _⟩ | exact ⟨rfl, _, Eq.trans (World.drewN_drewN _ _ _) (congrArg (World.drewN _) (Nat.add_assoc _ _ _))⟩)))
   repeat (go_quiet (first | (go_at_call 14; (with_reducible refine (cr1_Same.calls k _ _ t477 _ _ t481 false _ ?side1 ?side2 ?side3 ?side4 A12.out).mono ?_); (case side1 => repeat (first | exact (Kd.V_reads' HO479.out).2.2 | (with_reducible refine Kd.C_alloc ?_ _) | (with_reducible refine Kd.C_drewN ?_ _) | (with_reducible refine Kd.C_drew ?_))); (case side2 => exact (Kd.V_reads' HO479.out).2.1); (case side3 => repeat (first | exact (Kd.R_reads' HO484.out).2.2 | (with_reducible refine Kd.C_alloc ?_ _) | (with_reducible refine Kd.C_drewN ?_ _) | (with_reducible refine Kd.C_drew ?_))); (case side4 => exact (Kd.R_reads' HO484.out).2.1); rintro e w' ⟨rfl, ⟨nd, rfl⟩⟩; (try first | exact ⟨rfl, _, World.drewN_drewN _ _ _⟩ | exact ⟨rfl, _, Eq.trans (World.drewN_drewN _ _ _) (congrArg (World.drewN _) (Nat.add_assoc _ _ _))⟩))); try go_wp2_with (first | (go_at_call 14; (with_reducible refine (cr1_Same.calls k _ _ t477 _ _ t481 false _ ?side1 ?side2 ?side3 ?side4 A12.out).mono ?_); (case side1 => repeat (first | exact (Kd.V_reads' HO479.out).2.2 | (with_reducible refine Kd.C_alloc ?_ _) | (with_reducible refine Kd.C_drewN ?_ _) | (with_reducible refine Kd.C_drew ?_))); (case side2 => exact (Kd.V_reads' HO479.out).2.1); (case side3 => repeat (first | exact (Kd.R_reads' HO484.out).2.2 | (with_reducible refine Kd.C_alloc ?_ _) | (with_reducible refine Kd.C_drewN ?_ _) | (with_reducible refine Kd.C_drew ?_))); (case side4 => exact (Kd.R_reads' HO484.out).2.1); rintro e w' ⟨rfl, ⟨nd, rfl⟩⟩; (try first | exact ⟨rfl, _, World.drewN_drewN _ _ _⟩ | exact ⟨rfl, _, Eq.trans (World.drewN_drewN _ _ _) (congrArg (World.drewN _) (Nat.add_assoc _ _ _))⟩))))
   go_meet
   case rel => exact ⟨_, (true), (fs_), H', ⟨fo_⟩, ⟨by (with_reducible repeat (first | apply Kd.N_alloc | apply Kd.N_drewN | apply Kd.N_drew)); exact Kd.N_mono HO487.out (fun _ hk => hk.2)⟩, ⟨by (with_reducible repeat (first | apply Kd.N_alloc | apply Kd.N_drewN | apply Kd.N_drew)); exact Kd.N_mono HO492.out (fun _ hk => hk.2)⟩, ⟨by repeat (first | (with_reducible first | exact HB.out | apply below_alloc | apply pw_below_drewN | apply below_drew1) | exact HB.out)⟩⟩
 case rest =>
  clear HC7
  try clear c1
  try clear p2
  try clear c4
  try clear c13
  try clear c14
  try clear c14b0
  try clear c14b1
  try clear c15
  try clear c15b0
  try clear c15b1
  obtain ⟨kq, x60_6, rfl, HA, HJ6, HO_10, HO_12, HB⟩ := hcut
  cases kq with
  | zero => exact absurd HA.out (by simp [conclavelaw06_TreeTrees.j0])
  | succ kj6 =>
   have H := HA.out
   clear HA
   simp only [conclavelaw06_TreeTrees.j0] at H
   by_cases c26 : x60_6 = true
   ·subst c26
    have H1 : (none) = some r := by rw [if_pos rfl] at H; exact H
    clear H
    have H := H1
    clear H1
    exact absurd H (by simp)
   ·replace c26 := Bool.eq_false_iff.mpr c26
    subst c26
    have H1 : (conclavelaw06_TreeTrees.l0 kj6 t485 t489 0) = some r := by rw [if_neg (show ¬ (false = true) by decide)] at H; exact H
    clear H
    have H := H1
    clear H1
    have H' := Aside0.mk H
    clear H
    go_wp2
    repeat (go_quiet (fail); try go_wp2)
    go_loopg [14] kj6 (fun kq v14 w' => ∃ (x14_2 : Int), v14 = .int .i64 x14_2 ∧ Aside0 (conclavelaw06_TreeTrees.l0 kq t485 t489 x14_2 = some r) ∧ Aside0 (kq ≤ kj6) ∧ Aside0 (Kd.N (Kd.slice 22 (Kd.slice 49 (Kd.int .u64))) 23 w' w.heap.size (fun k_ => some k_ ≠ (v491 : Value).ownBlock) v486 t485) ∧ Aside0 (Kd.N (Kd.slice 22 (Kd.slice 49 (Kd.int .u64))) 23 w' w.heap.size (fun k_ => some k_ ≠ (v486 : Value).ownBlock) v491 t489) ∧ Aside0 (Below w.heap.size w w'))
    case atStart => exact ⟨(0), (fs_), H', ⟨Nat.le_refl _⟩, ⟨mN_ HO_10.out⟩, ⟨mN_ HO_12.out⟩, ⟨by repeat (first | (with_reducible first | exact HB.out | apply below_alloc | apply pw_below_drewN | apply below_drew1) | exact HB.out)⟩⟩
    case round =>
     clear H'
     try clear c1
     try clear c2
     try clear p2
     try clear c4
     try clear c13
     try clear c14
     try clear c14b0
     try clear c14b1
     try clear c15
     try clear c15b0
     try clear c15b1
     try clear c26
     try clear p2
     obtain ⟨x14_2, rfl, HA, HK2, HO_10, HO_12, HB⟩ := hrel
     cases gk with
     | zero => exact absurd HA.out (by simp [conclavelaw06_TreeTrees.l0])
     | succ k2 =>
      have H := HA.out
      clear HA
      simp only [conclavelaw06_TreeTrees.l0] at H
      by_cases c27 : x14_2 < (t485.length : Int)
      ·rw [if_pos c27] at H
       have c27b0 : decide (x14_2 < (t485.length : Int)) = true := decide_eq_true c27
       clear c27
       by_cases c28 : 0 ≤ x14_2
       ·rw [if_pos c28] at H
        have c28b0 : decide (0 ≤ x14_2) = true := decide_eq_true c28
        clear c28
        by_cases c29 : x14_2 < (t489.length : Int)
        ·rw [if_pos c29] at H
         have c29b0 : decide (x14_2 < (t489.length : Int)) = true := decide_eq_true c29
         clear c29
         replace H := Option.bind_eq_some_iff.mp H
         obtain ⟨t496, A300, H⟩ := H
         replace H : (if t496 = true then (conclavelaw06_TreeTrees.l0 k2 t485 t489 (wrap64 (x14_2 + 1))) else (none)) = some r := H
         have A30 := Aside0.mk A300
         clear A300
         by_cases c31 : t496 = true
         ·subst c31
          have H1 : (conclavelaw06_TreeTrees.l0 k2 t485 t489 (wrap64 (x14_2 + 1))) = some r := by rw [if_pos rfl] at H; exact H
          clear H
          have H := H1
          clear H1
          have H' := Aside0.mk H
          clear H
          obtain ⟨Ao32, co32, eo32⟩ := Kd.N_slice HO_10.out
          subst eo32
          have p494 : 0 ≤ (x14_2 : Int) := of_decide_eq_true (by first | (with_reducible assumption) | assumption)
          have q494 : x14_2 < (t485.length : Int) := of_decide_eq_true (by first | (with_reducible assumption) | assumption)
          obtain ⟨ad494, A494_0, c494_0, e494, hx494_0, hl494_0, hi494_0⟩ := at_L2 (Kd.N_reads' HO_10.out).2.2 x14_2 p494 q494
          cases e494
          obtain ⟨ce494, hce494, hMe494, hcc494⟩ := Kd.N_get HO_10.out [] x14_2 p494 (by first | exact q494 | exact of_decide_eq_true (by first | (with_reducible assumption) | assumption) | (have e_ := (Kd.N_reads' HO_10.out).1; omega))
          obtain ⟨ua494_0, uc494_0, rfl, ul494_0, ge494_0⟩ := Kd.FK_slice_open hMe494
          have hv494_0 := hcc494 0 _ rfl
          rw [Nat.add_zero, show ((Kd.slice 22 (Kd.slice 49 (Kd.int .u64)))).sz = 1 from rfl, Nat.mul_one] at hv494_0
          replace hv494_0 := Option.some.inj (hv494_0.symm.trans hx494_0)
          injection hv494_0 with hva_ hvn_ hvc_
          rw [hva_] at ge494_0
          rw [hvc_] at ul494_0
          have HL494_0 := A_ (show Kd.V (Kd.slice 49 (Kd.int .u64)) 22 _ w.heap.size _ _ (rd_L2 t485 x14_2) from Kd.V_mk ul494_0 ge494_0)
          clear hva_ hvn_ hvc_ ge494_0 ul494_0
          clear hcc494 hce494
          have HR494_0 := Aside0.mk hi494_0
          have HC494_0 := Aside0.mk hl494_0
          clear hi494_0 hl494_0
          replace p494 := eq_true p494
          replace q494 := eq_true q494
          obtain ⟨Ao33, co33, eo33⟩ := Kd.N_slice HO_12.out
          subst eo33
          have p495 : 0 ≤ (x14_2 : Int) := of_decide_eq_true (by first | (with_reducible assumption) | assumption)
          have q495 : x14_2 < (t489.length : Int) := of_decide_eq_true (by first | (with_reducible assumption) | assumption)
          obtain ⟨ad495, A495_0, c495_0, e495, hx495_0, hl495_0, hi495_0⟩ := at_L2 (Kd.N_reads' HO_12.out).2.2 x14_2 p495 q495
          cases e495
          obtain ⟨ce495, hce495, hMe495, hcc495⟩ := Kd.N_get HO_12.out [] x14_2 p495 (by first | exact q495 | exact of_decide_eq_true (by first | (with_reducible assumption) | assumption) | (have e_ := (Kd.N_reads' HO_12.out).1; omega))
          obtain ⟨ua495_0, uc495_0, rfl, ul495_0, ge495_0⟩ := Kd.FK_slice_open hMe495
          have hv495_0 := hcc495 0 _ rfl
          rw [Nat.add_zero, show ((Kd.slice 22 (Kd.slice 49 (Kd.int .u64)))).sz = 1 from rfl, Nat.mul_one] at hv495_0
          replace hv495_0 := Option.some.inj (hv495_0.symm.trans hx495_0)
          injection hv495_0 with hva_ hvn_ hvc_
          rw [hva_] at ge495_0
          rw [hvc_] at ul495_0
          have HL495_0 := A_ (show Kd.V (Kd.slice 49 (Kd.int .u64)) 22 _ w.heap.size _ _ (rd_L2 t489 x14_2) from Kd.V_mk ul495_0 ge495_0)
          clear hva_ hvn_ hvc_ ge495_0 ul495_0
          clear hcc495 hce495
          have HR495_0 := Aside0.mk hi495_0
          have HC495_0 := Aside0.mk hl495_0
          clear hi495_0 hl495_0
          replace p495 := eq_true p495
          replace q495 := eq_true q495
          go_wp2_with (first | (go_at_call 13; (with_reducible refine (cr1_Rows.calls k2 _ _ (rd_L2 t485 x14_2) _ _ (rd_L2 t489 x14_2) true _ ?side1 ?side2 ?side3 ?side4 A30.out).mono ?_); (case side1 => repeat (first | exact (by repeat (first | (with_reducible exact HR494_0.out) | (with_reducible refine Kd.C_alloc ?_ _) | (with_reducible refine Kd.C_drewN ?_ _) | (with_reducible refine Kd.C_drew ?_) | exact HR494_0.out)) | (with_reducible refine Kd.C_alloc ?_ _) | (with_reducible refine Kd.C_drewN ?_ _) | (with_reducible refine Kd.C_drew ?_))); (case side2 => exact HC494_0.out); (case side3 => repeat (first | exact (by repeat (first | (with_reducible exact HR495_0.out) | (with_reducible refine Kd.C_alloc ?_ _) | (with_reducible refine Kd.C_drewN ?_ _) | (with_reducible refine Kd.C_drew ?_) | exact HR495_0.out)) | (with_reducible refine Kd.C_alloc ?_ _) | (with_reducible refine Kd.C_drewN ?_ _) | (with_reducible refine Kd.C_drew ?_))); (case side4 => exact HC495_0.out); rintro e w' ⟨rfl, ⟨nd, rfl⟩⟩; (try first | exact ⟨rfl, _, World.drewN_drewN _ _ _⟩ | exact ⟨rfl, _, Eq.trans (World.drewN_drewN _ _ _) (congrArg (World.drewN _) (Nat.add_assoc _ _ _))⟩)))
          repeat (go_quiet (first | (go_at_call 13; (with_reducible refine (cr1_Rows.calls k2 _ _ (rd_L2 t485 x14_2) _ _ (rd_L2 t489 x14_2) true _ ?side1 ?side2 ?side3 ?side4 A30.out).mono ?_); (case side1 => repeat (first | exact (by repeat (first | (with_reducible exact HR494_0.out) | (with_reducible refine Kd.C_alloc ?_ _) | (with_reducible refine Kd.C_drewN ?_ _) | (with_reducible refine Kd.C_drew ?_) | exact HR494_0.out)) | (with_reducible refine Kd.C_alloc ?_ _) | (with_reducible refine Kd.C_drewN ?_ _) | (with_reducible refine Kd.C_drew ?_))); (case side2 => exact HC494_0.out); (case side3 => repeat (first | exact (by repeat (first | (with_reducible exact HR495_0.out) | (with_reducible refine Kd.C_alloc ?_ _) | (with_reducible refine Kd.C_drewN ?_ _) | (with_reducible refine Kd.C_drew ?_) | exact HR495_0.out)) | (with_reducible refine Kd.C_alloc ?_ _) | (with_reducible refine Kd.C_drewN ?_ _) | (with_reducible refine Kd.C_drew ?_))); (case side4 => exact HC495_0.out); rintro e w' ⟨rfl, ⟨nd, rfl⟩⟩; (try first | exact ⟨rfl, _, World.drewN_drewN _ _ _⟩ | exact ⟨rfl, _, Eq.trans (World.drewN_drewN _ _ _) (congrArg (World.drewN _) (Nat.add_assoc _ _ _))⟩))); try go_wp2_with (first | (go_at_call 13; (with_reducible refine (cr1_Rows.calls k2 _ _ (rd_L2 t485 x14_2) _ _ (rd_L2 t489 x14_2) true _ ?side1 ?side2 ?side3 ?side4 A30.out).mono ?_); (case side1 => repeat (first | exact (by repeat (first | (with_reducible exact HR494_0.out) | (with_reducible refine Kd.C_alloc ?_ _) | (with_reducible refine Kd.C_drewN ?_ _) | (with_reducible refine Kd.C_drew ?_) | exact HR494_0.out)) | (with_reducible refine Kd.C_alloc ?_ _) | (with_reducible refine Kd.C_drewN ?_ _) | (with_reducible refine Kd.C_drew ?_))); (case side2 => exact HC494_0.out); (case side3 => repeat (first | exact (by repeat (first | (with_reducible exact HR495_0.out) | (with_reducible refine Kd.C_alloc ?_ _) | (with_reducible refine Kd.C_drewN ?_ _) | (with_reducible refine Kd.C_drew ?_) | exact HR495_0.out)) | (with_reducible refine Kd.C_alloc ?_ _) | (with_reducible refine Kd.C_drewN ?_ _) | (with_reducible refine Kd.C_drew ?_))); (case side4 => exact HC495_0.out); rintro e w' ⟨rfl, ⟨nd, rfl⟩⟩; (try first | exact ⟨rfl, _, World.drewN_drewN _ _ _⟩ | exact ⟨rfl, _, Eq.trans (World.drewN_drewN _ _ _) (congrArg (World.drewN _) (Nat.add_assoc _ _ _))⟩))))
          go_roundg k2
          case measure => have := HJ6.out; have := HK2.out; omega
          case rel => exact ⟨(wrap64 (x14_2 + 1)), (fs_), H', ⟨by have := HJ6.out; have := HK2.out; omega⟩, ⟨mN_ HO_10.out⟩, ⟨mN_ HO_12.out⟩, ⟨by repeat (first | (with_reducible first | exact HB.out | apply below_alloc | apply pw_below_drewN | apply below_drew1) | exact HB.out)⟩⟩
         ·replace c31 := Bool.eq_false_iff.mpr c31
          subst c31
          have H1 : (none) = some r := by rw [if_neg (show ¬ (false = true) by decide)] at H; exact H
          clear H
          have H := H1
          clear H1
          exact absurd H (by simp)
        ·rw [if_neg c29] at H
         exact absurd H (by simp)
       ·rw [if_neg c28] at H
        exact absurd H (by simp)
      ·rw [if_neg c27] at H
       have c27b0 : decide (x14_2 < (t485.length : Int)) = false := decide_eq_false c27
       clear c27
       replace H := Option.bind_eq_some_iff.mp H
       obtain ⟨t497, A340, H⟩ := H
       replace H : (some t497) = some r := H
       have A34 := Aside0.mk A340
       clear A340
       obtain rfl := Option.some.inj H
       obtain ⟨Ao35, co35, eo35⟩ := Kd.N_slice HO_10.out
       subst eo35
       go_wp2_with (first | (go_at_call 19; (with_reducible refine (conclavelaw06_anchored.calls k2  t497 _ A34.out).mono ?_); rintro e w36 ⟨rfl, hb⟩; have n0_ := A_ (Kd.N_below (nN_ HO_10) hb); have n1_ := A_ (Kd.N_below (nN_ HO_12) hb); have n2_ := A_ (below_step hb_ hb); clear HO_10 HO_12 HB; have HO_10 := n0_; have HO_12 := n1_; have HB := n2_; clear n0_ n1_ n2_; (try clear hb); (try clear hb2); (try clear hk); (try clear hi)))
       repeat (go_quiet (first | (go_at_call 19; (with_reducible refine (conclavelaw06_anchored.calls k2  t497 _ A34.out).mono ?_); rintro e w36 ⟨rfl, hb⟩; have n0_ := A_ (Kd.N_below (nN_ HO_10) hb); have n1_ := A_ (Kd.N_below (nN_ HO_12) hb); have n2_ := A_ (below_step hb_ hb); clear HO_10 HO_12 HB; have HO_10 := n0_; have HO_12 := n1_; have HB := n2_; clear n0_ n1_ n2_; (try clear hb); (try clear hb2); (try clear hk); (try clear hi))); try go_wp2_with (first | (go_at_call 19; (with_reducible refine (conclavelaw06_anchored.calls k2  t497 _ A34.out).mono ?_); rintro e w36 ⟨rfl, hb⟩; have n0_ := A_ (Kd.N_below (nN_ HO_10) hb); have n1_ := A_ (Kd.N_below (nN_ HO_12) hb); have n2_ := A_ (below_step hb_ hb); clear HO_10 HO_12 HB; have HO_10 := n0_; have HO_12 := n1_; have HB := n2_; clear n0_ n1_ n2_; (try clear hb); (try clear hb2); (try clear hk); (try clear hi))))
       go_ret
       exact ⟨fr_, hb_⟩
/-- THE ONE PURE STATEMENT of conclavelaw06_TreeTrees: yours. -/
def conclavelaw06_TreeTrees.Pure : Prop := ∀ (a0 : Int) (l1 : List Int), (Lit.int .u8 a0).wf = true → l1.length ≤ maxLen → l1.length * 8 ≤ 140737488351232 → (∀ x ∈ l1, (Lit.int .u64 x).wf = true) → ∃ k, conclavelaw06_TreeTrees.f k a0 l1 = some true
theorem conclavelaw06_TreeTrees.walk (P : conclavelaw06_TreeTrees.Pure) (a0 : Int) (a1 : Option Addr) (len1 cap1 : Nat) (z1 : List Int) (w : World) (w0 : (Lit.int .u8 a0).wf = true) (w1 : (a1 = none ∧ len1 = 0 ∧ cap1 = 0 ∧ z1 = []) ∨ ∃ x, a1 = some x ∧ len1 ≤ cap1 ∧ cap1 ≤ maxLen ∧ z1.length = cap1 ∧ (∀ i, i < z1.length → w.cell? (x.add i) = some (.int .u64 (z1.getD i 0))) ∧ ∀ n ∈ z1, (Lit.int .u64 n).wf = true) (y1 : len1 * 8 ≤ 140737488351232) :
  Calls Try.prog 4 #[.int .u8 a0, .slice a1 len1 cap1] w fun e w' => e = .returned (.bool true) ∧ Below w.heap.size w w' := by
 obtain ⟨l1, rfl, hr1, hm1, hw1, hc1⟩ := ReadsInt.ofRowC w1
 obtain ⟨k, h⟩ := P a0 l1 w0 hm1 y1 hw1
 refine (conclavelaw06_TreeTrees.calls k a0 _ _ l1 true w (Kd.C_of_reads (d := (0 : Int)) (h1 := fun _ => rfl) hr1) hc1 h).mono ?_
 rintro e w' ⟨rfl, hd⟩
 exact ⟨rfl, hd⟩
end Go.Proofs.Ytkaongcpekhbdaa.PTreeTrees
