/- The Go functions as Lean functions, each with the proof that its call comes to just that; written by a program of this session, by the words of the print. -/
import Derived.Test.YtkaongcpekhbdaaPTreeTreesx0
import Derived.Test.YtkaongcpekhbdaaPTreeTreesx1
import Derived.Test.YtkaongcpekhbdaaPTreeTreesx5
namespace Go.Proofs.Ytkaongcpekhbdaa.PTreeTrees
open Go.RowKit Go.Proofs.YtkaongcpekhbdaaW.PrintWords Go.Proofs.YtkaongcpekhbdaaW.PrintLast Go.Proofs.YtkaongcpekhbdaaW.PrintMore
attribute [local go_sem] max2_int min2_int max_two min_two max_three min_three max_four min_four   -- for this text's walks alone
set_option linter.unusedVariables false
set_option linter.unusedSimpArgs false
/-! ### tree_Tree: function 17 -/
def tree_Tree.f (k : Nat) (a0 : Int) (l1 : List Int) : Option ((List (List (List Int))) × Int) := (tree_may.f k a0 (([l1] : List (List Int)))).bind fun t261 => (if t261 = 0 then (if (l1.length : Int) = 0 then (some (([] : List (List (List Int))), t261)) else ((tree_grow.f k a0 l1).bind fun bt262 => (some (bt262.1, bt262.2)))) else (some (([] : List (List (List Int))), t261)))
theorem tree_Tree.mono : ∀ a0 a1 k, LeO (tree_Tree.f k a0 a1) (tree_Tree.f (k + 1) a0 a1) := by
 intro a0 a1 k
 unfold tree_Tree.f
 repeat' first
   | (with_reducible exact tree_grow.mono _ _ _)
   | (with_reducible exact tree_may.mono _ _ _)
   | (with_reducible exact LeO.refl _)
   | (with_reducible exact LeO.none _)
   | (with_reducible refine LeO.ite ?_ ?_)
   | (with_reducible refine LeO.bind ?_ (fun _ => ?_))
   | exact tree_grow.mono _ _ _
   | exact tree_may.mono _ _ _
   | exact LeO.none _
   | refine LeO.ite ?_ ?_
   | refine LeO.bind ?_ (fun _ => ?_)
set_option maxHeartbeats 8000000 in
set_option maxRecDepth 100000 in
theorem tree_Tree.calls (k : Nat) (a0 : Int) (P1_ : Nat → Prop) (A1 : Option Addr) (c1 : Nat) (l1 : List Int) (r1 : List (List (List Int))) (r2 : Int) (w : World) (hs1 : Kd.V (Kd.int .u64) 49 w w.heap.size (fun k_ => P1_ k_) (.slice A1 l1.length c1) l1) (h : tree_Tree.f k a0 l1 = some (r1, r2)) :
  Calls Try.prog 17 #[.int .u8 a0, .slice A1 l1.length c1] w fun e w' => ∃ v0_ : Value, e = .returned (.tuple #[v0_, .int .i64 r2]) ∧ Kd.N (Kd.slice 22 (Kd.slice 49 (Kd.int .u64))) 23 w' w.heap.size (fun k_ => (P1_ k_ ∨ w.heap.size ≤ k_)) v0_ r1 ∧ Below w.heap.size w w' := by
 have HO1 := A_ (show Kd.V (Kd.int .u64) 49 w w.heap.size (fun k_ => (P1_ k_ ∨ w.heap.size ≤ k_)) (.slice A1 l1.length c1) l1 from Kd.V_mono hs1 (fun k_ hk => .inl hk))
 have HB := A_ (Below.refl w.heap.size w)
 have H : ((tree_may.f k a0 (([l1] : List (List Int)))).bind fun t261 => (if t261 = 0 then (if (l1.length : Int) = 0 then (some (([] : List (List (List Int))), t261)) else ((tree_grow.f k a0 l1).bind fun bt262 => (some (bt262.1, bt262.2)))) else (some (([] : List (List (List Int))), t261)))) = some (r1, r2) := h
 clear h
 obtain ⟨y258, hy258⟩ : ∃ y_ : List (List Int), y_ = (([l1] : List (List Int))) := ⟨_, rfl⟩
 replace H : ((tree_may.f k a0 y258).bind fun t261 => (if t261 = 0 then (if (l1.length : Int) = 0 then (some (([] : List (List (List Int))), t261)) else ((tree_grow.f k a0 l1).bind fun bt262 => (some (bt262.1, bt262.2)))) else (some (([] : List (List (List Int))), t261)))) = some (r1, r2) := by first | (rw [hy258]; with_reducible exact H) | (have H2_ := (Option.bind_some _ _).symm.trans H; rw [hy258]; with_reducible exact H2_) | (have H2_ := (Option.bind_some _ _).symm.trans H; with_reducible exact H2_) | with_reducible exact H | (rw [hy258]; exact H) | exact H
 have Ny258 := Aside0.mk hy258
 clear hy258
 replace H := Option.bind_eq_some_iff.mp H
 obtain ⟨t261, A30, H⟩ := H
 replace H : (if t261 = 0 then (if (l1.length : Int) = 0 then (some (([] : List (List (List Int))), t261)) else ((tree_grow.f k a0 l1).bind fun bt262 => (some (bt262.1, bt262.2)))) else (some (([] : List (List (List Int))), t261))) = some (r1, r2) := H
 have A3 := Aside0.mk A30
 clear A30
 by_cases c4 : t261 = 0
 ·rw [if_pos c4] at H
  have c4b0 : (t261 == 0) = true := beq_iff_eq.mpr c4
  have c4b1 : (t261 != 0) = false := bne_eq_false_iff_eq.mpr c4
  clear c4
  have HC5 := Aside0.mk H
  clear H
  go_enter Try.func17, Try.ntmps17
  go_upto_if 17 with (first | ((with_reducible refine gate_dst (N := 9) rfl ?_); (try (refine gate_guard (by rfl) ?_; dsimp only)); refine Kd.N_lit (Kd.slice 49 (Kd.int .u64)) _ 22 ?hg (N' := 9) ?hd (xs := ([l1] : List (List Int))) (inner := [.slice A1 l1.length c1]) (ok := (fun k_ => (P1_ k_ ∨ w.heap.size ≤ k_))) (okp := (fun k_ => (P1_ k_ ∨ w.heap.size ≤ k_))) ?hr ?hp (fun _ hk => hk) ((show ∀ k_, w.heap.size ≤ k_ → (fun k_ => (P1_ k_ ∨ w.heap.size ≤ k_)) k_ from fun k_ hk => (.inr (Nat.le_trans (below_size hb_) hk))) _ (Nat.le_refl _)) (Below.refl _ _) (Nat.le_refl _) (by simp) ?_; (case hd => rfl); (case hg => rfl); (case hr => first | (go_simp; done) | (go_simp; rfl)); (case hp => exact (Reps.one (show Kd.FK (Kd.slice 49 (Kd.int .u64)) _ _ l1 [.slice A1 l1.length c1] from (Kd.FK_slice_mk (Kd.V_reads' (Kd.V_mono (ok' := (fun k_ => (P1_ k_ ∨ w.heap.size ≤ k_))) (HO1.out) (fun k_ hk => hk))).2.1 (Kd.V_F (Kd.V_mono (ok' := (fun k_ => (P1_ k_ ∨ w.heap.size ≤ k_))) (HO1.out) (fun k_ hk => hk))))) (Reps.none _ _))); intro v259 w6 ho7 hb hg_ hnew_; clear hg_ hnew_; (first | rw [← Ny258.out] at ho7 | (simp only [Int.reduceToNat] at ho7; rw [← Ny258.out] at ho7)); have n0_ := A_ (Kd.V_elder' (nV_ HO1) (Kd.N_base ho7) hb); have n1_ := A_ (Kd.N_lower ho7 (below_size hb_)); have n2_ := A_ (below_step hb_ hb); clear HO1 HB; have HO1 := n0_; have HO260 := n1_; have HB := n2_; clear n0_ n1_ n2_; clear hb ho7; obtain ⟨Ao8, co8, eo8⟩ := Kd.N_slice HO260.out; subst eo8) | ((with_reducible refine gate_callee (f := 31) rfl ?_); refine goesM_ (some 10) Try.func31 #[.int .u8 a0, .slice Ao8 y258.length co8] ?_; (with_reducible refine (tree_may.calls k a0 _ _ y258 t261 _ ?side1 ?side2 A3.out).mono ?_); (case side1 => repeat (first | exact (Kd.N_reads' HO260.out).2.2 | (with_reducible refine Kd.C_alloc ?_ _) | (with_reducible refine Kd.C_drewN ?_ _) | (with_reducible refine Kd.C_drew ?_))); (case side2 => exact (Kd.N_reads' HO260.out).2.1); rintro e w9 ⟨rfl, hb⟩; refine ⟨_, rfl, ?_⟩; have n0_ := A_ (Kd.V_below (nV_ HO1) hb); have n1_ := A_ (Kd.N_below (nN_ HO260) hb); have n2_ := A_ (below_step hb_ hb); clear HO1 HO260 HB; have HO1 := n0_; have HO260 := n1_; have HB := n2_; clear n0_ n1_ n2_; (try clear hb)))
  (try simp only [Act.put, List.setIfInBounds_toArray, List.set_cons_zero, List.set_cons_succ])
  have H := HC5.out
  clear HC5
  by_cases c10 : (l1.length : Int) = 0
  ·rw [if_pos c10] at H
   have c10b0 : ((l1.length : Int) == 0) = true := beq_iff_eq.mpr c10
   have c10b1 : ((l1.length : Int) != 0) = false := bne_eq_false_iff_eq.mpr c10
   clear c10
   (first | rw [c10b0] | rw [c10b1] | (simp only [i64_w, i32_w]; first | rw [c10b0] | rw [c10b1]) | skip)
   simp only [Option.some.injEq, Prod.mk.injEq] at H
   obtain ⟨rfl, rfl⟩ := H
   go_wp2
   go_ret2
   exact ⟨_, fr_, by first | exact Kd.R_nil _ _ _ _ _ | exact Kd.N_nil _ _ _ _ _ | exact Kd.V_nil _ _ _ _ _ | exact Kd.Q_nil _ _ _ _ _ | exact Kd.S_nil _ _ _ _ _, hb_⟩
  ·rw [if_neg c10] at H
   have c10b0 : ((l1.length : Int) == 0) = false := beq_eq_false_iff_ne.mpr c10
   have c10b1 : ((l1.length : Int) != 0) = true := bne_iff_ne.mpr c10
   have c10b2 : ¬ (l1 = []) := fun h_ => c10 (by rw [h_]; rfl)
   (first | rw [c10b0] | rw [c10b1] | (simp only [i64_w, i32_w]; first | rw [c10b0] | rw [c10b1]) | skip)
   replace H := Option.bind_eq_some_iff.mp H
   obtain ⟨⟨t262, t265⟩, A110, H⟩ := H
   replace H : (some (t262, t265)) = some (r1, r2) := H
   have A11 := Aside0.mk A110
   clear A110
   simp only [Option.some.injEq, Prod.mk.injEq] at H
   obtain ⟨rfl, rfl⟩ := H
   go_wp2_with (first | ((with_reducible refine gate_callee (f := 39) rfl ?_); refine goesM_ (some 21) Try.func39 #[.int .u8 a0, .slice A1 l1.length c1] ?_; (with_reducible refine (tree_grow.calls k a0 _ _ l1 t262 t265 _ ?side1 ?side2 A11.out).mono ?_); (case side1 => repeat (first | exact (Kd.V_reads' HO1.out).2.2 | (with_reducible refine Kd.C_alloc ?_ _) | (with_reducible refine Kd.C_drewN ?_ _) | (with_reducible refine Kd.C_drew ?_))); (case side2 => exact (Kd.V_reads' HO1.out).2.1); rintro e w12 ⟨v263, rfl, ho0, hb⟩; refine ⟨_, rfl, ?_⟩; have n0_ := A_ (Kd.V_elder' (nV_ HO1) (Kd.N_base ho0) hb); have n1_ := A_ (Kd.N_elder' (nN_ HO260) (Kd.N_base ho0) hb); have n2_ := A_ (Kd.N_lower (Kd.N_mono (ok' := fun k_ => (P1_ k_ ∨ w.heap.size ≤ k_) ∧ some k_ ≠ (.slice Ao8 y258.length co8 : Value).ownBlock) ho0 (fun k_ hk_ => ⟨(.inr (Nat.le_trans (below_size hb_) hk_)), (Kd.fresh' (Kd.N_lt (nN_ HO260)) k_ hk_)⟩)) (below_size hb_)); have n3_ := A_ (below_step hb_ hb); clear HO1 HO260 HB; have HO1 := n0_; have HO260 := n1_; have HO264 := n2_; have HB := n3_; clear n0_ n1_ n2_ n3_; (try clear hb); (try clear ho0)))
   go_ret2
   exact ⟨_, fr_, by (with_reducible repeat (first | apply Kd.N_alloc | apply Kd.N_drewN | apply Kd.N_drew)); exact Kd.N_mono HO264.out (fun _ hk => hk.1), hb_⟩
 ·rw [if_neg c4] at H
  have c4b0 : (t261 == 0) = false := beq_eq_false_iff_ne.mpr c4
  have c4b1 : (t261 != 0) = true := bne_iff_ne.mpr c4
  simp only [Option.some.injEq, Prod.mk.injEq] at H
  obtain ⟨rfl, rfl⟩ := H
  go_enter Try.func17, Try.ntmps17
  go_wp2_with (first | ((with_reducible refine gate_dst (N := 9) rfl ?_); (try (refine gate_guard (by rfl) ?_; dsimp only)); refine Kd.N_lit (Kd.slice 49 (Kd.int .u64)) _ 22 ?hg (N' := 9) ?hd (xs := ([l1] : List (List Int))) (inner := [.slice A1 l1.length c1]) (ok := (fun k_ => (P1_ k_ ∨ w.heap.size ≤ k_))) (okp := (fun k_ => (P1_ k_ ∨ w.heap.size ≤ k_))) ?hr ?hp (fun _ hk => hk) ((show ∀ k_, w.heap.size ≤ k_ → (fun k_ => (P1_ k_ ∨ w.heap.size ≤ k_)) k_ from fun k_ hk => (.inr (Nat.le_trans (below_size hb_) hk))) _ (Nat.le_refl _)) (Below.refl _ _) (Nat.le_refl _) (by simp) ?_; (case hd => rfl); (case hg => rfl); (case hr => first | (go_simp; done) | (go_simp; rfl)); (case hp => exact (Reps.one (show Kd.FK (Kd.slice 49 (Kd.int .u64)) _ _ l1 [.slice A1 l1.length c1] from (Kd.FK_slice_mk (Kd.V_reads' (Kd.V_mono (ok' := (fun k_ => (P1_ k_ ∨ w.heap.size ≤ k_))) (HO1.out) (fun k_ hk => hk))).2.1 (Kd.V_F (Kd.V_mono (ok' := (fun k_ => (P1_ k_ ∨ w.heap.size ≤ k_))) (HO1.out) (fun k_ hk => hk))))) (Reps.none _ _))); intro v259 w13 ho14 hb hg_ hnew_; clear hg_ hnew_; (first | rw [← Ny258.out] at ho14 | (simp only [Int.reduceToNat] at ho14; rw [← Ny258.out] at ho14)); have n0_ := A_ (Kd.V_elder' (nV_ HO1) (Kd.N_base ho14) hb); have n1_ := A_ (Kd.N_lower ho14 (below_size hb_)); have n2_ := A_ (below_step hb_ hb); clear HO1 HB; have HO1 := n0_; have HO260 := n1_; have HB := n2_; clear n0_ n1_ n2_; clear hb ho14; obtain ⟨Ao15, co15, eo15⟩ := Kd.N_slice HO260.out; subst eo15) | ((with_reducible refine gate_callee (f := 31) rfl ?_); refine goesM_ (some 10) Try.func31 #[.int .u8 a0, .slice Ao15 y258.length co15] ?_; (with_reducible refine (tree_may.calls k a0 _ _ y258 t261 _ ?side1 ?side2 A3.out).mono ?_); (case side1 => repeat (first | exact (Kd.N_reads' HO260.out).2.2 | (with_reducible refine Kd.C_alloc ?_ _) | (with_reducible refine Kd.C_drewN ?_ _) | (with_reducible refine Kd.C_drew ?_))); (case side2 => exact (Kd.N_reads' HO260.out).2.1); rintro e w16 ⟨rfl, hb⟩; refine ⟨_, rfl, ?_⟩; have n0_ := A_ (Kd.V_below (nV_ HO1) hb); have n1_ := A_ (Kd.N_below (nN_ HO260) hb); have n2_ := A_ (below_step hb_ hb); clear HO1 HO260 HB; have HO1 := n0_; have HO260 := n1_; have HB := n2_; clear n0_ n1_ n2_; (try clear hb)))
  go_ret2
  exact ⟨_, fr_, by first | exact Kd.R_nil _ _ _ _ _ | exact Kd.N_nil _ _ _ _ _ | exact Kd.V_nil _ _ _ _ _ | exact Kd.Q_nil _ _ _ _ _ | exact Kd.S_nil _ _ _ _ _, hb_⟩
/-! ### tree_Zero: function 15 -/
def tree_Zero.f (k : Nat) (a0 : Int) (l1 : List Int) : Option (List Int × Int) := (tree_Tree.f k a0 l1).bind fun bt266 => (if bt266.2 = 0 then (if (bt266.1.length : Int) = 0 then (some ((([1] : List Int)), 0)) else (if 0 ≤ (wrap64 ((bt266.1.length : Int) - 1)) then (if (wrap64 ((bt266.1.length : Int) - 1)) < (bt266.1.length : Int) then (if 0 < ((rd_L2 bt266.1 (wrap64 ((bt266.1.length : Int) - 1))).length : Int) then (some (rd_L1 (rd_L2 bt266.1 (wrap64 ((bt266.1.length : Int) - 1))) 0, 0)) else (none)) else (none)) else (none))) else (some (([] : List Int), bt266.2)))
theorem tree_Zero.mono : ∀ a0 a1 k, LeO (tree_Zero.f k a0 a1) (tree_Zero.f (k + 1) a0 a1) := by
 intro a0 a1 k
 unfold tree_Zero.f
 repeat' first
   | (with_reducible exact tree_Tree.mono _ _ _)
   | (with_reducible exact LeO.refl _)
   | (with_reducible exact LeO.none _)
   | (with_reducible refine LeO.ite ?_ ?_)
   | (with_reducible refine LeO.bind ?_ (fun _ => ?_))
   | exact tree_Tree.mono _ _ _
   | exact LeO.none _
   | refine LeO.ite ?_ ?_
   | refine LeO.bind ?_ (fun _ => ?_)
set_option maxHeartbeats 8000000 in
set_option maxRecDepth 100000 in
theorem tree_Zero.calls (k : Nat) (a0 : Int) (P1_ : Nat → Prop) (A1 : Option Addr) (c1 : Nat) (l1 : List Int) (r1 : List Int) (r2 : Int) (w : World) (hs1 : Kd.V (Kd.int .u64) 49 w w.heap.size (fun k_ => P1_ k_) (.slice A1 l1.length c1) l1) (h : tree_Zero.f k a0 l1 = some (r1, r2)) :
  Calls Try.prog 15 #[.int .u8 a0, .slice A1 l1.length c1] w fun e w' => ∃ v0_ : Value, e = .returned (.tuple #[v0_, .int .i64 r2]) ∧ Kd.V (Kd.int .u64) 49 w' w.heap.size (fun k_ => (P1_ k_ ∨ w.heap.size ≤ k_)) v0_ r1 ∧ Below w.heap.size w w' := by
 have HO1 := A_ (show Kd.V (Kd.int .u64) 49 w w.heap.size (fun k_ => (P1_ k_ ∨ w.heap.size ≤ k_)) (.slice A1 l1.length c1) l1 from Kd.V_mono hs1 (fun k_ hk => .inl hk))
 have HB := A_ (Below.refl w.heap.size w)
 have H : ((tree_Tree.f k a0 l1).bind fun bt266 => (if bt266.2 = 0 then (if (bt266.1.length : Int) = 0 then (some ((([1] : List Int)), 0)) else (if 0 ≤ (wrap64 ((bt266.1.length : Int) - 1)) then (if (wrap64 ((bt266.1.length : Int) - 1)) < (bt266.1.length : Int) then (if 0 < ((rd_L2 bt266.1 (wrap64 ((bt266.1.length : Int) - 1))).length : Int) then (some (rd_L1 (rd_L2 bt266.1 (wrap64 ((bt266.1.length : Int) - 1))) 0, 0)) else (none)) else (none)) else (none))) else (some (([] : List Int), bt266.2)))) = some (r1, r2) := h
 clear h
 replace H := Option.bind_eq_some_iff.mp H
 obtain ⟨⟨t266, t269⟩, A30, H⟩ := H
 (try dsimp only at H)
 have A3 := Aside0.mk A30
 clear A30
 have HC4 := Aside0.mk H
 clear H
 go_enter Try.func15, Try.ntmps15
 go_upto_if 14 with (first | ((with_reducible refine gate_callee (f := 17) rfl ?_); refine goesM_ (some 11) Try.func17 #[.int .u8 a0, .slice A1 l1.length c1] ?_; (with_reducible refine (tree_Tree.calls k a0 (fun k_ => (P1_ k_ ∨ w.heap.size ≤ k_)) _ _ l1 t266 t269 _ ?side1 A3.out).mono ?_); (case side1 => exact HO1.out); rintro e w5 ⟨v267, rfl, ho0, hb⟩; refine ⟨_, rfl, ?_⟩; have n0_ := A_ (Kd.V_elder' (nV_ HO1) (Kd.N_base ho0) hb); have n1_ := A_ (Kd.N_lower (Kd.N_mono (ok' := fun k_ => (P1_ k_ ∨ w.heap.size ≤ k_)) ho0 (fun k_ hk_ => Or.elim hk_ (fun hs_ => hs_) (fun hn_ => (.inr (Nat.le_trans (below_size hb_) hn_))))) (below_size hb_)); have n2_ := A_ (below_step hb_ hb); clear HO1 HB; have HO1 := n0_; have HO268 := n1_; have HB := n2_; clear n0_ n1_ n2_; (try clear hb); (try clear ho0)))
 (try simp only [Act.put, List.setIfInBounds_toArray, List.set_cons_zero, List.set_cons_succ])
 have H := HC4.out
 clear HC4
 by_cases c6 : t269 = 0
 ·rw [if_pos c6] at H
  have c6b0 : (t269 == 0) = true := beq_iff_eq.mpr c6
  have c6b1 : (t269 != 0) = false := bne_eq_false_iff_eq.mpr c6
  clear c6
  (first | rw [c6b0] | rw [c6b1] | (simp only [i64_w, i32_w]; first | rw [c6b0] | rw [c6b1]) | skip)
  by_cases c7 : (t266.length : Int) = 0
  ·rw [if_pos c7] at H
   have c7b0 : ((t266.length : Int) == 0) = true := beq_iff_eq.mpr c7
   have c7b1 : ((t266.length : Int) != 0) = false := bne_eq_false_iff_eq.mpr c7
   clear c7
   obtain ⟨y270, hy270⟩ : ∃ y_ : List Int, y_ = (([1] : List Int)) := ⟨_, rfl⟩
   replace H : (some (y270, 0)) = some (r1, r2) := by first | (rw [hy270]; with_reducible exact H) | (have H2_ := (Option.bind_some _ _).symm.trans H; rw [hy270]; with_reducible exact H2_) | (have H2_ := (Option.bind_some _ _).symm.trans H; with_reducible exact H2_) | with_reducible exact H | (rw [hy270]; exact H) | exact H
   have Ny270 := Aside0.mk hy270
   clear hy270
   simp only [Option.some.injEq, Prod.mk.injEq] at H
   obtain ⟨rfl, rfl⟩ := H
   obtain ⟨Ao8, co8, eo8⟩ := Kd.N_slice HO268.out
   subst eo8
   go_wp2_with (first | ((with_reducible refine gate_dst (N := 22) rfl ?_); refine Kd.R_lit (Kd.int .u64) _ 49 ?hg (N := 22) ?hd (xs := ([1] : List Int)) (inner := [.int .u64 1]) (ok := fun _ => True) (okp := fun _ => True) ?hr ?hp (fun _ hk => hk) trivial (Below.refl _ _) (Nat.le_refl _) (by simp) ?_; (case hd => rfl); (case hg => rfl); (case hr => first | (go_simp; done) | (go_simp; rfl)); (case hp => exact (Reps.one (show Kd.M (Kd.int .u64) _ _ _ 1 [.int .u64 1] from rfl) (Reps.none _ _))); intro v271 w9 ho10 hb hg_ hnew_; clear hg_ hnew_; (first | rw [← Ny270.out] at ho10 | (simp only [Int.reduceToNat] at ho10; rw [← Ny270.out] at ho10)); have n0_ := A_ (Kd.V_elder' (nV_ HO1) (Kd.R_base ho10) hb); have n1_ := A_ (Kd.N_elder' (nN_ HO268) (Kd.R_base ho10) hb); have n2_ := A_ (Kd.R_lower (Kd.R_newM (M := fun k_ => (w.heap.size ≤ k_)) ho10 (below_size hb_) (fun k_ h_ => h_)) (below_size hb_)); have n3_ := A_ (below_step hb_ hb); clear HO1 HO268 HB; have HO1 := n0_; have HO268 := n1_; have HO272 := n2_; have HB := n3_; clear n0_ n1_ n2_ n3_; clear hb ho10))
   go_ret2
   exact ⟨_, fr_, Kd.V_mono (Kd.R_V (by (with_reducible repeat (first | apply Kd.R_alloc | apply Kd.R_drewN | apply Kd.R_drew)); exact Kd.R_mono HO272.out (fun _ hk => hk.1))) (fun k_ hk => by first | exact ⟨(.inr (hk.1)), hk.2⟩ | exact (.inr (hk))), hb_⟩
  ·rw [if_neg c7] at H
   have c7b0 : ((t266.length : Int) == 0) = false := beq_eq_false_iff_ne.mpr c7
   have c7b1 : ((t266.length : Int) != 0) = true := bne_iff_ne.mpr c7
   have c7b2 : ¬ (t266 = []) := fun h_ => c7 (by rw [h_]; rfl)
   obtain ⟨ji11, hji11⟩ : ∃ j_ : Int, (wrap64 ((t266.length : Int) - 1)) = j_ := ⟨_, rfl⟩
   replace H : (if 0 ≤ (ji11) then (if (ji11) < (t266.length : Int) then (if 0 < ((rd_L2 t266 (ji11)).length : Int) then (some (rd_L1 (rd_L2 t266 (ji11)) 0, 0)) else (none)) else (none)) else (none)) = some (r1, r2) := by first | (rw [hji11] at H; exact H) | (simp only [hji11] at H ⊢; exact H)
   have hji11w : (IntKind.i64.wrap ((t266.length : Int) - 1)) = ji11 := (i64_w _).trans hji11
   by_cases c12 : 0 ≤ (ji11)
   ·rw [if_pos c12] at H
    have c12b0 : decide (0 ≤ (ji11)) = true := decide_eq_true c12
    clear c12
    by_cases c13 : (ji11) < (t266.length : Int)
    ·rw [if_pos c13] at H
     have c13b0 : decide ((ji11) < (t266.length : Int)) = true := decide_eq_true c13
     clear c13
     by_cases c14 : 0 < ((rd_L2 t266 (ji11)).length : Int)
     ·rw [if_pos c14] at H
      have c14b0 : decide (0 < ((rd_L2 t266 (ji11)).length : Int)) = true := decide_eq_true c14
      have c14b1 : decide (0 < (rd_L2 t266 (ji11)).length) = true := decide_eq_true (by omega)
      clear c14
      simp only [Option.some.injEq, Prod.mk.injEq] at H
      obtain ⟨rfl, rfl⟩ := H
      obtain ⟨Ao15, co15, eo15⟩ := Kd.N_slice HO268.out
      subst eo15
      have p273 : 0 ≤ ((ji11) : Int) := of_decide_eq_true (by first | (with_reducible assumption) | assumption)
      have q273 : (ji11) < (t266.length : Int) := of_decide_eq_true (by first | (with_reducible assumption) | assumption)
      obtain ⟨ad273, A273_0, c273_0, e273, hx273_0, hl273_0, hi273_0⟩ := at_L2 (Kd.N_reads' HO268.out).2.2 (ji11) p273 q273
      cases e273
      obtain ⟨ce273, hce273, hMe273, hcc273⟩ := Kd.N_get HO268.out [] (ji11) p273 (by first | exact q273 | exact of_decide_eq_true (by first | (with_reducible assumption) | assumption) | (have e_ := (Kd.N_reads' HO268.out).1; omega))
      obtain ⟨ua273_0, uc273_0, rfl, ul273_0, ge273_0⟩ := Kd.FK_slice_open hMe273
      have hv273_0 := hcc273 0 _ rfl
      rw [Nat.add_zero, show ((Kd.slice 22 (Kd.slice 49 (Kd.int .u64)))).sz = 1 from rfl, Nat.mul_one] at hv273_0
      replace hv273_0 := Option.some.inj (hv273_0.symm.trans hx273_0)
      injection hv273_0 with hva_ hvn_ hvc_
      rw [hva_] at ge273_0
      rw [hvc_] at ul273_0
      have HL273_0 := A_ (show Kd.V (Kd.slice 49 (Kd.int .u64)) 22 _ w.heap.size _ _ (rd_L2 t266 (ji11)) from Kd.V_mk ul273_0 ge273_0)
      clear hva_ hvn_ hvc_ ge273_0 ul273_0
      clear hcc273 hce273
      have HR273_0 := Aside0.mk hi273_0
      have HC273_0 := Aside0.mk hl273_0
      clear hi273_0 hl273_0
      replace p273 := eq_true p273
      replace q273 := eq_true q273
      have p274 : 0 ≤ (0 : Int) := (by omega)
      have q274 : 0 < ((rd_L2 t266 (ji11)).length : Int) := of_decide_eq_true (by first | (with_reducible assumption) | assumption)
      obtain ⟨ad274, A274_0, c274_0, e274, hx274_0, hl274_0, hi274_0⟩ := at_L1 (by repeat (first | (with_reducible exact HR273_0.out) | (with_reducible refine Kd.C_alloc ?_ _) | (with_reducible refine Kd.C_drewN ?_ _) | (with_reducible refine Kd.C_drew ?_) | exact HR273_0.out)) 0 p274 q274
      cases e274
      obtain ⟨ce274, hce274, hMe274, hcc274⟩ := Kd.V_get HL273_0.out [] 0 p274 (by first | exact q274 | exact of_decide_eq_true (by first | (with_reducible assumption) | assumption) | (have e_ := (Kd.V_reads' HL273_0.out).1; omega))
      obtain ⟨ua274_0, uc274_0, rfl, ul274_0, ge274_0⟩ := Kd.FK_slice_open hMe274
      have hv274_0 := hcc274 0 _ rfl
      rw [Nat.add_zero, show ((Kd.slice 49 (Kd.int .u64))).sz = 1 from rfl, Nat.mul_one] at hv274_0
      replace hv274_0 := Option.some.inj (hv274_0.symm.trans hx274_0)
      injection hv274_0 with hva_ hvn_ hvc_
      rw [hva_] at ge274_0
      rw [hvc_] at ul274_0
      have HL274_0 := A_ (show Kd.V (Kd.int .u64) 49 _ w.heap.size _ _ (rd_L1 (rd_L2 t266 (ji11)) 0) from Kd.V_mk ul274_0 ge274_0)
      clear hva_ hvn_ hvc_ ge274_0 ul274_0
      clear hcc274 hce274
      have qi274 : (0 < (rd_L2 t266 (ji11)).length) = True := eq_true (by omega)
      (try rw [show ((0 : Int)).toNat = 0 from rfl] at hx274_0)
      (try rw [Addr.add_zero'] at hx274_0)
      have HR274_0 := Aside0.mk hi274_0
      have HC274_0 := Aside0.mk hl274_0
      clear hi274_0 hl274_0
      replace p274 := eq_true p274
      replace q274 := eq_true q274
      go_wp2
      go_ret2
      exact ⟨_, by first | rfl | (simp [errW_none, errW_some] <;> rfl) | (simp only [← hji11]; first | rfl | (simp [errW_none, errW_some] <;> rfl)) | (simp [*, errW_none, errW_some] <;> rfl), by (with_reducible repeat (first | apply Kd.V_alloc | apply Kd.V_drewN | apply Kd.V_drew)); exact Kd.V_mono HL274_0.out (fun _ hk => hk.1), hb_⟩
     ·rw [if_neg c14] at H
      exact absurd H (by simp)
    ·rw [if_neg c13] at H
     exact absurd H (by simp)
   ·rw [if_neg c12] at H
    exact absurd H (by simp)
 ·rw [if_neg c6] at H
  have c6b0 : (t269 == 0) = false := beq_eq_false_iff_ne.mpr c6
  have c6b1 : (t269 != 0) = true := bne_iff_ne.mpr c6
  (first | rw [c6b0] | rw [c6b1] | (simp only [i64_w, i32_w]; first | rw [c6b0] | rw [c6b1]) | skip)
  simp only [Option.some.injEq, Prod.mk.injEq] at H
  obtain ⟨rfl, rfl⟩ := H
  go_wp2
  go_ret2
  exact ⟨_, fr_, (Kd.V_nil _ _ _ _ _), hb_⟩
/-! ### cr1_P: function 38 -/
def cr1_P.f (a0 : Int) : Option (Int) := if a0 = 1 then (some 2013265921) else (if a0 = 2 then (some 18446744069414584321) else (some 0))
set_option maxHeartbeats 8000000 in
set_option maxRecDepth 100000 in
theorem cr1_P.calls (a0 : Int) (r : Int) (w : World) (h : cr1_P.f a0 = some r) :
  Calls Try.prog 38 #[.int .u8 a0] w fun e w' => e = .returned (.int .u64 r) ∧ Drawn0 w w' := by
 have H : (if a0 = 1 then (some 2013265921) else (if a0 = 2 then (some 18446744069414584321) else (some 0))) = some r := h
 clear h
 by_cases c2 : a0 = 1
 ·rw [if_pos c2] at H
  have c2b0 : (a0 == 1) = true := beq_iff_eq.mpr c2
  have c2b1 : (a0 != 1) = false := bne_eq_false_iff_eq.mpr c2
  clear c2
  obtain rfl := Option.some.inj H
  go_enter Try.func38, Try.ntmps38
  go_wp2
  go_ret
  exact ⟨fs_, by repeat (first | exact Drawn0.refl _ | apply Drawn0.step)⟩
 ·rw [if_neg c2] at H
  have c2b0 : (a0 == 1) = false := beq_eq_false_iff_ne.mpr c2
  have c2b1 : (a0 != 1) = true := bne_iff_ne.mpr c2
  by_cases c3 : a0 = 2
  ·rw [if_pos c3] at H
   have c3b0 : (a0 == 2) = true := beq_iff_eq.mpr c3
   have c3b1 : (a0 != 2) = false := bne_eq_false_iff_eq.mpr c3
   clear c3
   obtain rfl := Option.some.inj H
   go_enter Try.func38, Try.ntmps38
   go_wp2
   go_ret
   exact ⟨fs_, by repeat (first | exact Drawn0.refl _ | apply Drawn0.step)⟩
  ·rw [if_neg c3] at H
   have c3b0 : (a0 == 2) = false := beq_eq_false_iff_ne.mpr c3
   have c3b1 : (a0 != 2) = true := bne_iff_ne.mpr c3
   obtain rfl := Option.some.inj H
   go_enter Try.func38, Try.ntmps38
   go_wp2
   go_ret
   exact ⟨fs_, by repeat (first | exact Drawn0.refl _ | apply Drawn0.step)⟩
/-! ### cr1_In: function 41 -/
def cr1_In.l0 : Nat → List Int → Int → Int → Option (Bool)
 | 0, _, _, _ => none
 | k + 1, x1, x5, x6 => if x6 < (x1.length : Int) then (if 0 ≤ x6 then (if (rd x1 x6) ≥ x5 then (some false) else (cr1_In.l0 k x1 x5 (wrap64 (x6 + 1)))) else (none)) else (some (x5 != 0))
def cr1_In.f (k : Nat) (a0 : Int) (l1 : List Int) : Option (Bool) := (cr1_P.f a0).bind fun t275 => (cr1_In.l0 k l1 t275 0)
theorem cr1_In.mono_l : ∀ k, (∀ y0 y1 y2, LeO (cr1_In.l0 k y0 y1 y2) (cr1_In.l0 (k + 1) y0 y1 y2))
 | 0 => fun _ _ _ r h => by simp [cr1_In.l0] at h
 | k + 1 => by
  have ih0 := cr1_In.mono_l k
  ·intro y0 y1 y2
   unfold cr1_In.l0
   repeat' first
   | (with_reducible exact ih0 _ _ _)
   | (with_reducible exact LeO.refl _)
   | (with_reducible exact LeO.none _)
   | (with_reducible refine LeO.ite ?_ ?_)
   | (with_reducible refine LeO.bind ?_ (fun _ => ?_))
   | exact ih0 _ _ _
   | exact LeO.none _
   | refine LeO.ite ?_ ?_
   | refine LeO.bind ?_ (fun _ => ?_)
theorem cr1_In.mono : ∀ a0 a1 k, LeO (cr1_In.f k a0 a1) (cr1_In.f (k + 1) a0 a1) := by
 intro a0 a1 k
 have ih0 := cr1_In.mono_l k
 unfold cr1_In.f
 repeat' first
   | (with_reducible exact ih0 _ _ _)
   | (with_reducible exact LeO.refl _)
   | (with_reducible exact LeO.none _)
   | (with_reducible refine LeO.ite ?_ ?_)
   | (with_reducible refine LeO.bind ?_ (fun _ => ?_))
   | exact ih0 _ _ _
   | exact LeO.none _
   | refine LeO.ite ?_ ?_
   | refine LeO.bind ?_ (fun _ => ?_)
set_option maxHeartbeats 8000000 in
set_option maxRecDepth 100000 in
theorem cr1_In.calls (k : Nat) (a0 : Int) (A1 : Option Addr) (c1 : Nat) (l1 : List Int) (r : Bool) (w : World) (hr1 : Kd.C (Kd.int .u64) w A1 l1.length l1) (hc1 : l1.length ≤ c1) (h : cr1_In.f k a0 l1 = some r) :
  Calls Try.prog 41 #[.int .u8 a0, .slice A1 l1.length c1] w fun e w' => e = .returned (.bool r) ∧ Drawn0 w w' := by
 have HR1 := Aside0.mk hr1
 have HC1 := Aside0.mk hc1
 clear hr1 hc1
 have H : ((cr1_P.f a0).bind fun t275 => (cr1_In.l0 k l1 t275 0)) = some r := h
 clear h
 replace H := Option.bind_eq_some_iff.mp H
 obtain ⟨t275, A30, H⟩ := H
 replace H : (cr1_In.l0 k l1 t275 0) = some r := H
 have A3 := Aside0.mk A30
 clear A30
 have H' := Aside0.mk H
 clear H
 go_enter Try.func41, Try.ntmps41
 go_wp2_with (first | ((with_reducible refine gate_callee (f := 38) rfl ?_); refine goesM_ (some 8) Try.func38 #[.int .u8 a0] ?_; (with_reducible refine (cr1_P.calls a0 t275 _ A3.out).mono ?_); rintro e w' ⟨rfl, ⟨nd, rfl⟩⟩; refine ⟨_, rfl, ?_⟩))
 go_loopg [6] k (fun kq v6 w' => ∃ (x6_1 : Int), v6 = .int .i64 x6_1 ∧ Aside0 (cr1_In.l0 kq l1 t275 x6_1 = some r) ∧ Aside0 (kq ≤ k) ∧ Drawn0 w w')
 case atStart => exact ⟨(0), (fs_), H', ⟨Nat.le_refl _⟩, by repeat (first | exact Drawn0.refl _ | apply Drawn0.step)⟩
 case round =>
  clear H'
  try clear c1
  try clear p2
  try clear c3
  obtain ⟨x6_1, rfl, HA, HK1, ⟨m1, rfl⟩⟩ := hrel
  cases gk with
  | zero => exact absurd HA.out (by simp [cr1_In.l0])
  | succ k1 =>
   have H := HA.out
   clear HA
   simp only [cr1_In.l0] at H
   by_cases c4 : x6_1 < (l1.length : Int)
   ·rw [if_pos c4] at H
    have c4b0 : decide (x6_1 < (l1.length : Int)) = true := decide_eq_true c4
    clear c4
    by_cases c5 : 0 ≤ x6_1
    ·rw [if_pos c5] at H
     have c5b0 : decide (0 ≤ x6_1) = true := decide_eq_true c5
     clear c5
     have HC6 := Aside0.mk H
     clear H
     have p276 : 0 ≤ (x6_1 : Int) := of_decide_eq_true (by first | (with_reducible assumption) | assumption)
     have q276 : x6_1 < (l1.length : Int) := of_decide_eq_true (by first | (with_reducible assumption) | assumption)
     obtain ⟨ad276, e276, hx276_0⟩ := Kd.at_int HR1.out x6_1 p276 q276
     cases e276
     replace p276 := eq_true p276
     replace q276 := eq_true q276
     go_upto_if 20 with (fail)
     have H := HC6.out
     clear HC6
     by_cases c7 : (rd l1 x6_1) ≥ t275
     ·rw [if_pos c7] at H
      have c7b0 : decide (t275 ≤ (rd l1 x6_1)) = true := decide_eq_true c7
      clear c7
      (first | rw [c7b0] | (simp only [i64_w, i32_w]; first | rw [c7b0]) | skip)
      obtain rfl := Option.some.inj H
      go_wp2
      go_ret
      exact ⟨fs_, by repeat (first | exact Drawn0.refl _ | apply Drawn0.step)⟩
     ·rw [if_neg c7] at H
      have c7b0 : decide (t275 ≤ (rd l1 x6_1)) = false := decide_eq_false c7
      clear c7
      (first | rw [c7b0] | (simp only [i64_w, i32_w]; first | rw [c7b0]) | skip)
      have H' := Aside0.mk H
      clear H
      go_wp2
      go_roundg k1
      case measure => have := HK1.out; omega
      case rel => exact ⟨(wrap64 (x6_1 + 1)), (fs_), H', ⟨by have := HK1.out; omega⟩, by repeat (first | exact Drawn0.refl _ | apply Drawn0.step)⟩
    ·rw [if_neg c5] at H
     exact absurd H (by simp)
   ·rw [if_neg c4] at H
    have c4b0 : decide (x6_1 < (l1.length : Int)) = false := decide_eq_false c4
    clear c4
    obtain rfl := Option.some.inj H
    go_wp2
    go_ret
    exact ⟨fs_, by repeat (first | exact Drawn0.refl _ | apply Drawn0.step)⟩
/-! ### cr3_Bad: function 22 -/
def cr3_Bad.j0 : Nat → List Int → List Int → Bool → Option (Int)
 | 0, _, _, _ => none
 | k + 1, x1, x2, x16 => if x16 = true then (some 2) else (if (x1.length : Int) > 4096 then (some 4) else (if (x2.length : Int) > 4096 then (some 4) else (some 0)))
def cr3_Bad.f (k : Nat) (a0 : Int) (l1 : List Int) (l2 : List Int) : Option (Int) := (cr1_In.f k a0 l1).bind fun t277 => (if t277 = true then ((cr1_In.f k a0 l2).bind fun t278 => (cr3_Bad.j0 k l1 l2 (!t278))) else (cr3_Bad.j0 k l1 l2 true))
theorem cr3_Bad.mono_l : ∀ k, (∀ y0 y1 y2, LeO (cr3_Bad.j0 k y0 y1 y2) (cr3_Bad.j0 (k + 1) y0 y1 y2))
 | 0 => fun _ _ _ r h => by simp [cr3_Bad.j0] at h
 | k + 1 => by
  have ih0 := cr3_Bad.mono_l k
  ·intro y0 y1 y2
   unfold cr3_Bad.j0
   repeat' first
   | (with_reducible exact ih0 _ _ _)
   | (with_reducible exact cr1_In.mono _ _ _)
   | (with_reducible exact LeO.refl _)
   | (with_reducible exact LeO.none _)
   | (with_reducible refine LeO.ite ?_ ?_)
   | (with_reducible refine LeO.bind ?_ (fun _ => ?_))
   | exact ih0 _ _ _
   | exact cr1_In.mono _ _ _
   | exact LeO.none _
   | refine LeO.ite ?_ ?_
   | refine LeO.bind ?_ (fun _ => ?_)
theorem cr3_Bad.mono : ∀ a0 a1 a2 k, LeO (cr3_Bad.f k a0 a1 a2) (cr3_Bad.f (k + 1) a0 a1 a2) := by
 intro a0 a1 a2 k
 have ih0 := cr3_Bad.mono_l k
 unfold cr3_Bad.f
 repeat' first
   | (with_reducible exact ih0 _ _ _)
   | (with_reducible exact cr1_In.mono _ _ _)
   | (with_reducible exact LeO.refl _)
   | (with_reducible exact LeO.none _)
   | (with_reducible refine LeO.ite ?_ ?_)
   | (with_reducible refine LeO.bind ?_ (fun _ => ?_))
   | exact ih0 _ _ _
   | exact cr1_In.mono _ _ _
   | exact LeO.none _
   | refine LeO.ite ?_ ?_
   | refine LeO.bind ?_ (fun _ => ?_)
set_option maxHeartbeats 8000000 in
set_option maxRecDepth 100000 in
theorem cr3_Bad.calls (k : Nat) (a0 : Int) (A1 : Option Addr) (c1 : Nat) (l1 : List Int) (A2 : Option Addr) (c2 : Nat) (l2 : List Int) (r : Int) (w : World) (hr1 : Kd.C (Kd.int .u64) w A1 l1.length l1) (hc1 : l1.length ≤ c1) (hr2 : Kd.C (Kd.int .u64) w A2 l2.length l2) (hc2 : l2.length ≤ c2) (h : cr3_Bad.f k a0 l1 l2 = some r) :
  Calls Try.prog 22 #[.int .u8 a0, .slice A1 l1.length c1, .slice A2 l2.length c2] w fun e w' => e = .returned (.int .i64 r) ∧ Drawn0 w w' := by
 have HR1 := Aside0.mk hr1
 have HC1 := Aside0.mk hc1
 clear hr1 hc1
 have HR2 := Aside0.mk hr2
 have HC2 := Aside0.mk hc2
 clear hr2 hc2
 have H : ((cr1_In.f k a0 l1).bind fun t277 => (if t277 = true then ((cr1_In.f k a0 l2).bind fun t278 => (cr3_Bad.j0 k l1 l2 (!t278))) else (cr3_Bad.j0 k l1 l2 true))) = some r := h
 clear h
 have HC4 := Aside0.mk H
 clear H
 go_enter Try.func22, Try.ntmps22
 go_upto_region 1 with (fail)
 go_cut [16] (fun v16 wc => ∃ (kq : Nat) (x16_3 : Bool), v16 = .bool x16_3 ∧ Aside0 (cr3_Bad.j0 kq l1 l2 x16_3 = some r) ∧ Aside0 (kq ≤ k) ∧ Drawn0 w wc)
 case first =>
  have H := HC4.out
  clear HC4
  replace H := Option.bind_eq_some_iff.mp H
  obtain ⟨t277, A50, H⟩ := H
  replace H : (if t277 = true then ((cr1_In.f k a0 l2).bind fun t278 => (cr3_Bad.j0 k l1 l2 (!t278))) else (cr3_Bad.j0 k l1 l2 true)) = some r := H
  have A5 := Aside0.mk A50
  clear A50
  by_cases c6 : t277 = true
  ·subst c6
   have H1 : ((cr1_In.f k a0 l2).bind fun t278 => (cr3_Bad.j0 k l1 l2 (!t278))) = some r := by rw [if_pos rfl] at H; exact H
   clear H
   have H := H1
   clear H1
   replace H := Option.bind_eq_some_iff.mp H
   obtain ⟨t278, A70, H⟩ := H
   replace H : (cr3_Bad.j0 k l1 l2 (!t278)) = some r := H
   have A7 := Aside0.mk A70
   clear A70
   have H' := Aside0.mk H
   clear H
   go_wp2_with (first | ((with_reducible refine gate_callee (f := 41) rfl ?_); refine goesM_ (some 9) Try.func41 #[.int .u8 a0, .slice A1 l1.length c1] ?_; (with_reducible refine (cr1_In.calls k a0 _ _ l1 true _ ?side1 ?side2 A5.out).mono ?_); (case side1 => exact nC_ HR1.out); (case side2 => exact HC1.out); rintro e w' ⟨rfl, ⟨nd, rfl⟩⟩; refine ⟨_, rfl, ?_⟩) | (go_at_call 41; (with_reducible refine (cr1_In.calls k a0 _ _ l2 t278 _ ?side1 ?side2 A7.out).mono ?_); (case side1 => exact nC_ HR2.out); (case side2 => exact HC2.out); rintro e w' ⟨rfl, ⟨nd, rfl⟩⟩))
   go_meet
   case rel => exact ⟨_, (!t278), (fs_), H', ⟨fo_⟩, by repeat (first | exact Drawn0.refl _ | apply Drawn0.step)⟩
  ·replace c6 := Bool.eq_false_iff.mpr c6
   subst c6
   have H1 : (cr3_Bad.j0 k l1 l2 true) = some r := by rw [if_neg (show ¬ (false = true) by decide)] at H; exact H
   clear H
   have H := H1
   clear H1
   have H' := Aside0.mk H
   clear H
   go_wp2_with (first | ((with_reducible refine gate_callee (f := 41) rfl ?_); refine goesM_ (some 9) Try.func41 #[.int .u8 a0, .slice A1 l1.length c1] ?_; (with_reducible refine (cr1_In.calls k a0 _ _ l1 false _ ?side1 ?side2 A5.out).mono ?_); (case side1 => exact nC_ HR1.out); (case side2 => exact HC1.out); rintro e w' ⟨rfl, ⟨nd, rfl⟩⟩; refine ⟨_, rfl, ?_⟩))
   go_meet
   case rel => exact ⟨_, (true), (fs_), H', ⟨fo_⟩, by repeat (first | exact Drawn0.refl _ | apply Drawn0.step)⟩
 case rest =>
  clear HC4
  try clear c1
  try clear c2
  try clear p2
  try clear c4
  try clear c6
  obtain ⟨kq, x16_3, rfl, HA, HJ3, ⟨mc3, rfl⟩⟩ := hcut
  cases kq with
  | zero => exact absurd HA.out (by simp [cr3_Bad.j0])
  | succ kj3 =>
   have H := HA.out
   clear HA
   simp only [cr3_Bad.j0] at H
   by_cases c8 : x16_3 = true
   ·subst c8
    have H1 : (some 2) = some r := by rw [if_pos rfl] at H; exact H
    clear H
    have H := H1
    clear H1
    obtain rfl := Option.some.inj H
    go_wp2
    go_ret
    exact ⟨fs_, by repeat (first | exact Drawn0.refl _ | apply Drawn0.step)⟩
   ·replace c8 := Bool.eq_false_iff.mpr c8
    subst c8
    have H1 : (if (l1.length : Int) > 4096 then (some 4) else (if (l2.length : Int) > 4096 then (some 4) else (some 0))) = some r := by rw [if_neg (show ¬ (false = true) by decide)] at H; exact H
    clear H
    have H := H1
    clear H1
    by_cases c9 : (l1.length : Int) > 4096
    ·rw [if_pos c9] at H
     have c9b0 : decide (4096 < (l1.length : Int)) = true := decide_eq_true c9
     have c9b1 : decide (4096 < l1.length) = true := decide_eq_true (by omega)
     clear c9
     obtain rfl := Option.some.inj H
     go_wp2
     go_ret
     exact ⟨fs_, by repeat (first | exact Drawn0.refl _ | apply Drawn0.step)⟩
    ·rw [if_neg c9] at H
     have c9b0 : decide (4096 < (l1.length : Int)) = false := decide_eq_false c9
     have c9b1 : decide (4096 < l1.length) = false := decide_eq_false (by omega)
     clear c9
     by_cases c10 : (l2.length : Int) > 4096
     ·rw [if_pos c10] at H
      have c10b0 : decide (4096 < (l2.length : Int)) = true := decide_eq_true c10
      have c10b1 : decide (4096 < l2.length) = true := decide_eq_true (by omega)
      clear c10
      obtain rfl := Option.some.inj H
      go_wp2
      go_ret
      exact ⟨fs_, by repeat (first | exact Drawn0.refl _ | apply Drawn0.step)⟩
     ·rw [if_neg c10] at H
      have c10b0 : decide (4096 < (l2.length : Int)) = false := decide_eq_false c10
      have c10b1 : decide (4096 < l2.length) = false := decide_eq_false (by omega)
      clear c10
      obtain rfl := Option.some.inj H
      go_wp2
      go_ret
      exact ⟨fs_, by repeat (first | exact Drawn0.refl _ | apply Drawn0.step)⟩
/-! ### cr1_Copy: function 28 -/
def cr1_Copy.f (l0 : List Int) : Option (List Int) := (some (([] : List Int) : List Int)).bind fun y279 => (if y279.length + l0.length < 17592186044416 then (some (y279 ++ l0)) else (none))
set_option maxHeartbeats 8000000 in
set_option maxRecDepth 100000 in
theorem cr1_Copy.calls (A0 : Option Addr) (c0 : Nat) (l0 : List Int) (r : List Int) (w : World) (hr0 : Kd.C (Kd.int .u64) w A0 l0.length l0) (hc0 : l0.length ≤ c0) (h : cr1_Copy.f l0 = some r) :
  Calls Try.prog 28 #[.slice A0 l0.length c0] w fun e w' => ∃ v0_ : Value, e = .returned (v0_) ∧ Kd.R (Kd.int .u64) 49 w' w.heap.size (fun _ => True) v0_ r ∧ Below w.heap.size w w' := by
 have HR0 := Aside0.mk hr0
 have HC0 := Aside0.mk hc0
 clear hr0 hc0
 have HB := A_ (Below.refl w.heap.size w)
 have H : ((some (([] : List Int) : List Int)).bind fun y279 => (if y279.length + l0.length < 17592186044416 then (some (y279 ++ l0)) else (none))) = some r := h
 clear h
 obtain ⟨y279, hy279⟩ : ∃ y_ : List Int, y_ = (([] : List Int)) := ⟨_, rfl⟩
 replace H : (if y279.length + l0.length < 17592186044416 then (some (y279 ++ l0)) else (none)) = some r := by first | (rw [hy279]; with_reducible exact H) | (have H2_ := (Option.bind_some _ _).symm.trans H; rw [hy279]; with_reducible exact H2_) | (have H2_ := (Option.bind_some _ _).symm.trans H; with_reducible exact H2_) | with_reducible exact H | (rw [hy279]; exact H) | exact H
 have Ny279 := Aside0.mk hy279
 clear hy279
 by_cases c2 : y279.length + l0.length < 17592186044416
 ·rw [if_pos c2] at H
  have LMc2 := Aside0.mk c2
  clear c2
  obtain ⟨y282, hy282⟩ : ∃ y_ : List Int, y_ = (y279 ++ l0) := ⟨_, rfl⟩
  replace H : (some y282) = some r := by first | (rw [hy282]; with_reducible exact H) | (have H2_ := (Option.bind_some _ _).symm.trans H; rw [hy282]; with_reducible exact H2_) | (have H2_ := (Option.bind_some _ _).symm.trans H; with_reducible exact H2_) | with_reducible exact H | (rw [hy282]; exact H) | exact H
  have Ny282 := Aside0.mk hy282
  clear hy282
  obtain rfl := Option.some.inj H
  go_enter Try.func28, Try.ntmps28
  go_wp2_with (first | ((with_reducible refine gate_dst (N := 3) rfl ?_); refine Kd.R_lit (Kd.int .u64) _ 49 ?hg (N := 3) ?hd (xs := ([] : List Int)) (inner := []) (ok := fun _ => True) (okp := fun _ => True) ?hr ?hp (fun _ hk => hk) trivial (Below.refl _ _) (Nat.le_refl _) (by simp) ?_; (case hd => rfl); (case hg => rfl); (case hr => first | (go_simp; done) | (go_simp; rfl)); (case hp => exact (Reps.none _ _)); intro v280 w3 ho4 hb hg_ hnew_; clear hg_ hnew_; (first | rw [← Ny279.out] at ho4 | (simp only [Int.reduceToNat] at ho4; rw [← Ny279.out] at ho4)); have n0_ := A_ (Kd.R_lower ho4 (below_size hb_)); have n1_ := A_ (below_step hb_ hb); clear HB; have HO281 := n0_; have HB := n1_; clear n0_ n1_; clear hb ho4) | ((with_reducible refine gate_builtin (b := .append) (xs := #[.tmp 3, .tmp 4]) rfl ?_); at_builtin; refine Kd.R_append_rows (Kd.int .u64) (w0 := w) w.heap.size rfl (.tmp 3) (.tmp 4) 22 49 (.int .u64 0) 8 rfl Try.underlying22 info49 rfl (by decide) (by omega) v280 y279 l0 _ _ _ (fun _ => True) (fun _ => False) rfl rfl ?aO ?aR (fun _ _ h => h) (fun _ h => h.elim) ?aF ?aB ?aS ?aL ?_; (case aR => repeat (first | exact (Kd.C_below HR0.out HB.out) | (with_reducible refine Kd.C_alloc ?_ _) | (with_reducible refine Kd.C_drewN ?_ _) | (with_reducible refine Kd.C_drew ?_))); (case aB => exact hb_); (case aF => exact (fun _ _ => trivial)); (case aO => exact (nR_ HO281)); (case aS => exact (below_size hb_)); (case aL => have := LMc2.out; omega); intro v283 w5 ho hb hg hat; rw [← Ny282.out] at ho; have n0_ := A_ (hb); have n1_ := A_ (ho); clear HB HO281; have HB := n0_; have HO284 := n1_; clear n0_ n1_; clear ho hb hg hat))
  go_ret
  exact ⟨_, fr_, nR_ HO284, hb_⟩
 ·rw [if_neg c2] at H
  exact absurd H (by simp)
/-! ### cr3_Trim: function 27 -/
def cr3_Trim.l0 : Nat → List Int → Int → Option (List Int)
 | 0, _, _ => none
 | k + 1, x0, x3 => if x3 > 0 then (if 0 ≤ (wrap64 (x3 - 1)) then (if (wrap64 (x3 - 1)) < (x0.length : Int) then (if (rd x0 (wrap64 (x3 - 1))) = 0 then (cr3_Trim.l0 k x0 (wrap64 (x3 - 1))) else (if 0 ≤ x3 then (if x3 ≤ (x0.length : Int) then ((cr1_Copy.f (x0.take (x3 : Int).toNat)).bind fun t287 => (some t287)) else (none)) else (none))) else (none)) else (none)) else (if 0 ≤ x3 then (if x3 ≤ (x0.length : Int) then ((cr1_Copy.f (x0.take (x3 : Int).toNat)).bind fun t291 => (some t291)) else (none)) else (none))
def cr3_Trim.f (k : Nat) (l0 : List Int) : Option (List Int) := cr3_Trim.l0 k l0 (l0.length : Int)
theorem cr3_Trim.mono_l : ∀ k, (∀ y0 y1, LeO (cr3_Trim.l0 k y0 y1) (cr3_Trim.l0 (k + 1) y0 y1))
 | 0 => fun _ _ r h => by simp [cr3_Trim.l0] at h
 | k + 1 => by
  have ih0 := cr3_Trim.mono_l k
  ·intro y0 y1
   unfold cr3_Trim.l0
   repeat' first
   | (with_reducible exact ih0 _ _)
   | (with_reducible exact LeO.refl _)
   | (with_reducible exact LeO.none _)
   | (with_reducible refine LeO.ite ?_ ?_)
   | (with_reducible refine LeO.bind ?_ (fun _ => ?_))
   | exact ih0 _ _
   | exact LeO.none _
   | refine LeO.ite ?_ ?_
   | refine LeO.bind ?_ (fun _ => ?_)
theorem cr3_Trim.mono : ∀ a0 k, LeO (cr3_Trim.f k a0) (cr3_Trim.f (k + 1) a0) := by
 intro a0 k
 have ih0 := cr3_Trim.mono_l k
 unfold cr3_Trim.f
 repeat' first
   | (with_reducible exact ih0 _ _)
   | (with_reducible exact LeO.refl _)
   | (with_reducible exact LeO.none _)
   | (with_reducible refine LeO.ite ?_ ?_)
   | (with_reducible refine LeO.bind ?_ (fun _ => ?_))
   | exact ih0 _ _
   | exact LeO.none _
   | refine LeO.ite ?_ ?_
   | refine LeO.bind ?_ (fun _ => ?_)
set_option maxHeartbeats 8000000 in
set_option maxRecDepth 100000 in
theorem cr3_Trim.calls (k : Nat) (A0 : Option Addr) (c0 : Nat) (l0 : List Int) (r : List Int) (w : World) (hr0 : Kd.C (Kd.int .u64) w A0 l0.length l0) (hc0 : l0.length ≤ c0) (h : cr3_Trim.f k l0 = some r) :
  Calls Try.prog 27 #[.slice A0 l0.length c0] w fun e w' => ∃ v0_ : Value, e = .returned (v0_) ∧ Kd.R (Kd.int .u64) 49 w' w.heap.size (fun _ => True) v0_ r ∧ Below w.heap.size w w' := by
 have HR0 := Aside0.mk hr0
 have HC0 := Aside0.mk hc0
 clear hr0 hc0
 have HB := A_ (Below.refl w.heap.size w)
 have H : (cr3_Trim.l0 k l0 (l0.length : Int)) = some r := h
 clear h
 have H' := Aside0.mk H
 clear H
 go_enter Try.func27, Try.ntmps27
 go_wp2
 go_loopg [3] k (fun kq v3 w' => ∃ (x3_1 : Int), v3 = .int .i64 x3_1 ∧ Aside0 (cr3_Trim.l0 kq l0 x3_1 = some r) ∧ Aside0 (kq ≤ k) ∧ Aside0 (Below w.heap.size w w'))
 case atStart => exact ⟨((l0.length : Int)), (fs_), H', ⟨Nat.le_refl _⟩, ⟨by repeat (first | (with_reducible first | exact HB.out | apply below_alloc | apply pw_below_drewN | apply below_drew1) | exact HB.out)⟩⟩
 case round =>
  clear H'
  obtain ⟨x3_1, rfl, HA, HK1, HB⟩ := hrel
  cases gk with
  | zero => exact absurd HA.out (by simp [cr3_Trim.l0])
  | succ k1 =>
   have H := HA.out
   clear HA
   simp only [cr3_Trim.l0] at H
   by_cases c2 : x3_1 > 0
   ·rw [if_pos c2] at H
    have c2b0 : decide (0 < x3_1) = true := decide_eq_true c2
    clear c2
    obtain ⟨ji3, hji3⟩ : ∃ j_ : Int, (wrap64 (x3_1 - 1)) = j_ := ⟨_, rfl⟩
    replace H : (if 0 ≤ (ji3) then (if (ji3) < (l0.length : Int) then (if (rd l0 (ji3)) = 0 then (cr3_Trim.l0 k1 l0 ji3) else (if 0 ≤ x3_1 then (if x3_1 ≤ (l0.length : Int) then ((cr1_Copy.f (l0.take (x3_1 : Int).toNat)).bind fun t287 => (some t287)) else (none)) else (none))) else (none)) else (none)) = some r := by first | (rw [hji3] at H; exact H) | (simp only [hji3] at H ⊢; exact H)
    have hji3w : (IntKind.i64.wrap (x3_1 - 1)) = ji3 := (i64_w _).trans hji3
    by_cases c4 : 0 ≤ (ji3)
    ·rw [if_pos c4] at H
     have c4b0 : decide (0 ≤ (ji3)) = true := decide_eq_true c4
     clear c4
     by_cases c5 : (ji3) < (l0.length : Int)
     ·rw [if_pos c5] at H
      have c5b0 : decide ((ji3) < (l0.length : Int)) = true := decide_eq_true c5
      clear c5
      have HC6 := Aside0.mk H
      clear H
      have p285 : 0 ≤ ((ji3) : Int) := of_decide_eq_true (by first | (with_reducible assumption) | assumption)
      have q285 : (ji3) < (l0.length : Int) := of_decide_eq_true (by first | (with_reducible assumption) | assumption)
      obtain ⟨ad285, e285, hx285_0⟩ := Kd.at_int HR0.out (ji3) p285 q285
      cases e285
      replace hx285_0 := (HB.out.cell (World.block_lt_of_cell? w _ hx285_0)).trans hx285_0
      replace p285 := eq_true p285
      replace q285 := eq_true q285
      go_upto_if 15 with (fail)
      have H := HC6.out
      clear HC6
      by_cases c7 : (rd l0 (ji3)) = 0
      ·rw [if_pos c7] at H
       have c7b0 : ((rd l0 (ji3)) == 0) = true := beq_iff_eq.mpr c7
       have c7b1 : ((rd l0 (ji3)) != 0) = false := bne_eq_false_iff_eq.mpr c7
       clear c7
       (first | rw [c7b0] | rw [c7b1] | (simp only [i64_w, i32_w]; first | rw [c7b0] | rw [c7b1]) | skip)
       have H' := Aside0.mk H
       clear H
       go_wp2
       go_roundg k1
       case measure => have := HK1.out; omega
       case rel => exact ⟨(ji3), (by first | rfl | (simp; done) | (simp only [← hji3] <;> (first | rfl | simp)) | (simp [*]; done)), H', ⟨by have := HK1.out; omega⟩, ⟨by repeat (first | (with_reducible first | exact HB.out | apply below_alloc | apply pw_below_drewN | apply below_drew1) | exact HB.out)⟩⟩
      ·rw [if_neg c7] at H
       have c7b0 : ((rd l0 (ji3)) == 0) = false := beq_eq_false_iff_ne.mpr c7
       have c7b1 : ((rd l0 (ji3)) != 0) = true := bne_iff_ne.mpr c7
       (first | rw [c7b0] | rw [c7b1] | (simp only [i64_w, i32_w]; first | rw [c7b0] | rw [c7b1]) | skip)
       by_cases c8 : 0 ≤ x3_1
       ·rw [if_pos c8] at H
        have c8b0 := eq_true c8
        have c8b1 : decide (0 ≤ x3_1) = true := decide_eq_true c8
        clear c8
        by_cases c9 : x3_1 ≤ (l0.length : Int)
        ·rw [if_pos c9] at H
         have c9b0 := eq_true c9
         have c9b1 : decide (x3_1 ≤ (l0.length : Int)) = true := decide_eq_true c9
         clear c9
         replace H := Option.bind_eq_some_iff.mp H
         obtain ⟨t287, A100, H⟩ := H
         replace H : (some t287) = some r := H
         have A10 := Aside0.mk A100
         clear A100
         obtain rfl := Option.some.inj H
         obtain ⟨i011, hi011, _, hsz11, _⟩ := info_parts info49
         obtain ⟨hcut11, hA11, hC11⟩ := print_take_of (P := Try.prog) (Value.int .u64) 0 22 49 .i64 Try.underlying22 hi011 hsz11 (some ad285) c0 l0 x3_1 (of_decide_eq_true (by first | (with_reducible assumption) | assumption)) (of_decide_eq_true (by first | (with_reducible assumption) | assumption)) HC0.out
         have HR286 := A_ (Kd.C_of_reads (h1 := fun _ => rfl) (hA11 _ (Kd.reads_of_C HR0.out)))
         have HC286 := Aside0.mk hC11
         clear hA11 hC11 hi011 hsz11
         go_wp2_with (first | ((with_reducible refine gate_callee (f := 28) rfl ?_); refine goesL_ (some 21) rfl rfl Try.func28 (by kernel_rfl) rfl #[.slice (some ad285) (l0.take (x3_1 : Int).toNat).length c0] rfl (by (try simp only [List.map_toArray, List.map_cons, List.map_nil]); first | done | (rw [show (l0.take (x3_1 : Int).toNat).length = x3_1.toNat from (by rw [List.length_take]; have h_ : (x3_1 : Int) ≤ (l0.length : Int) := of_decide_eq_true (by first | (with_reducible assumption) | assumption); omega)] <;> rfl) | rfl | (simp only [List.length_drop, List.length_take]; rfl)) ?_; (with_reducible refine (cr1_Copy.calls _ _ (l0.take (x3_1 : Int).toNat) t287 _ ?side1 ?side2 A10.out).mono ?_); (case side1 => repeat (first | exact (Kd.C_below HR286.out HB.out) | (with_reducible refine Kd.C_alloc ?_ _) | (with_reducible refine Kd.C_drewN ?_ _) | (with_reducible refine Kd.C_drew ?_))); (case side2 => exact HC286.out); rintro e w12 ⟨v288, rfl, ho0, hb⟩; refine ⟨_, rfl, ?_⟩; have n0_ := A_ (Kd.R_lower ho0 (below_size hb_)); have n1_ := A_ (below_step hb_ hb); clear HB; have HO289 := n0_; have HB := n1_; clear n0_ n1_; (try clear hb); (try clear ho0)))
         go_ret
         exact ⟨_, by first | rfl | (simp [errW_none, errW_some] <;> rfl) | (simp only [← hji3]; first | rfl | (simp [errW_none, errW_some] <;> rfl)) | (simp [*, errW_none, errW_some] <;> rfl), nR_ HO289, hb_⟩
        ·rw [if_neg c9] at H
         exact absurd H (by simp)
       ·rw [if_neg c8] at H
        exact absurd H (by simp)
     ·rw [if_neg c5] at H
      exact absurd H (by simp)
    ·rw [if_neg c4] at H
     exact absurd H (by simp)
   ·rw [if_neg c2] at H
    have c2b0 : decide (0 < x3_1) = false := decide_eq_false c2
    clear c2
    by_cases c13 : 0 ≤ x3_1
    ·rw [if_pos c13] at H
     have c13b0 := eq_true c13
     have c13b1 : decide (0 ≤ x3_1) = true := decide_eq_true c13
     clear c13
     by_cases c14 : x3_1 ≤ (l0.length : Int)
     ·rw [if_pos c14] at H
      have c14b0 := eq_true c14
      have c14b1 : decide (x3_1 ≤ (l0.length : Int)) = true := decide_eq_true c14
      clear c14
      replace H := Option.bind_eq_some_iff.mp H
      obtain ⟨t291, A150, H⟩ := H
      replace H : (some t291) = some r := H
      have A15 := Aside0.mk A150
      clear A150
      obtain rfl := Option.some.inj H
      obtain ⟨i016, hi016, _, hsz16, _⟩ := info_parts info49
      obtain ⟨hcut16, hA16, hC16⟩ := print_take_of (P := Try.prog) (Value.int .u64) 0 22 49 .i64 Try.underlying22 hi016 hsz16 A0 c0 l0 x3_1 (of_decide_eq_true (by first | (with_reducible assumption) | assumption)) (of_decide_eq_true (by first | (with_reducible assumption) | assumption)) HC0.out
      have HR290 := A_ (Kd.C_of_reads (h1 := fun _ => rfl) (hA16 _ (Kd.reads_of_C HR0.out)))
      have HC290 := Aside0.mk hC16
      clear hA16 hC16 hi016 hsz16
      go_wp2_with (first | ((with_reducible refine gate_callee (f := 28) rfl ?_); refine goesL_ (some 21) rfl rfl Try.func28 (by kernel_rfl) rfl #[.slice A0 (l0.take (x3_1 : Int).toNat).length c0] rfl (by (try simp only [List.map_toArray, List.map_cons, List.map_nil]); first | done | (rw [show (l0.take (x3_1 : Int).toNat).length = x3_1.toNat from (by rw [List.length_take]; have h_ : (x3_1 : Int) ≤ (l0.length : Int) := of_decide_eq_true (by first | (with_reducible assumption) | assumption); omega)] <;> rfl) | rfl | (simp only [List.length_drop, List.length_take]; rfl)) ?_; (with_reducible refine (cr1_Copy.calls _ _ (l0.take (x3_1 : Int).toNat) t291 _ ?side1 ?side2 A15.out).mono ?_); (case side1 => repeat (first | exact (Kd.C_below HR290.out HB.out) | (with_reducible refine Kd.C_alloc ?_ _) | (with_reducible refine Kd.C_drewN ?_ _) | (with_reducible refine Kd.C_drew ?_))); (case side2 => exact HC290.out); rintro e w17 ⟨v292, rfl, ho0, hb⟩; refine ⟨_, rfl, ?_⟩; have n0_ := A_ (Kd.R_lower ho0 (below_size hb_)); have n1_ := A_ (below_step hb_ hb); clear HB; have HO293 := n0_; have HB := n1_; clear n0_ n1_; (try clear hb); (try clear ho0)))
      go_ret
      exact ⟨_, fr_, nR_ HO293, hb_⟩
     ·rw [if_neg c14] at H
      exact absurd H (by simp)
    ·rw [if_neg c13] at H
     exact absurd H (by simp)
/-! ### cr1_Sum: function 42 -/
def cr1_Sum.f (a0 : Int) (a1 : Int) (a2 : Int) : Option (Int) := if a1 ≥ (IntKind.u64.wrap (a0 - a2)) then (some (IntKind.u64.wrap (a1 - (IntKind.u64.wrap (a0 - a2))))) else (some (IntKind.u64.wrap (a1 + a2)))
set_option maxHeartbeats 8000000 in
set_option maxRecDepth 100000 in
theorem cr1_Sum.calls (a0 : Int) (a1 : Int) (a2 : Int) (r : Int) (w : World) (h : cr1_Sum.f a0 a1 a2 = some r) :
  Calls Try.prog 42 #[.int .u64 a0, .int .u64 a1, .int .u64 a2] w fun e w' => e = .returned (.int .u64 r) ∧ Drawn0 w w' := by
 have H : (if a1 ≥ (IntKind.u64.wrap (a0 - a2)) then (some (IntKind.u64.wrap (a1 - (IntKind.u64.wrap (a0 - a2))))) else (some (IntKind.u64.wrap (a1 + a2)))) = some r := h
 clear h
 by_cases c4 : a1 ≥ (IntKind.u64.wrap (a0 - a2))
 ·rw [if_pos c4] at H
  have c4b0 : decide ((IntKind.u64.wrap (a0 - a2)) ≤ a1) = true := decide_eq_true c4
  clear c4
  obtain rfl := Option.some.inj H
  go_enter Try.func42, Try.ntmps42
  go_wp2
  go_ret
  exact ⟨fs_, by repeat (first | exact Drawn0.refl _ | apply Drawn0.step)⟩
 ·rw [if_neg c4] at H
  have c4b0 : decide ((IntKind.u64.wrap (a0 - a2)) ≤ a1) = false := decide_eq_false c4
  clear c4
  obtain rfl := Option.some.inj H
  go_enter Try.func42, Try.ntmps42
  go_wp2
  go_ret
  exact ⟨fs_, by repeat (first | exact Drawn0.refl _ | apply Drawn0.step)⟩
/-! ### cr1_Times: function 37 -/
def cr1_Times.l0 : Nat → Int → Int → Int → Int → Int → Option (Int)
 | 0, _, _, _, _, _ => none
 | k + 1, x0, x1, x2, x7, x8 => if x8 ≥ 0 then ((cr1_Sum.f x0 x7 x7).bind fun t294 => (if 0 ≤ (IntKind.u64.wrap (x8)) then (if (Go.bits .and .u64 (shr .u64 x2 (IntKind.u64.wrap (x8))) 1) = 1 then ((cr1_Sum.f x0 t294 x1).bind fun t295 => (cr1_Times.l0 k x0 x1 x2 t295 (wrap64 (x8 - 1)))) else (cr1_Times.l0 k x0 x1 x2 t294 (wrap64 (x8 - 1)))) else (none))) else (some x7)
def cr1_Times.f (k : Nat) (a0 : Int) (a1 : Int) (a2 : Int) : Option (Int) := cr1_Times.l0 k a0 a1 a2 0 63
theorem cr1_Times.mono_l : ∀ k, (∀ y0 y1 y2 y3 y4, LeO (cr1_Times.l0 k y0 y1 y2 y3 y4) (cr1_Times.l0 (k + 1) y0 y1 y2 y3 y4))
 | 0 => fun _ _ _ _ _ r h => by simp [cr1_Times.l0] at h
 | k + 1 => by
  have ih0 := cr1_Times.mono_l k
  ·intro y0 y1 y2 y3 y4
   unfold cr1_Times.l0
   repeat' first
   | (with_reducible exact ih0 _ _ _ _ _)
   | (with_reducible exact LeO.refl _)
   | (with_reducible exact LeO.none _)
   | (with_reducible refine LeO.ite ?_ ?_)
   | (with_reducible refine LeO.bind ?_ (fun _ => ?_))
   | exact ih0 _ _ _ _ _
   | exact LeO.none _
   | refine LeO.ite ?_ ?_
   | refine LeO.bind ?_ (fun _ => ?_)
theorem cr1_Times.mono : ∀ a0 a1 a2 k, LeO (cr1_Times.f k a0 a1 a2) (cr1_Times.f (k + 1) a0 a1 a2) := by
 intro a0 a1 a2 k
 have ih0 := cr1_Times.mono_l k
 unfold cr1_Times.f
 repeat' first
   | (with_reducible exact ih0 _ _ _ _ _)
   | (with_reducible exact LeO.refl _)
   | (with_reducible exact LeO.none _)
   | (with_reducible refine LeO.ite ?_ ?_)
   | (with_reducible refine LeO.bind ?_ (fun _ => ?_))
   | exact ih0 _ _ _ _ _
   | exact LeO.none _
   | refine LeO.ite ?_ ?_
   | refine LeO.bind ?_ (fun _ => ?_)
set_option maxHeartbeats 8000000 in
set_option maxRecDepth 100000 in
theorem cr1_Times.calls (k : Nat) (a0 : Int) (a1 : Int) (a2 : Int) (r : Int) (w : World) (h : cr1_Times.f k a0 a1 a2 = some r) :
  Calls Try.prog 37 #[.int .u64 a0, .int .u64 a1, .int .u64 a2] w fun e w' => e = .returned (.int .u64 r) ∧ Drawn0 w w' := by
 have H : (cr1_Times.l0 k a0 a1 a2 0 63) = some r := h
 clear h
 have H' := Aside0.mk H
 clear H
 go_enter Try.func37, Try.ntmps37
 go_wp2
 go_loopg [7, 8] k (fun kq v7 v8 w' => ∃ (x7_1 : Int) (x8_1 : Int), v7 = .int .u64 x7_1 ∧ v8 = .int .i64 x8_1 ∧ Aside0 (cr1_Times.l0 kq a0 a1 a2 x7_1 x8_1 = some r) ∧ Aside0 (kq ≤ k) ∧ Drawn0 w w')
 case atStart => exact ⟨(0), (63), (fs_), (fs_), H', ⟨Nat.le_refl _⟩, by repeat (first | exact Drawn0.refl _ | apply Drawn0.step)⟩
 case round =>
  clear H'
  try clear p2
  try clear c3
  obtain ⟨x7_1, x8_1, rfl, rfl, HA, HK1, ⟨m1, rfl⟩⟩ := hrel
  cases gk with
  | zero => exact absurd HA.out (by simp [cr1_Times.l0])
  | succ k1 =>
   have H := HA.out
   clear HA
   simp only [cr1_Times.l0] at H
   by_cases c4 : x8_1 ≥ 0
   ·rw [if_pos c4] at H
    have c4b0 : decide (0 ≤ x8_1) = true := decide_eq_true c4
    clear c4
    replace H := Option.bind_eq_some_iff.mp H
    obtain ⟨t294, A50, H⟩ := H
    (try dsimp only at H)
    have A5 := Aside0.mk A50
    clear A50
    obtain ⟨ji6, hji6⟩ : ∃ j_ : Int, (IntKind.u64.wrap (x8_1)) = j_ := ⟨_, rfl⟩
    replace H : (if 0 ≤ (ji6) then (if (Go.bits .and .u64 (shr .u64 a2 (ji6)) 1) = 1 then ((cr1_Sum.f a0 t294 a1).bind fun t295 => (cr1_Times.l0 k1 a0 a1 a2 t295 (wrap64 (x8_1 - 1)))) else (cr1_Times.l0 k1 a0 a1 a2 t294 (wrap64 (x8_1 - 1)))) else (none)) = some r := by first | (rw [hji6] at H; exact H) | (simp only [hji6] at H ⊢; exact H)
    (try rw [hji6] at A5)
    by_cases c7 : 0 ≤ (ji6)
    ·rw [if_pos c7] at H
     have c7b0 := eq_true c7
     have c7b1 : decide (0 ≤ (ji6)) = true := decide_eq_true c7
     clear c7
     obtain ⟨ji8, hji8⟩ : ∃ j_ : Int, (shr .u64 a2 (ji6)) = j_ := ⟨_, rfl⟩
     replace H : (if (Go.bits .and .u64 (ji8) 1) = 1 then ((cr1_Sum.f a0 t294 a1).bind fun t295 => (cr1_Times.l0 k1 a0 a1 a2 t295 (wrap64 (x8_1 - 1)))) else (cr1_Times.l0 k1 a0 a1 a2 t294 (wrap64 (x8_1 - 1)))) = some r := by first | (rw [hji8] at H; exact H) | (simp only [hji8] at H ⊢; exact H)
     (try rw [hji8] at A5)
     have hji8_ : (a2 / 2 ^ min (ji6).toNat 64) = ji8 := hji8
     have hji8z : (ji6) ≤ 64 → (a2 / 2 ^ (ji6).toNat) = ji8 := shr_small hji8
     have HC9 := Aside0.mk H
     clear H
     go_upto_if 22 with (first | ((with_reducible refine gate_callee (f := 42) rfl ?_); refine goesM_ (some 16) Try.func42 #[.int .u64 a0, .int .u64 x7_1, .int .u64 x7_1] ?_; (with_reducible refine (cr1_Sum.calls a0 x7_1 x7_1 t294 _ A5.out).mono ?_); rintro e w' ⟨rfl, ⟨nd, rfl⟩⟩; refine ⟨_, rfl, ?_⟩))
     (try simp only [Act.put, List.setIfInBounds_toArray, List.set_cons_zero, List.set_cons_succ])
     have H := HC9.out
     clear HC9
     by_cases c10 : (Go.bits .and .u64 (ji8) 1) = 1
     ·rw [if_pos c10] at H
      have c10b0 : ((Go.bits .and .u64 (ji8) 1) == 1) = true := beq_iff_eq.mpr c10
      have c10b1 : ((Go.bits .and .u64 (ji8) 1) != 1) = false := bne_eq_false_iff_eq.mpr c10
      clear c10
      (first | rw [c10b0] | rw [c10b1] | (simp only [i64_w, i32_w]; first | rw [c10b0] | rw [c10b1]) | skip)
      replace H := Option.bind_eq_some_iff.mp H
      obtain ⟨t295, A110, H⟩ := H
      replace H : (cr1_Times.l0 k1 a0 a1 a2 t295 (wrap64 (x8_1 - 1))) = some r := H
      have A11 := Aside0.mk A110
      clear A110
      have H' := Aside0.mk H
      clear H
      go_wp2_with (first | ((with_reducible refine gate_callee (f := 42) rfl ?_); refine goesM_ (some 26) Try.func42 #[.int .u64 a0, .int .u64 t294, .int .u64 a1] ?_; (with_reducible refine (cr1_Sum.calls a0 t294 a1 t295 _ A11.out).mono ?_); rintro e w' ⟨rfl, ⟨nd, rfl⟩⟩; refine ⟨_, rfl, ?_⟩))
      go_roundg k1
      case measure => have := HK1.out; omega
      case rel => exact ⟨(t295), (wrap64 (x8_1 - 1)), (fs_), (fs_), H', ⟨by have := HK1.out; omega⟩, by repeat (first | exact Drawn0.refl _ | apply Drawn0.step)⟩
     ·rw [if_neg c10] at H
      have c10b0 : ((Go.bits .and .u64 (ji8) 1) == 1) = false := beq_eq_false_iff_ne.mpr c10
      have c10b1 : ((Go.bits .and .u64 (ji8) 1) != 1) = true := bne_iff_ne.mpr c10
      (first | rw [c10b0] | rw [c10b1] | (simp only [i64_w, i32_w]; first | rw [c10b0] | rw [c10b1]) | skip)
      have H' := Aside0.mk H
      clear H
      go_wp2
      go_roundg k1
      case measure => have := HK1.out; omega
      case rel => exact ⟨(t294), (wrap64 (x8_1 - 1)), (fs_), (fs_), H', ⟨by have := HK1.out; omega⟩, by repeat (first | exact Drawn0.refl _ | apply Drawn0.step)⟩
    ·rw [if_neg c7] at H
     exact absurd H (by simp)
   ·rw [if_neg c4] at H
    have c4b0 : decide (0 ≤ x8_1) = false := decide_eq_false c4
    clear c4
    obtain rfl := Option.some.inj H
    go_wp2
    go_ret
    exact ⟨fs_, by repeat (first | exact Drawn0.refl _ | apply Drawn0.step)⟩
end Go.Proofs.Ytkaongcpekhbdaa.PTreeTrees
