/- The Go functions as Lean functions, each with the proof that its call comes to just that; written by a program of this session, by the words of the print. -/
import Derived.Test.YtkaongcpekhbdaaPTreeFreshx0
import Derived.Test.YtkaongcpekhbdaaPTreeFreshx99
import Derived.Test.YtkaongcpekhbdaaPTreeFreshx1
import Derived.Test.YtkaongcpekhbdaaPTreeFreshx7
namespace Go.Proofs.Ytkaongcpekhbdaa.PTreeFresh
open Go.RowKit Go.Proofs.YtkaongcpekhbdaaW.PrintWords Go.Proofs.YtkaongcpekhbdaaW.PrintLast Go.Proofs.YtkaongcpekhbdaaW.PrintMore
attribute [local go_sem] max2_int min2_int max_two min_two max_three min_three max_four min_four   -- for this text's walks alone
set_option linter.unusedVariables false
set_option linter.unusedSimpArgs false
/-! ### tree_Tree: function 17 -/
def tree_Tree.f (k : Nat) (a0 : Int) (l1 : List Int) : Option ((List (List (List Int))) × Int) := (tree_may.f k a0 (([l1] : List (List Int)))).bind fun t327 => (if t327 = 0 then (if (l1.length : Int) = 0 then (some (([] : List (List (List Int))), t327)) else ((tree_grow.f k a0 l1).bind fun bt328 => (some (bt328.1, bt328.2)))) else (some (([] : List (List (List Int))), t327)))
theorem tree_Tree.mono : ∀ a0 a1 k, LeO (tree_Tree.f k a0 a1) (tree_Tree.f (k + 1) a0 a1) := by
 intro a0 a1 k
 unfold tree_Tree.f
 repeat' first
   | (with_reducible exact tree_grow.mono _ _ _)
   | (with_reducible exact tree_may.mono _ _ _)
   | (with_reducible exact LeO.refl _)
   | (with_reducible exact LeO.none _)
   | (with_reducible refine LeO.ite ?_ ?_)
   | (with_reducible refine LeO.bind ?_ (fun _ => ?_))
   | exact tree_grow.mono _ _ _
   | exact tree_may.mono _ _ _
   | exact LeO.none _
   | refine LeO.ite ?_ ?_
   | refine LeO.bind ?_ (fun _ => ?_)
set_option maxHeartbeats 8000000 in
set_option maxRecDepth 100000 in
theorem tree_Tree.callsT (k : Nat) (a0 : Int) (P1_ : Nat → Prop) (A1 : Option Addr) (c1 : Nat) (l1 : List Int) (r1 : List (List (List Int))) (r2 : Int) (w : World) (hs1 : Kd.V (Kd.int .u64) 49 w w.heap.size (fun k_ => P1_ k_) (.slice A1 l1.length c1) l1) (h : tree_Tree.f k a0 l1 = some (r1, r2)) :
  Calls Try.prog 17 #[.int .u8 a0, .slice A1 l1.length c1] w fun e w' => ∃ v0_ : Value, e = .returned (.tuple #[v0_, .int .i64 r2]) ∧ T 0 (fun _ => True) (sliceS 22 (Kd.slice 49 (Kd.int .u64))) 23 w' w.heap.size (fun k_ => w.heap.size ≤ k_) v0_ r1 ∧ Below w.heap.size w w' := by
 have HO1 := A_ (show Kd.V (Kd.int .u64) 49 w w.heap.size (fun k_ => (P1_ k_ ∨ w.heap.size ≤ k_)) (.slice A1 l1.length c1) l1 from Kd.V_mono hs1 (fun k_ hk => .inl hk))
 have HB := A_ (Below.refl w.heap.size w)
 have H : ((tree_may.f k a0 (([l1] : List (List Int)))).bind fun t327 => (if t327 = 0 then (if (l1.length : Int) = 0 then (some (([] : List (List (List Int))), t327)) else ((tree_grow.f k a0 l1).bind fun bt328 => (some (bt328.1, bt328.2)))) else (some (([] : List (List (List Int))), t327)))) = some (r1, r2) := h
 clear h
 obtain ⟨y324, hy324⟩ : ∃ y_ : List (List Int), y_ = (([l1] : List (List Int))) := ⟨_, rfl⟩
 replace H : ((tree_may.f k a0 y324).bind fun t327 => (if t327 = 0 then (if (l1.length : Int) = 0 then (some (([] : List (List (List Int))), t327)) else ((tree_grow.f k a0 l1).bind fun bt328 => (some (bt328.1, bt328.2)))) else (some (([] : List (List (List Int))), t327)))) = some (r1, r2) := by first | (rw [hy324]; with_reducible exact H) | (have H2_ := (Option.bind_some _ _).symm.trans H; rw [hy324]; with_reducible exact H2_) | (have H2_ := (Option.bind_some _ _).symm.trans H; with_reducible exact H2_) | with_reducible exact H | (rw [hy324]; exact H) | exact H
 have Ny324 := Aside0.mk hy324
 clear hy324
 replace H := Option.bind_eq_some_iff.mp H
 obtain ⟨t327, A30, H⟩ := H
 replace H : (if t327 = 0 then (if (l1.length : Int) = 0 then (some (([] : List (List (List Int))), t327)) else ((tree_grow.f k a0 l1).bind fun bt328 => (some (bt328.1, bt328.2)))) else (some (([] : List (List (List Int))), t327))) = some (r1, r2) := H
 have A3 := Aside0.mk A30
 clear A30
 by_cases c4 : t327 = 0
 ·rw [if_pos c4] at H
  have c4b0 : (t327 == 0) = true := beq_iff_eq.mpr c4
  have c4b1 : (t327 != 0) = false := bne_eq_false_iff_eq.mpr c4
  clear c4
  have HC5 := Aside0.mk H
  clear H
  go_enter Try.func17, Try.ntmps17
  go_upto_if 17 with (first | ((with_reducible refine gate_dst (N := 9) rfl ?_); (try (refine gate_guard (by rfl) ?_; dsimp only)); refine Kd.N_lit (Kd.slice 49 (Kd.int .u64)) _ 22 ?hg (N' := 9) ?hd (xs := ([l1] : List (List Int))) (inner := [.slice A1 l1.length c1]) (ok := (fun k_ => (P1_ k_ ∨ w.heap.size ≤ k_))) (okp := (fun k_ => (P1_ k_ ∨ w.heap.size ≤ k_))) ?hr ?hp (fun _ hk => hk) ((show ∀ k_, w.heap.size ≤ k_ → (fun k_ => (P1_ k_ ∨ w.heap.size ≤ k_)) k_ from fun k_ hk => (.inr (Nat.le_trans (below_size hb_) hk))) _ (Nat.le_refl _)) (Below.refl _ _) (Nat.le_refl _) (by simp) ?_; (case hd => rfl); (case hg => rfl); (case hr => first | (go_simp; done) | (go_simp; rfl)); (case hp => exact (Reps.one (show Kd.FK (Kd.slice 49 (Kd.int .u64)) _ _ l1 [.slice A1 l1.length c1] from (Kd.FK_slice_mk (Kd.V_reads' (Kd.V_mono (ok' := (fun k_ => (P1_ k_ ∨ w.heap.size ≤ k_))) (HO1.out) (fun k_ hk => hk))).2.1 (Kd.V_F (Kd.V_mono (ok' := (fun k_ => (P1_ k_ ∨ w.heap.size ≤ k_))) (HO1.out) (fun k_ hk => hk))))) (Reps.none _ _))); intro v325 w6 ho7 hb hg_ hnew_; clear hg_ hnew_; (first | rw [← Ny324.out] at ho7 | (simp only [Int.reduceToNat] at ho7; rw [← Ny324.out] at ho7)); have n0_ := A_ (Kd.V_elder' (nV_ HO1) (Kd.N_base ho7) hb); have n1_ := A_ (Kd.N_lower ho7 (below_size hb_)); have n2_ := A_ (below_step hb_ hb); clear HO1 HB; have HO1 := n0_; have HO326 := n1_; have HB := n2_; clear n0_ n1_ n2_; clear hb ho7; obtain ⟨Ao8, co8, eo8⟩ := Kd.N_slice HO326.out; subst eo8) | ((with_reducible refine gate_callee (f := 31) rfl ?_); refine goesM_ (some 10) Try.func31 #[.int .u8 a0, .slice Ao8 y324.length co8] ?_; (with_reducible refine (tree_may.calls k a0 _ _ y324 t327 _ ?side1 ?side2 A3.out).mono ?_); (case side1 => repeat (first | exact (Kd.N_reads' HO326.out).2.2 | (with_reducible refine Kd.C_alloc ?_ _) | (with_reducible refine Kd.C_drewN ?_ _) | (with_reducible refine Kd.C_drew ?_))); (case side2 => exact (Kd.N_reads' HO326.out).2.1); rintro e w9 ⟨rfl, hb⟩; refine ⟨_, rfl, ?_⟩; have n0_ := A_ (Kd.V_below (nV_ HO1) hb); have n1_ := A_ (Kd.N_below (nN_ HO326) hb); have n2_ := A_ (below_step hb_ hb); clear HO1 HO326 HB; have HO1 := n0_; have HO326 := n1_; have HB := n2_; clear n0_ n1_ n2_; (try clear hb)))
  (try simp only [Act.put, List.setIfInBounds_toArray, List.set_cons_zero, List.set_cons_succ])
  have H := HC5.out
  clear HC5
  by_cases c10 : (l1.length : Int) = 0
  ·rw [if_pos c10] at H
   have c10b0 : ((l1.length : Int) == 0) = true := beq_iff_eq.mpr c10
   have c10b1 : ((l1.length : Int) != 0) = false := bne_eq_false_iff_eq.mpr c10
   clear c10
   (first | rw [c10b0] | rw [c10b1] | (simp only [i64_w, i32_w]; first | rw [c10b0] | rw [c10b1]) | skip)
   simp only [Option.some.injEq, Prod.mk.injEq] at H
   obtain ⟨rfl, rfl⟩ := H
   go_wp2
   go_ret2
   exact ⟨_, fr_, by first | exact T_nil _ _ _ _ _ _ _ (Nat.zero_le _) | exact Kd.N_nil _ _ _ _ _ | exact Kd.V_nil _ _ _ _ _ | exact Kd.Q_nil _ _ _ _ _ | exact Kd.S_nil _ _ _ _ _, hb_⟩
  ·rw [if_neg c10] at H
   have c10b0 : ((l1.length : Int) == 0) = false := beq_eq_false_iff_ne.mpr c10
   have c10b1 : ((l1.length : Int) != 0) = true := bne_iff_ne.mpr c10
   have c10b2 : ¬ (l1 = []) := fun h_ => c10 (by rw [h_]; rfl)
   (first | rw [c10b0] | rw [c10b1] | (simp only [i64_w, i32_w]; first | rw [c10b0] | rw [c10b1]) | skip)
   replace H := Option.bind_eq_some_iff.mp H
   obtain ⟨⟨t328, t331⟩, A110, H⟩ := H
   replace H : (some (t328, t331)) = some (r1, r2) := H
   have A11 := Aside0.mk A110
   clear A110
   simp only [Option.some.injEq, Prod.mk.injEq] at H
   obtain ⟨rfl, rfl⟩ := H
   go_wp2_with (first | ((with_reducible refine gate_callee (f := 39) rfl ?_); refine goesM_ (some 21) Try.func39 #[.int .u8 a0, .slice A1 l1.length c1] ?_; (with_reducible refine (tree_grow.calls k a0 _ _ l1 t328 t331 _ ?side1 ?side2 A11.out).mono ?_); (case side1 => repeat (first | exact (Kd.V_reads' HO1.out).2.2 | (with_reducible refine Kd.C_alloc ?_ _) | (with_reducible refine Kd.C_drewN ?_ _) | (with_reducible refine Kd.C_drew ?_))); (case side2 => exact (Kd.V_reads' HO1.out).2.1); rintro e w12 ⟨v329, rfl, ho0, hb⟩; refine ⟨_, rfl, ?_⟩; have n0_ := A_ (Kd.V_elder' (nV_ HO1) (T_base ho0) hb); have n1_ := A_ (Kd.N_elder' (nN_ HO326) (T_base ho0) hb); have n2_ := A_ (T_lower (T_mono (ok' := fun k_ => w.heap.size ≤ k_) ho0 (fun k_ hk_ => Nat.le_trans (below_size hb_) hk_)) (below_size hb_)); have n3_ := A_ (below_step hb_ hb); clear HO1 HO326 HB; have HO1 := n0_; have HO326 := n1_; have HO330 := n2_; have HB := n3_; clear n0_ n1_ n2_ n3_; (try clear hb); (try clear ho0)))
   go_ret2
   exact ⟨_, fr_, by (with_reducible repeat (first | apply T_alloc | apply T_drewN | apply T_drew)); exact HO330.out, hb_⟩
 ·rw [if_neg c4] at H
  have c4b0 : (t327 == 0) = false := beq_eq_false_iff_ne.mpr c4
  have c4b1 : (t327 != 0) = true := bne_iff_ne.mpr c4
  simp only [Option.some.injEq, Prod.mk.injEq] at H
  obtain ⟨rfl, rfl⟩ := H
  go_enter Try.func17, Try.ntmps17
  go_wp2_with (first | ((with_reducible refine gate_dst (N := 9) rfl ?_); (try (refine gate_guard (by rfl) ?_; dsimp only)); refine Kd.N_lit (Kd.slice 49 (Kd.int .u64)) _ 22 ?hg (N' := 9) ?hd (xs := ([l1] : List (List Int))) (inner := [.slice A1 l1.length c1]) (ok := (fun k_ => (P1_ k_ ∨ w.heap.size ≤ k_))) (okp := (fun k_ => (P1_ k_ ∨ w.heap.size ≤ k_))) ?hr ?hp (fun _ hk => hk) ((show ∀ k_, w.heap.size ≤ k_ → (fun k_ => (P1_ k_ ∨ w.heap.size ≤ k_)) k_ from fun k_ hk => (.inr (Nat.le_trans (below_size hb_) hk))) _ (Nat.le_refl _)) (Below.refl _ _) (Nat.le_refl _) (by simp) ?_; (case hd => rfl); (case hg => rfl); (case hr => first | (go_simp; done) | (go_simp; rfl)); (case hp => exact (Reps.one (show Kd.FK (Kd.slice 49 (Kd.int .u64)) _ _ l1 [.slice A1 l1.length c1] from (Kd.FK_slice_mk (Kd.V_reads' (Kd.V_mono (ok' := (fun k_ => (P1_ k_ ∨ w.heap.size ≤ k_))) (HO1.out) (fun k_ hk => hk))).2.1 (Kd.V_F (Kd.V_mono (ok' := (fun k_ => (P1_ k_ ∨ w.heap.size ≤ k_))) (HO1.out) (fun k_ hk => hk))))) (Reps.none _ _))); intro v325 w13 ho14 hb hg_ hnew_; clear hg_ hnew_; (first | rw [← Ny324.out] at ho14 | (simp only [Int.reduceToNat] at ho14; rw [← Ny324.out] at ho14)); have n0_ := A_ (Kd.V_elder' (nV_ HO1) (Kd.N_base ho14) hb); have n1_ := A_ (Kd.N_lower ho14 (below_size hb_)); have n2_ := A_ (below_step hb_ hb); clear HO1 HB; have HO1 := n0_; have HO326 := n1_; have HB := n2_; clear n0_ n1_ n2_; clear hb ho14; obtain ⟨Ao15, co15, eo15⟩ := Kd.N_slice HO326.out; subst eo15) | ((with_reducible refine gate_callee (f := 31) rfl ?_); refine goesM_ (some 10) Try.func31 #[.int .u8 a0, .slice Ao15 y324.length co15] ?_; (with_reducible refine (tree_may.calls k a0 _ _ y324 t327 _ ?side1 ?side2 A3.out).mono ?_); (case side1 => repeat (first | exact (Kd.N_reads' HO326.out).2.2 | (with_reducible refine Kd.C_alloc ?_ _) | (with_reducible refine Kd.C_drewN ?_ _) | (with_reducible refine Kd.C_drew ?_))); (case side2 => exact (Kd.N_reads' HO326.out).2.1); rintro e w16 ⟨rfl, hb⟩; refine ⟨_, rfl, ?_⟩; have n0_ := A_ (Kd.V_below (nV_ HO1) hb); have n1_ := A_ (Kd.N_below (nN_ HO326) hb); have n2_ := A_ (below_step hb_ hb); clear HO1 HO326 HB; have HO1 := n0_; have HO326 := n1_; have HB := n2_; clear n0_ n1_ n2_; (try clear hb)))
  go_ret2
  exact ⟨_, fr_, by first | exact T_nil _ _ _ _ _ _ _ (Nat.zero_le _) | exact Kd.N_nil _ _ _ _ _ | exact Kd.V_nil _ _ _ _ _ | exact Kd.Q_nil _ _ _ _ _ | exact Kd.S_nil _ _ _ _ _, hb_⟩
theorem tree_Tree.calls (k : Nat) (a0 : Int) (P1_ : Nat → Prop) (A1 : Option Addr) (c1 : Nat) (l1 : List Int) (r1 : List (List (List Int))) (r2 : Int) (w : World) (hs1 : Kd.V (Kd.int .u64) 49 w w.heap.size (fun k_ => P1_ k_) (.slice A1 l1.length c1) l1) (h : tree_Tree.f k a0 l1 = some (r1, r2)) :
  Calls Try.prog 17 #[.int .u8 a0, .slice A1 l1.length c1] w fun e w' => ∃ v0_ : Value, e = .returned (.tuple #[v0_, .int .i64 r2]) ∧ Kd.N (Kd.slice 22 (Kd.slice 49 (Kd.int .u64))) 23 w' w.heap.size (fun k_ => (P1_ k_ ∨ w.heap.size ≤ k_)) v0_ r1 ∧ Below w.heap.size w w' := by
 refine (tree_Tree.callsT k a0 P1_ A1 c1 l1 r1 r2 w hs1 h).mono ?_
 rintro e w' ⟨v, rfl, ht, hb⟩
 exact ⟨v, rfl, Kd.N_mono (S_NS (T_S ht)) (fun _ hk => .inr hk), hb⟩
/-! ### tree_Zero: function 15 -/
def tree_Zero.f (k : Nat) (a0 : Int) (l1 : List Int) : Option (List Int × Int) := (tree_Tree.f k a0 l1).bind fun bt332 => (if bt332.2 = 0 then (if (bt332.1.length : Int) = 0 then (some ((([1] : List Int)), 0)) else (if 0 ≤ (wrap64 ((bt332.1.length : Int) - 1)) then (if (wrap64 ((bt332.1.length : Int) - 1)) < (bt332.1.length : Int) then (if 0 < ((rd_L2 bt332.1 (wrap64 ((bt332.1.length : Int) - 1))).length : Int) then (some (rd_L1 (rd_L2 bt332.1 (wrap64 ((bt332.1.length : Int) - 1))) 0, 0)) else (none)) else (none)) else (none))) else (some (([] : List Int), bt332.2)))
theorem tree_Zero.mono : ∀ a0 a1 k, LeO (tree_Zero.f k a0 a1) (tree_Zero.f (k + 1) a0 a1) := by
 intro a0 a1 k
 unfold tree_Zero.f
 repeat' first
   | (with_reducible exact tree_Tree.mono _ _ _)
   | (with_reducible exact LeO.refl _)
   | (with_reducible exact LeO.none _)
   | (with_reducible refine LeO.ite ?_ ?_)
   | (with_reducible refine LeO.bind ?_ (fun _ => ?_))
   | exact tree_Tree.mono _ _ _
   | exact LeO.none _
   | refine LeO.ite ?_ ?_
   | refine LeO.bind ?_ (fun _ => ?_)
set_option maxHeartbeats 8000000 in
set_option maxRecDepth 100000 in
theorem tree_Zero.callsT (k : Nat) (a0 : Int) (P1_ : Nat → Prop) (A1 : Option Addr) (c1 : Nat) (l1 : List Int) (r1 : List Int) (r2 : Int) (w : World) (hs1 : Kd.V (Kd.int .u64) 49 w w.heap.size (fun k_ => P1_ k_) (.slice A1 l1.length c1) l1) (h : tree_Zero.f k a0 l1 = some (r1, r2)) :
  Calls Try.prog 15 #[.int .u8 a0, .slice A1 l1.length c1] w fun e w' => ∃ v0_ : Value, e = .returned (.tuple #[v0_, .int .i64 r2]) ∧ Kd.R (Kd.int .u64) 49 w' w.heap.size (fun k_ => w.heap.size ≤ k_) v0_ r1 ∧ Below w.heap.size w w' := by
 have HO1 := A_ (show Kd.V (Kd.int .u64) 49 w w.heap.size (fun k_ => (P1_ k_ ∨ w.heap.size ≤ k_)) (.slice A1 l1.length c1) l1 from Kd.V_mono hs1 (fun k_ hk => .inl hk))
 have HB := A_ (Below.refl w.heap.size w)
 have H : ((tree_Tree.f k a0 l1).bind fun bt332 => (if bt332.2 = 0 then (if (bt332.1.length : Int) = 0 then (some ((([1] : List Int)), 0)) else (if 0 ≤ (wrap64 ((bt332.1.length : Int) - 1)) then (if (wrap64 ((bt332.1.length : Int) - 1)) < (bt332.1.length : Int) then (if 0 < ((rd_L2 bt332.1 (wrap64 ((bt332.1.length : Int) - 1))).length : Int) then (some (rd_L1 (rd_L2 bt332.1 (wrap64 ((bt332.1.length : Int) - 1))) 0, 0)) else (none)) else (none)) else (none))) else (some (([] : List Int), bt332.2)))) = some (r1, r2) := h
 clear h
 replace H := Option.bind_eq_some_iff.mp H
 obtain ⟨⟨t332, t335⟩, A30, H⟩ := H
 (try dsimp only at H)
 have A3 := Aside0.mk A30
 clear A30
 have HC4 := Aside0.mk H
 clear H
 go_enter Try.func15, Try.ntmps15
 go_upto_if 14 with (first | ((with_reducible refine gate_callee (f := 17) rfl ?_); refine goesM_ (some 11) Try.func17 #[.int .u8 a0, .slice A1 l1.length c1] ?_; (with_reducible refine (tree_Tree.callsT k a0 (fun k_ => (P1_ k_ ∨ w.heap.size ≤ k_)) _ _ l1 t332 t335 _ ?side1 A3.out).mono ?_); (case side1 => exact HO1.out); rintro e w5 ⟨v333, rfl, ht0, hb⟩; refine ⟨_, rfl, ?_⟩; have ho0 := Kd.N_mono (ok' := fun k_ => ((P1_ k_ ∨ w.heap.size ≤ k_) ∨ w.heap.size ≤ k_)) (S_NS (T_S ht0)) (fun _ h_ => .inr h_); have HT_ := A_ (T_S ht0); clear ht0; have n0_ := A_ (Kd.V_elder' (nV_ HO1) (Kd.N_base ho0) hb); have n1_ := A_ (Kd.N_lower (Kd.N_mono (ok' := fun k_ => (P1_ k_ ∨ w.heap.size ≤ k_)) ho0 (fun k_ hk_ => Or.elim hk_ (fun hs_ => hs_) (fun hn_ => (.inr (Nat.le_trans (below_size hb_) hn_))))) (below_size hb_)); have n2_ := A_ (below_step hb_ hb); clear HO1 HB; have HO1 := n0_; have HO334 := n1_; have HB := n2_; clear n0_ n1_ n2_; (try clear hb); (try clear ho0)))
 (try simp only [Act.put, List.setIfInBounds_toArray, List.set_cons_zero, List.set_cons_succ])
 have H := HC4.out
 clear HC4
 by_cases c6 : t335 = 0
 ·rw [if_pos c6] at H
  have c6b0 : (t335 == 0) = true := beq_iff_eq.mpr c6
  have c6b1 : (t335 != 0) = false := bne_eq_false_iff_eq.mpr c6
  clear c6
  (first | rw [c6b0] | rw [c6b1] | (simp only [i64_w, i32_w]; first | rw [c6b0] | rw [c6b1]) | skip)
  by_cases c7 : (t332.length : Int) = 0
  ·rw [if_pos c7] at H
   have c7b0 : ((t332.length : Int) == 0) = true := beq_iff_eq.mpr c7
   have c7b1 : ((t332.length : Int) != 0) = false := bne_eq_false_iff_eq.mpr c7
   clear c7
   obtain ⟨y336, hy336⟩ : ∃ y_ : List Int, y_ = (([1] : List Int)) := ⟨_, rfl⟩
   replace H : (some (y336, 0)) = some (r1, r2) := by first | (rw [hy336]; with_reducible exact H) | (have H2_ := (Option.bind_some _ _).symm.trans H; rw [hy336]; with_reducible exact H2_) | (have H2_ := (Option.bind_some _ _).symm.trans H; with_reducible exact H2_) | with_reducible exact H | (rw [hy336]; exact H) | exact H
   have Ny336 := Aside0.mk hy336
   clear hy336
   simp only [Option.some.injEq, Prod.mk.injEq] at H
   obtain ⟨rfl, rfl⟩ := H
   obtain ⟨Ao8, co8, eo8⟩ := Kd.N_slice HO334.out
   subst eo8
   go_wp2_with (first | ((with_reducible refine gate_dst (N := 22) rfl ?_); refine Kd.R_lit (Kd.int .u64) _ 49 ?hg (N := 22) ?hd (xs := ([1] : List Int)) (inner := [.int .u64 1]) (ok := fun _ => True) (okp := fun _ => True) ?hr ?hp (fun _ hk => hk) trivial (Below.refl _ _) (Nat.le_refl _) (by simp) ?_; (case hd => rfl); (case hg => rfl); (case hr => first | (go_simp; done) | (go_simp; rfl)); (case hp => exact (Reps.one (show Kd.M (Kd.int .u64) _ _ _ 1 [.int .u64 1] from rfl) (Reps.none _ _))); intro v337 w9 ho10 hb hg_ hnew_; clear hg_ hnew_; (first | rw [← Ny336.out] at ho10 | (simp only [Int.reduceToNat] at ho10; rw [← Ny336.out] at ho10)); have n0_ := A_ (Kd.V_elder' (nV_ HO1) (Kd.R_base ho10) hb); have n1_ := A_ (Kd.N_elder' (nN_ HO334) (Kd.R_base ho10) hb); have n2_ := A_ (Kd.R_lower (Kd.R_newM (M := fun k_ => (w.heap.size ≤ k_)) ho10 (below_size hb_) (fun k_ h_ => h_)) (below_size hb_)); have n3_ := A_ (below_step hb_ hb); clear HO1 HO334 HB; have HO1 := n0_; have HO334 := n1_; have HO338 := n2_; have HB := n3_; clear n0_ n1_ n2_ n3_; clear hb ho10))
   go_ret2
   exact ⟨_, fr_, (by (with_reducible repeat (first | apply Kd.R_alloc | apply Kd.R_drewN | apply Kd.R_drew)); exact Kd.R_mono HO338.out (fun _ hk => hk.1)), hb_⟩
  ·rw [if_neg c7] at H
   have c7b0 : ((t332.length : Int) == 0) = false := beq_eq_false_iff_ne.mpr c7
   have c7b1 : ((t332.length : Int) != 0) = true := bne_iff_ne.mpr c7
   have c7b2 : ¬ (t332 = []) := fun h_ => c7 (by rw [h_]; rfl)
   obtain ⟨ji11, hji11⟩ : ∃ j_ : Int, (wrap64 ((t332.length : Int) - 1)) = j_ := ⟨_, rfl⟩
   replace H : (if 0 ≤ (ji11) then (if (ji11) < (t332.length : Int) then (if 0 < ((rd_L2 t332 (ji11)).length : Int) then (some (rd_L1 (rd_L2 t332 (ji11)) 0, 0)) else (none)) else (none)) else (none)) = some (r1, r2) := by first | (rw [hji11] at H; exact H) | (simp only [hji11] at H ⊢; exact H)
   have hji11w : (IntKind.i64.wrap ((t332.length : Int) - 1)) = ji11 := (i64_w _).trans hji11
   by_cases c12 : 0 ≤ (ji11)
   ·rw [if_pos c12] at H
    have c12b0 : decide (0 ≤ (ji11)) = true := decide_eq_true c12
    clear c12
    by_cases c13 : (ji11) < (t332.length : Int)
    ·rw [if_pos c13] at H
     have c13b0 : decide ((ji11) < (t332.length : Int)) = true := decide_eq_true c13
     clear c13
     by_cases c14 : 0 < ((rd_L2 t332 (ji11)).length : Int)
     ·rw [if_pos c14] at H
      have c14b0 : decide (0 < ((rd_L2 t332 (ji11)).length : Int)) = true := decide_eq_true c14
      have c14b1 : decide (0 < (rd_L2 t332 (ji11)).length) = true := decide_eq_true (by omega)
      clear c14
      simp only [Option.some.injEq, Prod.mk.injEq] at H
      obtain ⟨rfl, rfl⟩ := H
      obtain ⟨Ao15, co15, eo15⟩ := Kd.N_slice HO334.out
      subst eo15
      have p339 : 0 ≤ ((ji11) : Int) := of_decide_eq_true (by first | (with_reducible assumption) | assumption)
      have q339 : (ji11) < (t332.length : Int) := of_decide_eq_true (by first | (with_reducible assumption) | assumption)
      obtain ⟨ad339, A339_0, c339_0, e339, hx339_0, hl339_0, hi339_0⟩ := at_L2 (Kd.N_reads' HO334.out).2.2 (ji11) p339 q339
      cases e339
      obtain ⟨ce339, hce339, hMe339, hcc339⟩ := Kd.N_get HO334.out [] (ji11) p339 (by first | exact q339 | exact of_decide_eq_true (by first | (with_reducible assumption) | assumption) | (have e_ := (Kd.N_reads' HO334.out).1; omega))
      obtain ⟨ua339_0, uc339_0, rfl, ul339_0, ge339_0⟩ := Kd.FK_slice_open hMe339
      have hv339_0 := hcc339 0 _ rfl
      rw [Nat.add_zero, show ((Kd.slice 22 (Kd.slice 49 (Kd.int .u64)))).sz = 1 from rfl, Nat.mul_one] at hv339_0
      replace hv339_0 := Option.some.inj (hv339_0.symm.trans hx339_0)
      injection hv339_0 with hva_ hvn_ hvc_
      rw [hva_] at ge339_0
      rw [hvc_] at ul339_0
      have HL339_0 := A_ (show Kd.V (Kd.slice 49 (Kd.int .u64)) 22 _ w.heap.size _ _ (rd_L2 t332 (ji11)) from Kd.V_mk ul339_0 ge339_0)
      clear hva_ hvn_ hvc_ ge339_0 ul339_0
      clear hcc339 hce339
      have HR339_0 := Aside0.mk hi339_0
      have HC339_0 := Aside0.mk hl339_0
      clear hi339_0 hl339_0
      replace p339 := eq_true p339
      replace q339 := eq_true q339
      have p340 : 0 ≤ (0 : Int) := (by omega)
      have q340 : 0 < ((rd_L2 t332 (ji11)).length : Int) := of_decide_eq_true (by first | (with_reducible assumption) | assumption)
      obtain ⟨ad340, A340_0, c340_0, e340, hx340_0, hl340_0, hi340_0⟩ := at_L1 (by repeat (first | (with_reducible exact HR339_0.out) | (with_reducible refine Kd.C_alloc ?_ _) | (with_reducible refine Kd.C_drewN ?_ _) | (with_reducible refine Kd.C_drew ?_) | exact HR339_0.out)) 0 p340 q340
      cases e340
      obtain ⟨ce340, hce340, hMe340, hcc340⟩ := Kd.V_get HL339_0.out [] 0 p340 (by first | exact q340 | exact of_decide_eq_true (by first | (with_reducible assumption) | assumption) | (have e_ := (Kd.V_reads' HL339_0.out).1; omega))
      obtain ⟨ua340_0, uc340_0, rfl, ul340_0, ge340_0⟩ := Kd.FK_slice_open hMe340
      have hv340_0 := hcc340 0 _ rfl
      rw [Nat.add_zero, show ((Kd.slice 49 (Kd.int .u64))).sz = 1 from rfl, Nat.mul_one] at hv340_0
      replace hv340_0 := Option.some.inj (hv340_0.symm.trans hx340_0)
      injection hv340_0 with hva_ hvn_ hvc_
      rw [hva_] at ge340_0
      rw [hvc_] at ul340_0
      have HL340_0 := A_ (show Kd.V (Kd.int .u64) 49 _ w.heap.size _ _ (rd_L1 (rd_L2 t332 (ji11)) 0) from Kd.V_mk ul340_0 ge340_0)
      clear hva_ hvn_ hvc_ ge340_0 ul340_0
      clear hcc340 hce340
      have HE_ := A_ (M_R (i := 0) (S_cell (M_S (i := ji11) (S_cell HT_.out rfl [] ji11 (of_eq_true p339) (of_eq_true q339) hx339_0)) rfl [] 0 p340 q340 hx340_0))
      have qi340 : (0 < (rd_L2 t332 (ji11)).length) = True := eq_true (by omega)
      (try rw [show ((0 : Int)).toNat = 0 from rfl] at hx340_0)
      (try rw [Addr.add_zero'] at hx340_0)
      have HR340_0 := Aside0.mk hi340_0
      have HC340_0 := Aside0.mk hl340_0
      clear hi340_0 hl340_0
      replace p340 := eq_true p340
      replace q340 := eq_true q340
      go_wp2
      go_ret2
      exact ⟨_, by first | rfl | (simp [errW_none, errW_some] <;> rfl) | (simp only [← hji11]; first | rfl | (simp [errW_none, errW_some] <;> rfl)) | (simp [*, errW_none, errW_some] <;> rfl), by (with_reducible repeat (first | apply Kd.R_alloc | apply Kd.R_drewN | apply Kd.R_drew)); exact HE_.out, hb_⟩
     ·rw [if_neg c14] at H
      exact absurd H (by simp)
    ·rw [if_neg c13] at H
     exact absurd H (by simp)
   ·rw [if_neg c12] at H
    exact absurd H (by simp)
 ·rw [if_neg c6] at H
  have c6b0 : (t335 == 0) = false := beq_eq_false_iff_ne.mpr c6
  have c6b1 : (t335 != 0) = true := bne_iff_ne.mpr c6
  (first | rw [c6b0] | rw [c6b1] | (simp only [i64_w, i32_w]; first | rw [c6b0] | rw [c6b1]) | skip)
  simp only [Option.some.injEq, Prod.mk.injEq] at H
  obtain ⟨rfl, rfl⟩ := H
  go_wp2
  go_ret2
  exact ⟨_, fr_, (Kd.R_nil _ _ _ _ _), hb_⟩
theorem tree_Zero.calls (k : Nat) (a0 : Int) (P1_ : Nat → Prop) (A1 : Option Addr) (c1 : Nat) (l1 : List Int) (r1 : List Int) (r2 : Int) (w : World) (hs1 : Kd.V (Kd.int .u64) 49 w w.heap.size (fun k_ => P1_ k_) (.slice A1 l1.length c1) l1) (h : tree_Zero.f k a0 l1 = some (r1, r2)) :
  Calls Try.prog 15 #[.int .u8 a0, .slice A1 l1.length c1] w fun e w' => ∃ v0_ : Value, e = .returned (.tuple #[v0_, .int .i64 r2]) ∧ Kd.V (Kd.int .u64) 49 w' w.heap.size (fun k_ => (P1_ k_ ∨ w.heap.size ≤ k_)) v0_ r1 ∧ Below w.heap.size w w' := by
 refine (tree_Zero.callsT k a0 P1_ A1 c1 l1 r1 r2 w hs1 h).mono ?_
 rintro e w' ⟨v, rfl, ht, hb⟩
 exact ⟨v, rfl, Kd.V_mono (Kd.R_V ht) (fun _ hk => .inr hk), hb⟩
end Go.Proofs.Ytkaongcpekhbdaa.PTreeFresh
