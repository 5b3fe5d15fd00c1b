/- The Go functions as Lean functions, each with the proof that its call comes to just that; written by a program of this session, by the words of the print. -/
import Derived.Test.YtkaongcpekhbdaaPTreeSlopesx0
import Derived.Test.YtkaongcpekhbdaaPTreeSlopesx1
import Derived.Test.YtkaongcpekhbdaaPTreeSlopesx2
namespace Go.Proofs.Ytkaongcpekhbdaa.PTreeSlopes
open Go.RowKit Go.Proofs.YtkaongcpekhbdaaW.PrintWords Go.Proofs.YtkaongcpekhbdaaW.PrintLast Go.Proofs.YtkaongcpekhbdaaW.PrintMore
attribute [local go_sem] max2_int min2_int max_two min_two max_three min_three max_four min_four   -- for this text's walks alone
set_option linter.unusedVariables false
set_option linter.unusedSimpArgs false
/-! ### tree_Slope: function 11 -/
def tree_Slope.l0 : Nat → Int → List Int → List Int → Int → Option (List Int × Int)
 | 0, _, _, _, _ => none
 | k + 1, x0, x1, x7, x8 => if x8 < (x1.length : Int) then (if 0 ≤ x8 then ((field_Mul.f k x0 (IntKind.u64.wrap (x8)) (rd x1 x8)).bind fun bt166 => (if bt166.2 = 0 then (if x7.length < 17592186044416 then (tree_Slope.l0 k x0 x1 (x7 ++ [bt166.1]) (wrap64 (x8 + 1))) else (none)) else (some (([] : List Int), bt166.2)))) else (none)) else ((poly_Trim.f k x7).bind fun t171 => (some (t171, 0)))
def tree_Slope.f (k : Nat) (a0 : Int) (l1 : List Int) : Option (List Int × Int) := (tree_may.f k a0 (([l1] : List (List Int)))).bind fun t164 => (if t164 = 0 then (tree_Slope.l0 k a0 l1 ([] : List Int) 1) else (some (([] : List Int), t164)))
theorem tree_Slope.mono_l : ∀ k, (∀ y0 y1 y2 y3, LeO (tree_Slope.l0 k y0 y1 y2 y3) (tree_Slope.l0 (k + 1) y0 y1 y2 y3))
 | 0 => fun _ _ _ _ r h => by simp [tree_Slope.l0] at h
 | k + 1 => by
  have ih0 := tree_Slope.mono_l k
  ·intro y0 y1 y2 y3
   unfold tree_Slope.l0
   repeat' first
   | (with_reducible exact ih0 _ _ _ _)
   | (with_reducible exact field_Mul.mono _ _ _ _)
   | (with_reducible exact poly_Trim.mono _ _)
   | (with_reducible exact tree_may.mono _ _ _)
   | (with_reducible exact LeO.refl _)
   | (with_reducible exact LeO.none _)
   | (with_reducible refine LeO.ite ?_ ?_)
   | (with_reducible refine LeO.bind ?_ (fun _ => ?_))
   | exact ih0 _ _ _ _
   | exact field_Mul.mono _ _ _ _
   | exact poly_Trim.mono _ _
   | exact tree_may.mono _ _ _
   | exact LeO.none _
   | refine LeO.ite ?_ ?_
   | refine LeO.bind ?_ (fun _ => ?_)
theorem tree_Slope.mono : ∀ a0 a1 k, LeO (tree_Slope.f k a0 a1) (tree_Slope.f (k + 1) a0 a1) := by
 intro a0 a1 k
 have ih0 := tree_Slope.mono_l k
 unfold tree_Slope.f
 repeat' first
   | (with_reducible exact ih0 _ _ _ _)
   | (with_reducible exact field_Mul.mono _ _ _ _)
   | (with_reducible exact poly_Trim.mono _ _)
   | (with_reducible exact tree_may.mono _ _ _)
   | (with_reducible exact LeO.refl _)
   | (with_reducible exact LeO.none _)
   | (with_reducible refine LeO.ite ?_ ?_)
   | (with_reducible refine LeO.bind ?_ (fun _ => ?_))
   | exact ih0 _ _ _ _
   | exact field_Mul.mono _ _ _ _
   | exact poly_Trim.mono _ _
   | exact tree_may.mono _ _ _
   | exact LeO.none _
   | refine LeO.ite ?_ ?_
   | refine LeO.bind ?_ (fun _ => ?_)
set_option maxHeartbeats 8000000 in
set_option maxRecDepth 100000 in
theorem tree_Slope.calls (k : Nat) (a0 : Int) (P1_ : Nat → Prop) (A1 : Option Addr) (c1 : Nat) (l1 : List Int) (r1 : List Int) (r2 : Int) (w : World) (hs1 : Kd.V (Kd.int .u64) 49 w w.heap.size (fun k_ => P1_ k_) (.slice A1 l1.length c1) l1) (h : tree_Slope.f k a0 l1 = some (r1, r2)) :
  Calls Try.prog 11 #[.int .u8 a0, .slice A1 l1.length c1] w fun e w' => ∃ v0_ : Value, e = .returned (.tuple #[v0_, .int .i64 r2]) ∧ Kd.R (Kd.int .u64) 49 w' w.heap.size (fun k_ => (w.heap.size ≤ k_)) v0_ r1 ∧ Below w.heap.size w w' := by
 have HO1 := A_ (show Kd.V (Kd.int .u64) 49 w w.heap.size (fun k_ => (P1_ k_ ∨ w.heap.size ≤ k_)) (.slice A1 l1.length c1) l1 from Kd.V_mono hs1 (fun k_ hk => .inl hk))
 have HB := A_ (Below.refl w.heap.size w)
 have H : ((tree_may.f k a0 (([l1] : List (List Int)))).bind fun t164 => (if t164 = 0 then (tree_Slope.l0 k a0 l1 ([] : List Int) 1) else (some (([] : List Int), t164)))) = some (r1, r2) := h
 clear h
 obtain ⟨y161, hy161⟩ : ∃ y_ : List (List Int), y_ = (([l1] : List (List Int))) := ⟨_, rfl⟩
 replace H : ((tree_may.f k a0 y161).bind fun t164 => (if t164 = 0 then (tree_Slope.l0 k a0 l1 ([] : List Int) 1) else (some (([] : List Int), t164)))) = some (r1, r2) := by first | (rw [hy161]; with_reducible exact H) | (have H2_ := (Option.bind_some _ _).symm.trans H; rw [hy161]; with_reducible exact H2_) | (have H2_ := (Option.bind_some _ _).symm.trans H; with_reducible exact H2_) | with_reducible exact H | (rw [hy161]; exact H) | exact H
 have Ny161 := Aside0.mk hy161
 clear hy161
 replace H := Option.bind_eq_some_iff.mp H
 obtain ⟨t164, A30, H⟩ := H
 replace H : (if t164 = 0 then (tree_Slope.l0 k a0 l1 ([] : List Int) 1) else (some (([] : List Int), t164))) = some (r1, r2) := H
 have A3 := Aside0.mk A30
 clear A30
 have HC4 := Aside0.mk H
 clear H
 go_enter Try.func11, Try.ntmps11
 go_upto_if 16 with (first | ((with_reducible refine gate_dst (N := 13) rfl ?_); refine Kd.N_lit (Kd.slice 49 (Kd.int .u64)) _ 22 ?hg (N' := 13) ?hd (xs := ([l1] : List (List Int))) (inner := [.slice A1 l1.length c1]) (ok := (fun k_ => (P1_ k_ ∨ w.heap.size ≤ k_))) (okp := (fun k_ => (P1_ k_ ∨ w.heap.size ≤ k_))) ?hr ?hp (fun _ hk => hk) ((show ∀ k_, w.heap.size ≤ k_ → (fun k_ => (P1_ k_ ∨ w.heap.size ≤ k_)) k_ from fun k_ hk => (.inr (Nat.le_trans (below_size hb_) hk))) _ (Nat.le_refl _)) (Below.refl _ _) (Nat.le_refl _) (by simp) ?_; (case hd => rfl); (case hg => rfl); (case hr => first | (go_simp; done) | (go_simp; rfl)); (case hp => exact (Reps.one (show Kd.FK (Kd.slice 49 (Kd.int .u64)) _ _ l1 [.slice A1 l1.length c1] from (Kd.FK_slice_mk (Kd.V_reads' (Kd.V_mono (ok' := (fun k_ => (P1_ k_ ∨ w.heap.size ≤ k_))) (HO1.out) (fun k_ hk => hk))).2.1 (Kd.V_F (Kd.V_mono (ok' := (fun k_ => (P1_ k_ ∨ w.heap.size ≤ k_))) (HO1.out) (fun k_ hk => hk))))) (Reps.none _ _))); intro v162 w5 ho6 hb hg_ hnew_; clear hg_ hnew_; (first | rw [← Ny161.out] at ho6 | (simp only [Int.reduceToNat] at ho6; rw [← Ny161.out] at ho6)); have n0_ := A_ (Kd.V_elder' (nV_ HO1) (Kd.N_base ho6) hb); have n1_ := A_ (Kd.N_lower ho6 (below_size hb_)); have n2_ := A_ (below_step hb_ hb); clear HO1 HB; have HO1 := n0_; have HO163 := n1_; have HB := n2_; clear n0_ n1_ n2_; clear hb ho6; obtain ⟨Ao7, co7, eo7⟩ := Kd.N_slice HO163.out; subst eo7) | ((with_reducible refine gate_callee (f := 31) rfl ?_); refine goesM_ (some 14) Try.func31 #[.int .u8 a0, .slice Ao7 y161.length co7] ?_; (with_reducible refine (tree_may.calls k a0 _ _ y161 t164 _ ?side1 ?side2 A3.out).mono ?_); (case side1 => repeat (first | exact (Kd.N_reads' HO163.out).2.2 | (with_reducible refine Kd.C_alloc ?_ _) | (with_reducible refine Kd.C_drewN ?_ _) | (with_reducible refine Kd.C_drew ?_))); (case side2 => exact (Kd.N_reads' HO163.out).2.1); rintro e w8 ⟨rfl, hb⟩; refine ⟨_, rfl, ?_⟩; have n0_ := A_ (Kd.V_below (nV_ HO1) hb); have n1_ := A_ (Kd.N_below (nN_ HO163) hb); have n2_ := A_ (below_step hb_ hb); clear HO1 HO163 HB; have HO1 := n0_; have HO163 := n1_; have HB := n2_; clear n0_ n1_ n2_; (try clear hb)))
 (try simp only [Act.put, List.setIfInBounds_toArray, List.set_cons_zero, List.set_cons_succ])
 have H := HC4.out
 clear HC4
 by_cases c9 : t164 = 0
 ·rw [if_pos c9] at H
  have c9b0 : (t164 == 0) = true := beq_iff_eq.mpr c9
  have c9b1 : (t164 != 0) = false := bne_eq_false_iff_eq.mpr c9
  clear c9
  (first | rw [c9b0] | rw [c9b1] | (simp only [i64_w, i32_w]; first | rw [c9b0] | rw [c9b1]) | skip)
  have H' := Aside0.mk H
  clear H
  go_wp2
  go_loopg [7, 8] k (fun kq v7 v8 w' => ∃ (x7_1 : List Int) (x8_1 : Int), v8 = .int .i64 x8_1 ∧ Aside0 (tree_Slope.l0 kq a0 l1 x7_1 x8_1 = some (r1, r2)) ∧ Aside0 (kq ≤ k) ∧ Aside0 (Kd.V (Kd.int .u64) 49 w' w.heap.size (fun k_ => (P1_ k_ ∨ w.heap.size ≤ k_) ∧ some k_ ≠ (v7 : Value).ownBlock) (.slice A1 l1.length c1) l1) ∧ Aside0 (Kd.R (Kd.int .u64) 49 w' w.heap.size (fun k_ => (w.heap.size ≤ k_)) v7 x7_1) ∧ Aside0 (Below w.heap.size w w'))
  case atStart => exact ⟨(([] : List Int)), (1), (fs_), H', ⟨Nat.le_refl _⟩, ⟨by (with_reducible repeat (first | apply Kd.V_alloc | apply Kd.V_drewN | apply Kd.V_drew)); exact Kd.V_mono HO1.out (fun _ hk => ⟨hk.1, (by simp [Value.ownBlock])⟩)⟩, ⟨by first | exact Kd.R_nil _ _ _ _ _ | exact Kd.N_nil _ _ _ _ _ | exact Kd.V_nil _ _ _ _ _ | exact Kd.Q_nil _ _ _ _ _ | exact Kd.S_nil _ _ _ _ _⟩, ⟨by repeat (first | (with_reducible first | exact HB.out | apply below_alloc | apply pw_below_drewN | apply below_drew1) | exact HB.out)⟩⟩
  case round =>
   clear H'
   try clear c1
   try clear p2
   try clear c3
   try clear c9
   try clear c9b0
   try clear c9b1
   obtain ⟨x7_1, x8_1, rfl, HA, HK1, HO_1, HO_7, HB⟩ := hrel
   cases gk with
   | zero => exact absurd HA.out (by simp [tree_Slope.l0])
   | succ k1 =>
    have H := HA.out
    clear HA
    simp only [tree_Slope.l0] at H
    by_cases c10 : x8_1 < (l1.length : Int)
    ·rw [if_pos c10] at H
     have c10b0 : decide (x8_1 < (l1.length : Int)) = true := decide_eq_true c10
     clear c10
     by_cases c11 : 0 ≤ x8_1
     ·rw [if_pos c11] at H
      have c11b0 : decide (0 ≤ x8_1) = true := decide_eq_true c11
      clear c11
      replace H := Option.bind_eq_some_iff.mp H
      obtain ⟨⟨t166, t167⟩, A120, H⟩ := H
      replace H : (if t167 = 0 then (if x7_1.length < 17592186044416 then (tree_Slope.l0 k1 a0 l1 (x7_1 ++ [t166]) (wrap64 (x8_1 + 1))) else (none)) else (some (([] : List Int), t167))) = some (r1, r2) := H
      have A12 := Aside0.mk A120
      clear A120
      have HC13 := Aside0.mk H
      clear H
      have p165 : 0 ≤ (x8_1 : Int) := of_decide_eq_true (by first | (with_reducible assumption) | assumption)
      have q165 : x8_1 < (l1.length : Int) := of_decide_eq_true (by first | (with_reducible assumption) | assumption)
      obtain ⟨ad165, e165, hx165_0⟩ := Kd.at_int (Kd.V_reads' HO_1.out).2.2 x8_1 p165 q165
      cases e165
      replace p165 := eq_true p165
      replace q165 := eq_true q165
      go_upto_if 36 with (first | ((with_reducible refine gate_callee (f := 35) rfl ?_); refine goesM_ (some 32) Try.func35 #[.int .u8 a0, .int .u64 (IntKind.u64.wrap (x8_1)), .int .u64 (rd l1 x8_1)] ?_; (with_reducible refine (field_Mul.calls k1 a0 (IntKind.u64.wrap (x8_1)) (rd l1 x8_1) t166 t167 _ A12.out).mono ?_); rintro e w14 ⟨rfl, hb⟩; refine ⟨_, rfl, ?_⟩; have n0_ := A_ (Kd.V_below (nV_ HO_1) hb); have n1_ := A_ (Kd.R_below (nR_ HO_7) hb); have n2_ := A_ (below_step hb_ hb); clear HO_1 HO_7 HB; have HO_1 := n0_; have HO_7 := n1_; have HB := n2_; clear n0_ n1_ n2_; (try clear hb)))
      (try simp only [Act.put, List.setIfInBounds_toArray, List.set_cons_zero, List.set_cons_succ])
      have H := HC13.out
      clear HC13
      by_cases c15 : t167 = 0
      ·rw [if_pos c15] at H
       have c15b0 : (t167 == 0) = true := beq_iff_eq.mpr c15
       have c15b1 : (t167 != 0) = false := bne_eq_false_iff_eq.mpr c15
       clear c15
       (first | rw [c15b0] | rw [c15b1] | (simp only [i64_w, i32_w]; first | rw [c15b0] | rw [c15b1]) | skip)
       by_cases c16 : x7_1.length < 17592186044416
       ·rw [if_pos c16] at H
        have LMc16 := Aside0.mk c16
        clear c16
        obtain ⟨y168, hy168⟩ : ∃ y_ : List Int, y_ = (x7_1 ++ [t166]) := ⟨_, rfl⟩
        replace H : (tree_Slope.l0 k1 a0 l1 y168 (wrap64 (x8_1 + 1))) = some (r1, r2) := by first | (rw [hy168]; with_reducible exact H) | (have H2_ := (Option.bind_some _ _).symm.trans H; rw [hy168]; with_reducible exact H2_) | (have H2_ := (Option.bind_some _ _).symm.trans H; with_reducible exact H2_) | with_reducible exact H | (rw [hy168]; exact H) | exact H
        have Ny168 := Aside0.mk hy168
        clear hy168
        have H' := Aside0.mk H
        clear H
        go_wp2_with (first | ((with_reducible refine gate_builtin (b := .append) (xs := #[.tmp 38, .tmp 40]) rfl ?_); at_builtin; refine Kd.R_append (Kd.int .u64) (w0 := w) w.heap.size rfl (.tmp 38) (.tmp 40) 22 49 (.int .u64 0) 8 rfl Try.underlying22 info49 rfl (by decide) (by omega) u7 x7_1 t166 [.int .u64 t166] (fun k_ => (w.heap.size ≤ k_)) (fun _ => False) rfl rfl ?aP (fun _ hk => hk.elim) ?aF ?aO ?aB ?aS ?aL ?_; (case aP => exact rfl); (case aB => exact hb_); (case aF => exact (fun k_ hk => (Nat.le_trans (below_size hb_) hk))); (case aO => exact (nR_ HO_7)); (case aS => exact (below_size hb_)); (case aL => have := LMc16.out; omega); intro v169 w17 ho hb hg hat; rw [← Ny168.out] at ho; have n0_ := A_ (Kd.V_afterv (ok := (fun k_ => (P1_ k_ ∨ w.heap.size ≤ k_))) (nV_ HO_1) hg hat); have n1_ := A_ (hb); have n2_ := A_ (ho); clear HO_1 HB HO_7; have HO_1 := n0_; have HB := n1_; have HO170 := n2_; clear n0_ n1_ n2_; clear ho hb hg hat))
        go_roundg k1
        case measure => have := HK1.out; omega
        case rel => exact ⟨(y168), (wrap64 (x8_1 + 1)), (fs_), H', ⟨by have := HK1.out; omega⟩, ⟨mV_ HO_1.out⟩, ⟨mR_ HO170.out⟩, ⟨by repeat (first | (with_reducible first | exact HB.out | apply below_alloc | apply pw_below_drewN | apply below_drew1) | exact HB.out)⟩⟩
       ·rw [if_neg c16] at H
        exact absurd H (by simp)
      ·rw [if_neg c15] at H
       have c15b0 : (t167 == 0) = false := beq_eq_false_iff_ne.mpr c15
       have c15b1 : (t167 != 0) = true := bne_iff_ne.mpr c15
       (first | rw [c15b0] | rw [c15b1] | (simp only [i64_w, i32_w]; first | rw [c15b0] | rw [c15b1]) | skip)
       simp only [Option.some.injEq, Prod.mk.injEq] at H
       obtain ⟨rfl, rfl⟩ := H
       go_wp2
       go_ret2
       exact ⟨_, fr_, by first | exact Kd.R_nil _ _ _ _ _ | exact Kd.N_nil _ _ _ _ _ | exact Kd.V_nil _ _ _ _ _ | exact Kd.Q_nil _ _ _ _ _ | exact Kd.S_nil _ _ _ _ _, hb_⟩
     ·rw [if_neg c11] at H
      exact absurd H (by simp)
    ·rw [if_neg c10] at H
     have c10b0 : decide (x8_1 < (l1.length : Int)) = false := decide_eq_false c10
     clear c10
     replace H := Option.bind_eq_some_iff.mp H
     obtain ⟨t171, A180, H⟩ := H
     replace H : (some (t171, 0)) = some (r1, r2) := H
     have A18 := Aside0.mk A180
     clear A180
     simp only [Option.some.injEq, Prod.mk.injEq] at H
     obtain ⟨rfl, rfl⟩ := H
     obtain ⟨Ao19, co19, eo19⟩ := Kd.R_slice HO_7.out
     subst eo19
     go_wp2_with (first | ((with_reducible refine gate_callee (f := 36) rfl ?_); refine goesM_ (some 43) Try.func36 #[.slice Ao19 x7_1.length co19] ?_; (with_reducible refine (poly_Trim.calls k1 _ _ x7_1 t171 _ ?side1 ?side2 A18.out).mono ?_); (case side1 => repeat (first | exact (Kd.R_reads' HO_7.out).2.2 | (with_reducible refine Kd.C_alloc ?_ _) | (with_reducible refine Kd.C_drewN ?_ _) | (with_reducible refine Kd.C_drew ?_))); (case side2 => exact (Kd.R_reads' HO_7.out).2.1); rintro e w20 ⟨v172, rfl, ho0, hb⟩; refine ⟨_, rfl, ?_⟩; have n0_ := A_ (Kd.V_elder' (nV_ HO_1) (Kd.R_base ho0) hb); have n1_ := A_ (Kd.R_elder' (nR_ HO_7) (Kd.R_base ho0) hb); have n2_ := A_ (Kd.R_lower (Kd.R_new' (Kd.R_newM (M := fun k_ => (w.heap.size ≤ k_)) ho0 (below_size hb_) (fun k_ h_ => h_)) (Kd.R_lt (nR_ HO_7))) (below_size hb_)); have n3_ := A_ (below_step hb_ hb); clear HO_1 HO_7 HB; have HO_1 := n0_; have HO_7 := n1_; have HO173 := n2_; have HB := n3_; clear n0_ n1_ n2_ n3_; (try clear hb); (try clear ho0)))
     go_ret2
     exact ⟨_, fr_, by (with_reducible repeat (first | apply Kd.R_alloc | apply Kd.R_drewN | apply Kd.R_drew)); exact Kd.R_mono HO173.out (fun _ hk => hk.1.1), hb_⟩
 ·rw [if_neg c9] at H
  have c9b0 : (t164 == 0) = false := beq_eq_false_iff_ne.mpr c9
  have c9b1 : (t164 != 0) = true := bne_iff_ne.mpr c9
  (first | rw [c9b0] | rw [c9b1] | (simp only [i64_w, i32_w]; first | rw [c9b0] | rw [c9b1]) | skip)
  simp only [Option.some.injEq, Prod.mk.injEq] at H
  obtain ⟨rfl, rfl⟩ := H
  go_wp2
  go_ret2
  exact ⟨_, fr_, by first | exact Kd.R_nil _ _ _ _ _ | exact Kd.N_nil _ _ _ _ _ | exact Kd.V_nil _ _ _ _ _ | exact Kd.Q_nil _ _ _ _ _ | exact Kd.S_nil _ _ _ _ _, hb_⟩
/-! ### cr1_Same: function 14 -/
def cr1_Same.l0 : Nat → List Int → List Int → Int → Option (Bool)
 | 0, _, _, _ => none
 | k + 1, x0, x1, x5 => if x5 < (x0.length : Int) then (if 0 ≤ x5 then (if x5 < (x1.length : Int) then (if (rd x0 x5) = (rd x1 x5) then (cr1_Same.l0 k x0 x1 (wrap64 (x5 + 1))) else (some false)) else (none)) else (none)) else (some true)
def cr1_Same.f (k : Nat) (l0 : List Int) (l1 : List Int) : Option (Bool) := if (l0.length : Int) = (l1.length : Int) then (cr1_Same.l0 k l0 l1 0) else (some false)
theorem cr1_Same.mono_l : ∀ k, (∀ y0 y1 y2, LeO (cr1_Same.l0 k y0 y1 y2) (cr1_Same.l0 (k + 1) y0 y1 y2))
 | 0 => fun _ _ _ r h => by simp [cr1_Same.l0] at h
 | k + 1 => by
  have ih0 := cr1_Same.mono_l k
  ·intro y0 y1 y2
   unfold cr1_Same.l0
   repeat' first
   | (with_reducible exact ih0 _ _ _)
   | (with_reducible exact LeO.refl _)
   | (with_reducible exact LeO.none _)
   | (with_reducible refine LeO.ite ?_ ?_)
   | (with_reducible refine LeO.bind ?_ (fun _ => ?_))
   | exact ih0 _ _ _
   | exact LeO.none _
   | refine LeO.ite ?_ ?_
   | refine LeO.bind ?_ (fun _ => ?_)
theorem cr1_Same.mono : ∀ a0 a1 k, LeO (cr1_Same.f k a0 a1) (cr1_Same.f (k + 1) a0 a1) := by
 intro a0 a1 k
 have ih0 := cr1_Same.mono_l k
 unfold cr1_Same.f
 repeat' first
   | (with_reducible exact ih0 _ _ _)
   | (with_reducible exact LeO.refl _)
   | (with_reducible exact LeO.none _)
   | (with_reducible refine LeO.ite ?_ ?_)
   | (with_reducible refine LeO.bind ?_ (fun _ => ?_))
   | exact ih0 _ _ _
   | exact LeO.none _
   | refine LeO.ite ?_ ?_
   | refine LeO.bind ?_ (fun _ => ?_)
set_option maxHeartbeats 8000000 in
set_option maxRecDepth 100000 in
theorem cr1_Same.calls (k : Nat) (A0 : Option Addr) (c0 : Nat) (l0 : List Int) (A1 : Option Addr) (c1 : Nat) (l1 : List Int) (r : Bool) (w : World) (hr0 : Kd.C (Kd.int .u64) w A0 l0.length l0) (hc0 : l0.length ≤ c0) (hr1 : Kd.C (Kd.int .u64) w A1 l1.length l1) (hc1 : l1.length ≤ c1) (h : cr1_Same.f k l0 l1 = some r) :
  Calls Try.prog 14 #[.slice A0 l0.length c0, .slice A1 l1.length c1] w fun e w' => e = .returned (.bool r) ∧ Drawn0 w w' := by
 have HR0 := Aside0.mk hr0
 have HC0 := Aside0.mk hc0
 clear hr0 hc0
 have HR1 := Aside0.mk hr1
 have HC1 := Aside0.mk hc1
 clear hr1 hc1
 have H : (if (l0.length : Int) = (l1.length : Int) then (cr1_Same.l0 k l0 l1 0) else (some false)) = some r := h
 clear h
 by_cases c3 : (l0.length : Int) = (l1.length : Int)
 ·rw [if_pos c3] at H
  have c3b0 : ((l0.length : Int) == (l1.length : Int)) = true := beq_iff_eq.mpr c3
  have c3b1 : ((l0.length : Int) != (l1.length : Int)) = false := bne_eq_false_iff_eq.mpr c3
  have c3b2 : (l0.length == l1.length) = true := by first | simpa using c3 | (simp at c3 ⊢; omega)
  clear c3
  have H' := Aside0.mk H
  clear H
  go_enter Try.func14, Try.ntmps14
  go_wp2
  repeat (go_quiet (fail); try go_wp2)
  go_loopg [5] k (fun kq v5 w' => ∃ (x5_1 : Int), v5 = .int .i64 x5_1 ∧ Aside0 (cr1_Same.l0 kq l0 l1 x5_1 = some r) ∧ Aside0 (kq ≤ k) ∧ Drawn0 w w')
  case atStart => exact ⟨(0), (fs_), H', ⟨Nat.le_refl _⟩, by repeat (first | exact Drawn0.refl _ | apply Drawn0.step)⟩
  case round =>
   clear H'
   try clear c1
   try clear p2
   try clear c3
   try clear c3b0
   try clear c3b1
   try clear c3b2
   obtain ⟨x5_1, rfl, HA, HK1, ⟨m1, rfl⟩⟩ := hrel
   cases gk with
   | zero => exact absurd HA.out (by simp [cr1_Same.l0])
   | succ k1 =>
    have H := HA.out
    clear HA
    simp only [cr1_Same.l0] at H
    by_cases c4 : x5_1 < (l0.length : Int)
    ·rw [if_pos c4] at H
     have c4b0 : decide (x5_1 < (l0.length : Int)) = true := decide_eq_true c4
     clear c4
     by_cases c5 : 0 ≤ x5_1
     ·rw [if_pos c5] at H
      have c5b0 : decide (0 ≤ x5_1) = true := decide_eq_true c5
      clear c5
      by_cases c6 : x5_1 < (l1.length : Int)
      ·rw [if_pos c6] at H
       have c6b0 : decide (x5_1 < (l1.length : Int)) = true := decide_eq_true c6
       clear c6
       by_cases c7 : (rd l0 x5_1) = (rd l1 x5_1)
       ·rw [if_pos c7] at H
        have c7b0 : ((rd l0 x5_1) == (rd l1 x5_1)) = true := beq_iff_eq.mpr c7
        have c7b1 : ((rd l0 x5_1) != (rd l1 x5_1)) = false := bne_eq_false_iff_eq.mpr c7
        clear c7
        have H' := Aside0.mk H
        clear H
        have p174 : 0 ≤ (x5_1 : Int) := of_decide_eq_true (by first | (with_reducible assumption) | assumption)
        have q174 : x5_1 < (l0.length : Int) := of_decide_eq_true (by first | (with_reducible assumption) | assumption)
        obtain ⟨ad174, e174, hx174_0⟩ := Kd.at_int HR0.out x5_1 p174 q174
        cases e174
        replace p174 := eq_true p174
        replace q174 := eq_true q174
        have p175 : 0 ≤ (x5_1 : Int) := of_decide_eq_true (by first | (with_reducible assumption) | assumption)
        have q175 : x5_1 < (l1.length : Int) := of_decide_eq_true (by first | (with_reducible assumption) | assumption)
        obtain ⟨ad175, e175, hx175_0⟩ := Kd.at_int HR1.out x5_1 p175 q175
        cases e175
        replace p175 := eq_true p175
        replace q175 := eq_true q175
        go_wp2
        repeat (go_quiet (fail); try go_wp2)
        go_roundg k1
        case measure => have := HK1.out; omega
        case rel => exact ⟨(wrap64 (x5_1 + 1)), (fs_), H', ⟨by have := HK1.out; omega⟩, by repeat (first | exact Drawn0.refl _ | apply Drawn0.step)⟩
       ·rw [if_neg c7] at H
        have c7b0 : ((rd l0 x5_1) == (rd l1 x5_1)) = false := beq_eq_false_iff_ne.mpr c7
        have c7b1 : ((rd l0 x5_1) != (rd l1 x5_1)) = true := bne_iff_ne.mpr c7
        obtain rfl := Option.some.inj H
        have p174 : 0 ≤ (x5_1 : Int) := of_decide_eq_true (by first | (with_reducible assumption) | assumption)
        have q174 : x5_1 < (l0.length : Int) := of_decide_eq_true (by first | (with_reducible assumption) | assumption)
        obtain ⟨ad174, e174, hx174_0⟩ := Kd.at_int HR0.out x5_1 p174 q174
        cases e174
        replace p174 := eq_true p174
        replace q174 := eq_true q174
        have p175 : 0 ≤ (x5_1 : Int) := of_decide_eq_true (by first | (with_reducible assumption) | assumption)
        have q175 : x5_1 < (l1.length : Int) := of_decide_eq_true (by first | (with_reducible assumption) | assumption)
        obtain ⟨ad175, e175, hx175_0⟩ := Kd.at_int HR1.out x5_1 p175 q175
        cases e175
        replace p175 := eq_true p175
        replace q175 := eq_true q175
        go_wp2
        repeat (go_quiet (fail); try go_wp2)
        go_ret
        exact ⟨fs_, by repeat (first | exact Drawn0.refl _ | apply Drawn0.step)⟩
      ·rw [if_neg c6] at H
       exact absurd H (by simp)
     ·rw [if_neg c5] at H
      exact absurd H (by simp)
    ·rw [if_neg c4] at H
     have c4b0 : decide (x5_1 < (l0.length : Int)) = false := decide_eq_false c4
     clear c4
     obtain rfl := Option.some.inj H
     go_wp2
     repeat (go_quiet (fail); try go_wp2)
     go_ret
     exact ⟨fs_, by repeat (first | exact Drawn0.refl _ | apply Drawn0.step)⟩
 ·rw [if_neg c3] at H
  have c3b0 : ((l0.length : Int) == (l1.length : Int)) = false := beq_eq_false_iff_ne.mpr c3
  have c3b1 : ((l0.length : Int) != (l1.length : Int)) = true := bne_iff_ne.mpr c3
  have c3b2 : (l0.length == l1.length) = false := by first | simpa using c3 | (simp at c3 ⊢; omega)
  obtain rfl := Option.some.inj H
  go_enter Try.func14, Try.ntmps14
  go_wp2
  repeat (go_quiet (fail); try go_wp2)
  go_ret
  exact ⟨fs_, by repeat (first | exact Drawn0.refl _ | apply Drawn0.step)⟩
/-! ### field_Sub: function 55 -/
def field_Sub.f (k : Nat) (a0 : Int) (a1 : Int) (a2 : Int) : Option (Int × Int) := (field_asked.f k a0 (([a1, a2] : List Int))).bind fun bt179 => (if bt179.2.2 = 0 then ((field_reckoner_sub.f bt179.1 bt179.2.1 a1 a2).bind fun t183 => (some (t183, 0))) else (some (0, bt179.2.2)))
theorem field_Sub.mono : ∀ a0 a1 a2 k, LeO (field_Sub.f k a0 a1 a2) (field_Sub.f (k + 1) a0 a1 a2) := by
 intro a0 a1 a2 k
 unfold field_Sub.f
 repeat' first
   | (with_reducible exact field_asked.mono _ _ _)
   | (with_reducible exact LeO.refl _)
   | (with_reducible exact LeO.none _)
   | (with_reducible refine LeO.ite ?_ ?_)
   | (with_reducible refine LeO.bind ?_ (fun _ => ?_))
   | exact field_asked.mono _ _ _
   | exact LeO.none _
   | refine LeO.ite ?_ ?_
   | refine LeO.bind ?_ (fun _ => ?_)
set_option maxHeartbeats 8000000 in
set_option maxRecDepth 100000 in
theorem field_Sub.calls (k : Nat) (a0 : Int) (a1 : Int) (a2 : Int) (r1 : Int) (r2 : Int) (w : World) (h : field_Sub.f k a0 a1 a2 = some (r1, r2)) :
  Calls Try.prog 55 #[.int .u8 a0, .int .u64 a1, .int .u64 a2] w fun e w' => e = .returned (.tuple #[.int .u64 r1, .int .i64 r2]) ∧ Below w.heap.size w w' := by
 have hu75 := Try.underlying75
 have HB := A_ (Below.refl w.heap.size w)
 have H : ((field_asked.f k a0 (([a1, a2] : List Int))).bind fun bt179 => (if bt179.2.2 = 0 then ((field_reckoner_sub.f bt179.1 bt179.2.1 a1 a2).bind fun t183 => (some (t183, 0))) else (some (0, bt179.2.2)))) = some (r1, r2) := h
 clear h
 obtain ⟨y176, hy176⟩ : ∃ y_ : List Int, y_ = (([a1, a2] : List Int)) := ⟨_, rfl⟩
 replace H : ((field_asked.f k a0 y176).bind fun bt179 => (if bt179.2.2 = 0 then ((field_reckoner_sub.f bt179.1 bt179.2.1 a1 a2).bind fun t183 => (some (t183, 0))) else (some (0, bt179.2.2)))) = some (r1, r2) := by first | (rw [hy176]; with_reducible exact H) | (have H2_ := (Option.bind_some _ _).symm.trans H; rw [hy176]; with_reducible exact H2_) | (have H2_ := (Option.bind_some _ _).symm.trans H; with_reducible exact H2_) | with_reducible exact H | (rw [hy176]; exact H) | exact H
 have Ny176 := Aside0.mk hy176
 clear hy176
 replace H := Option.bind_eq_some_iff.mp H
 obtain ⟨⟨t179, t180, t181⟩, A40, H⟩ := H
 replace H : (if t181 = 0 then ((field_reckoner_sub.f t179 t180 a1 a2).bind fun t183 => (some (t183, 0))) else (some (0, t181))) = some (r1, r2) := H
 have A4 := Aside0.mk A40
 clear A40
 have HC5 := Aside0.mk H
 clear H
 go_enter Try.func55, Try.ntmps55
 go_upto_if 19 with (first | ((with_reducible refine gate_dst (N := 14) rfl ?_); refine Kd.R_lit (Kd.int .u64) _ 49 ?hg (N := 14) ?hd (xs := ([a1, a2] : List Int)) (inner := [.int .u64 a1, .int .u64 a2]) (ok := fun _ => True) (okp := fun _ => True) ?hr ?hp (fun _ hk => hk) trivial (Below.refl _ _) (Nat.le_refl _) (by simp) ?_; (case hd => rfl); (case hg => rfl); (case hr => first | (go_simp; done) | (go_simp; rfl)); (case hp => exact (Reps.one (show Kd.M (Kd.int .u64) _ _ _ a1 [.int .u64 a1] from rfl) (Reps.one (show Kd.M (Kd.int .u64) _ _ _ a2 [.int .u64 a2] from rfl) (Reps.none _ _)))); intro v177 w6 ho7 hb hg_ hnew_; clear hg_ hnew_; (first | rw [← Ny176.out] at ho7 | (simp only [Int.reduceToNat] at ho7; rw [← Ny176.out] at ho7)); have n0_ := A_ (Kd.R_lower ho7 (below_size hb_)); have n1_ := A_ (below_step hb_ hb); clear HB; have HO178 := n0_; have HB := n1_; clear n0_ n1_; clear hb ho7; obtain ⟨Ao8, co8, eo8⟩ := Kd.R_slice HO178.out; subst eo8) | ((with_reducible refine gate_callee (f := 52) rfl ?_); refine goesM_ (some 15) Try.func52 #[.int .u8 a0, .slice Ao8 y176.length co8] ?_; (with_reducible refine (field_asked.calls k a0 _ _ y176 t179 t180 t181 _ ?side1 ?side2 A4.out).mono ?_); (case side1 => repeat (first | exact (Kd.R_reads' HO178.out).2.2 | (with_reducible refine Kd.C_alloc ?_ _) | (with_reducible refine Kd.C_drewN ?_ _) | (with_reducible refine Kd.C_drew ?_))); (case side2 => exact (Kd.R_reads' HO178.out).2.1); rintro e w9 ⟨rfl, hb⟩; refine ⟨_, rfl, ?_⟩; have n0_ := A_ (Kd.R_below (nR_ HO178) hb); have n1_ := A_ (below_step hb_ hb); clear HO178 HB; have HO178 := n0_; have HB := n1_; clear n0_ n1_; (try clear hb)) | ((with_reducible refine gate_dst (N := 8) rfl ?_); refine box_event ?hg (N := 8) ?hd (cs := #[.int .u64 0, .bool false]) (t := 75) ?hr ?_; (case hd => rfl); (case hg => rfl); (case hr => first | (go_simp; done) | (go_simp; rfl)); intro gb182 hg w10 hbox hb; have n0_ := A_ (Kd.R_below (nR_ HO178) hb); have n1_ := A_ (below_step hb_ hb); have n2_ := A_ (hbox); have n3_ := A_ ((by rw [hg]; exact (below_size hb_) : w.heap.size ≤ gb182)); have n4_ := A_ ((by rw [hg]; exact (below_size hb_) : w.heap.size ≤ gb182)); clear HO178 HB; have HO178 := n0_; have HB := n1_; have BK182 := n2_; have GW182 := n3_; have GE182 := n4_; clear n0_ n1_ n2_ n3_ n4_; clear hb hbox hg; have hcz11_0 : w10.cell? ⟨gb182, 0, none⟩ = some (.int .u64 0) := (blk_cell BK182.out 0).trans rfl; have hcz11_1 : w10.cell? ⟨gb182, 1, none⟩ = some (.bool false) := (blk_cell BK182.out 1).trans rfl; have hfz11_0 := blk_frozen BK182.out 0; have hfz11_1 := blk_frozen BK182.out 1))
 (try simp only [Act.put, List.setIfInBounds_toArray, List.set_cons_zero, List.set_cons_succ])
 have H := HC5.out
 clear HC5
 by_cases c12 : t181 = 0
 ·rw [if_pos c12] at H
  have c12b0 : (t181 == 0) = true := beq_iff_eq.mpr c12
  have c12b1 : (t181 != 0) = false := bne_eq_false_iff_eq.mpr c12
  clear c12
  (first | rw [c12b0] | rw [c12b1] | (simp only [i64_w, i32_w]; first | rw [c12b0] | rw [c12b1]) | skip)
  replace H := Option.bind_eq_some_iff.mp H
  obtain ⟨t183, A130, H⟩ := H
  replace H : (some (t183, 0)) = some (r1, r2) := H
  have A13 := Aside0.mk A130
  clear A130
  simp only [Option.some.injEq, Prod.mk.injEq] at H
  obtain ⟨rfl, rfl⟩ := H
  have hcz14_0 : w10.cell? ⟨gb182, 0, none⟩ = some (.int .u64 0) := (blk_cell BK182.out 0).trans rfl
  have hcz14_1 : w10.cell? ⟨gb182, 1, none⟩ = some (.bool false) := (blk_cell BK182.out 1).trans rfl
  have hfz14_0 := blk_frozen BK182.out 0
  have hfz14_1 := blk_frozen BK182.out 1
  go_wp2_with (first | ((with_reducible refine gate_callee (f := 66) rfl ?_); refine goesM_ (some 24) Try.func66 #[.agg #[.int .u64 t179, .bool t180], .int .u64 a1, .int .u64 a2] ?_; (with_reducible refine (field_reckoner_sub.calls t179 t180 a1 a2 t183 _ A13.out).mono ?_); rintro e w15 ⟨rfl, hb⟩; refine ⟨_, rfl, ?_⟩; have n0_ := A_ (Kd.R_below (by (with_reducible repeat (first | apply Kd.R_alloc | apply Kd.R_drewN | apply Kd.R_drew)); exact (Kd.R_mono (Kd.R_far (p := ⟨gb182, 1, none⟩) (Kd.R_far (p := ⟨gb182, 0, none⟩) (Kd.R_types HO178.out BK182.out (by decide)) (fun _ hk => hk.2) (.int .u64 t179)) (fun _ hk => hk.2) (.bool t180)) (fun _ h_ => h_.1))) hb); have n1_ := A_ (blk_below (g := gb182) (o := .cells #[.int .u64 t179, .bool t180] 75 (0, 0)) (by (with_reducible repeat (first | refine blk_drewN ?_ _ | refine blk_drew ?_ | refine blk_alloc ?_ _)); refine blk_put (cs := #[.int .u64 t179, .bool false]) ?_ 1 _ rfl; (with_reducible repeat (first | refine blk_drewN ?_ _ | refine blk_drew ?_ | refine blk_alloc ?_ _)); refine blk_put (cs := #[.int .u64 0, .bool false]) ?_ 0 _ rfl; (with_reducible repeat (first | refine blk_drewN ?_ _ | refine blk_drew ?_ | refine blk_alloc ?_ _)); exact BK182.out) hb); have n2_ := A_ (below_step hs_ hb); clear HO178 BK182 HB; have HO178 := n0_; have BK182 := n1_; have HB := n2_; clear n0_ n1_ n2_; (try clear hb)))
  go_ret2
  exact ⟨fr_, hs_⟩
 ·rw [if_neg c12] at H
  have c12b0 : (t181 == 0) = false := beq_eq_false_iff_ne.mpr c12
  have c12b1 : (t181 != 0) = true := bne_iff_ne.mpr c12
  (first | rw [c12b0] | rw [c12b1] | (simp only [i64_w, i32_w]; first | rw [c12b0] | rw [c12b1]) | skip)
  simp only [Option.some.injEq, Prod.mk.injEq] at H
  obtain ⟨rfl, rfl⟩ := H
  go_wp2
  go_ret2
  exact ⟨fr_, hs_⟩
/-! ### poly_may: function 46 -/
def poly_may.l0 : Nat → Int → Int → List (List Int) → Int → Int → Option (Int)
 | 0, _, _, _, _, _ => none
 | k + 1, x0, x5, x11, x12, x13 => if x13 < x12 then (if 0 ≤ x13 then (if x13 < (x11.length : Int) then ((field_In.f k x0 (rd_L1 x11 x13)).bind fun t186 => (if t186 = true then (if ((rd_L1 x11 x13).length : Int) > 4096 then (poly_may.l0 k x0 4 x11 x12 (wrap64 (x13 + 1))) else (poly_may.l0 k x0 x5 x11 x12 (wrap64 (x13 + 1)))) else (some 2))) else (none)) else (none)) else (some x5)
def poly_may.f (k : Nat) (a0 : Int) (l1 : List (List Int)) : Option (Int) := (field_In.f k a0 ([] : List Int)).bind fun t184 => (if t184 = true then (poly_may.l0 k a0 0 l1 (l1.length : Int) 0) else (some 2))
theorem poly_may.mono_l : ∀ k, (∀ y0 y1 y2 y3 y4, LeO (poly_may.l0 k y0 y1 y2 y3 y4) (poly_may.l0 (k + 1) y0 y1 y2 y3 y4))
 | 0 => fun _ _ _ _ _ r h => by simp [poly_may.l0] at h
 | k + 1 => by
  have ih0 := poly_may.mono_l k
  ·intro y0 y1 y2 y3 y4
   unfold poly_may.l0
   repeat' first
   | (with_reducible exact ih0 _ _ _ _ _)
   | (with_reducible exact field_In.mono _ _ _)
   | (with_reducible exact LeO.refl _)
   | (with_reducible exact LeO.none _)
   | (with_reducible refine LeO.ite ?_ ?_)
   | (with_reducible refine LeO.bind ?_ (fun _ => ?_))
   | exact ih0 _ _ _ _ _
   | exact field_In.mono _ _ _
   | exact LeO.none _
   | refine LeO.ite ?_ ?_
   | refine LeO.bind ?_ (fun _ => ?_)
theorem poly_may.mono : ∀ a0 a1 k, LeO (poly_may.f k a0 a1) (poly_may.f (k + 1) a0 a1) := by
 intro a0 a1 k
 have ih0 := poly_may.mono_l k
 unfold poly_may.f
 repeat' first
   | (with_reducible exact ih0 _ _ _ _ _)
   | (with_reducible exact field_In.mono _ _ _)
   | (with_reducible exact LeO.refl _)
   | (with_reducible exact LeO.none _)
   | (with_reducible refine LeO.ite ?_ ?_)
   | (with_reducible refine LeO.bind ?_ (fun _ => ?_))
   | exact ih0 _ _ _ _ _
   | exact field_In.mono _ _ _
   | exact LeO.none _
   | refine LeO.ite ?_ ?_
   | refine LeO.bind ?_ (fun _ => ?_)
set_option maxHeartbeats 8000000 in
set_option maxRecDepth 100000 in
theorem poly_may.calls (k : Nat) (a0 : Int) (A1 : Option Addr) (c1 : Nat) (l1 : List (List Int)) (r : Int) (w : World) (hr1 : Kd.C (Kd.slice 49 (Kd.int .u64)) w A1 l1.length l1) (hc1 : l1.length ≤ c1) (h : poly_may.f k a0 l1 = some r) :
  Calls Try.prog 46 #[.int .u8 a0, .slice A1 l1.length c1] w fun e w' => e = .returned (.int .i64 r) ∧ Below w.heap.size w w' := by
 have HR1 := Aside0.mk hr1
 have HC1 := Aside0.mk hc1
 clear hr1 hc1
 have HB := A_ (Below.refl w.heap.size w)
 have H : ((field_In.f k a0 ([] : List Int)).bind fun t184 => (if t184 = true then (poly_may.l0 k a0 0 l1 (l1.length : Int) 0) else (some 2))) = some r := h
 clear h
 replace H := Option.bind_eq_some_iff.mp H
 obtain ⟨t184, A30, H⟩ := H
 replace H : (if t184 = true then (poly_may.l0 k a0 0 l1 (l1.length : Int) 0) else (some 2)) = some r := H
 have A3 := Aside0.mk A30
 clear A30
 have HC4 := Aside0.mk H
 clear H
 go_enter Try.func46, Try.ntmps46
 go_upto_if 10 with (first | ((with_reducible refine gate_callee (f := 45) rfl ?_); refine goesM_ (some 9) Try.func45 #[.int .u8 a0, .slice none 0 0] ?_; (refine (field_In.calls k a0 _ _ ([] : List Int) t184 _ ?side1 ?side2 A3.out).mono ?_); (case side1 => exact Kd.C_nil _ _); (case side2 => exact Nat.le_refl _); rintro e w5 ⟨rfl, hb⟩; refine ⟨_, rfl, ?_⟩; have n0_ := A_ (below_step hb_ hb); clear HB; have HB := n0_; clear n0_; (try clear hb)))
 (try simp only [Act.put, List.setIfInBounds_toArray, List.set_cons_zero, List.set_cons_succ])
 have H := HC4.out
 clear HC4
 by_cases c6 : t184 = true
 ·subst c6
  have H1 : (poly_may.l0 k a0 0 l1 (l1.length : Int) 0) = some r := by rw [if_pos rfl] at H; exact H
  clear H
  have H := H1
  clear H1
  have H' := Aside0.mk H
  clear H
  go_wp2
  go_loopg [5, 13] k (fun kq v5 v13 w' => ∃ (x5_1 : Int) (x13_1 : Int), v5 = .int .i64 x5_1 ∧ v13 = .int .i64 x13_1 ∧ Aside0 (poly_may.l0 kq a0 x5_1 l1 (l1.length : Int) x13_1 = some r) ∧ Aside0 (kq ≤ k) ∧ Aside0 (Below w.heap.size w w'))
  case atStart => exact ⟨(0), (0), (fs_), (fs_), H', ⟨Nat.le_refl _⟩, ⟨by repeat (first | (with_reducible first | exact HB.out | apply below_alloc | apply pw_below_drewN | apply below_drew1) | exact HB.out)⟩⟩
  case round =>
   clear H'
   try clear c1
   try clear p2
   try clear c4
   try clear c6
   obtain ⟨x5_1, x13_1, rfl, rfl, HA, HK1, HB⟩ := hrel
   cases gk with
   | zero => exact absurd HA.out (by simp [poly_may.l0])
   | succ k1 =>
    have H := HA.out
    clear HA
    simp only [poly_may.l0] at H
    by_cases c7 : x13_1 < (l1.length : Int)
    ·rw [if_pos c7] at H
     have c7b0 : decide (x13_1 < (l1.length : Int)) = true := decide_eq_true c7
     clear c7
     (first | rw [c7b0] | (simp only [i64_w, i32_w]; first | rw [c7b0]) | skip)
     by_cases c8 : 0 ≤ x13_1
     ·rw [if_pos c8] at H
      have c8b0 : decide (0 ≤ x13_1) = true := decide_eq_true c8
      clear c8
      by_cases c9 : x13_1 < (l1.length : Int)
      ·rw [if_pos c9] at H
       have c9b0 : decide (x13_1 < (l1.length : Int)) = true := decide_eq_true c9
       clear c9
       replace H := Option.bind_eq_some_iff.mp H
       obtain ⟨t186, A100, H⟩ := H
       replace H : (if t186 = true then (if ((rd_L1 l1 x13_1).length : Int) > 4096 then (poly_may.l0 k1 a0 4 l1 (l1.length : Int) (wrap64 (x13_1 + 1))) else (poly_may.l0 k1 a0 x5_1 l1 (l1.length : Int) (wrap64 (x13_1 + 1)))) else (some 2)) = some r := H
       have A10 := Aside0.mk A100
       clear A100
       have HC11 := Aside0.mk H
       clear H
       have p185 : 0 ≤ (x13_1 : Int) := of_decide_eq_true (by first | (with_reducible assumption) | assumption)
       have q185 : x13_1 < (l1.length : Int) := of_decide_eq_true (by first | (with_reducible assumption) | assumption)
       obtain ⟨ad185, A185_0, c185_0, e185, hx185_0, hl185_0, hi185_0⟩ := at_L1 HR1.out x13_1 p185 q185
       cases e185
       replace hx185_0 := (HB.out.cell (World.block_lt_of_cell? w _ hx185_0)).trans hx185_0
       have HR185_0 := Aside0.mk hi185_0
       have HC185_0 := Aside0.mk hl185_0
       clear hi185_0 hl185_0
       replace p185 := eq_true p185
       replace q185 := eq_true q185
       go_upto_if 20 with (first | ((with_reducible refine gate_callee (f := 45) rfl ?_); refine goesM_ (some 19) Try.func45 #[.int .u8 a0, .slice A185_0 (rd_L1 l1 x13_1).length c185_0] ?_; (with_reducible refine (field_In.calls k1 a0 _ _ (rd_L1 l1 x13_1) t186 _ ?side1 ?side2 A10.out).mono ?_); (case side1 => repeat (first | exact (Kd.C_below HR185_0.out HB.out) | (with_reducible refine Kd.C_alloc ?_ _) | (with_reducible refine Kd.C_drewN ?_ _) | (with_reducible refine Kd.C_drew ?_))); (case side2 => exact HC185_0.out); rintro e w12 ⟨rfl, hb⟩; refine ⟨_, rfl, ?_⟩; have n0_ := A_ (below_step hb_ hb); clear HB; have HB := n0_; clear n0_; (try clear hb)))
       (try simp only [Act.put, List.setIfInBounds_toArray, List.set_cons_zero, List.set_cons_succ])
       have H := HC11.out
       clear HC11
       by_cases c13 : t186 = true
       ·subst c13
        have H1 : (if ((rd_L1 l1 x13_1).length : Int) > 4096 then (poly_may.l0 k1 a0 4 l1 (l1.length : Int) (wrap64 (x13_1 + 1))) else (poly_may.l0 k1 a0 x5_1 l1 (l1.length : Int) (wrap64 (x13_1 + 1)))) = some r := by rw [if_pos rfl] at H; exact H
        clear H
        have H := H1
        clear H1
        by_cases c14 : ((rd_L1 l1 x13_1).length : Int) > 4096
        ·rw [if_pos c14] at H
         have c14b0 : decide (4096 < ((rd_L1 l1 x13_1).length : Int)) = true := decide_eq_true c14
         have c14b1 : decide (4096 < (rd_L1 l1 x13_1).length) = true := decide_eq_true (by omega)
         clear c14
         (first | rw [c14b0] | rw [c14b1] | (simp only [i64_w, i32_w]; first | rw [c14b0] | rw [c14b1]) | skip)
         have H' := Aside0.mk H
         clear H
         go_wp2
         go_roundg k1
         case measure => have := HK1.out; omega
         case rel => exact ⟨(4), (wrap64 (x13_1 + 1)), (fs_), (fs_), H', ⟨by have := HK1.out; omega⟩, ⟨by repeat (first | (with_reducible first | exact HB.out | apply below_alloc | apply pw_below_drewN | apply below_drew1) | exact HB.out)⟩⟩
        ·rw [if_neg c14] at H
         have c14b0 : decide (4096 < ((rd_L1 l1 x13_1).length : Int)) = false := decide_eq_false c14
         have c14b1 : decide (4096 < (rd_L1 l1 x13_1).length) = false := decide_eq_false (by omega)
         clear c14
         (first | rw [c14b0] | rw [c14b1] | (simp only [i64_w, i32_w]; first | rw [c14b0] | rw [c14b1]) | skip)
         have H' := Aside0.mk H
         clear H
         go_wp2
         go_roundg k1
         case measure => have := HK1.out; omega
         case rel => exact ⟨(x5_1), (wrap64 (x13_1 + 1)), (fs_), (fs_), H', ⟨by have := HK1.out; omega⟩, ⟨by repeat (first | (with_reducible first | exact HB.out | apply below_alloc | apply pw_below_drewN | apply below_drew1) | exact HB.out)⟩⟩
       ·replace c13 := Bool.eq_false_iff.mpr c13
        subst c13
        have H1 : (some 2) = some r := by rw [if_neg (show ¬ (false = true) by decide)] at H; exact H
        clear H
        have H := H1
        clear H1
        obtain rfl := Option.some.inj H
        go_wp2
        go_ret
        exact ⟨fr_, hb_⟩
      ·rw [if_neg c9] at H
       exact absurd H (by simp)
     ·rw [if_neg c8] at H
      exact absurd H (by simp)
    ·rw [if_neg c7] at H
     have c7b0 : decide (x13_1 < (l1.length : Int)) = false := decide_eq_false c7
     clear c7
     (first | rw [c7b0] | (simp only [i64_w, i32_w]; first | rw [c7b0]) | skip)
     obtain rfl := Option.some.inj H
     go_wp2
     go_ret
     exact ⟨fr_, hb_⟩
 ·replace c6 := Bool.eq_false_iff.mpr c6
  subst c6
  have H1 : (some 2) = some r := by rw [if_neg (show ¬ (false = true) by decide)] at H; exact H
  clear H
  have H := H1
  clear H1
  obtain rfl := Option.some.inj H
  go_wp2
  go_ret
  exact ⟨fr_, hb_⟩
/-! ### poly_reckoner_mul: function 49 -/
def poly_reckoner_mul.f (k : Nat) (a0_0 : Int) (a1 : Int) (a2 : Int) : Option (Int) := (field_Mul.f k a0_0 a1 a2).bind fun bt188 => (some bt188.1)
theorem poly_reckoner_mul.mono : ∀ a0 a1 a2 k, LeO (poly_reckoner_mul.f k a0 a1 a2) (poly_reckoner_mul.f (k + 1) a0 a1 a2) := by
 intro a0 a1 a2 k
 unfold poly_reckoner_mul.f
 repeat' first
   | (with_reducible exact field_Mul.mono _ _ _ _)
   | (with_reducible exact LeO.refl _)
   | (with_reducible exact LeO.none _)
   | (with_reducible refine LeO.ite ?_ ?_)
   | (with_reducible refine LeO.bind ?_ (fun _ => ?_))
   | exact field_Mul.mono _ _ _ _
   | exact LeO.none _
   | refine LeO.ite ?_ ?_
   | refine LeO.bind ?_ (fun _ => ?_)
set_option maxHeartbeats 8000000 in
set_option maxRecDepth 100000 in
theorem poly_reckoner_mul.calls (k : Nat) (a0_0 : Int) (a1 : Int) (a2 : Int) (r : Int) (w : World) (h : poly_reckoner_mul.f k a0_0 a1 a2 = some r) :
  Calls Try.prog 49 #[.agg #[.int .u8 a0_0], .int .u64 a1, .int .u64 a2] w fun e w' => e = .returned (.int .u64 r) ∧ Below w.heap.size w w' := by
 have hu72 := Try.underlying72
 have HB := A_ (Below.refl w.heap.size w)
 have H : ((field_Mul.f k a0_0 a1 a2).bind fun bt188 => (some bt188.1)) = some r := h
 clear h
 replace H := Option.bind_eq_some_iff.mp H
 obtain ⟨⟨t188, t189⟩, A40, H⟩ := H
 replace H : (some t188) = some r := H
 have A4 := Aside0.mk A40
 clear A40
 obtain rfl := Option.some.inj H
 go_enter Try.func49, Try.ntmps49
 go_wp2_with (first | ((with_reducible refine gate_dst (N := 3) rfl ?_); refine box_event ?hg (N := 3) ?hd (cs := #[.int .u8 a0_0]) (t := 72) ?hr ?_; (case hd => rfl); (case hg => rfl); (case hr => first | (go_simp; done) | (go_simp; rfl)); intro gb187 hg w5 hbox hb; have n0_ := A_ (below_step hb_ hb); have n1_ := A_ (hbox); have n2_ := A_ ((by rw [hg]; exact (below_size hb_) : w.heap.size ≤ gb187)); have n3_ := A_ ((by rw [hg]; exact (below_size hb_) : w.heap.size ≤ gb187)); clear HB; have HB := n0_; have BK187 := n1_; have GW187 := n2_; have GE187 := n3_; clear n0_ n1_ n2_ n3_; clear hb hbox hg; have hcz6_0 : w5.cell? ⟨gb187, 0, none⟩ = some (.int .u8 a0_0) := (blk_cell BK187.out 0).trans rfl; have hfz6_0 := blk_frozen BK187.out 0) | ((with_reducible refine gate_callee (f := 35) rfl ?_); refine goesM_ (some 14) Try.func35 #[.int .u8 a0_0, .int .u64 a1, .int .u64 a2] ?_; (with_reducible refine (field_Mul.calls k a0_0 a1 a2 t188 t189 _ A4.out).mono ?_); rintro e w7 ⟨rfl, hb⟩; refine ⟨_, rfl, ?_⟩; have n0_ := A_ (blk_below (g := gb187) (o := .cells #[.int .u8 a0_0] 72 (0, 0)) (nb_ BK187) hb); have n1_ := A_ (below_step hs_ hb); clear BK187 HB; have BK187 := n0_; have HB := n1_; clear n0_ n1_; (try clear hb)))
 go_ret
 exact ⟨fr_, hs_⟩
/-! ### field_Add: function 75 -/
def field_Add.f (k : Nat) (a0 : Int) (a1 : Int) (a2 : Int) : Option (Int × Int) := (field_asked.f k a0 (([a1, a2] : List Int))).bind fun bt193 => (if bt193.2.2 = 0 then ((field_reckoner_add.f bt193.1 bt193.2.1 a1 a2).bind fun t197 => (some (t197, 0))) else (some (0, bt193.2.2)))
theorem field_Add.mono : ∀ a0 a1 a2 k, LeO (field_Add.f k a0 a1 a2) (field_Add.f (k + 1) a0 a1 a2) := by
 intro a0 a1 a2 k
 unfold field_Add.f
 repeat' first
   | (with_reducible exact field_asked.mono _ _ _)
   | (with_reducible exact LeO.refl _)
   | (with_reducible exact LeO.none _)
   | (with_reducible refine LeO.ite ?_ ?_)
   | (with_reducible refine LeO.bind ?_ (fun _ => ?_))
   | exact field_asked.mono _ _ _
   | exact LeO.none _
   | refine LeO.ite ?_ ?_
   | refine LeO.bind ?_ (fun _ => ?_)
set_option maxHeartbeats 8000000 in
set_option maxRecDepth 100000 in
theorem field_Add.calls (k : Nat) (a0 : Int) (a1 : Int) (a2 : Int) (r1 : Int) (r2 : Int) (w : World) (h : field_Add.f k a0 a1 a2 = some (r1, r2)) :
  Calls Try.prog 75 #[.int .u8 a0, .int .u64 a1, .int .u64 a2] w fun e w' => e = .returned (.tuple #[.int .u64 r1, .int .i64 r2]) ∧ Below w.heap.size w w' := by
 have hu75 := Try.underlying75
 have HB := A_ (Below.refl w.heap.size w)
 have H : ((field_asked.f k a0 (([a1, a2] : List Int))).bind fun bt193 => (if bt193.2.2 = 0 then ((field_reckoner_add.f bt193.1 bt193.2.1 a1 a2).bind fun t197 => (some (t197, 0))) else (some (0, bt193.2.2)))) = some (r1, r2) := h
 clear h
 obtain ⟨y190, hy190⟩ : ∃ y_ : List Int, y_ = (([a1, a2] : List Int)) := ⟨_, rfl⟩
 replace H : ((field_asked.f k a0 y190).bind fun bt193 => (if bt193.2.2 = 0 then ((field_reckoner_add.f bt193.1 bt193.2.1 a1 a2).bind fun t197 => (some (t197, 0))) else (some (0, bt193.2.2)))) = some (r1, r2) := by first | (rw [hy190]; with_reducible exact H) | (have H2_ := (Option.bind_some _ _).symm.trans H; rw [hy190]; with_reducible exact H2_) | (have H2_ := (Option.bind_some _ _).symm.trans H; with_reducible exact H2_) | with_reducible exact H | (rw [hy190]; exact H) | exact H
 have Ny190 := Aside0.mk hy190
 clear hy190
 replace H := Option.bind_eq_some_iff.mp H
 obtain ⟨⟨t193, t194, t195⟩, A40, H⟩ := H
 replace H : (if t195 = 0 then ((field_reckoner_add.f t193 t194 a1 a2).bind fun t197 => (some (t197, 0))) else (some (0, t195))) = some (r1, r2) := H
 have A4 := Aside0.mk A40
 clear A40
 have HC5 := Aside0.mk H
 clear H
 go_enter Try.func75, Try.ntmps75
 go_upto_if 19 with (first | ((with_reducible refine gate_dst (N := 14) rfl ?_); refine Kd.R_lit (Kd.int .u64) _ 49 ?hg (N := 14) ?hd (xs := ([a1, a2] : List Int)) (inner := [.int .u64 a1, .int .u64 a2]) (ok := fun _ => True) (okp := fun _ => True) ?hr ?hp (fun _ hk => hk) trivial (Below.refl _ _) (Nat.le_refl _) (by simp) ?_; (case hd => rfl); (case hg => rfl); (case hr => first | (go_simp; done) | (go_simp; rfl)); (case hp => exact (Reps.one (show Kd.M (Kd.int .u64) _ _ _ a1 [.int .u64 a1] from rfl) (Reps.one (show Kd.M (Kd.int .u64) _ _ _ a2 [.int .u64 a2] from rfl) (Reps.none _ _)))); intro v191 w6 ho7 hb hg_ hnew_; clear hg_ hnew_; (first | rw [← Ny190.out] at ho7 | (simp only [Int.reduceToNat] at ho7; rw [← Ny190.out] at ho7)); have n0_ := A_ (Kd.R_lower ho7 (below_size hb_)); have n1_ := A_ (below_step hb_ hb); clear HB; have HO192 := n0_; have HB := n1_; clear n0_ n1_; clear hb ho7; obtain ⟨Ao8, co8, eo8⟩ := Kd.R_slice HO192.out; subst eo8) | ((with_reducible refine gate_callee (f := 52) rfl ?_); refine goesM_ (some 15) Try.func52 #[.int .u8 a0, .slice Ao8 y190.length co8] ?_; (with_reducible refine (field_asked.calls k a0 _ _ y190 t193 t194 t195 _ ?side1 ?side2 A4.out).mono ?_); (case side1 => repeat (first | exact (Kd.R_reads' HO192.out).2.2 | (with_reducible refine Kd.C_alloc ?_ _) | (with_reducible refine Kd.C_drewN ?_ _) | (with_reducible refine Kd.C_drew ?_))); (case side2 => exact (Kd.R_reads' HO192.out).2.1); rintro e w9 ⟨rfl, hb⟩; refine ⟨_, rfl, ?_⟩; have n0_ := A_ (Kd.R_below (nR_ HO192) hb); have n1_ := A_ (below_step hb_ hb); clear HO192 HB; have HO192 := n0_; have HB := n1_; clear n0_ n1_; (try clear hb)) | ((with_reducible refine gate_dst (N := 8) rfl ?_); refine box_event ?hg (N := 8) ?hd (cs := #[.int .u64 0, .bool false]) (t := 75) ?hr ?_; (case hd => rfl); (case hg => rfl); (case hr => first | (go_simp; done) | (go_simp; rfl)); intro gb196 hg w10 hbox hb; have n0_ := A_ (Kd.R_below (nR_ HO192) hb); have n1_ := A_ (below_step hb_ hb); have n2_ := A_ (hbox); have n3_ := A_ ((by rw [hg]; exact (below_size hb_) : w.heap.size ≤ gb196)); have n4_ := A_ ((by rw [hg]; exact (below_size hb_) : w.heap.size ≤ gb196)); clear HO192 HB; have HO192 := n0_; have HB := n1_; have BK196 := n2_; have GW196 := n3_; have GE196 := n4_; clear n0_ n1_ n2_ n3_ n4_; clear hb hbox hg; have hcz11_0 : w10.cell? ⟨gb196, 0, none⟩ = some (.int .u64 0) := (blk_cell BK196.out 0).trans rfl; have hcz11_1 : w10.cell? ⟨gb196, 1, none⟩ = some (.bool false) := (blk_cell BK196.out 1).trans rfl; have hfz11_0 := blk_frozen BK196.out 0; have hfz11_1 := blk_frozen BK196.out 1))
 (try simp only [Act.put, List.setIfInBounds_toArray, List.set_cons_zero, List.set_cons_succ])
 have H := HC5.out
 clear HC5
 by_cases c12 : t195 = 0
 ·rw [if_pos c12] at H
  have c12b0 : (t195 == 0) = true := beq_iff_eq.mpr c12
  have c12b1 : (t195 != 0) = false := bne_eq_false_iff_eq.mpr c12
  clear c12
  (first | rw [c12b0] | rw [c12b1] | (simp only [i64_w, i32_w]; first | rw [c12b0] | rw [c12b1]) | skip)
  replace H := Option.bind_eq_some_iff.mp H
  obtain ⟨t197, A130, H⟩ := H
  replace H : (some (t197, 0)) = some (r1, r2) := H
  have A13 := Aside0.mk A130
  clear A130
  simp only [Option.some.injEq, Prod.mk.injEq] at H
  obtain ⟨rfl, rfl⟩ := H
  have hcz14_0 : w10.cell? ⟨gb196, 0, none⟩ = some (.int .u64 0) := (blk_cell BK196.out 0).trans rfl
  have hcz14_1 : w10.cell? ⟨gb196, 1, none⟩ = some (.bool false) := (blk_cell BK196.out 1).trans rfl
  have hfz14_0 := blk_frozen BK196.out 0
  have hfz14_1 := blk_frozen BK196.out 1
  go_wp2_with (first | ((with_reducible refine gate_callee (f := 65) rfl ?_); refine goesM_ (some 24) Try.func65 #[.agg #[.int .u64 t193, .bool t194], .int .u64 a1, .int .u64 a2] ?_; (with_reducible refine (field_reckoner_add.calls t193 t194 a1 a2 t197 _ A13.out).mono ?_); rintro e w15 ⟨rfl, hb⟩; refine ⟨_, rfl, ?_⟩; have n0_ := A_ (Kd.R_below (by (with_reducible repeat (first | apply Kd.R_alloc | apply Kd.R_drewN | apply Kd.R_drew)); exact (Kd.R_mono (Kd.R_far (p := ⟨gb196, 1, none⟩) (Kd.R_far (p := ⟨gb196, 0, none⟩) (Kd.R_types HO192.out BK196.out (by decide)) (fun _ hk => hk.2) (.int .u64 t193)) (fun _ hk => hk.2) (.bool t194)) (fun _ h_ => h_.1))) hb); have n1_ := A_ (blk_below (g := gb196) (o := .cells #[.int .u64 t193, .bool t194] 75 (0, 0)) (by (with_reducible repeat (first | refine blk_drewN ?_ _ | refine blk_drew ?_ | refine blk_alloc ?_ _)); refine blk_put (cs := #[.int .u64 t193, .bool false]) ?_ 1 _ rfl; (with_reducible repeat (first | refine blk_drewN ?_ _ | refine blk_drew ?_ | refine blk_alloc ?_ _)); refine blk_put (cs := #[.int .u64 0, .bool false]) ?_ 0 _ rfl; (with_reducible repeat (first | refine blk_drewN ?_ _ | refine blk_drew ?_ | refine blk_alloc ?_ _)); exact BK196.out) hb); have n2_ := A_ (below_step hs_ hb); clear HO192 BK196 HB; have HO192 := n0_; have BK196 := n1_; have HB := n2_; clear n0_ n1_ n2_; (try clear hb)))
  go_ret2
  exact ⟨fr_, hs_⟩
 ·rw [if_neg c12] at H
  have c12b0 : (t195 == 0) = false := beq_eq_false_iff_ne.mpr c12
  have c12b1 : (t195 != 0) = true := bne_iff_ne.mpr c12
  (first | rw [c12b0] | rw [c12b1] | (simp only [i64_w, i32_w]; first | rw [c12b0] | rw [c12b1]) | skip)
  simp only [Option.some.injEq, Prod.mk.injEq] at H
  obtain ⟨rfl, rfl⟩ := H
  go_wp2
  go_ret2
  exact ⟨fr_, hs_⟩
/-! ### poly_reckoner_add: function 69 -/
def poly_reckoner_add.f (k : Nat) (a0_0 : Int) (a1 : Int) (a2 : Int) : Option (Int) := (field_Add.f k a0_0 a1 a2).bind fun bt199 => (some bt199.1)
theorem poly_reckoner_add.mono : ∀ a0 a1 a2 k, LeO (poly_reckoner_add.f k a0 a1 a2) (poly_reckoner_add.f (k + 1) a0 a1 a2) := by
 intro a0 a1 a2 k
 unfold poly_reckoner_add.f
 repeat' first
   | (with_reducible exact field_Add.mono _ _ _ _)
   | (with_reducible exact LeO.refl _)
   | (with_reducible exact LeO.none _)
   | (with_reducible refine LeO.ite ?_ ?_)
   | (with_reducible refine LeO.bind ?_ (fun _ => ?_))
   | exact field_Add.mono _ _ _ _
   | exact LeO.none _
   | refine LeO.ite ?_ ?_
   | refine LeO.bind ?_ (fun _ => ?_)
set_option maxHeartbeats 8000000 in
set_option maxRecDepth 100000 in
theorem poly_reckoner_add.calls (k : Nat) (a0_0 : Int) (a1 : Int) (a2 : Int) (r : Int) (w : World) (h : poly_reckoner_add.f k a0_0 a1 a2 = some r) :
  Calls Try.prog 69 #[.agg #[.int .u8 a0_0], .int .u64 a1, .int .u64 a2] w fun e w' => e = .returned (.int .u64 r) ∧ Below w.heap.size w w' := by
 have hu72 := Try.underlying72
 have HB := A_ (Below.refl w.heap.size w)
 have H : ((field_Add.f k a0_0 a1 a2).bind fun bt199 => (some bt199.1)) = some r := h
 clear h
 replace H := Option.bind_eq_some_iff.mp H
 obtain ⟨⟨t199, t200⟩, A40, H⟩ := H
 replace H : (some t199) = some r := H
 have A4 := Aside0.mk A40
 clear A40
 obtain rfl := Option.some.inj H
 go_enter Try.func69, Try.ntmps69
 go_wp2_with (first | ((with_reducible refine gate_dst (N := 3) rfl ?_); refine box_event ?hg (N := 3) ?hd (cs := #[.int .u8 a0_0]) (t := 72) ?hr ?_; (case hd => rfl); (case hg => rfl); (case hr => first | (go_simp; done) | (go_simp; rfl)); intro gb198 hg w5 hbox hb; have n0_ := A_ (below_step hb_ hb); have n1_ := A_ (hbox); have n2_ := A_ ((by rw [hg]; exact (below_size hb_) : w.heap.size ≤ gb198)); have n3_ := A_ ((by rw [hg]; exact (below_size hb_) : w.heap.size ≤ gb198)); clear HB; have HB := n0_; have BK198 := n1_; have GW198 := n2_; have GE198 := n3_; clear n0_ n1_ n2_ n3_; clear hb hbox hg; have hcz6_0 : w5.cell? ⟨gb198, 0, none⟩ = some (.int .u8 a0_0) := (blk_cell BK198.out 0).trans rfl; have hfz6_0 := blk_frozen BK198.out 0) | ((with_reducible refine gate_callee (f := 75) rfl ?_); refine goesM_ (some 14) Try.func75 #[.int .u8 a0_0, .int .u64 a1, .int .u64 a2] ?_; (with_reducible refine (field_Add.calls k a0_0 a1 a2 t199 t200 _ A4.out).mono ?_); rintro e w7 ⟨rfl, hb⟩; refine ⟨_, rfl, ?_⟩; have n0_ := A_ (blk_below (g := gb198) (o := .cells #[.int .u8 a0_0] 72 (0, 0)) (nb_ BK198) hb); have n1_ := A_ (below_step hs_ hb); clear BK198 HB; have BK198 := n0_; have HB := n1_; clear n0_ n1_; (try clear hb)))
 go_ret
 exact ⟨fr_, hs_⟩
end Go.Proofs.Ytkaongcpekhbdaa.PTreeSlopes
