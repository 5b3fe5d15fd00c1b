/- The Go functions as Lean functions, each with the proof that its call comes to just that; written by a program of this session, by the words of the print. -/
import Derived.Test.YtkaongcpekhbdaaPTreeFreshx0
import Derived.Test.YtkaongcpekhbdaaPTreeFreshx1
import Derived.Test.YtkaongcpekhbdaaPTreeFreshx4
import Derived.Test.YtkaongcpekhbdaaPTreeFreshx5
import Derived.Test.YtkaongcpekhbdaaPTreeFreshx8
import Derived.Test.YtkaongcpekhbdaaPTreeFreshx11
namespace Go.Proofs.Ytkaongcpekhbdaa.PTreeFresh
open Go.RowKit Go.Proofs.YtkaongcpekhbdaaW.PrintWords Go.Proofs.YtkaongcpekhbdaaW.PrintLast Go.Proofs.YtkaongcpekhbdaaW.PrintMore
attribute [local go_sem] max2_int min2_int max_two min_two max_three min_three max_four min_four   -- for this text's walks alone
set_option linter.unusedVariables false
set_option linter.unusedSimpArgs false
/-! ### tree_down: function 40 -/
mutual
def tree_down.l0 : Nat → Int → List Int → List Int → List Int → Int → Int → Option (List Int × Int)
 | 0, _, _, _, _, _, _ => none
 | k + 1, x0, x1, x2, x24, x25, x26 => if x26 < x25 then (if 0 ≤ x26 then (if x26 < (x24.length : Int) then ((poly_Eval.f k x0 x2 (rd x24 x26)).bind fun bt342 => (if bt342.2 = 0 then (if x1.length < 17592186044416 then (tree_down.l0 k x0 (x1 ++ [bt342.1]) x2 x24 x25 (wrap64 (x26 + 1))) else (none)) else (some (([] : List Int), bt342.2)))) else (none)) else (none)) else (some (x1, 0))
def tree_down.f : Nat → Int → List Int → List Int → List Int → Option (List Int × Int)
 | 0, _, _, _, _ => none
 | k + 1, a0, l1, l2, l3 => if (l3.length : Int) ≤ 32 then (tree_down.l0 k a0 l1 l2 l3 (l3.length : Int) 0) else (if 0 ≤ (wrap64 ((l3.length : Int) / 2)) then (if (wrap64 ((l3.length : Int) / 2)) ≤ (l3.length : Int) then ((some (l3.take ((wrap64 ((l3.length : Int) / 2)) : Int).toNat : List Int)).bind fun y347 => (if (l3.length : Int) ≤ (l3.length : Int) then ((some ((l3.take ((l3.length : Int) : Int).toNat).drop ((wrap64 ((l3.length : Int) / 2)) : Int).toNat : List Int)).bind fun y352 => ((tree_Zero.f k a0 y347).bind fun bt357 => (if bt357.2 = 0 then ((poly_DivMod.f k a0 l2 bt357.1).bind fun bt361 => (if bt361.2.2 = 0 then ((tree_down.f k a0 l1 bt361.2.1 y347).bind fun bt368 => (if bt368.2 = 0 then ((tree_Zero.f k a0 y352).bind fun bt372 => (if bt372.2 = 0 then ((poly_DivMod.f k a0 l2 bt372.1).bind fun bt376 => (if bt376.2.2 = 0 then ((tree_down.f k a0 bt368.1 bt376.2.1 y352).bind fun bt383 => (if bt383.2 = 0 then (some (bt383.1, 0)) else (some (([] : List Int), bt383.2)))) else (some (([] : List Int), bt376.2.2)))) else (some (([] : List Int), bt372.2)))) else (some (([] : List Int), bt368.2)))) else (some (([] : List Int), bt361.2.2)))) else (some (([] : List Int), bt357.2))))) else (none))) else (none)) else (none))
end
theorem tree_down.mono_l : ∀ k, (∀ y0 y1 y2 y3, LeO (tree_down.f k y0 y1 y2 y3) (tree_down.f (k + 1) y0 y1 y2 y3)) ∧ (∀ y0 y1 y2 y3 y4 y5, LeO (tree_down.l0 k y0 y1 y2 y3 y4 y5) (tree_down.l0 (k + 1) y0 y1 y2 y3 y4 y5))
 | 0 => ⟨fun _ _ _ _ r h => by simp [tree_down.f] at h, fun _ _ _ _ _ _ r h => by simp [tree_down.l0] at h⟩
 | k + 1 => by
  obtain ⟨ih0, ih1⟩ := tree_down.mono_l k
  refine ⟨?_, ?_⟩
  ·intro y0 y1 y2 y3
   unfold tree_down.f
   repeat' first
   | (with_reducible exact ih0 _ _ _ _)
   | (with_reducible exact ih1 _ _ _ _ _ _)
   | (with_reducible exact poly_DivMod.mono _ _ _ _)
   | (with_reducible exact poly_Eval.mono _ _ _ _)
   | (with_reducible exact tree_Zero.mono _ _ _)
   | (with_reducible exact LeO.refl _)
   | (with_reducible exact LeO.none _)
   | (with_reducible refine LeO.ite ?_ ?_)
   | (with_reducible refine LeO.bind ?_ (fun _ => ?_))
   | exact ih0 _ _ _ _
   | exact ih1 _ _ _ _ _ _
   | exact poly_DivMod.mono _ _ _ _
   | exact poly_Eval.mono _ _ _ _
   | exact tree_Zero.mono _ _ _
   | exact LeO.none _
   | refine LeO.ite ?_ ?_
   | refine LeO.bind ?_ (fun _ => ?_)
  ·intro y0 y1 y2 y3 y4 y5
   unfold tree_down.l0
   repeat' first
   | (with_reducible exact ih0 _ _ _ _)
   | (with_reducible exact ih1 _ _ _ _ _ _)
   | (with_reducible exact poly_DivMod.mono _ _ _ _)
   | (with_reducible exact poly_Eval.mono _ _ _ _)
   | (with_reducible exact tree_Zero.mono _ _ _)
   | (with_reducible exact LeO.refl _)
   | (with_reducible exact LeO.none _)
   | (with_reducible refine LeO.ite ?_ ?_)
   | (with_reducible refine LeO.bind ?_ (fun _ => ?_))
   | exact ih0 _ _ _ _
   | exact ih1 _ _ _ _ _ _
   | exact poly_DivMod.mono _ _ _ _
   | exact poly_Eval.mono _ _ _ _
   | exact tree_Zero.mono _ _ _
   | exact LeO.none _
   | refine LeO.ite ?_ ?_
   | refine LeO.bind ?_ (fun _ => ?_)
theorem tree_down.mono : ∀ a0 a1 a2 a3 k, LeO (tree_down.f k a0 a1 a2 a3) (tree_down.f (k + 1) a0 a1 a2 a3) := by
 intro a0 a1 a2 a3 k
 obtain ⟨ih0, ih1⟩ := tree_down.mono_l k
 exact ih0 a0 a1 a2 a3
set_option maxHeartbeats 8000000 in
set_option maxRecDepth 100000 in
theorem tree_down.calls (k : Nat) : ∀ (a0 : Int) (P1_ : Nat → Prop) (u9000_ : Value) (l1 : List Int) (P2_ : Nat → Prop) (A2 : Option Addr) (c2 : Nat) (l2 : List Int) (P3_ : Nat → Prop) (A3 : Option Addr) (c3 : Nat) (l3 : List Int) (r1 : List Int) (r2 : Int) (w0 w : World) (hB : Below w0.heap.size w0 w) (ho1 : Kd.R (Kd.int .u64) 49 w w0.heap.size P1_ u9000_ l1) (hs2 : Kd.V (Kd.int .u64) 49 w w0.heap.size (fun k_ => P2_ k_ ∧ some k_ ≠ (u9000_ : Value).ownBlock) (.slice A2 l2.length c2) l2) (hs3 : Kd.V (Kd.int .u64) 49 w w0.heap.size (fun k_ => P3_ k_ ∧ some k_ ≠ (u9000_ : Value).ownBlock) (.slice A3 l3.length c3) l3) (h : tree_down.f k a0 l1 l2 l3 = some (r1, r2)),
  Calls Try.prog 40 #[.int .u8 a0, u9000_, .slice A2 l2.length c2, .slice A3 l3.length c3] w fun e w' => ∃ v0_ : Value, e = .returned (.tuple #[v0_, .int .i64 r2]) ∧ Kd.R (Kd.int .u64) 49 w' w0.heap.size (fun k_ => (P1_ k_ ∨ w.heap.size ≤ k_)) v0_ r1 ∧ Below w0.heap.size w0 w' ∧ Kept w w' (fun k_ => P1_ k_) := by
 induction k using Nat.strongRecOn with
 | _ k ih =>
 intro a0 P1_ u9000_ l1 P2_ A2 c2 l2 P3_ A3 c3 l3 r1 r2 w0 w hB ho1 hs2 hs3 h
 cases k with
 | zero => exact absurd h (by simp [tree_down.f])
 | succ k =>
 simp only [tree_down.f] at h
 have hu48 := Try.underlying48
 have HO1 := A_ (show Kd.R (Kd.int .u64) 49 w w0.heap.size (fun k_ => (P1_ k_ ∨ w.heap.size ≤ k_)) u9000_ l1 from Kd.R_mono ho1 (fun k_ hk => (.inl hk)))
 have HO2 := A_ (show Kd.V (Kd.int .u64) 49 w w0.heap.size (fun k_ => ((P1_ k_ ∨ P2_ k_ ∨ P3_ k_) ∨ w.heap.size ≤ k_) ∧ some k_ ≠ (u9000_ : Value).ownBlock) (.slice A2 l2.length c2) l2 from Kd.V_mono hs2 (fun k_ hk => ⟨.inl (.inr (.inl hk.1)), hk.2⟩))
 have HO3 := A_ (show Kd.V (Kd.int .u64) 49 w w0.heap.size (fun k_ => ((P1_ k_ ∨ P2_ k_ ∨ P3_ k_) ∨ w.heap.size ≤ k_) ∧ some k_ ≠ (u9000_ : Value).ownBlock) (.slice A3 l3.length c3) l3 from Kd.V_mono hs3 (fun k_ hk => ⟨.inl (.inr (.inr hk.1)), hk.2⟩))
 have HK := A_ (Kept.refl w (fun k_ => P1_ k_))
 have HW0 := Aside0.mk hB.size
 have HB := Aside0.mk hB
 clear hB
 have H : (if (l3.length : Int) ≤ 32 then (tree_down.l0 k a0 l1 l2 l3 (l3.length : Int) 0) else (if 0 ≤ (wrap64 ((l3.length : Int) / 2)) then (if (wrap64 ((l3.length : Int) / 2)) ≤ (l3.length : Int) then ((some (l3.take ((wrap64 ((l3.length : Int) / 2)) : Int).toNat : List Int)).bind fun y347 => (if (l3.length : Int) ≤ (l3.length : Int) then ((some ((l3.take ((l3.length : Int) : Int).toNat).drop ((wrap64 ((l3.length : Int) / 2)) : Int).toNat : List Int)).bind fun y352 => ((tree_Zero.f k a0 y347).bind fun bt357 => (if bt357.2 = 0 then ((poly_DivMod.f k a0 l2 bt357.1).bind fun bt361 => (if bt361.2.2 = 0 then ((tree_down.f k a0 l1 bt361.2.1 y347).bind fun bt368 => (if bt368.2 = 0 then ((tree_Zero.f k a0 y352).bind fun bt372 => (if bt372.2 = 0 then ((poly_DivMod.f k a0 l2 bt372.1).bind fun bt376 => (if bt376.2.2 = 0 then ((tree_down.f k a0 bt368.1 bt376.2.1 y352).bind fun bt383 => (if bt383.2 = 0 then (some (bt383.1, 0)) else (some (([] : List Int), bt383.2)))) else (some (([] : List Int), bt376.2.2)))) else (some (([] : List Int), bt372.2)))) else (some (([] : List Int), bt368.2)))) else (some (([] : List Int), bt361.2.2)))) else (some (([] : List Int), bt357.2))))) else (none))) else (none)) else (none))) = some (r1, r2) := h
 clear h
 by_cases c5 : (l3.length : Int) ≤ 32
 ·rw [if_pos c5] at H
  have c5b0 : decide ((l3.length : Int) ≤ 32) = true := decide_eq_true c5
  have c5b1 : decide (l3.length ≤ 32) = true := decide_eq_true (by omega)
  clear c5
  have H' := Aside0.mk H
  clear H
  go_enter Try.func40, Try.ntmps40
  go_wp2
  repeat (go_quiet (fail); try go_wp2)
  go_loopg [1, 26] k (fun kq v1 v26 w' => ∃ (x1_1 : List Int) (x26_1 : Int), v26 = .int .i64 x26_1 ∧ Aside0 (tree_down.l0 kq a0 x1_1 l2 l3 (l3.length : Int) x26_1 = some (r1, r2)) ∧ Aside0 (kq ≤ k) ∧ Aside0 (Kd.R (Kd.int .u64) 49 w' w0.heap.size (fun k_ => (P1_ k_ ∨ w.heap.size ≤ k_)) v1 x1_1) ∧ Aside0 (Kd.V (Kd.int .u64) 49 w' w0.heap.size (fun k_ => ((P1_ k_ ∨ P2_ k_ ∨ P3_ k_) ∨ w.heap.size ≤ k_) ∧ some k_ ≠ (v1 : Value).ownBlock) (.slice A2 l2.length c2) l2) ∧ Aside0 (Kd.V (Kd.int .u64) 49 w' w0.heap.size (fun k_ => ((P1_ k_ ∨ P2_ k_ ∨ P3_ k_) ∨ w.heap.size ≤ k_) ∧ some k_ ≠ (v1 : Value).ownBlock) (.slice A3 l3.length c3) l3) ∧ Aside0 (Kept w w' (fun k_ => P1_ k_)) ∧ Aside0 (Below w0.heap.size w0 w'))
  case atStart => exact ⟨(l1), (0), (fs_), H', ⟨Nat.le_refl _⟩, ⟨mR_ HO1.out⟩, ⟨mV_ HO2.out⟩, ⟨mV_ HO3.out⟩, ⟨by repeat (first | (with_reducible first | exact HK.out | apply Kept.alloc | apply Kept.drewN | apply Kept.drew) | exact HK.out)⟩, ⟨by repeat (first | (with_reducible first | exact HB.out | apply below_alloc | apply pw_below_drewN | apply below_drew1) | exact HB.out)⟩⟩
  case round =>
   clear H'
   try clear c2
   try clear p2
   try clear c3
   try clear c4
   try clear c5
   try clear c5b0
   try clear c5b1
   obtain ⟨x1_1, x26_1, rfl, HA, HK1, HO_1, HO_2, HO_24, HK, HB⟩ := hrel
   cases gk with
   | zero => exact absurd HA.out (by simp [tree_down.l0])
   | succ k1 =>
    have H := HA.out
    clear HA
    simp only [tree_down.l0] at H
    by_cases c6 : x26_1 < (l3.length : Int)
    ·rw [if_pos c6] at H
     have c6b0 : decide (x26_1 < (l3.length : Int)) = true := decide_eq_true c6
     clear c6
     by_cases c7 : 0 ≤ x26_1
     ·rw [if_pos c7] at H
      have c7b0 : decide (0 ≤ x26_1) = true := decide_eq_true c7
      clear c7
      by_cases c8 : x26_1 < (l3.length : Int)
      ·rw [if_pos c8] at H
       have c8b0 : decide (x26_1 < (l3.length : Int)) = true := decide_eq_true c8
       clear c8
       replace H := Option.bind_eq_some_iff.mp H
       obtain ⟨⟨t342, t343⟩, A90, H⟩ := H
       replace H : (if t343 = 0 then (if x1_1.length < 17592186044416 then (tree_down.l0 k1 a0 (x1_1 ++ [t342]) l2 l3 (l3.length : Int) (wrap64 (x26_1 + 1))) else (none)) else (some (([] : List Int), t343))) = some (r1, r2) := H
       have A9 := Aside0.mk A90
       clear A90
       have HC10 := Aside0.mk H
       clear H
       have p341 : 0 ≤ (x26_1 : Int) := of_decide_eq_true (by first | (with_reducible assumption) | assumption)
       have q341 : x26_1 < (l3.length : Int) := of_decide_eq_true (by first | (with_reducible assumption) | assumption)
       obtain ⟨ad341, e341, hx341_0⟩ := Kd.at_int (Kd.V_reads' HO_24.out).2.2 x26_1 p341 q341
       cases e341
       replace p341 := eq_true p341
       replace q341 := eq_true q341
       go_upto_if 38 with (first | (go_at_call 58; (with_reducible refine (poly_Eval.calls k1 a0 _ _ l2 (rd l3 x26_1) t342 t343 _ ?side1 ?side2 A9.out).mono ?_); (case side1 => repeat (first | exact (Kd.V_reads' HO_2.out).2.2 | (with_reducible refine Kd.C_alloc ?_ _) | (with_reducible refine Kd.C_drewN ?_ _) | (with_reducible refine Kd.C_drew ?_))); (case side2 => exact (Kd.V_reads' HO_2.out).2.1); rintro e w11 ⟨rfl, hb⟩; have n0_ := A_ (Kd.R_below (nR_ HO_1) hb); have n1_ := A_ (Kd.V_below (nV_ HO_2) hb); have n2_ := A_ (Kd.V_below (nV_ HO_24) hb); have n3_ := A_ (Kept.below (S := (fun k_ => P1_ k_)) (by repeat (first | (with_reducible first | exact HK.out | apply Kept.alloc | apply Kept.drewN | apply Kept.drew) | exact HK.out)) hb); have n4_ := A_ (below_step hb_ hb); clear HO_1 HO_2 HO_24 HK HB; have HO_1 := n0_; have HO_2 := n1_; have HO_24 := n2_; have HK := n3_; have HB := n4_; clear n0_ n1_ n2_ n3_ n4_; (try clear hb); (try clear hb2); (try clear hk); (try clear hi)))
       repeat (go_quiet (first | (go_at_call 58; (with_reducible refine (poly_Eval.calls k1 a0 _ _ l2 (rd l3 x26_1) t342 t343 _ ?side1 ?side2 A9.out).mono ?_); (case side1 => repeat (first | exact (Kd.V_reads' HO_2.out).2.2 | (with_reducible refine Kd.C_alloc ?_ _) | (with_reducible refine Kd.C_drewN ?_ _) | (with_reducible refine Kd.C_drew ?_))); (case side2 => exact (Kd.V_reads' HO_2.out).2.1); rintro e w11 ⟨rfl, hb⟩; have n0_ := A_ (Kd.R_below (nR_ HO_1) hb); have n1_ := A_ (Kd.V_below (nV_ HO_2) hb); have n2_ := A_ (Kd.V_below (nV_ HO_24) hb); have n3_ := A_ (Kept.below (S := (fun k_ => P1_ k_)) (by repeat (first | (with_reducible first | exact HK.out | apply Kept.alloc | apply Kept.drewN | apply Kept.drew) | exact HK.out)) hb); have n4_ := A_ (below_step hb_ hb); clear HO_1 HO_2 HO_24 HK HB; have HO_1 := n0_; have HO_2 := n1_; have HO_24 := n2_; have HK := n3_; have HB := n4_; clear n0_ n1_ n2_ n3_ n4_; (try clear hb); (try clear hb2); (try clear hk); (try clear hi))); go_upto_if 38 with (first | (go_at_call 58; (with_reducible refine (poly_Eval.calls k1 a0 _ _ l2 (rd l3 x26_1) t342 t343 _ ?side1 ?side2 A9.out).mono ?_); (case side1 => repeat (first | exact (Kd.V_reads' HO_2.out).2.2 | (with_reducible refine Kd.C_alloc ?_ _) | (with_reducible refine Kd.C_drewN ?_ _) | (with_reducible refine Kd.C_drew ?_))); (case side2 => exact (Kd.V_reads' HO_2.out).2.1); rintro e w11 ⟨rfl, hb⟩; have n0_ := A_ (Kd.R_below (nR_ HO_1) hb); have n1_ := A_ (Kd.V_below (nV_ HO_2) hb); have n2_ := A_ (Kd.V_below (nV_ HO_24) hb); have n3_ := A_ (Kept.below (S := (fun k_ => P1_ k_)) (by repeat (first | (with_reducible first | exact HK.out | apply Kept.alloc | apply Kept.drewN | apply Kept.drew) | exact HK.out)) hb); have n4_ := A_ (below_step hb_ hb); clear HO_1 HO_2 HO_24 HK HB; have HO_1 := n0_; have HO_2 := n1_; have HO_24 := n2_; have HK := n3_; have HB := n4_; clear n0_ n1_ n2_ n3_ n4_; (try clear hb); (try clear hb2); (try clear hk); (try clear hi))))
       (try simp only [Act.put, List.setIfInBounds_toArray, List.set_cons_zero, List.set_cons_succ])
       have H := HC10.out
       clear HC10
       by_cases c12 : t343 = 0
       ·rw [if_pos c12] at H
        have c12b0 : (t343 == 0) = true := beq_iff_eq.mpr c12
        have c12b1 : (t343 != 0) = false := bne_eq_false_iff_eq.mpr c12
        clear c12
        (first | rw [c12b0] | rw [c12b1] | (simp only [i64_w, i32_w]; first | rw [c12b0] | rw [c12b1]) | skip)
        by_cases c13 : x1_1.length < 17592186044416
        ·rw [if_pos c13] at H
         have LMc13 := Aside0.mk c13
         clear c13
         obtain ⟨y344, hy344⟩ : ∃ y_ : List Int, y_ = (x1_1 ++ [t342]) := ⟨_, rfl⟩
         replace H : (tree_down.l0 k1 a0 y344 l2 l3 (l3.length : Int) (wrap64 (x26_1 + 1))) = some (r1, r2) := by first | (rw [hy344]; with_reducible exact H) | (have H2_ := (Option.bind_some _ _).symm.trans H; rw [hy344]; with_reducible exact H2_) | (have H2_ := (Option.bind_some _ _).symm.trans H; with_reducible exact H2_) | with_reducible exact H | (rw [hy344]; exact H) | exact H
         have Ny344 := Aside0.mk hy344
         clear hy344
         have H' := Aside0.mk H
         clear H
         go_wp2_with (first | ((with_reducible refine gate_builtin (b := .append) (xs := #[.tmp 40, .tmp 42]) rfl ?_); at_builtin; refine Kd.R_append (Kd.int .u64) (w0 := w0) w0.heap.size rfl (.tmp 40) (.tmp 42) 22 49 (.int .u64 0) 8 rfl Try.underlying22 info49 rfl (by decide) (by omega) u1 x1_1 t342 [.int .u64 t342] (fun k_ => (P1_ k_ ∨ w.heap.size ≤ k_)) (fun _ => False) rfl rfl ?aP (fun _ hk => hk.elim) ?aF ?aO ?aB ?aS ?aL ?_; (case aP => exact rfl); (case aB => exact hb_); (case aF => exact (fun k_ hk => (.inr (Nat.le_trans (by first | exact HK.out.1 | exact (show Kept w _ (fun k_ => P1_ k_) from by repeat (first | (with_reducible first | exact HK.out | apply Kept.alloc | apply Kept.drewN | apply Kept.drew) | exact HK.out)).1) hk)))); (case aO => exact (nR_ HO_1)); (case aS => exact (below_size hb_)); (case aL => have := LMc13.out; omega); intro v345 w14 ho hb hg hat; rw [← Ny344.out] at ho; have n0_ := A_ (Kd.V_afterv (ok := (fun k_ => ((P1_ k_ ∨ P2_ k_ ∨ P3_ k_) ∨ w.heap.size ≤ k_))) (nV_ HO_2) hg hat); have n1_ := A_ (Kd.V_afterv (ok := (fun k_ => ((P1_ k_ ∨ P2_ k_ ∨ P3_ k_) ∨ w.heap.size ≤ k_))) (nV_ HO_24) hg hat); have n2_ := A_ (hb); have n3_ := A_ (Kept.of_grown (S := (fun k_ => P1_ k_)) hg (by repeat (first | (with_reducible first | exact HK.out | apply Kept.alloc | apply Kept.drewN | apply Kept.drew) | exact HK.out)) (fun k_ e_ => (HO_1.out.1 k_ e_))); have n4_ := A_ (ho); clear HO_2 HO_24 HB HK HO_1; have HO_2 := n0_; have HO_24 := n1_; have HB := n2_; have HK := n3_; have HO346 := n4_; clear n0_ n1_ n2_ n3_ n4_; clear ho hb hg hat))
         repeat (go_quiet (first | ((with_reducible refine gate_builtin (b := .append) (xs := #[.tmp 40, .tmp 42]) rfl ?_); at_builtin; refine Kd.R_append (Kd.int .u64) (w0 := w0) w0.heap.size rfl (.tmp 40) (.tmp 42) 22 49 (.int .u64 0) 8 rfl Try.underlying22 info49 rfl (by decide) (by omega) u1 x1_1 t342 [.int .u64 t342] (fun k_ => (P1_ k_ ∨ w.heap.size ≤ k_)) (fun _ => False) rfl rfl ?aP (fun _ hk => hk.elim) ?aF ?aO ?aB ?aS ?aL ?_; (case aP => exact rfl); (case aB => exact hb_); (case aF => exact (fun k_ hk => (.inr (Nat.le_trans (by first | exact HK.out.1 | exact (show Kept w _ (fun k_ => P1_ k_) from by repeat (first | (with_reducible first | exact HK.out | apply Kept.alloc | apply Kept.drewN | apply Kept.drew) | exact HK.out)).1) hk)))); (case aO => exact (nR_ HO_1)); (case aS => exact (below_size hb_)); (case aL => have := LMc13.out; omega); intro v345 w14 ho hb hg hat; rw [← Ny344.out] at ho; have n0_ := A_ (Kd.V_afterv (ok := (fun k_ => ((P1_ k_ ∨ P2_ k_ ∨ P3_ k_) ∨ w.heap.size ≤ k_))) (nV_ HO_2) hg hat); have n1_ := A_ (Kd.V_afterv (ok := (fun k_ => ((P1_ k_ ∨ P2_ k_ ∨ P3_ k_) ∨ w.heap.size ≤ k_))) (nV_ HO_24) hg hat); have n2_ := A_ (hb); have n3_ := A_ (Kept.of_grown (S := (fun k_ => P1_ k_)) hg (by repeat (first | (with_reducible first | exact HK.out | apply Kept.alloc | apply Kept.drewN | apply Kept.drew) | exact HK.out)) (fun k_ e_ => (HO_1.out.1 k_ e_))); have n4_ := A_ (ho); clear HO_2 HO_24 HB HK HO_1; have HO_2 := n0_; have HO_24 := n1_; have HB := n2_; have HK := n3_; have HO346 := n4_; clear n0_ n1_ n2_ n3_ n4_; clear ho hb hg hat)); try go_wp2_with (first | ((with_reducible refine gate_builtin (b := .append) (xs := #[.tmp 40, .tmp 42]) rfl ?_); at_builtin; refine Kd.R_append (Kd.int .u64) (w0 := w0) w0.heap.size rfl (.tmp 40) (.tmp 42) 22 49 (.int .u64 0) 8 rfl Try.underlying22 info49 rfl (by decide) (by omega) u1 x1_1 t342 [.int .u64 t342] (fun k_ => (P1_ k_ ∨ w.heap.size ≤ k_)) (fun _ => False) rfl rfl ?aP (fun _ hk => hk.elim) ?aF ?aO ?aB ?aS ?aL ?_; (case aP => exact rfl); (case aB => exact hb_); (case aF => exact (fun k_ hk => (.inr (Nat.le_trans (by first | exact HK.out.1 | exact (show Kept w _ (fun k_ => P1_ k_) from by repeat (first | (with_reducible first | exact HK.out | apply Kept.alloc | apply Kept.drewN | apply Kept.drew) | exact HK.out)).1) hk)))); (case aO => exact (nR_ HO_1)); (case aS => exact (below_size hb_)); (case aL => have := LMc13.out; omega); intro v345 w14 ho hb hg hat; rw [← Ny344.out] at ho; have n0_ := A_ (Kd.V_afterv (ok := (fun k_ => ((P1_ k_ ∨ P2_ k_ ∨ P3_ k_) ∨ w.heap.size ≤ k_))) (nV_ HO_2) hg hat); have n1_ := A_ (Kd.V_afterv (ok := (fun k_ => ((P1_ k_ ∨ P2_ k_ ∨ P3_ k_) ∨ w.heap.size ≤ k_))) (nV_ HO_24) hg hat); have n2_ := A_ (hb); have n3_ := A_ (Kept.of_grown (S := (fun k_ => P1_ k_)) hg (by repeat (first | (with_reducible first | exact HK.out | apply Kept.alloc | apply Kept.drewN | apply Kept.drew) | exact HK.out)) (fun k_ e_ => (HO_1.out.1 k_ e_))); have n4_ := A_ (ho); clear HO_2 HO_24 HB HK HO_1; have HO_2 := n0_; have HO_24 := n1_; have HB := n2_; have HK := n3_; have HO346 := n4_; clear n0_ n1_ n2_ n3_ n4_; clear ho hb hg hat)))
         go_roundg k1
         case measure => have := HK1.out; omega
         case rel => exact ⟨(y344), (wrap64 (x26_1 + 1)), (fs_), H', ⟨by have := HK1.out; omega⟩, ⟨mR_ HO346.out⟩, ⟨mV_ HO_2.out⟩, ⟨mV_ HO_24.out⟩, ⟨by repeat (first | (with_reducible first | exact HK.out | apply Kept.alloc | apply Kept.drewN | apply Kept.drew) | exact HK.out)⟩, ⟨by repeat (first | (with_reducible first | exact HB.out | apply below_alloc | apply pw_below_drewN | apply below_drew1) | exact HB.out)⟩⟩
        ·rw [if_neg c13] at H
         exact absurd H (by simp)
       ·rw [if_neg c12] at H
        have c12b0 : (t343 == 0) = false := beq_eq_false_iff_ne.mpr c12
        have c12b1 : (t343 != 0) = true := bne_iff_ne.mpr c12
        (first | rw [c12b0] | rw [c12b1] | (simp only [i64_w, i32_w]; first | rw [c12b0] | rw [c12b1]) | skip)
        simp only [Option.some.injEq, Prod.mk.injEq] at H
        obtain ⟨rfl, rfl⟩ := H
        go_wp2
        repeat (go_quiet (fail); try go_wp2)
        go_ret2
        exact ⟨_, fr_, by first | exact Kd.R_nil _ _ _ _ _ | exact Kd.N_nil _ _ _ _ _ | exact Kd.V_nil _ _ _ _ _ | exact Kd.Q_nil _ _ _ _ _ | exact Kd.S_nil _ _ _ _ _, by repeat (first | (with_reducible first | exact HB.out | apply below_alloc | apply pw_below_drewN | apply below_drew1) | exact HB.out), by repeat (first | (with_reducible first | exact HK.out | apply Kept.alloc | apply Kept.drewN | apply Kept.drew) | exact HK.out)⟩
      ·rw [if_neg c8] at H
       exact absurd H (by simp)
     ·rw [if_neg c7] at H
      exact absurd H (by simp)
    ·rw [if_neg c6] at H
     have c6b0 : decide (x26_1 < (l3.length : Int)) = false := decide_eq_false c6
     clear c6
     simp only [Option.some.injEq, Prod.mk.injEq] at H
     obtain ⟨rfl, rfl⟩ := H
     go_wp2
     repeat (go_quiet (fail); try go_wp2)
     go_ret2
     exact ⟨_, fr_, nR_ HO_1, by repeat (first | (with_reducible first | exact HB.out | apply below_alloc | apply pw_below_drewN | apply below_drew1) | exact HB.out), by repeat (first | (with_reducible first | exact HK.out | apply Kept.alloc | apply Kept.drewN | apply Kept.drew) | exact HK.out)⟩
 ·rw [if_neg c5] at H
  have c5b0 : decide ((l3.length : Int) ≤ 32) = false := decide_eq_false c5
  have c5b1 : decide (l3.length ≤ 32) = false := decide_eq_false (by omega)
  clear c5
  obtain ⟨ji15, hji15⟩ : ∃ j_ : Int, (wrap64 ((l3.length : Int) / 2)) = j_ := ⟨_, rfl⟩
  replace H : (if 0 ≤ (ji15) then (if (ji15) ≤ (l3.length : Int) then ((some (l3.take ((ji15) : Int).toNat : List Int)).bind fun y347 => (if (l3.length : Int) ≤ (l3.length : Int) then ((some ((l3.take ((l3.length : Int) : Int).toNat).drop ((ji15) : Int).toNat : List Int)).bind fun y352 => ((tree_Zero.f k a0 y347).bind fun bt357 => (if bt357.2 = 0 then ((poly_DivMod.f k a0 l2 bt357.1).bind fun bt361 => (if bt361.2.2 = 0 then ((tree_down.f k a0 l1 bt361.2.1 y347).bind fun bt368 => (if bt368.2 = 0 then ((tree_Zero.f k a0 y352).bind fun bt372 => (if bt372.2 = 0 then ((poly_DivMod.f k a0 l2 bt372.1).bind fun bt376 => (if bt376.2.2 = 0 then ((tree_down.f k a0 bt368.1 bt376.2.1 y352).bind fun bt383 => (if bt383.2 = 0 then (some (bt383.1, 0)) else (some (([] : List Int), bt383.2)))) else (some (([] : List Int), bt376.2.2)))) else (some (([] : List Int), bt372.2)))) else (some (([] : List Int), bt368.2)))) else (some (([] : List Int), bt361.2.2)))) else (some (([] : List Int), bt357.2))))) else (none))) else (none)) else (none)) = some (r1, r2) := by first | (rw [hji15] at H; exact H) | (simp only [hji15] at H ⊢; exact H)
  have hji15w : (IntKind.i64.wrap ((l3.length : Int) / 2)) = ji15 := (i64_w _).trans hji15
  by_cases c16 : 0 ≤ (ji15)
  ·rw [if_pos c16] at H
   have c16b0 := eq_true c16
   have c16b1 : decide (0 ≤ (ji15)) = true := decide_eq_true c16
   clear c16
   by_cases c17 : (ji15) ≤ (l3.length : Int)
   ·rw [if_pos c17] at H
    have c17b0 := eq_true c17
    have c17b1 : decide ((ji15) ≤ (l3.length : Int)) = true := decide_eq_true c17
    clear c17
    obtain ⟨y347, hy347⟩ : ∃ y_ : List Int, y_ = (l3.take ((ji15) : Int).toNat) := ⟨_, rfl⟩
    replace H : (if (l3.length : Int) ≤ (l3.length : Int) then ((some ((l3.take ((l3.length : Int) : Int).toNat).drop ((ji15) : Int).toNat : List Int)).bind fun y352 => ((tree_Zero.f k a0 y347).bind fun bt357 => (if bt357.2 = 0 then ((poly_DivMod.f k a0 l2 bt357.1).bind fun bt361 => (if bt361.2.2 = 0 then ((tree_down.f k a0 l1 bt361.2.1 y347).bind fun bt368 => (if bt368.2 = 0 then ((tree_Zero.f k a0 y352).bind fun bt372 => (if bt372.2 = 0 then ((poly_DivMod.f k a0 l2 bt372.1).bind fun bt376 => (if bt376.2.2 = 0 then ((tree_down.f k a0 bt368.1 bt376.2.1 y352).bind fun bt383 => (if bt383.2 = 0 then (some (bt383.1, 0)) else (some (([] : List Int), bt383.2)))) else (some (([] : List Int), bt376.2.2)))) else (some (([] : List Int), bt372.2)))) else (some (([] : List Int), bt368.2)))) else (some (([] : List Int), bt361.2.2)))) else (some (([] : List Int), bt357.2))))) else (none)) = some (r1, r2) := by first | (rw [hy347]; with_reducible exact H) | (have H2_ := (Option.bind_some _ _).symm.trans H; rw [hy347]; with_reducible exact H2_) | (have H2_ := (Option.bind_some _ _).symm.trans H; with_reducible exact H2_) | with_reducible exact H | (rw [hy347]; exact H) | exact H
    have Ny347 := Aside0.mk hy347
    clear hy347
    have c18b0 := eq_true (of_decide_eq_true (by first | (with_reducible assumption) | assumption) : 0 ≤ (ji15))
    have c19b0 := eq_true (of_decide_eq_true (by first | (with_reducible assumption) | assumption) : (ji15) ≤ (l3.length : Int))
    by_cases c20 : (l3.length : Int) ≤ (l3.length : Int)
    ·rw [if_pos c20] at H
     have c20b0 := eq_true c20
     have c20b1 : decide ((l3.length : Int) ≤ (l3.length : Int)) = true := decide_eq_true c20
     clear c20
     obtain ⟨y352, hy352⟩ : ∃ y_ : List Int, y_ = ((l3.take ((l3.length : Int) : Int).toNat).drop ((ji15) : Int).toNat) := ⟨_, rfl⟩
     replace H : ((tree_Zero.f k a0 y347).bind fun bt357 => (if bt357.2 = 0 then ((poly_DivMod.f k a0 l2 bt357.1).bind fun bt361 => (if bt361.2.2 = 0 then ((tree_down.f k a0 l1 bt361.2.1 y347).bind fun bt368 => (if bt368.2 = 0 then ((tree_Zero.f k a0 y352).bind fun bt372 => (if bt372.2 = 0 then ((poly_DivMod.f k a0 l2 bt372.1).bind fun bt376 => (if bt376.2.2 = 0 then ((tree_down.f k a0 bt368.1 bt376.2.1 y352).bind fun bt383 => (if bt383.2 = 0 then (some (bt383.1, 0)) else (some (([] : List Int), bt383.2)))) else (some (([] : List Int), bt376.2.2)))) else (some (([] : List Int), bt372.2)))) else (some (([] : List Int), bt368.2)))) else (some (([] : List Int), bt361.2.2)))) else (some (([] : List Int), bt357.2)))) = some (r1, r2) := by first | (rw [hy352]; with_reducible exact H) | (have H2_ := (Option.bind_some _ _).symm.trans H; rw [hy352]; with_reducible exact H2_) | (have H2_ := (Option.bind_some _ _).symm.trans H; with_reducible exact H2_) | with_reducible exact H | (rw [hy352]; exact H) | exact H
     have Ny352 := Aside0.mk hy352
     clear hy352
     replace H := Option.bind_eq_some_iff.mp H
     obtain ⟨⟨t357, t360⟩, A210, H⟩ := H
     (try dsimp only at H)
     have A21 := Aside0.mk A210
     clear A210
     have HC22 := Aside0.mk H
     clear H
     have q23 : ((ji15) : Int) ≤ ((l3.length : Int) : Int) := of_decide_eq_true (by first | (with_reducible assumption) | assumption)
     obtain ⟨i023, hi023, _, hsz23, _⟩ := info_parts info49
     have hroom23 : l3.length ≤ c3 := (Kd.V_reads' HO3.out).2.1
     have hC23 : Kd.F (Kd.int .u64) _ _ A3 l3.length l3 := (Kd.V_at (base := w0.heap.size) HO3.out).2.2
     have hcut23 := cut_to3 (P := Try.prog) 22 49 .i64 .i64 Try.underlying22 hi023 A3 l3.length c3 (ji15) (ji15) (of_decide_eq_true (by first | (with_reducible assumption) | assumption)) (Int.le_refl _) q23 hroom23
     have hr23 := Kd.F_take (m := ((ji15) : Int).toNat) hC23 (by omega)
     have hy23 : y347.length = ((ji15) : Int).toNat := (by rw [Ny347.out, List.length_take]; omega)
     rw [← Ny347.out] at hr23
     rw [← hy23] at hcut23
     have HO351 := A_ (show Kd.V (Kd.int .u64) 49 _ w0.heap.size _ (.slice A3 y347.length y347.length) y347 from Kd.V_mk (by omega) hr23)
     have HC351 := A_ (show y347.length ≤ y347.length from by omega)
     clear hr23 hC23 hroom23 hi023 hsz23
     have KY23 := Aside0.mk hy23
     clear hy23
     replace q23 := eq_true q23
     have q24 : ((l3.length : Int) : Int) ≤ ((l3.length : Int) : Int) := of_decide_eq_true (by first | (with_reducible assumption) | assumption)
     obtain ⟨i024, hi024, _, hsz24, _⟩ := info_parts info49
     have hroom24 : l3.length ≤ c3 := (Kd.V_reads' HO3.out).2.1
     have hC24 : Kd.F (Kd.int .u64) _ _ A3 l3.length l3 := (Kd.V_at (base := w0.heap.size) HO3.out).2.2
     have ql24 : ((ji15) : Int) ≤ ((l3.length : Int) : Int) := of_decide_eq_true (by first | (with_reducible assumption) | assumption)
     have q024 : (0 : Int) ≤ ((ji15) : Int) := of_decide_eq_true (by first | (with_reducible assumption) | assumption)
     have hcut24 := cut_mid3 (P := Try.prog) 22 49 .i64 .i64 .i64 Try.underlying22 hi024 1 hsz24 A3 l3.length c3 (ji15) (l3.length : Int) (l3.length : Int) q024 ql24 (Int.le_refl _) q24 hroom24
     have hr24 := F_mid3 (lo := ((ji15) : Int).toNat) (hi := ((l3.length : Int) : Int).toNat) hC24 (by omega) (by omega)
     obtain ⟨A24, hA24⟩ : ∃ A1, A1 = (if ((l3.length : Int) : Int).toNat = ((ji15) : Int).toNat then A3 else (A3 : Option Addr).map (·.add (((ji15) : Int).toNat * 1))) := ⟨_, rfl⟩
     have hy24 : y352.length = ((l3.length : Int) : Int).toNat - ((ji15) : Int).toNat := (by rw [Ny352.out, List.length_drop, List.length_take] <;> omega)
     rw [show ((l3).take ((l3.length : Int) : Int).toNat).drop ((ji15) : Int).toNat = y352 from Ny352.out.symm] at hr24
     replace hr24 : Kd.F (Kd.int .u64) _ _ A24 y352.length y352 := (by rw [hA24]; exact hr24)
     rw [← hy24, ← hA24] at hcut24
     have HO356 := A_ (show Kd.V (Kd.int .u64) 49 _ w0.heap.size _ (.slice A24 y352.length y352.length) y352 from Kd.V_mk (Nat.le_refl _) hr24)
     have HC356 := A_ (Nat.le_refl y352.length)
     clear hr24 hC24 hroom24 hi024 hsz24
     have KY24 := Aside0.mk hy24
     have KA24 := Aside0.mk hA24
     clear hy24 hA24
     replace q24 := eq_true q24
     go_enter Try.func40, Try.ntmps40
     try go_wp2
     repeat (go_quiet (fail); try go_wp2)
     refine wp_loop_rounds 3 ?_
     rw [rounds_succ]
     go_upto_if 71 with (first | (go_at_call 15; (with_reducible refine (tree_Zero.calls k a0 (fun k_ => (((P1_ k_ ∨ P2_ k_ ∨ P3_ k_) ∨ w.heap.size ≤ k_) ∧ some k_ ≠ (u9000_ : Value).ownBlock)) _ _ y347 t357 t360 _ ?side1 A21.out).mono ?_); (case side1 => exact HO351.out); rintro e w25 ⟨v358, rfl, ho0, hb⟩; have n0_ := A_ (Kd.R_below (nR_ HO1) hb); have n1_ := A_ (Kd.V_below (nV_ HO2) hb); have n2_ := A_ (Kd.V_below (nV_ HO3) hb); have n3_ := A_ (Kd.V_below (nV_ HO351) hb); have n4_ := A_ (Kd.V_below (nV_ HO356) hb); have n5_ := A_ (Kd.V_lower (Kd.V_mono (ok' := fun k_ => ((P1_ k_ ∨ P2_ k_ ∨ P3_ k_) ∨ w.heap.size ≤ k_) ∧ some k_ ≠ (u9000_ : Value).ownBlock) ho0 (fun k_ hk_ => ⟨Or.elim hk_ (fun hs_ => hs_.1) (fun hn_ => (.inr (Nat.le_trans (by first | exact HK.out.1 | exact (show Kept w _ (fun k_ => P1_ k_) from by repeat (first | (with_reducible first | exact HK.out | apply Kept.alloc | apply Kept.drewN | apply Kept.drew) | exact HK.out)).1) hn_))), Or.elim hk_ (fun hs_ => hs_.2) (fun hn_ => (Kd.fresh' (Kd.R_lt (nR_ HO1)) k_ hn_))⟩)) (below_size hb_)); have n6_ := A_ (Kept.below (S := (fun k_ => P1_ k_)) (by repeat (first | (with_reducible first | exact HK.out | apply Kept.alloc | apply Kept.drewN | apply Kept.drew) | exact HK.out)) hb); have n7_ := A_ (below_step hb_ hb); clear HO1 HO2 HO3 HO351 HO356 HK HB; have HO1 := n0_; have HO2 := n1_; have HO3 := n2_; have HO351 := n3_; have HO356 := n4_; have HO359 := n5_; have HK := n6_; have HB := n7_; clear n0_ n1_ n2_ n3_ n4_ n5_ n6_ n7_; (try clear hb); (try clear hb2); (try clear hk); (try clear hi); (try clear ho0)))
     repeat (go_quiet (first | (go_at_call 15; (with_reducible refine (tree_Zero.calls k a0 (fun k_ => (((P1_ k_ ∨ P2_ k_ ∨ P3_ k_) ∨ w.heap.size ≤ k_) ∧ some k_ ≠ (u9000_ : Value).ownBlock)) _ _ y347 t357 t360 _ ?side1 A21.out).mono ?_); (case side1 => exact HO351.out); rintro e w25 ⟨v358, rfl, ho0, hb⟩; have n0_ := A_ (Kd.R_below (nR_ HO1) hb); have n1_ := A_ (Kd.V_below (nV_ HO2) hb); have n2_ := A_ (Kd.V_below (nV_ HO3) hb); have n3_ := A_ (Kd.V_below (nV_ HO351) hb); have n4_ := A_ (Kd.V_below (nV_ HO356) hb); have n5_ := A_ (Kd.V_lower (Kd.V_mono (ok' := fun k_ => ((P1_ k_ ∨ P2_ k_ ∨ P3_ k_) ∨ w.heap.size ≤ k_) ∧ some k_ ≠ (u9000_ : Value).ownBlock) ho0 (fun k_ hk_ => ⟨Or.elim hk_ (fun hs_ => hs_.1) (fun hn_ => (.inr (Nat.le_trans (by first | exact HK.out.1 | exact (show Kept w _ (fun k_ => P1_ k_) from by repeat (first | (with_reducible first | exact HK.out | apply Kept.alloc | apply Kept.drewN | apply Kept.drew) | exact HK.out)).1) hn_))), Or.elim hk_ (fun hs_ => hs_.2) (fun hn_ => (Kd.fresh' (Kd.R_lt (nR_ HO1)) k_ hn_))⟩)) (below_size hb_)); have n6_ := A_ (Kept.below (S := (fun k_ => P1_ k_)) (by repeat (first | (with_reducible first | exact HK.out | apply Kept.alloc | apply Kept.drewN | apply Kept.drew) | exact HK.out)) hb); have n7_ := A_ (below_step hb_ hb); clear HO1 HO2 HO3 HO351 HO356 HK HB; have HO1 := n0_; have HO2 := n1_; have HO3 := n2_; have HO351 := n3_; have HO356 := n4_; have HO359 := n5_; have HK := n6_; have HB := n7_; clear n0_ n1_ n2_ n3_ n4_ n5_ n6_ n7_; (try clear hb); (try clear hb2); (try clear hk); (try clear hi); (try clear ho0))); go_upto_if 71 with (first | (go_at_call 15; (with_reducible refine (tree_Zero.calls k a0 (fun k_ => (((P1_ k_ ∨ P2_ k_ ∨ P3_ k_) ∨ w.heap.size ≤ k_) ∧ some k_ ≠ (u9000_ : Value).ownBlock)) _ _ y347 t357 t360 _ ?side1 A21.out).mono ?_); (case side1 => exact HO351.out); rintro e w25 ⟨v358, rfl, ho0, hb⟩; have n0_ := A_ (Kd.R_below (nR_ HO1) hb); have n1_ := A_ (Kd.V_below (nV_ HO2) hb); have n2_ := A_ (Kd.V_below (nV_ HO3) hb); have n3_ := A_ (Kd.V_below (nV_ HO351) hb); have n4_ := A_ (Kd.V_below (nV_ HO356) hb); have n5_ := A_ (Kd.V_lower (Kd.V_mono (ok' := fun k_ => ((P1_ k_ ∨ P2_ k_ ∨ P3_ k_) ∨ w.heap.size ≤ k_) ∧ some k_ ≠ (u9000_ : Value).ownBlock) ho0 (fun k_ hk_ => ⟨Or.elim hk_ (fun hs_ => hs_.1) (fun hn_ => (.inr (Nat.le_trans (by first | exact HK.out.1 | exact (show Kept w _ (fun k_ => P1_ k_) from by repeat (first | (with_reducible first | exact HK.out | apply Kept.alloc | apply Kept.drewN | apply Kept.drew) | exact HK.out)).1) hn_))), Or.elim hk_ (fun hs_ => hs_.2) (fun hn_ => (Kd.fresh' (Kd.R_lt (nR_ HO1)) k_ hn_))⟩)) (below_size hb_)); have n6_ := A_ (Kept.below (S := (fun k_ => P1_ k_)) (by repeat (first | (with_reducible first | exact HK.out | apply Kept.alloc | apply Kept.drewN | apply Kept.drew) | exact HK.out)) hb); have n7_ := A_ (below_step hb_ hb); clear HO1 HO2 HO3 HO351 HO356 HK HB; have HO1 := n0_; have HO2 := n1_; have HO3 := n2_; have HO351 := n3_; have HO356 := n4_; have HO359 := n5_; have HK := n6_; have HB := n7_; clear n0_ n1_ n2_ n3_ n4_ n5_ n6_ n7_; (try clear hb); (try clear hb2); (try clear hk); (try clear hi); (try clear ho0))))
     (try simp only [Act.put, List.setIfInBounds_toArray, List.set_cons_zero, List.set_cons_succ])
     have H := HC22.out
     clear HC22
     by_cases c26 : t360 = 0
     ·rw [if_pos c26] at H
      have c26b0 : (t360 == 0) = true := beq_iff_eq.mpr c26
      have c26b1 : (t360 != 0) = false := bne_eq_false_iff_eq.mpr c26
      clear c26
      (first | rw [c26b0] | rw [c26b1] | (simp only [i64_w, i32_w]; first | rw [c26b0] | rw [c26b1]) | skip)
      replace H := Option.bind_eq_some_iff.mp H
      obtain ⟨⟨t361, t364, t367⟩, A270, H⟩ := H
      (try dsimp only at H)
      have A27 := Aside0.mk A270
      clear A270
      have HC28 := Aside0.mk H
      clear H
      obtain ⟨Ao29, co29, eo29⟩ := Kd.V_slice HO359.out
      subst eo29
      go_upto_if 82 with (first | (go_at_call 32; (with_reducible refine (poly_DivMod.calls k a0 (fun k_ => (((P1_ k_ ∨ P2_ k_ ∨ P3_ k_) ∨ w.heap.size ≤ k_) ∧ some k_ ≠ (u9000_ : Value).ownBlock)) _ _ l2 (fun k_ => (((P1_ k_ ∨ P2_ k_ ∨ P3_ k_) ∨ w.heap.size ≤ k_) ∧ some k_ ≠ (u9000_ : Value).ownBlock)) _ _ t357 t361 t364 t367 _ ?side1 ?side2 A27.out).mono ?_); (case side1 => exact HO2.out); (case side2 => exact HO359.out); rintro e w30 ⟨v362, v365, rfl, ho0, ho1, hb⟩; have n0_ := A_ (Kd.R_mono (Kd.R_told (Kd.R_told (Kd.R_old (nR_ HO1) hb) (Kd.R_base ho0)) (Kd.R_base ho1)) (fun _ h_ => h_.1)); have n1_ := A_ (Kd.V_mono (Kd.V_told (Kd.V_told (Kd.V_old (nV_ HO2) hb) (Kd.R_base ho0)) (Kd.R_base ho1)) (fun _ h_ => h_.1)); have n2_ := A_ (Kd.V_mono (Kd.V_told (Kd.V_told (Kd.V_old (nV_ HO3) hb) (Kd.R_base ho0)) (Kd.R_base ho1)) (fun _ h_ => h_.1)); have n3_ := A_ (Kd.V_mono (Kd.V_told (Kd.V_told (Kd.V_old (nV_ HO351) hb) (Kd.R_base ho0)) (Kd.R_base ho1)) (fun _ h_ => h_.1)); have n4_ := A_ (Kd.V_mono (Kd.V_told (Kd.V_told (Kd.V_old (nV_ HO356) hb) (Kd.R_base ho0)) (Kd.R_base ho1)) (fun _ h_ => h_.1)); have n5_ := A_ (Kd.V_mono (Kd.V_told (Kd.V_told (Kd.V_old (nV_ HO359) hb) (Kd.R_base ho0)) (Kd.R_base ho1)) (fun _ h_ => h_.1)); have n6_ := A_ (Kd.R_lower (Kd.R_new' (Kd.R_newM (M := fun k_ => (P1_ k_ ∨ w.heap.size ≤ k_)) (Kd.R_mono (ok' := fun k_ => some k_ ≠ (v365 : Value).ownBlock) ho0 (fun _ hk_ => hk_.2)) (by first | exact HK.out.1 | exact (show Kept w _ (fun k_ => P1_ k_) from by repeat (first | (with_reducible first | exact HK.out | apply Kept.alloc | apply Kept.drewN | apply Kept.drew) | exact HK.out)).1) (fun k_ h_ => .inr h_)) (Kd.R_lt (nR_ HO1))) (below_size hb_)); have n7_ := A_ (Kd.R_lower (Kd.R_new' (Kd.R_newM (M := fun k_ => (P1_ k_ ∨ w.heap.size ≤ k_)) (Kd.R_mono (ok' := fun k_ => some k_ ≠ (v362 : Value).ownBlock) ho1 (fun _ hk_ => hk_.2)) (by first | exact HK.out.1 | exact (show Kept w _ (fun k_ => P1_ k_) from by repeat (first | (with_reducible first | exact HK.out | apply Kept.alloc | apply Kept.drewN | apply Kept.drew) | exact HK.out)).1) (fun k_ h_ => .inr h_)) (Kd.R_lt (nR_ HO1))) (below_size hb_)); have n8_ := A_ (Kept.below (S := (fun k_ => P1_ k_)) (by repeat (first | (with_reducible first | exact HK.out | apply Kept.alloc | apply Kept.drewN | apply Kept.drew) | exact HK.out)) hb); have n9_ := A_ (below_step hb_ hb); clear HO1 HO2 HO3 HO351 HO356 HO359 HK HB; have HO1 := n0_; have HO2 := n1_; have HO3 := n2_; have HO351 := n3_; have HO356 := n4_; have HO359 := n5_; have HO363 := n6_; have HO366 := n7_; have HK := n8_; have HB := n9_; clear n0_ n1_ n2_ n3_ n4_ n5_ n6_ n7_ n8_ n9_; (try clear hb); (try clear hb2); (try clear hk); (try clear hi); (try clear ho0); (try clear ho1)))
      repeat (go_quiet (first | (go_at_call 32; (with_reducible refine (poly_DivMod.calls k a0 (fun k_ => (((P1_ k_ ∨ P2_ k_ ∨ P3_ k_) ∨ w.heap.size ≤ k_) ∧ some k_ ≠ (u9000_ : Value).ownBlock)) _ _ l2 (fun k_ => (((P1_ k_ ∨ P2_ k_ ∨ P3_ k_) ∨ w.heap.size ≤ k_) ∧ some k_ ≠ (u9000_ : Value).ownBlock)) _ _ t357 t361 t364 t367 _ ?side1 ?side2 A27.out).mono ?_); (case side1 => exact HO2.out); (case side2 => exact HO359.out); rintro e w30 ⟨v362, v365, rfl, ho0, ho1, hb⟩; have n0_ := A_ (Kd.R_mono (Kd.R_told (Kd.R_told (Kd.R_old (nR_ HO1) hb) (Kd.R_base ho0)) (Kd.R_base ho1)) (fun _ h_ => h_.1)); have n1_ := A_ (Kd.V_mono (Kd.V_told (Kd.V_told (Kd.V_old (nV_ HO2) hb) (Kd.R_base ho0)) (Kd.R_base ho1)) (fun _ h_ => h_.1)); have n2_ := A_ (Kd.V_mono (Kd.V_told (Kd.V_told (Kd.V_old (nV_ HO3) hb) (Kd.R_base ho0)) (Kd.R_base ho1)) (fun _ h_ => h_.1)); have n3_ := A_ (Kd.V_mono (Kd.V_told (Kd.V_told (Kd.V_old (nV_ HO351) hb) (Kd.R_base ho0)) (Kd.R_base ho1)) (fun _ h_ => h_.1)); have n4_ := A_ (Kd.V_mono (Kd.V_told (Kd.V_told (Kd.V_old (nV_ HO356) hb) (Kd.R_base ho0)) (Kd.R_base ho1)) (fun _ h_ => h_.1)); have n5_ := A_ (Kd.V_mono (Kd.V_told (Kd.V_told (Kd.V_old (nV_ HO359) hb) (Kd.R_base ho0)) (Kd.R_base ho1)) (fun _ h_ => h_.1)); have n6_ := A_ (Kd.R_lower (Kd.R_new' (Kd.R_newM (M := fun k_ => (P1_ k_ ∨ w.heap.size ≤ k_)) (Kd.R_mono (ok' := fun k_ => some k_ ≠ (v365 : Value).ownBlock) ho0 (fun _ hk_ => hk_.2)) (by first | exact HK.out.1 | exact (show Kept w _ (fun k_ => P1_ k_) from by repeat (first | (with_reducible first | exact HK.out | apply Kept.alloc | apply Kept.drewN | apply Kept.drew) | exact HK.out)).1) (fun k_ h_ => .inr h_)) (Kd.R_lt (nR_ HO1))) (below_size hb_)); have n7_ := A_ (Kd.R_lower (Kd.R_new' (Kd.R_newM (M := fun k_ => (P1_ k_ ∨ w.heap.size ≤ k_)) (Kd.R_mono (ok' := fun k_ => some k_ ≠ (v362 : Value).ownBlock) ho1 (fun _ hk_ => hk_.2)) (by first | exact HK.out.1 | exact (show Kept w _ (fun k_ => P1_ k_) from by repeat (first | (with_reducible first | exact HK.out | apply Kept.alloc | apply Kept.drewN | apply Kept.drew) | exact HK.out)).1) (fun k_ h_ => .inr h_)) (Kd.R_lt (nR_ HO1))) (below_size hb_)); have n8_ := A_ (Kept.below (S := (fun k_ => P1_ k_)) (by repeat (first | (with_reducible first | exact HK.out | apply Kept.alloc | apply Kept.drewN | apply Kept.drew) | exact HK.out)) hb); have n9_ := A_ (below_step hb_ hb); clear HO1 HO2 HO3 HO351 HO356 HO359 HK HB; have HO1 := n0_; have HO2 := n1_; have HO3 := n2_; have HO351 := n3_; have HO356 := n4_; have HO359 := n5_; have HO363 := n6_; have HO366 := n7_; have HK := n8_; have HB := n9_; clear n0_ n1_ n2_ n3_ n4_ n5_ n6_ n7_ n8_ n9_; (try clear hb); (try clear hb2); (try clear hk); (try clear hi); (try clear ho0); (try clear ho1))); go_upto_if 82 with (first | (go_at_call 32; (with_reducible refine (poly_DivMod.calls k a0 (fun k_ => (((P1_ k_ ∨ P2_ k_ ∨ P3_ k_) ∨ w.heap.size ≤ k_) ∧ some k_ ≠ (u9000_ : Value).ownBlock)) _ _ l2 (fun k_ => (((P1_ k_ ∨ P2_ k_ ∨ P3_ k_) ∨ w.heap.size ≤ k_) ∧ some k_ ≠ (u9000_ : Value).ownBlock)) _ _ t357 t361 t364 t367 _ ?side1 ?side2 A27.out).mono ?_); (case side1 => exact HO2.out); (case side2 => exact HO359.out); rintro e w30 ⟨v362, v365, rfl, ho0, ho1, hb⟩; have n0_ := A_ (Kd.R_mono (Kd.R_told (Kd.R_told (Kd.R_old (nR_ HO1) hb) (Kd.R_base ho0)) (Kd.R_base ho1)) (fun _ h_ => h_.1)); have n1_ := A_ (Kd.V_mono (Kd.V_told (Kd.V_told (Kd.V_old (nV_ HO2) hb) (Kd.R_base ho0)) (Kd.R_base ho1)) (fun _ h_ => h_.1)); have n2_ := A_ (Kd.V_mono (Kd.V_told (Kd.V_told (Kd.V_old (nV_ HO3) hb) (Kd.R_base ho0)) (Kd.R_base ho1)) (fun _ h_ => h_.1)); have n3_ := A_ (Kd.V_mono (Kd.V_told (Kd.V_told (Kd.V_old (nV_ HO351) hb) (Kd.R_base ho0)) (Kd.R_base ho1)) (fun _ h_ => h_.1)); have n4_ := A_ (Kd.V_mono (Kd.V_told (Kd.V_told (Kd.V_old (nV_ HO356) hb) (Kd.R_base ho0)) (Kd.R_base ho1)) (fun _ h_ => h_.1)); have n5_ := A_ (Kd.V_mono (Kd.V_told (Kd.V_told (Kd.V_old (nV_ HO359) hb) (Kd.R_base ho0)) (Kd.R_base ho1)) (fun _ h_ => h_.1)); have n6_ := A_ (Kd.R_lower (Kd.R_new' (Kd.R_newM (M := fun k_ => (P1_ k_ ∨ w.heap.size ≤ k_)) (Kd.R_mono (ok' := fun k_ => some k_ ≠ (v365 : Value).ownBlock) ho0 (fun _ hk_ => hk_.2)) (by first | exact HK.out.1 | exact (show Kept w _ (fun k_ => P1_ k_) from by repeat (first | (with_reducible first | exact HK.out | apply Kept.alloc | apply Kept.drewN | apply Kept.drew) | exact HK.out)).1) (fun k_ h_ => .inr h_)) (Kd.R_lt (nR_ HO1))) (below_size hb_)); have n7_ := A_ (Kd.R_lower (Kd.R_new' (Kd.R_newM (M := fun k_ => (P1_ k_ ∨ w.heap.size ≤ k_)) (Kd.R_mono (ok' := fun k_ => some k_ ≠ (v362 : Value).ownBlock) ho1 (fun _ hk_ => hk_.2)) (by first | exact HK.out.1 | exact (show Kept w _ (fun k_ => P1_ k_) from by repeat (first | (with_reducible first | exact HK.out | apply Kept.alloc | apply Kept.drewN | apply Kept.drew) | exact HK.out)).1) (fun k_ h_ => .inr h_)) (Kd.R_lt (nR_ HO1))) (below_size hb_)); have n8_ := A_ (Kept.below (S := (fun k_ => P1_ k_)) (by repeat (first | (with_reducible first | exact HK.out | apply Kept.alloc | apply Kept.drewN | apply Kept.drew) | exact HK.out)) hb); have n9_ := A_ (below_step hb_ hb); clear HO1 HO2 HO3 HO351 HO356 HO359 HK HB; have HO1 := n0_; have HO2 := n1_; have HO3 := n2_; have HO351 := n3_; have HO356 := n4_; have HO359 := n5_; have HO363 := n6_; have HO366 := n7_; have HK := n8_; have HB := n9_; clear n0_ n1_ n2_ n3_ n4_ n5_ n6_ n7_ n8_ n9_; (try clear hb); (try clear hb2); (try clear hk); (try clear hi); (try clear ho0); (try clear ho1))))
      (try simp only [Act.put, List.setIfInBounds_toArray, List.set_cons_zero, List.set_cons_succ])
      have H := HC28.out
      clear HC28
      by_cases c31 : t367 = 0
      ·rw [if_pos c31] at H
       have c31b0 : (t367 == 0) = true := beq_iff_eq.mpr c31
       have c31b1 : (t367 != 0) = false := bne_eq_false_iff_eq.mpr c31
       clear c31
       (first | rw [c31b0] | rw [c31b1] | (simp only [i64_w, i32_w]; first | rw [c31b0] | rw [c31b1]) | skip)
       replace H := Option.bind_eq_some_iff.mp H
       obtain ⟨⟨t368, t371⟩, A320, H⟩ := H
       (try dsimp only at H)
       have A32 := Aside0.mk A320
       clear A320
       have HC33 := Aside0.mk H
       clear H
       obtain ⟨Ao34, co34, eo34⟩ := Kd.R_slice HO1.out
       subst eo34
       obtain ⟨Ao35, co35, eo35⟩ := Kd.R_slice HO366.out
       subst eo35
       go_upto_if 93 with (first | (go_at_call 40; (with_reducible refine (ih k (by omega) a0 (fun k_ => some k_ = (.slice Ao34 l1.length co34 : Value).ownBlock) (.slice Ao34 l1.length co34) l1 (fun k_ => some k_ = (.slice Ao35 t364.length co35 : Value).ownBlock) _ _ t364 (fun k_ => (((((P1_ k_ ∨ P2_ k_ ∨ P3_ k_) ∨ w.heap.size ≤ k_) ∧ some k_ ≠ (.slice Ao34 l1.length co34 : Value).ownBlock) ∧ some k_ ≠ (v362 : Value).ownBlock) ∧ some k_ ≠ (.slice Ao35 t364.length co35 : Value).ownBlock)) _ _ y347 t368 t371 w0 _ ?side1 ?side2 ?side3 ?side4 A32.out).mono ?_); (case side1 => repeat (first | (with_reducible first | exact HB.out | apply below_alloc | apply pw_below_drewN | apply below_drew1) | exact HB.out)); (case side2 => exact Kd.R_tight rfl HO1.out); (case side3 => exact Kd.V_mono (Kd.R_V (Kd.R_tight rfl (HO366.out))) (fun k_ hk_ => ⟨hk_, ((HO366.out).1 k_ hk_.symm).2⟩)); (case side4 => exact Kd.V_mono (HO351.out) (fun k_ hk_ => ⟨hk_, hk_.1.1.2⟩)); rintro e w36 ⟨v369, rfl, ho0, hb, hkp⟩; have n0_ := A_ (Kd.V_mono (ok' := fun k_ => ((P1_ k_ ∨ P2_ k_ ∨ P3_ k_) ∨ w.heap.size ≤ k_) ∧ some k_ ≠ (v362 : Value).ownBlock ∧ some k_ ≠ (.slice Ao35 t364.length co35 : Value).ownBlock ∧ some k_ ≠ (v369 : Value).ownBlock) (Kd.V_keptB (HO2.out) hkp (fun k_ hk_ hs_ => (hk_.1.1.2) hs_)) (fun k_ hk_ => ⟨hk_.1.1.1.1, hk_.1.1.2, hk_.1.2, fun e_ => Or.elim (ho0.1 k_ e_.symm) (fun hs_ => hk_.2.1 hs_) (fun hn_ => Nat.not_le.2 hk_.2.2 hn_)⟩)); have n1_ := A_ (Kd.V_mono (ok' := fun k_ => ((P1_ k_ ∨ P2_ k_ ∨ P3_ k_) ∨ w.heap.size ≤ k_) ∧ some k_ ≠ (v362 : Value).ownBlock ∧ some k_ ≠ (.slice Ao35 t364.length co35 : Value).ownBlock ∧ some k_ ≠ (v369 : Value).ownBlock) (Kd.V_keptB (HO3.out) hkp (fun k_ hk_ hs_ => (hk_.1.1.2) hs_)) (fun k_ hk_ => ⟨hk_.1.1.1.1, hk_.1.1.2, hk_.1.2, fun e_ => Or.elim (ho0.1 k_ e_.symm) (fun hs_ => hk_.2.1 hs_) (fun hn_ => Nat.not_le.2 hk_.2.2 hn_)⟩)); have n2_ := A_ (Kd.V_mono (ok' := fun k_ => ((P1_ k_ ∨ P2_ k_ ∨ P3_ k_) ∨ w.heap.size ≤ k_) ∧ some k_ ≠ (v362 : Value).ownBlock ∧ some k_ ≠ (.slice Ao35 t364.length co35 : Value).ownBlock ∧ some k_ ≠ (v369 : Value).ownBlock) (Kd.V_keptB (HO351.out) hkp (fun k_ hk_ hs_ => (hk_.1.1.2) hs_)) (fun k_ hk_ => ⟨hk_.1.1.1.1, hk_.1.1.2, hk_.1.2, fun e_ => Or.elim (ho0.1 k_ e_.symm) (fun hs_ => hk_.2.1 hs_) (fun hn_ => Nat.not_le.2 hk_.2.2 hn_)⟩)); have n3_ := A_ (Kd.V_mono (ok' := fun k_ => ((P1_ k_ ∨ P2_ k_ ∨ P3_ k_) ∨ w.heap.size ≤ k_) ∧ some k_ ≠ (v362 : Value).ownBlock ∧ some k_ ≠ (.slice Ao35 t364.length co35 : Value).ownBlock ∧ some k_ ≠ (v369 : Value).ownBlock) (Kd.V_keptB (HO356.out) hkp (fun k_ hk_ hs_ => (hk_.1.1.2) hs_)) (fun k_ hk_ => ⟨hk_.1.1.1.1, hk_.1.1.2, hk_.1.2, fun e_ => Or.elim (ho0.1 k_ e_.symm) (fun hs_ => hk_.2.1 hs_) (fun hn_ => Nat.not_le.2 hk_.2.2 hn_)⟩)); have n4_ := A_ (Kd.V_mono (ok' := fun k_ => ((P1_ k_ ∨ P2_ k_ ∨ P3_ k_) ∨ w.heap.size ≤ k_) ∧ some k_ ≠ (v362 : Value).ownBlock ∧ some k_ ≠ (.slice Ao35 t364.length co35 : Value).ownBlock ∧ some k_ ≠ (v369 : Value).ownBlock) (Kd.V_keptB (HO359.out) hkp (fun k_ hk_ hs_ => (hk_.1.1.2) hs_)) (fun k_ hk_ => ⟨hk_.1.1.1.1, hk_.1.1.2, hk_.1.2, fun e_ => Or.elim (ho0.1 k_ e_.symm) (fun hs_ => hk_.2.1 hs_) (fun hn_ => Nat.not_le.2 hk_.2.2 hn_)⟩)); have n5_ := A_ (Kd.R_mono (ok' := fun k_ => (P1_ k_ ∨ w.heap.size ≤ k_) ∧ some k_ ≠ (.slice Ao35 t364.length co35 : Value).ownBlock ∧ some k_ ≠ (v369 : Value).ownBlock) (Kd.R_keptB (HO363.out) hkp (fun k_ hk_ hs_ => (hk_.2) hs_)) (fun k_ hk_ => ⟨hk_.1.1.1, hk_.1.1.2, fun e_ => Or.elim (ho0.1 k_ e_.symm) (fun hs_ => hk_.2.1 hs_) (fun hn_ => Nat.not_le.2 hk_.2.2 hn_)⟩)); have n6_ := A_ (Kd.R_mono (ok' := fun k_ => (P1_ k_ ∨ w.heap.size ≤ k_) ∧ some k_ ≠ (v362 : Value).ownBlock ∧ some k_ ≠ (v369 : Value).ownBlock) (Kd.R_keptB (HO366.out) hkp (fun k_ hk_ hs_ => (hk_.2) hs_)) (fun k_ hk_ => ⟨hk_.1.1.1, hk_.1.1.2, fun e_ => Or.elim (ho0.1 k_ e_.symm) (fun hs_ => hk_.2.1 hs_) (fun hn_ => Nat.not_le.2 hk_.2.2 hn_)⟩)); have n7_ := A_ (Kd.R_mono (ok' := fun k_ => (P1_ k_ ∨ w.heap.size ≤ k_) ∧ some k_ ≠ (v362 : Value).ownBlock) ho0 (fun k_ hk_ => ⟨Or.elim hk_ (fun hs_ => (HO1.out.1 k_ (hs_).symm).1.1) (fun hn_ => (.inr (Nat.le_trans (by first | exact HK.out.1 | exact (show Kept w _ (fun k_ => P1_ k_) from by repeat (first | (with_reducible first | exact HK.out | apply Kept.alloc | apply Kept.drewN | apply Kept.drew) | exact HK.out)).1) hn_))), Or.elim hk_ (fun hs_ => fun e_ => (((HO363.out).1 k_ e_.symm).2) hs_) (fun hn_ => (Kd.fresh' (Kd.R_lt (nR_ HO363)) k_ hn_))⟩)); have n8_ := A_ (Kept.then_ (S := (fun k_ => P1_ k_)) (by repeat (first | (with_reducible first | exact HK.out | apply Kept.alloc | apply Kept.drewN | apply Kept.drew) | exact HK.out)) hkp (fun k_ hs_ => (fun e_ => (HO1.out.1 k_ e_.symm).1.1) hs_)); have n9_ := A_ (hb); clear HO2 HO3 HO351 HO356 HO359 HO363 HO366 HK HB HO1; have HO2 := n0_; have HO3 := n1_; have HO351 := n2_; have HO356 := n3_; have HO359 := n4_; have HO363 := n5_; have HO366 := n6_; have HO370 := n7_; have HK := n8_; have HB := n9_; clear n0_ n1_ n2_ n3_ n4_ n5_ n6_ n7_ n8_ n9_; (try clear hb); (try clear hkp); (try clear ho0)))
       repeat (go_quiet (first | (go_at_call 40; (with_reducible refine (ih k (by omega) a0 (fun k_ => some k_ = (.slice Ao34 l1.length co34 : Value).ownBlock) (.slice Ao34 l1.length co34) l1 (fun k_ => some k_ = (.slice Ao35 t364.length co35 : Value).ownBlock) _ _ t364 (fun k_ => (((((P1_ k_ ∨ P2_ k_ ∨ P3_ k_) ∨ w.heap.size ≤ k_) ∧ some k_ ≠ (.slice Ao34 l1.length co34 : Value).ownBlock) ∧ some k_ ≠ (v362 : Value).ownBlock) ∧ some k_ ≠ (.slice Ao35 t364.length co35 : Value).ownBlock)) _ _ y347 t368 t371 w0 _ ?side1 ?side2 ?side3 ?side4 A32.out).mono ?_); (case side1 => repeat (first | (with_reducible first | exact HB.out | apply below_alloc | apply pw_below_drewN | apply below_drew1) | exact HB.out)); (case side2 => exact Kd.R_tight rfl HO1.out); (case side3 => exact Kd.V_mono (Kd.R_V (Kd.R_tight rfl (HO366.out))) (fun k_ hk_ => ⟨hk_, ((HO366.out).1 k_ hk_.symm).2⟩)); (case side4 => exact Kd.V_mono (HO351.out) (fun k_ hk_ => ⟨hk_, hk_.1.1.2⟩)); rintro e w36 ⟨v369, rfl, ho0, hb, hkp⟩; have n0_ := A_ (Kd.V_mono (ok' := fun k_ => ((P1_ k_ ∨ P2_ k_ ∨ P3_ k_) ∨ w.heap.size ≤ k_) ∧ some k_ ≠ (v362 : Value).ownBlock ∧ some k_ ≠ (.slice Ao35 t364.length co35 : Value).ownBlock ∧ some k_ ≠ (v369 : Value).ownBlock) (Kd.V_keptB (HO2.out) hkp (fun k_ hk_ hs_ => (hk_.1.1.2) hs_)) (fun k_ hk_ => ⟨hk_.1.1.1.1, hk_.1.1.2, hk_.1.2, fun e_ => Or.elim (ho0.1 k_ e_.symm) (fun hs_ => hk_.2.1 hs_) (fun hn_ => Nat.not_le.2 hk_.2.2 hn_)⟩)); have n1_ := A_ (Kd.V_mono (ok' := fun k_ => ((P1_ k_ ∨ P2_ k_ ∨ P3_ k_) ∨ w.heap.size ≤ k_) ∧ some k_ ≠ (v362 : Value).ownBlock ∧ some k_ ≠ (.slice Ao35 t364.length co35 : Value).ownBlock ∧ some k_ ≠ (v369 : Value).ownBlock) (Kd.V_keptB (HO3.out) hkp (fun k_ hk_ hs_ => (hk_.1.1.2) hs_)) (fun k_ hk_ => ⟨hk_.1.1.1.1, hk_.1.1.2, hk_.1.2, fun e_ => Or.elim (ho0.1 k_ e_.symm) (fun hs_ => hk_.2.1 hs_) (fun hn_ => Nat.not_le.2 hk_.2.2 hn_)⟩)); have n2_ := A_ (Kd.V_mono (ok' := fun k_ => ((P1_ k_ ∨ P2_ k_ ∨ P3_ k_) ∨ w.heap.size ≤ k_) ∧ some k_ ≠ (v362 : Value).ownBlock ∧ some k_ ≠ (.slice Ao35 t364.length co35 : Value).ownBlock ∧ some k_ ≠ (v369 : Value).ownBlock) (Kd.V_keptB (HO351.out) hkp (fun k_ hk_ hs_ => (hk_.1.1.2) hs_)) (fun k_ hk_ => ⟨hk_.1.1.1.1, hk_.1.1.2, hk_.1.2, fun e_ => Or.elim (ho0.1 k_ e_.symm) (fun hs_ => hk_.2.1 hs_) (fun hn_ => Nat.not_le.2 hk_.2.2 hn_)⟩)); have n3_ := A_ (Kd.V_mono (ok' := fun k_ => ((P1_ k_ ∨ P2_ k_ ∨ P3_ k_) ∨ w.heap.size ≤ k_) ∧ some k_ ≠ (v362 : Value).ownBlock ∧ some k_ ≠ (.slice Ao35 t364.length co35 : Value).ownBlock ∧ some k_ ≠ (v369 : Value).ownBlock) (Kd.V_keptB (HO356.out) hkp (fun k_ hk_ hs_ => (hk_.1.1.2) hs_)) (fun k_ hk_ => ⟨hk_.1.1.1.1, hk_.1.1.2, hk_.1.2, fun e_ => Or.elim (ho0.1 k_ e_.symm) (fun hs_ => hk_.2.1 hs_) (fun hn_ => Nat.not_le.2 hk_.2.2 hn_)⟩)); have n4_ := A_ (Kd.V_mono (ok' := fun k_ => ((P1_ k_ ∨ P2_ k_ ∨ P3_ k_) ∨ w.heap.size ≤ k_) ∧ some k_ ≠ (v362 : Value).ownBlock ∧ some k_ ≠ (.slice Ao35 t364.length co35 : Value).ownBlock ∧ some k_ ≠ (v369 : Value).ownBlock) (Kd.V_keptB (HO359.out) hkp (fun k_ hk_ hs_ => (hk_.1.1.2) hs_)) (fun k_ hk_ => ⟨hk_.1.1.1.1, hk_.1.1.2, hk_.1.2, fun e_ => Or.elim (ho0.1 k_ e_.symm) (fun hs_ => hk_.2.1 hs_) (fun hn_ => Nat.not_le.2 hk_.2.2 hn_)⟩)); have n5_ := A_ (Kd.R_mono (ok' := fun k_ => (P1_ k_ ∨ w.heap.size ≤ k_) ∧ some k_ ≠ (.slice Ao35 t364.length co35 : Value).ownBlock ∧ some k_ ≠ (v369 : Value).ownBlock) (Kd.R_keptB (HO363.out) hkp (fun k_ hk_ hs_ => (hk_.2) hs_)) (fun k_ hk_ => ⟨hk_.1.1.1, hk_.1.1.2, fun e_ => Or.elim (ho0.1 k_ e_.symm) (fun hs_ => hk_.2.1 hs_) (fun hn_ => Nat.not_le.2 hk_.2.2 hn_)⟩)); have n6_ := A_ (Kd.R_mono (ok' := fun k_ => (P1_ k_ ∨ w.heap.size ≤ k_) ∧ some k_ ≠ (v362 : Value).ownBlock ∧ some k_ ≠ (v369 : Value).ownBlock) (Kd.R_keptB (HO366.out) hkp (fun k_ hk_ hs_ => (hk_.2) hs_)) (fun k_ hk_ => ⟨hk_.1.1.1, hk_.1.1.2, fun e_ => Or.elim (ho0.1 k_ e_.symm) (fun hs_ => hk_.2.1 hs_) (fun hn_ => Nat.not_le.2 hk_.2.2 hn_)⟩)); have n7_ := A_ (Kd.R_mono (ok' := fun k_ => (P1_ k_ ∨ w.heap.size ≤ k_) ∧ some k_ ≠ (v362 : Value).ownBlock) ho0 (fun k_ hk_ => ⟨Or.elim hk_ (fun hs_ => (HO1.out.1 k_ (hs_).symm).1.1) (fun hn_ => (.inr (Nat.le_trans (by first | exact HK.out.1 | exact (show Kept w _ (fun k_ => P1_ k_) from by repeat (first | (with_reducible first | exact HK.out | apply Kept.alloc | apply Kept.drewN | apply Kept.drew) | exact HK.out)).1) hn_))), Or.elim hk_ (fun hs_ => fun e_ => (((HO363.out).1 k_ e_.symm).2) hs_) (fun hn_ => (Kd.fresh' (Kd.R_lt (nR_ HO363)) k_ hn_))⟩)); have n8_ := A_ (Kept.then_ (S := (fun k_ => P1_ k_)) (by repeat (first | (with_reducible first | exact HK.out | apply Kept.alloc | apply Kept.drewN | apply Kept.drew) | exact HK.out)) hkp (fun k_ hs_ => (fun e_ => (HO1.out.1 k_ e_.symm).1.1) hs_)); have n9_ := A_ (hb); clear HO2 HO3 HO351 HO356 HO359 HO363 HO366 HK HB HO1; have HO2 := n0_; have HO3 := n1_; have HO351 := n2_; have HO356 := n3_; have HO359 := n4_; have HO363 := n5_; have HO366 := n6_; have HO370 := n7_; have HK := n8_; have HB := n9_; clear n0_ n1_ n2_ n3_ n4_ n5_ n6_ n7_ n8_ n9_; (try clear hb); (try clear hkp); (try clear ho0))); go_upto_if 93 with (first | (go_at_call 40; (with_reducible refine (ih k (by omega) a0 (fun k_ => some k_ = (.slice Ao34 l1.length co34 : Value).ownBlock) (.slice Ao34 l1.length co34) l1 (fun k_ => some k_ = (.slice Ao35 t364.length co35 : Value).ownBlock) _ _ t364 (fun k_ => (((((P1_ k_ ∨ P2_ k_ ∨ P3_ k_) ∨ w.heap.size ≤ k_) ∧ some k_ ≠ (.slice Ao34 l1.length co34 : Value).ownBlock) ∧ some k_ ≠ (v362 : Value).ownBlock) ∧ some k_ ≠ (.slice Ao35 t364.length co35 : Value).ownBlock)) _ _ y347 t368 t371 w0 _ ?side1 ?side2 ?side3 ?side4 A32.out).mono ?_); (case side1 => repeat (first | (with_reducible first | exact HB.out | apply below_alloc | apply pw_below_drewN | apply below_drew1) | exact HB.out)); (case side2 => exact Kd.R_tight rfl HO1.out); (case side3 => exact Kd.V_mono (Kd.R_V (Kd.R_tight rfl (HO366.out))) (fun k_ hk_ => ⟨hk_, ((HO366.out).1 k_ hk_.symm).2⟩)); (case side4 => exact Kd.V_mono (HO351.out) (fun k_ hk_ => ⟨hk_, hk_.1.1.2⟩)); rintro e w36 ⟨v369, rfl, ho0, hb, hkp⟩; have n0_ := A_ (Kd.V_mono (ok' := fun k_ => ((P1_ k_ ∨ P2_ k_ ∨ P3_ k_) ∨ w.heap.size ≤ k_) ∧ some k_ ≠ (v362 : Value).ownBlock ∧ some k_ ≠ (.slice Ao35 t364.length co35 : Value).ownBlock ∧ some k_ ≠ (v369 : Value).ownBlock) (Kd.V_keptB (HO2.out) hkp (fun k_ hk_ hs_ => (hk_.1.1.2) hs_)) (fun k_ hk_ => ⟨hk_.1.1.1.1, hk_.1.1.2, hk_.1.2, fun e_ => Or.elim (ho0.1 k_ e_.symm) (fun hs_ => hk_.2.1 hs_) (fun hn_ => Nat.not_le.2 hk_.2.2 hn_)⟩)); have n1_ := A_ (Kd.V_mono (ok' := fun k_ => ((P1_ k_ ∨ P2_ k_ ∨ P3_ k_) ∨ w.heap.size ≤ k_) ∧ some k_ ≠ (v362 : Value).ownBlock ∧ some k_ ≠ (.slice Ao35 t364.length co35 : Value).ownBlock ∧ some k_ ≠ (v369 : Value).ownBlock) (Kd.V_keptB (HO3.out) hkp (fun k_ hk_ hs_ => (hk_.1.1.2) hs_)) (fun k_ hk_ => ⟨hk_.1.1.1.1, hk_.1.1.2, hk_.1.2, fun e_ => Or.elim (ho0.1 k_ e_.symm) (fun hs_ => hk_.2.1 hs_) (fun hn_ => Nat.not_le.2 hk_.2.2 hn_)⟩)); have n2_ := A_ (Kd.V_mono (ok' := fun k_ => ((P1_ k_ ∨ P2_ k_ ∨ P3_ k_) ∨ w.heap.size ≤ k_) ∧ some k_ ≠ (v362 : Value).ownBlock ∧ some k_ ≠ (.slice Ao35 t364.length co35 : Value).ownBlock ∧ some k_ ≠ (v369 : Value).ownBlock) (Kd.V_keptB (HO351.out) hkp (fun k_ hk_ hs_ => (hk_.1.1.2) hs_)) (fun k_ hk_ => ⟨hk_.1.1.1.1, hk_.1.1.2, hk_.1.2, fun e_ => Or.elim (ho0.1 k_ e_.symm) (fun hs_ => hk_.2.1 hs_) (fun hn_ => Nat.not_le.2 hk_.2.2 hn_)⟩)); have n3_ := A_ (Kd.V_mono (ok' := fun k_ => ((P1_ k_ ∨ P2_ k_ ∨ P3_ k_) ∨ w.heap.size ≤ k_) ∧ some k_ ≠ (v362 : Value).ownBlock ∧ some k_ ≠ (.slice Ao35 t364.length co35 : Value).ownBlock ∧ some k_ ≠ (v369 : Value).ownBlock) (Kd.V_keptB (HO356.out) hkp (fun k_ hk_ hs_ => (hk_.1.1.2) hs_)) (fun k_ hk_ => ⟨hk_.1.1.1.1, hk_.1.1.2, hk_.1.2, fun e_ => Or.elim (ho0.1 k_ e_.symm) (fun hs_ => hk_.2.1 hs_) (fun hn_ => Nat.not_le.2 hk_.2.2 hn_)⟩)); have n4_ := A_ (Kd.V_mono (ok' := fun k_ => ((P1_ k_ ∨ P2_ k_ ∨ P3_ k_) ∨ w.heap.size ≤ k_) ∧ some k_ ≠ (v362 : Value).ownBlock ∧ some k_ ≠ (.slice Ao35 t364.length co35 : Value).ownBlock ∧ some k_ ≠ (v369 : Value).ownBlock) (Kd.V_keptB (HO359.out) hkp (fun k_ hk_ hs_ => (hk_.1.1.2) hs_)) (fun k_ hk_ => ⟨hk_.1.1.1.1, hk_.1.1.2, hk_.1.2, fun e_ => Or.elim (ho0.1 k_ e_.symm) (fun hs_ => hk_.2.1 hs_) (fun hn_ => Nat.not_le.2 hk_.2.2 hn_)⟩)); have n5_ := A_ (Kd.R_mono (ok' := fun k_ => (P1_ k_ ∨ w.heap.size ≤ k_) ∧ some k_ ≠ (.slice Ao35 t364.length co35 : Value).ownBlock ∧ some k_ ≠ (v369 : Value).ownBlock) (Kd.R_keptB (HO363.out) hkp (fun k_ hk_ hs_ => (hk_.2) hs_)) (fun k_ hk_ => ⟨hk_.1.1.1, hk_.1.1.2, fun e_ => Or.elim (ho0.1 k_ e_.symm) (fun hs_ => hk_.2.1 hs_) (fun hn_ => Nat.not_le.2 hk_.2.2 hn_)⟩)); have n6_ := A_ (Kd.R_mono (ok' := fun k_ => (P1_ k_ ∨ w.heap.size ≤ k_) ∧ some k_ ≠ (v362 : Value).ownBlock ∧ some k_ ≠ (v369 : Value).ownBlock) (Kd.R_keptB (HO366.out) hkp (fun k_ hk_ hs_ => (hk_.2) hs_)) (fun k_ hk_ => ⟨hk_.1.1.1, hk_.1.1.2, fun e_ => Or.elim (ho0.1 k_ e_.symm) (fun hs_ => hk_.2.1 hs_) (fun hn_ => Nat.not_le.2 hk_.2.2 hn_)⟩)); have n7_ := A_ (Kd.R_mono (ok' := fun k_ => (P1_ k_ ∨ w.heap.size ≤ k_) ∧ some k_ ≠ (v362 : Value).ownBlock) ho0 (fun k_ hk_ => ⟨Or.elim hk_ (fun hs_ => (HO1.out.1 k_ (hs_).symm).1.1) (fun hn_ => (.inr (Nat.le_trans (by first | exact HK.out.1 | exact (show Kept w _ (fun k_ => P1_ k_) from by repeat (first | (with_reducible first | exact HK.out | apply Kept.alloc | apply Kept.drewN | apply Kept.drew) | exact HK.out)).1) hn_))), Or.elim hk_ (fun hs_ => fun e_ => (((HO363.out).1 k_ e_.symm).2) hs_) (fun hn_ => (Kd.fresh' (Kd.R_lt (nR_ HO363)) k_ hn_))⟩)); have n8_ := A_ (Kept.then_ (S := (fun k_ => P1_ k_)) (by repeat (first | (with_reducible first | exact HK.out | apply Kept.alloc | apply Kept.drewN | apply Kept.drew) | exact HK.out)) hkp (fun k_ hs_ => (fun e_ => (HO1.out.1 k_ e_.symm).1.1) hs_)); have n9_ := A_ (hb); clear HO2 HO3 HO351 HO356 HO359 HO363 HO366 HK HB HO1; have HO2 := n0_; have HO3 := n1_; have HO351 := n2_; have HO356 := n3_; have HO359 := n4_; have HO363 := n5_; have HO366 := n6_; have HO370 := n7_; have HK := n8_; have HB := n9_; clear n0_ n1_ n2_ n3_ n4_ n5_ n6_ n7_ n8_ n9_; (try clear hb); (try clear hkp); (try clear ho0))))
       (try simp only [Act.put, List.setIfInBounds_toArray, List.set_cons_zero, List.set_cons_succ])
       have H := HC33.out
       clear HC33
       by_cases c37 : t371 = 0
       ·rw [if_pos c37] at H
        have c37b0 : (t371 == 0) = true := beq_iff_eq.mpr c37
        have c37b1 : (t371 != 0) = false := bne_eq_false_iff_eq.mpr c37
        clear c37
        (first | rw [c37b0] | rw [c37b1] | (simp only [i64_w, i32_w]; first | rw [c37b0] | rw [c37b1]) | skip)
        replace H := Option.bind_eq_some_iff.mp H
        obtain ⟨⟨t372, t375⟩, A380, H⟩ := H
        (try dsimp only at H)
        have A38 := Aside0.mk A380
        clear A380
        have HC39 := Aside0.mk H
        clear H
        try go_wp2
        repeat (go_quiet (fail); try go_wp2)
        rw [rounds_succ]
        go_upto_if 71 with (first | (go_at_call 15; (with_reducible refine (tree_Zero.calls k a0 (fun k_ => (((P1_ k_ ∨ P2_ k_ ∨ P3_ k_) ∨ w.heap.size ≤ k_) ∧ (some k_ ≠ (v362 : Value).ownBlock ∧ (some k_ ≠ (.slice Ao35 t364.length co35 : Value).ownBlock ∧ some k_ ≠ (v369 : Value).ownBlock)))) _ _ y352 t372 t375 _ ?side1 A38.out).mono ?_); (case side1 => exact HO356.out); rintro e w40 ⟨v373, rfl, ho0, hb⟩; have n0_ := A_ (Kd.V_below (nV_ HO2) hb); have n1_ := A_ (Kd.V_below (nV_ HO3) hb); have n2_ := A_ (Kd.V_below (nV_ HO351) hb); have n3_ := A_ (Kd.V_below (nV_ HO356) hb); have n4_ := A_ (Kd.V_below (nV_ HO359) hb); have n5_ := A_ (Kd.R_below (nR_ HO363) hb); have n6_ := A_ (Kd.R_below (nR_ HO366) hb); have n7_ := A_ (Kd.R_below (nR_ HO370) hb); have n8_ := A_ (Kd.V_lower (Kd.V_mono (ok' := fun k_ => ((P1_ k_ ∨ P2_ k_ ∨ P3_ k_) ∨ w.heap.size ≤ k_) ∧ some k_ ≠ (v362 : Value).ownBlock ∧ some k_ ≠ (.slice Ao35 t364.length co35 : Value).ownBlock ∧ some k_ ≠ (v369 : Value).ownBlock) ho0 (fun k_ hk_ => ⟨Or.elim hk_ (fun hs_ => hs_.1) (fun hn_ => (.inr (Nat.le_trans (by first | exact HK.out.1 | exact (show Kept w _ (fun k_ => P1_ k_) from by repeat (first | (with_reducible first | exact HK.out | apply Kept.alloc | apply Kept.drewN | apply Kept.drew) | exact HK.out)).1) hn_))), Or.elim hk_ (fun hs_ => hs_.2.1) (fun hn_ => (Kd.fresh' (Kd.R_lt (nR_ HO363)) k_ hn_)), Or.elim hk_ (fun hs_ => hs_.2.2.1) (fun hn_ => (Kd.fresh' (Kd.R_lt (nR_ HO366)) k_ hn_)), Or.elim hk_ (fun hs_ => hs_.2.2.2) (fun hn_ => (Kd.fresh' (Kd.R_lt (nR_ HO370)) k_ hn_))⟩)) (below_size hb_)); have n9_ := A_ (Kept.below (S := (fun k_ => P1_ k_)) (by repeat (first | (with_reducible first | exact HK.out | apply Kept.alloc | apply Kept.drewN | apply Kept.drew) | exact HK.out)) hb); have n10_ := A_ (below_step hb_ hb); clear HO2 HO3 HO351 HO356 HO359 HO363 HO366 HO370 HK HB; have HO2 := n0_; have HO3 := n1_; have HO351 := n2_; have HO356 := n3_; have HO359 := n4_; have HO363 := n5_; have HO366 := n6_; have HO370 := n7_; have HO374 := n8_; have HK := n9_; have HB := n10_; clear n0_ n1_ n2_ n3_ n4_ n5_ n6_ n7_ n8_ n9_ n10_; (try clear hb); (try clear hb2); (try clear hk); (try clear hi); (try clear ho0)))
        repeat (go_quiet (first | (go_at_call 15; (with_reducible refine (tree_Zero.calls k a0 (fun k_ => (((P1_ k_ ∨ P2_ k_ ∨ P3_ k_) ∨ w.heap.size ≤ k_) ∧ (some k_ ≠ (v362 : Value).ownBlock ∧ (some k_ ≠ (.slice Ao35 t364.length co35 : Value).ownBlock ∧ some k_ ≠ (v369 : Value).ownBlock)))) _ _ y352 t372 t375 _ ?side1 A38.out).mono ?_); (case side1 => exact HO356.out); rintro e w40 ⟨v373, rfl, ho0, hb⟩; have n0_ := A_ (Kd.V_below (nV_ HO2) hb); have n1_ := A_ (Kd.V_below (nV_ HO3) hb); have n2_ := A_ (Kd.V_below (nV_ HO351) hb); have n3_ := A_ (Kd.V_below (nV_ HO356) hb); have n4_ := A_ (Kd.V_below (nV_ HO359) hb); have n5_ := A_ (Kd.R_below (nR_ HO363) hb); have n6_ := A_ (Kd.R_below (nR_ HO366) hb); have n7_ := A_ (Kd.R_below (nR_ HO370) hb); have n8_ := A_ (Kd.V_lower (Kd.V_mono (ok' := fun k_ => ((P1_ k_ ∨ P2_ k_ ∨ P3_ k_) ∨ w.heap.size ≤ k_) ∧ some k_ ≠ (v362 : Value).ownBlock ∧ some k_ ≠ (.slice Ao35 t364.length co35 : Value).ownBlock ∧ some k_ ≠ (v369 : Value).ownBlock) ho0 (fun k_ hk_ => ⟨Or.elim hk_ (fun hs_ => hs_.1) (fun hn_ => (.inr (Nat.le_trans (by first | exact HK.out.1 | exact (show Kept w _ (fun k_ => P1_ k_) from by repeat (first | (with_reducible first | exact HK.out | apply Kept.alloc | apply Kept.drewN | apply Kept.drew) | exact HK.out)).1) hn_))), Or.elim hk_ (fun hs_ => hs_.2.1) (fun hn_ => (Kd.fresh' (Kd.R_lt (nR_ HO363)) k_ hn_)), Or.elim hk_ (fun hs_ => hs_.2.2.1) (fun hn_ => (Kd.fresh' (Kd.R_lt (nR_ HO366)) k_ hn_)), Or.elim hk_ (fun hs_ => hs_.2.2.2) (fun hn_ => (Kd.fresh' (Kd.R_lt (nR_ HO370)) k_ hn_))⟩)) (below_size hb_)); have n9_ := A_ (Kept.below (S := (fun k_ => P1_ k_)) (by repeat (first | (with_reducible first | exact HK.out | apply Kept.alloc | apply Kept.drewN | apply Kept.drew) | exact HK.out)) hb); have n10_ := A_ (below_step hb_ hb); clear HO2 HO3 HO351 HO356 HO359 HO363 HO366 HO370 HK HB; have HO2 := n0_; have HO3 := n1_; have HO351 := n2_; have HO356 := n3_; have HO359 := n4_; have HO363 := n5_; have HO366 := n6_; have HO370 := n7_; have HO374 := n8_; have HK := n9_; have HB := n10_; clear n0_ n1_ n2_ n3_ n4_ n5_ n6_ n7_ n8_ n9_ n10_; (try clear hb); (try clear hb2); (try clear hk); (try clear hi); (try clear ho0))); go_upto_if 71 with (first | (go_at_call 15; (with_reducible refine (tree_Zero.calls k a0 (fun k_ => (((P1_ k_ ∨ P2_ k_ ∨ P3_ k_) ∨ w.heap.size ≤ k_) ∧ (some k_ ≠ (v362 : Value).ownBlock ∧ (some k_ ≠ (.slice Ao35 t364.length co35 : Value).ownBlock ∧ some k_ ≠ (v369 : Value).ownBlock)))) _ _ y352 t372 t375 _ ?side1 A38.out).mono ?_); (case side1 => exact HO356.out); rintro e w40 ⟨v373, rfl, ho0, hb⟩; have n0_ := A_ (Kd.V_below (nV_ HO2) hb); have n1_ := A_ (Kd.V_below (nV_ HO3) hb); have n2_ := A_ (Kd.V_below (nV_ HO351) hb); have n3_ := A_ (Kd.V_below (nV_ HO356) hb); have n4_ := A_ (Kd.V_below (nV_ HO359) hb); have n5_ := A_ (Kd.R_below (nR_ HO363) hb); have n6_ := A_ (Kd.R_below (nR_ HO366) hb); have n7_ := A_ (Kd.R_below (nR_ HO370) hb); have n8_ := A_ (Kd.V_lower (Kd.V_mono (ok' := fun k_ => ((P1_ k_ ∨ P2_ k_ ∨ P3_ k_) ∨ w.heap.size ≤ k_) ∧ some k_ ≠ (v362 : Value).ownBlock ∧ some k_ ≠ (.slice Ao35 t364.length co35 : Value).ownBlock ∧ some k_ ≠ (v369 : Value).ownBlock) ho0 (fun k_ hk_ => ⟨Or.elim hk_ (fun hs_ => hs_.1) (fun hn_ => (.inr (Nat.le_trans (by first | exact HK.out.1 | exact (show Kept w _ (fun k_ => P1_ k_) from by repeat (first | (with_reducible first | exact HK.out | apply Kept.alloc | apply Kept.drewN | apply Kept.drew) | exact HK.out)).1) hn_))), Or.elim hk_ (fun hs_ => hs_.2.1) (fun hn_ => (Kd.fresh' (Kd.R_lt (nR_ HO363)) k_ hn_)), Or.elim hk_ (fun hs_ => hs_.2.2.1) (fun hn_ => (Kd.fresh' (Kd.R_lt (nR_ HO366)) k_ hn_)), Or.elim hk_ (fun hs_ => hs_.2.2.2) (fun hn_ => (Kd.fresh' (Kd.R_lt (nR_ HO370)) k_ hn_))⟩)) (below_size hb_)); have n9_ := A_ (Kept.below (S := (fun k_ => P1_ k_)) (by repeat (first | (with_reducible first | exact HK.out | apply Kept.alloc | apply Kept.drewN | apply Kept.drew) | exact HK.out)) hb); have n10_ := A_ (below_step hb_ hb); clear HO2 HO3 HO351 HO356 HO359 HO363 HO366 HO370 HK HB; have HO2 := n0_; have HO3 := n1_; have HO351 := n2_; have HO356 := n3_; have HO359 := n4_; have HO363 := n5_; have HO366 := n6_; have HO370 := n7_; have HO374 := n8_; have HK := n9_; have HB := n10_; clear n0_ n1_ n2_ n3_ n4_ n5_ n6_ n7_ n8_ n9_ n10_; (try clear hb); (try clear hb2); (try clear hk); (try clear hi); (try clear ho0))))
        (try simp only [Act.put, List.setIfInBounds_toArray, List.set_cons_zero, List.set_cons_succ])
        have H := HC39.out
        clear HC39
        by_cases c41 : t375 = 0
        ·rw [if_pos c41] at H
         have c41b0 : (t375 == 0) = true := beq_iff_eq.mpr c41
         have c41b1 : (t375 != 0) = false := bne_eq_false_iff_eq.mpr c41
         clear c41
         (first | rw [c41b0] | rw [c41b1] | (simp only [i64_w, i32_w]; first | rw [c41b0] | rw [c41b1]) | skip)
         replace H := Option.bind_eq_some_iff.mp H
         obtain ⟨⟨t376, t379, t382⟩, A420, H⟩ := H
         replace H : (if t382 = 0 then ((tree_down.f k a0 t368 t379 y352).bind fun bt383 => (if bt383.2 = 0 then (some (bt383.1, 0)) else (some (([] : List Int), bt383.2)))) else (some (([] : List Int), t382))) = some (r1, r2) := H
         have A42 := Aside0.mk A420
         clear A420
         have HC43 := Aside0.mk H
         clear H
         obtain ⟨Ao44, co44, eo44⟩ := Kd.V_slice HO374.out
         subst eo44
         go_upto_if 82 with (first | (go_at_call 32; (with_reducible refine (poly_DivMod.calls k a0 (fun k_ => (((P1_ k_ ∨ P2_ k_ ∨ P3_ k_) ∨ w.heap.size ≤ k_) ∧ (some k_ ≠ (v362 : Value).ownBlock ∧ (some k_ ≠ (.slice Ao35 t364.length co35 : Value).ownBlock ∧ some k_ ≠ (v369 : Value).ownBlock)))) _ _ l2 (fun k_ => (((P1_ k_ ∨ P2_ k_ ∨ P3_ k_) ∨ w.heap.size ≤ k_) ∧ (some k_ ≠ (v362 : Value).ownBlock ∧ (some k_ ≠ (.slice Ao35 t364.length co35 : Value).ownBlock ∧ some k_ ≠ (v369 : Value).ownBlock)))) _ _ t372 t376 t379 t382 _ ?side1 ?side2 A42.out).mono ?_); (case side1 => exact HO2.out); (case side2 => exact HO374.out); rintro e w45 ⟨v377, v380, rfl, ho0, ho1, hb⟩; have n0_ := A_ (Kd.V_mono (Kd.V_told (Kd.V_told (Kd.V_old (nV_ HO2) hb) (Kd.R_base ho0)) (Kd.R_base ho1)) (fun _ h_ => h_.1)); have n1_ := A_ (Kd.V_mono (Kd.V_told (Kd.V_told (Kd.V_old (nV_ HO3) hb) (Kd.R_base ho0)) (Kd.R_base ho1)) (fun _ h_ => h_.1)); have n2_ := A_ (Kd.V_mono (Kd.V_told (Kd.V_told (Kd.V_old (nV_ HO351) hb) (Kd.R_base ho0)) (Kd.R_base ho1)) (fun _ h_ => h_.1)); have n3_ := A_ (Kd.V_mono (Kd.V_told (Kd.V_told (Kd.V_old (nV_ HO356) hb) (Kd.R_base ho0)) (Kd.R_base ho1)) (fun _ h_ => h_.1)); have n4_ := A_ (Kd.V_mono (Kd.V_told (Kd.V_told (Kd.V_old (nV_ HO359) hb) (Kd.R_base ho0)) (Kd.R_base ho1)) (fun _ h_ => h_.1)); have n5_ := A_ (Kd.R_mono (Kd.R_told (Kd.R_told (Kd.R_old (nR_ HO363) hb) (Kd.R_base ho0)) (Kd.R_base ho1)) (fun _ h_ => h_.1)); have n6_ := A_ (Kd.R_mono (Kd.R_told (Kd.R_told (Kd.R_old (nR_ HO366) hb) (Kd.R_base ho0)) (Kd.R_base ho1)) (fun _ h_ => h_.1)); have n7_ := A_ (Kd.R_mono (Kd.R_told (Kd.R_told (Kd.R_old (nR_ HO370) hb) (Kd.R_base ho0)) (Kd.R_base ho1)) (fun _ h_ => h_.1)); have n8_ := A_ (Kd.V_mono (Kd.V_told (Kd.V_told (Kd.V_old (nV_ HO374) hb) (Kd.R_base ho0)) (Kd.R_base ho1)) (fun _ h_ => h_.1)); have n9_ := A_ (Kd.R_lower (Kd.R_new' (Kd.R_new' (Kd.R_new' (Kd.R_newM (M := fun k_ => (P1_ k_ ∨ w.heap.size ≤ k_)) (Kd.R_mono (ok' := fun k_ => some k_ ≠ (v380 : Value).ownBlock) ho0 (fun _ hk_ => hk_.2)) (by first | exact HK.out.1 | exact (show Kept w _ (fun k_ => P1_ k_) from by repeat (first | (with_reducible first | exact HK.out | apply Kept.alloc | apply Kept.drewN | apply Kept.drew) | exact HK.out)).1) (fun k_ h_ => .inr h_)) (Kd.R_lt (nR_ HO363))) (Kd.R_lt (nR_ HO366))) (Kd.R_lt (nR_ HO370))) (below_size hb_)); have n10_ := A_ (Kd.R_lower (Kd.R_new' (Kd.R_new' (Kd.R_new' (Kd.R_newM (M := fun k_ => (P1_ k_ ∨ w.heap.size ≤ k_)) (Kd.R_mono (ok' := fun k_ => some k_ ≠ (v377 : Value).ownBlock) ho1 (fun _ hk_ => hk_.2)) (by first | exact HK.out.1 | exact (show Kept w _ (fun k_ => P1_ k_) from by repeat (first | (with_reducible first | exact HK.out | apply Kept.alloc | apply Kept.drewN | apply Kept.drew) | exact HK.out)).1) (fun k_ h_ => .inr h_)) (Kd.R_lt (nR_ HO363))) (Kd.R_lt (nR_ HO366))) (Kd.R_lt (nR_ HO370))) (below_size hb_)); have n11_ := A_ (Kept.below (S := (fun k_ => P1_ k_)) (by repeat (first | (with_reducible first | exact HK.out | apply Kept.alloc | apply Kept.drewN | apply Kept.drew) | exact HK.out)) hb); have n12_ := A_ (below_step hb_ hb); clear HO2 HO3 HO351 HO356 HO359 HO363 HO366 HO370 HO374 HK HB; have HO2 := n0_; have HO3 := n1_; have HO351 := n2_; have HO356 := n3_; have HO359 := n4_; have HO363 := n5_; have HO366 := n6_; have HO370 := n7_; have HO374 := n8_; have HO378 := n9_; have HO381 := n10_; have HK := n11_; have HB := n12_; clear n0_ n1_ n2_ n3_ n4_ n5_ n6_ n7_ n8_ n9_ n10_ n11_ n12_; (try clear hb); (try clear hb2); (try clear hk); (try clear hi); (try clear ho0); (try clear ho1)))
         repeat (go_quiet (first | (go_at_call 32; (with_reducible refine (poly_DivMod.calls k a0 (fun k_ => (((P1_ k_ ∨ P2_ k_ ∨ P3_ k_) ∨ w.heap.size ≤ k_) ∧ (some k_ ≠ (v362 : Value).ownBlock ∧ (some k_ ≠ (.slice Ao35 t364.length co35 : Value).ownBlock ∧ some k_ ≠ (v369 : Value).ownBlock)))) _ _ l2 (fun k_ => (((P1_ k_ ∨ P2_ k_ ∨ P3_ k_) ∨ w.heap.size ≤ k_) ∧ (some k_ ≠ (v362 : Value).ownBlock ∧ (some k_ ≠ (.slice Ao35 t364.length co35 : Value).ownBlock ∧ some k_ ≠ (v369 : Value).ownBlock)))) _ _ t372 t376 t379 t382 _ ?side1 ?side2 A42.out).mono ?_); (case side1 => exact HO2.out); (case side2 => exact HO374.out); rintro e w45 ⟨v377, v380, rfl, ho0, ho1, hb⟩; have n0_ := A_ (Kd.V_mono (Kd.V_told (Kd.V_told (Kd.V_old (nV_ HO2) hb) (Kd.R_base ho0)) (Kd.R_base ho1)) (fun _ h_ => h_.1)); have n1_ := A_ (Kd.V_mono (Kd.V_told (Kd.V_told (Kd.V_old (nV_ HO3) hb) (Kd.R_base ho0)) (Kd.R_base ho1)) (fun _ h_ => h_.1)); have n2_ := A_ (Kd.V_mono (Kd.V_told (Kd.V_told (Kd.V_old (nV_ HO351) hb) (Kd.R_base ho0)) (Kd.R_base ho1)) (fun _ h_ => h_.1)); have n3_ := A_ (Kd.V_mono (Kd.V_told (Kd.V_told (Kd.V_old (nV_ HO356) hb) (Kd.R_base ho0)) (Kd.R_base ho1)) (fun _ h_ => h_.1)); have n4_ := A_ (Kd.V_mono (Kd.V_told (Kd.V_told (Kd.V_old (nV_ HO359) hb) (Kd.R_base ho0)) (Kd.R_base ho1)) (fun _ h_ => h_.1)); have n5_ := A_ (Kd.R_mono (Kd.R_told (Kd.R_told (Kd.R_old (nR_ HO363) hb) (Kd.R_base ho0)) (Kd.R_base ho1)) (fun _ h_ => h_.1)); have n6_ := A_ (Kd.R_mono (Kd.R_told (Kd.R_told (Kd.R_old (nR_ HO366) hb) (Kd.R_base ho0)) (Kd.R_base ho1)) (fun _ h_ => h_.1)); have n7_ := A_ (Kd.R_mono (Kd.R_told (Kd.R_told (Kd.R_old (nR_ HO370) hb) (Kd.R_base ho0)) (Kd.R_base ho1)) (fun _ h_ => h_.1)); have n8_ := A_ (Kd.V_mono (Kd.V_told (Kd.V_told (Kd.V_old (nV_ HO374) hb) (Kd.R_base ho0)) (Kd.R_base ho1)) (fun _ h_ => h_.1)); have n9_ := A_ (Kd.R_lower (Kd.R_new' (Kd.R_new' (Kd.R_new' (Kd.R_newM (M := fun k_ => (P1_ k_ ∨ w.heap.size ≤ k_)) (Kd.R_mono (ok' := fun k_ => some k_ ≠ (v380 : Value).ownBlock) ho0 (fun _ hk_ => hk_.2)) (by first | exact HK.out.1 | exact (show Kept w _ (fun k_ => P1_ k_) from by repeat (first | (with_reducible first | exact HK.out | apply Kept.alloc | apply Kept.drewN | apply Kept.drew) | exact HK.out)).1) (fun k_ h_ => .inr h_)) (Kd.R_lt (nR_ HO363))) (Kd.R_lt (nR_ HO366))) (Kd.R_lt (nR_ HO370))) (below_size hb_)); have n10_ := A_ (Kd.R_lower (Kd.R_new' (Kd.R_new' (Kd.R_new' (Kd.R_newM (M := fun k_ => (P1_ k_ ∨ w.heap.size ≤ k_)) (Kd.R_mono (ok' := fun k_ => some k_ ≠ (v377 : Value).ownBlock) ho1 (fun _ hk_ => hk_.2)) (by first | exact HK.out.1 | exact (show Kept w _ (fun k_ => P1_ k_) from by repeat (first | (with_reducible first | exact HK.out | apply Kept.alloc | apply Kept.drewN | apply Kept.drew) | exact HK.out)).1) (fun k_ h_ => .inr h_)) (Kd.R_lt (nR_ HO363))) (Kd.R_lt (nR_ HO366))) (Kd.R_lt (nR_ HO370))) (below_size hb_)); have n11_ := A_ (Kept.below (S := (fun k_ => P1_ k_)) (by repeat (first | (with_reducible first | exact HK.out | apply Kept.alloc | apply Kept.drewN | apply Kept.drew) | exact HK.out)) hb); have n12_ := A_ (below_step hb_ hb); clear HO2 HO3 HO351 HO356 HO359 HO363 HO366 HO370 HO374 HK HB; have HO2 := n0_; have HO3 := n1_; have HO351 := n2_; have HO356 := n3_; have HO359 := n4_; have HO363 := n5_; have HO366 := n6_; have HO370 := n7_; have HO374 := n8_; have HO378 := n9_; have HO381 := n10_; have HK := n11_; have HB := n12_; clear n0_ n1_ n2_ n3_ n4_ n5_ n6_ n7_ n8_ n9_ n10_ n11_ n12_; (try clear hb); (try clear hb2); (try clear hk); (try clear hi); (try clear ho0); (try clear ho1))); go_upto_if 82 with (first | (go_at_call 32; (with_reducible refine (poly_DivMod.calls k a0 (fun k_ => (((P1_ k_ ∨ P2_ k_ ∨ P3_ k_) ∨ w.heap.size ≤ k_) ∧ (some k_ ≠ (v362 : Value).ownBlock ∧ (some k_ ≠ (.slice Ao35 t364.length co35 : Value).ownBlock ∧ some k_ ≠ (v369 : Value).ownBlock)))) _ _ l2 (fun k_ => (((P1_ k_ ∨ P2_ k_ ∨ P3_ k_) ∨ w.heap.size ≤ k_) ∧ (some k_ ≠ (v362 : Value).ownBlock ∧ (some k_ ≠ (.slice Ao35 t364.length co35 : Value).ownBlock ∧ some k_ ≠ (v369 : Value).ownBlock)))) _ _ t372 t376 t379 t382 _ ?side1 ?side2 A42.out).mono ?_); (case side1 => exact HO2.out); (case side2 => exact HO374.out); rintro e w45 ⟨v377, v380, rfl, ho0, ho1, hb⟩; have n0_ := A_ (Kd.V_mono (Kd.V_told (Kd.V_told (Kd.V_old (nV_ HO2) hb) (Kd.R_base ho0)) (Kd.R_base ho1)) (fun _ h_ => h_.1)); have n1_ := A_ (Kd.V_mono (Kd.V_told (Kd.V_told (Kd.V_old (nV_ HO3) hb) (Kd.R_base ho0)) (Kd.R_base ho1)) (fun _ h_ => h_.1)); have n2_ := A_ (Kd.V_mono (Kd.V_told (Kd.V_told (Kd.V_old (nV_ HO351) hb) (Kd.R_base ho0)) (Kd.R_base ho1)) (fun _ h_ => h_.1)); have n3_ := A_ (Kd.V_mono (Kd.V_told (Kd.V_told (Kd.V_old (nV_ HO356) hb) (Kd.R_base ho0)) (Kd.R_base ho1)) (fun _ h_ => h_.1)); have n4_ := A_ (Kd.V_mono (Kd.V_told (Kd.V_told (Kd.V_old (nV_ HO359) hb) (Kd.R_base ho0)) (Kd.R_base ho1)) (fun _ h_ => h_.1)); have n5_ := A_ (Kd.R_mono (Kd.R_told (Kd.R_told (Kd.R_old (nR_ HO363) hb) (Kd.R_base ho0)) (Kd.R_base ho1)) (fun _ h_ => h_.1)); have n6_ := A_ (Kd.R_mono (Kd.R_told (Kd.R_told (Kd.R_old (nR_ HO366) hb) (Kd.R_base ho0)) (Kd.R_base ho1)) (fun _ h_ => h_.1)); have n7_ := A_ (Kd.R_mono (Kd.R_told (Kd.R_told (Kd.R_old (nR_ HO370) hb) (Kd.R_base ho0)) (Kd.R_base ho1)) (fun _ h_ => h_.1)); have n8_ := A_ (Kd.V_mono (Kd.V_told (Kd.V_told (Kd.V_old (nV_ HO374) hb) (Kd.R_base ho0)) (Kd.R_base ho1)) (fun _ h_ => h_.1)); have n9_ := A_ (Kd.R_lower (Kd.R_new' (Kd.R_new' (Kd.R_new' (Kd.R_newM (M := fun k_ => (P1_ k_ ∨ w.heap.size ≤ k_)) (Kd.R_mono (ok' := fun k_ => some k_ ≠ (v380 : Value).ownBlock) ho0 (fun _ hk_ => hk_.2)) (by first | exact HK.out.1 | exact (show Kept w _ (fun k_ => P1_ k_) from by repeat (first | (with_reducible first | exact HK.out | apply Kept.alloc | apply Kept.drewN | apply Kept.drew) | exact HK.out)).1) (fun k_ h_ => .inr h_)) (Kd.R_lt (nR_ HO363))) (Kd.R_lt (nR_ HO366))) (Kd.R_lt (nR_ HO370))) (below_size hb_)); have n10_ := A_ (Kd.R_lower (Kd.R_new' (Kd.R_new' (Kd.R_new' (Kd.R_newM (M := fun k_ => (P1_ k_ ∨ w.heap.size ≤ k_)) (Kd.R_mono (ok' := fun k_ => some k_ ≠ (v377 : Value).ownBlock) ho1 (fun _ hk_ => hk_.2)) (by first | exact HK.out.1 | exact (show Kept w _ (fun k_ => P1_ k_) from by repeat (first | (with_reducible first | exact HK.out | apply Kept.alloc | apply Kept.drewN | apply Kept.drew) | exact HK.out)).1) (fun k_ h_ => .inr h_)) (Kd.R_lt (nR_ HO363))) (Kd.R_lt (nR_ HO366))) (Kd.R_lt (nR_ HO370))) (below_size hb_)); have n11_ := A_ (Kept.below (S := (fun k_ => P1_ k_)) (by repeat (first | (with_reducible first | exact HK.out | apply Kept.alloc | apply Kept.drewN | apply Kept.drew) | exact HK.out)) hb); have n12_ := A_ (below_step hb_ hb); clear HO2 HO3 HO351 HO356 HO359 HO363 HO366 HO370 HO374 HK HB; have HO2 := n0_; have HO3 := n1_; have HO351 := n2_; have HO356 := n3_; have HO359 := n4_; have HO363 := n5_; have HO366 := n6_; have HO370 := n7_; have HO374 := n8_; have HO378 := n9_; have HO381 := n10_; have HK := n11_; have HB := n12_; clear n0_ n1_ n2_ n3_ n4_ n5_ n6_ n7_ n8_ n9_ n10_ n11_ n12_; (try clear hb); (try clear hb2); (try clear hk); (try clear hi); (try clear ho0); (try clear ho1))))
         (try simp only [Act.put, List.setIfInBounds_toArray, List.set_cons_zero, List.set_cons_succ])
         have H := HC43.out
         clear HC43
         by_cases c46 : t382 = 0
         ·rw [if_pos c46] at H
          have c46b0 : (t382 == 0) = true := beq_iff_eq.mpr c46
          have c46b1 : (t382 != 0) = false := bne_eq_false_iff_eq.mpr c46
          clear c46
          (first | rw [c46b0] | rw [c46b1] | (simp only [i64_w, i32_w]; first | rw [c46b0] | rw [c46b1]) | skip)
          replace H := Option.bind_eq_some_iff.mp H
          obtain ⟨⟨t383, t386⟩, A470, H⟩ := H
          replace H : (if t386 = 0 then (some (t383, 0)) else (some (([] : List Int), t386))) = some (r1, r2) := H
          have A47 := Aside0.mk A470
          clear A470
          have HC48 := Aside0.mk H
          clear H
          obtain ⟨Ao49, co49, eo49⟩ := Kd.R_slice HO370.out
          subst eo49
          obtain ⟨Ao50, co50, eo50⟩ := Kd.R_slice HO381.out
          subst eo50
          go_upto_if 93 with (first | (go_at_call 40; (with_reducible refine (ih k (by omega) a0 (fun k_ => some k_ = (.slice Ao49 t368.length co49 : Value).ownBlock) (.slice Ao49 t368.length co49) t368 (fun k_ => some k_ = (.slice Ao50 t379.length co50 : Value).ownBlock) _ _ t379 (fun k_ => (((((P1_ k_ ∨ P2_ k_ ∨ P3_ k_) ∨ w.heap.size ≤ k_) ∧ (some k_ ≠ (v362 : Value).ownBlock ∧ (some k_ ≠ (.slice Ao35 t364.length co35 : Value).ownBlock ∧ some k_ ≠ (.slice Ao49 t368.length co49 : Value).ownBlock))) ∧ some k_ ≠ (v377 : Value).ownBlock) ∧ some k_ ≠ (.slice Ao50 t379.length co50 : Value).ownBlock)) _ _ y352 t383 t386 w0 _ ?side1 ?side2 ?side3 ?side4 A47.out).mono ?_); (case side1 => repeat (first | (with_reducible first | exact HB.out | apply below_alloc | apply pw_below_drewN | apply below_drew1) | exact HB.out)); (case side2 => exact Kd.R_tight rfl HO370.out); (case side3 => exact Kd.V_mono (Kd.R_V (Kd.R_tight rfl (HO381.out))) (fun k_ hk_ => ⟨hk_, ((HO381.out).1 k_ hk_.symm).2⟩)); (case side4 => exact Kd.V_mono (HO356.out) (fun k_ hk_ => ⟨hk_, hk_.1.1.2.2.2⟩)); rintro e w51 ⟨v384, rfl, ho0, hb, hkp⟩; have n0_ := A_ (Kd.V_mono (ok' := fun k_ => ((P1_ k_ ∨ P2_ k_ ∨ P3_ k_) ∨ w.heap.size ≤ k_) ∧ some k_ ≠ (v362 : Value).ownBlock ∧ some k_ ≠ (.slice Ao35 t364.length co35 : Value).ownBlock ∧ some k_ ≠ (v377 : Value).ownBlock ∧ some k_ ≠ (.slice Ao50 t379.length co50 : Value).ownBlock ∧ some k_ ≠ (v384 : Value).ownBlock) (Kd.V_keptB (HO2.out) hkp (fun k_ hk_ hs_ => (hk_.1.1.2.2.2) hs_)) (fun k_ hk_ => ⟨hk_.1.1.1.1, hk_.1.1.1.2.1, hk_.1.1.1.2.2.1, hk_.1.1.2, hk_.1.2, fun e_ => Or.elim (ho0.1 k_ e_.symm) (fun hs_ => hk_.2.1 hs_) (fun hn_ => Nat.not_le.2 hk_.2.2 hn_)⟩)); have n1_ := A_ (Kd.V_mono (ok' := fun k_ => ((P1_ k_ ∨ P2_ k_ ∨ P3_ k_) ∨ w.heap.size ≤ k_) ∧ some k_ ≠ (v362 : Value).ownBlock ∧ some k_ ≠ (.slice Ao35 t364.length co35 : Value).ownBlock ∧ some k_ ≠ (v377 : Value).ownBlock ∧ some k_ ≠ (.slice Ao50 t379.length co50 : Value).ownBlock ∧ some k_ ≠ (v384 : Value).ownBlock) (Kd.V_keptB (HO3.out) hkp (fun k_ hk_ hs_ => (hk_.1.1.2.2.2) hs_)) (fun k_ hk_ => ⟨hk_.1.1.1.1, hk_.1.1.1.2.1, hk_.1.1.1.2.2.1, hk_.1.1.2, hk_.1.2, fun e_ => Or.elim (ho0.1 k_ e_.symm) (fun hs_ => hk_.2.1 hs_) (fun hn_ => Nat.not_le.2 hk_.2.2 hn_)⟩)); have n2_ := A_ (Kd.V_mono (ok' := fun k_ => ((P1_ k_ ∨ P2_ k_ ∨ P3_ k_) ∨ w.heap.size ≤ k_) ∧ some k_ ≠ (v362 : Value).ownBlock ∧ some k_ ≠ (.slice Ao35 t364.length co35 : Value).ownBlock ∧ some k_ ≠ (v377 : Value).ownBlock ∧ some k_ ≠ (.slice Ao50 t379.length co50 : Value).ownBlock ∧ some k_ ≠ (v384 : Value).ownBlock) (Kd.V_keptB (HO351.out) hkp (fun k_ hk_ hs_ => (hk_.1.1.2.2.2) hs_)) (fun k_ hk_ => ⟨hk_.1.1.1.1, hk_.1.1.1.2.1, hk_.1.1.1.2.2.1, hk_.1.1.2, hk_.1.2, fun e_ => Or.elim (ho0.1 k_ e_.symm) (fun hs_ => hk_.2.1 hs_) (fun hn_ => Nat.not_le.2 hk_.2.2 hn_)⟩)); have n3_ := A_ (Kd.V_mono (ok' := fun k_ => ((P1_ k_ ∨ P2_ k_ ∨ P3_ k_) ∨ w.heap.size ≤ k_) ∧ some k_ ≠ (v362 : Value).ownBlock ∧ some k_ ≠ (.slice Ao35 t364.length co35 : Value).ownBlock ∧ some k_ ≠ (v377 : Value).ownBlock ∧ some k_ ≠ (.slice Ao50 t379.length co50 : Value).ownBlock ∧ some k_ ≠ (v384 : Value).ownBlock) (Kd.V_keptB (HO356.out) hkp (fun k_ hk_ hs_ => (hk_.1.1.2.2.2) hs_)) (fun k_ hk_ => ⟨hk_.1.1.1.1, hk_.1.1.1.2.1, hk_.1.1.1.2.2.1, hk_.1.1.2, hk_.1.2, fun e_ => Or.elim (ho0.1 k_ e_.symm) (fun hs_ => hk_.2.1 hs_) (fun hn_ => Nat.not_le.2 hk_.2.2 hn_)⟩)); have n4_ := A_ (Kd.V_mono (ok' := fun k_ => ((P1_ k_ ∨ P2_ k_ ∨ P3_ k_) ∨ w.heap.size ≤ k_) ∧ some k_ ≠ (v362 : Value).ownBlock ∧ some k_ ≠ (.slice Ao35 t364.length co35 : Value).ownBlock ∧ some k_ ≠ (v377 : Value).ownBlock ∧ some k_ ≠ (.slice Ao50 t379.length co50 : Value).ownBlock ∧ some k_ ≠ (v384 : Value).ownBlock) (Kd.V_keptB (HO359.out) hkp (fun k_ hk_ hs_ => (hk_.1.1.2.2.2) hs_)) (fun k_ hk_ => ⟨hk_.1.1.1.1, hk_.1.1.1.2.1, hk_.1.1.1.2.2.1, hk_.1.1.2, hk_.1.2, fun e_ => Or.elim (ho0.1 k_ e_.symm) (fun hs_ => hk_.2.1 hs_) (fun hn_ => Nat.not_le.2 hk_.2.2 hn_)⟩)); have n5_ := A_ (Kd.R_mono (ok' := fun k_ => (P1_ k_ ∨ w.heap.size ≤ k_) ∧ some k_ ≠ (.slice Ao35 t364.length co35 : Value).ownBlock ∧ some k_ ≠ (v377 : Value).ownBlock ∧ some k_ ≠ (.slice Ao50 t379.length co50 : Value).ownBlock ∧ some k_ ≠ (v384 : Value).ownBlock) (Kd.R_keptB (HO363.out) hkp (fun k_ hk_ hs_ => (hk_.1.1.2.2) hs_)) (fun k_ hk_ => ⟨hk_.1.1.1.1, hk_.1.1.1.2.1, hk_.1.1.2, hk_.1.2, fun e_ => Or.elim (ho0.1 k_ e_.symm) (fun hs_ => hk_.2.1 hs_) (fun hn_ => Nat.not_le.2 hk_.2.2 hn_)⟩)); have n6_ := A_ (Kd.R_mono (ok' := fun k_ => (P1_ k_ ∨ w.heap.size ≤ k_) ∧ some k_ ≠ (v362 : Value).ownBlock ∧ some k_ ≠ (v377 : Value).ownBlock ∧ some k_ ≠ (.slice Ao50 t379.length co50 : Value).ownBlock ∧ some k_ ≠ (v384 : Value).ownBlock) (Kd.R_keptB (HO366.out) hkp (fun k_ hk_ hs_ => (hk_.1.1.2.2) hs_)) (fun k_ hk_ => ⟨hk_.1.1.1.1, hk_.1.1.1.2.1, hk_.1.1.2, hk_.1.2, fun e_ => Or.elim (ho0.1 k_ e_.symm) (fun hs_ => hk_.2.1 hs_) (fun hn_ => Nat.not_le.2 hk_.2.2 hn_)⟩)); have n7_ := A_ (Kd.V_mono (ok' := fun k_ => ((P1_ k_ ∨ P2_ k_ ∨ P3_ k_) ∨ w.heap.size ≤ k_) ∧ some k_ ≠ (v362 : Value).ownBlock ∧ some k_ ≠ (.slice Ao35 t364.length co35 : Value).ownBlock ∧ some k_ ≠ (v377 : Value).ownBlock ∧ some k_ ≠ (.slice Ao50 t379.length co50 : Value).ownBlock ∧ some k_ ≠ (v384 : Value).ownBlock) (Kd.V_keptB (HO374.out) hkp (fun k_ hk_ hs_ => (hk_.1.1.2.2.2) hs_)) (fun k_ hk_ => ⟨hk_.1.1.1.1, hk_.1.1.1.2.1, hk_.1.1.1.2.2.1, hk_.1.1.2, hk_.1.2, fun e_ => Or.elim (ho0.1 k_ e_.symm) (fun hs_ => hk_.2.1 hs_) (fun hn_ => Nat.not_le.2 hk_.2.2 hn_)⟩)); have n8_ := A_ (Kd.R_mono (ok' := fun k_ => (P1_ k_ ∨ w.heap.size ≤ k_) ∧ some k_ ≠ (v362 : Value).ownBlock ∧ some k_ ≠ (.slice Ao35 t364.length co35 : Value).ownBlock ∧ some k_ ≠ (.slice Ao50 t379.length co50 : Value).ownBlock ∧ some k_ ≠ (v384 : Value).ownBlock) (Kd.R_keptB (HO378.out) hkp (fun k_ hk_ hs_ => (hk_.2) hs_)) (fun k_ hk_ => ⟨hk_.1.1.1.1.1, hk_.1.1.1.2, hk_.1.1.2, hk_.1.1.1.1.2, fun e_ => Or.elim (ho0.1 k_ e_.symm) (fun hs_ => hk_.2.1 hs_) (fun hn_ => Nat.not_le.2 hk_.2.2 hn_)⟩)); have n9_ := A_ (Kd.R_mono (ok' := fun k_ => (P1_ k_ ∨ w.heap.size ≤ k_) ∧ some k_ ≠ (v362 : Value).ownBlock ∧ some k_ ≠ (.slice Ao35 t364.length co35 : Value).ownBlock ∧ some k_ ≠ (v377 : Value).ownBlock ∧ some k_ ≠ (v384 : Value).ownBlock) (Kd.R_keptB (HO381.out) hkp (fun k_ hk_ hs_ => (hk_.2) hs_)) (fun k_ hk_ => ⟨hk_.1.1.1.1.1, hk_.1.1.1.2, hk_.1.1.2, hk_.1.1.1.1.2, fun e_ => Or.elim (ho0.1 k_ e_.symm) (fun hs_ => hk_.2.1 hs_) (fun hn_ => Nat.not_le.2 hk_.2.2 hn_)⟩)); have n10_ := A_ (Kd.R_mono (ok' := fun k_ => (P1_ k_ ∨ w.heap.size ≤ k_) ∧ some k_ ≠ (v362 : Value).ownBlock ∧ some k_ ≠ (.slice Ao35 t364.length co35 : Value).ownBlock ∧ some k_ ≠ (v377 : Value).ownBlock) ho0 (fun k_ hk_ => ⟨Or.elim hk_ (fun hs_ => (HO370.out.1 k_ (hs_).symm).1.1.1) (fun hn_ => (.inr (Nat.le_trans (by first | exact HK.out.1 | exact (show Kept w _ (fun k_ => P1_ k_) from by repeat (first | (with_reducible first | exact HK.out | apply Kept.alloc | apply Kept.drewN | apply Kept.drew) | exact HK.out)).1) hn_))), Or.elim hk_ (fun hs_ => fun e_ => (((HO363.out).1 k_ e_.symm).1.1.2.2) hs_) (fun hn_ => (Kd.fresh' (Kd.R_lt (nR_ HO363)) k_ hn_)), Or.elim hk_ (fun hs_ => fun e_ => (((HO366.out).1 k_ e_.symm).1.1.2.2) hs_) (fun hn_ => (Kd.fresh' (Kd.R_lt (nR_ HO366)) k_ hn_)), Or.elim hk_ (fun hs_ => fun e_ => (((HO378.out).1 k_ e_.symm).2) hs_) (fun hn_ => (Kd.fresh' (Kd.R_lt (nR_ HO378)) k_ hn_))⟩)); have n11_ := A_ (Kept.then_ (S := (fun k_ => P1_ k_)) (by repeat (first | (with_reducible first | exact HK.out | apply Kept.alloc | apply Kept.drewN | apply Kept.drew) | exact HK.out)) hkp (fun k_ hs_ => (fun e_ => (HO370.out.1 k_ e_.symm).1.1.1) hs_)); have n12_ := A_ (hb); clear HO2 HO3 HO351 HO356 HO359 HO363 HO366 HO374 HO378 HO381 HK HB HO370; have HO2 := n0_; have HO3 := n1_; have HO351 := n2_; have HO356 := n3_; have HO359 := n4_; have HO363 := n5_; have HO366 := n6_; have HO374 := n7_; have HO378 := n8_; have HO381 := n9_; have HO385 := n10_; have HK := n11_; have HB := n12_; clear n0_ n1_ n2_ n3_ n4_ n5_ n6_ n7_ n8_ n9_ n10_ n11_ n12_; (try clear hb); (try clear hkp); (try clear ho0)))
          repeat (go_quiet (first | (go_at_call 40; (with_reducible refine (ih k (by omega) a0 (fun k_ => some k_ = (.slice Ao49 t368.length co49 : Value).ownBlock) (.slice Ao49 t368.length co49) t368 (fun k_ => some k_ = (.slice Ao50 t379.length co50 : Value).ownBlock) _ _ t379 (fun k_ => (((((P1_ k_ ∨ P2_ k_ ∨ P3_ k_) ∨ w.heap.size ≤ k_) ∧ (some k_ ≠ (v362 : Value).ownBlock ∧ (some k_ ≠ (.slice Ao35 t364.length co35 : Value).ownBlock ∧ some k_ ≠ (.slice Ao49 t368.length co49 : Value).ownBlock))) ∧ some k_ ≠ (v377 : Value).ownBlock) ∧ some k_ ≠ (.slice Ao50 t379.length co50 : Value).ownBlock)) _ _ y352 t383 t386 w0 _ ?side1 ?side2 ?side3 ?side4 A47.out).mono ?_); (case side1 => repeat (first | (with_reducible first | exact HB.out | apply below_alloc | apply pw_below_drewN | apply below_drew1) | exact HB.out)); (case side2 => exact Kd.R_tight rfl HO370.out); (case side3 => exact Kd.V_mono (Kd.R_V (Kd.R_tight rfl (HO381.out))) (fun k_ hk_ => ⟨hk_, ((HO381.out).1 k_ hk_.symm).2⟩)); (case side4 => exact Kd.V_mono (HO356.out) (fun k_ hk_ => ⟨hk_, hk_.1.1.2.2.2⟩)); rintro e w51 ⟨v384, rfl, ho0, hb, hkp⟩; have n0_ := A_ (Kd.V_mono (ok' := fun k_ => ((P1_ k_ ∨ P2_ k_ ∨ P3_ k_) ∨ w.heap.size ≤ k_) ∧ some k_ ≠ (v362 : Value).ownBlock ∧ some k_ ≠ (.slice Ao35 t364.length co35 : Value).ownBlock ∧ some k_ ≠ (v377 : Value).ownBlock ∧ some k_ ≠ (.slice Ao50 t379.length co50 : Value).ownBlock ∧ some k_ ≠ (v384 : Value).ownBlock) (Kd.V_keptB (HO2.out) hkp (fun k_ hk_ hs_ => (hk_.1.1.2.2.2) hs_)) (fun k_ hk_ => ⟨hk_.1.1.1.1, hk_.1.1.1.2.1, hk_.1.1.1.2.2.1, hk_.1.1.2, hk_.1.2, fun e_ => Or.elim (ho0.1 k_ e_.symm) (fun hs_ => hk_.2.1 hs_) (fun hn_ => Nat.not_le.2 hk_.2.2 hn_)⟩)); have n1_ := A_ (Kd.V_mono (ok' := fun k_ => ((P1_ k_ ∨ P2_ k_ ∨ P3_ k_) ∨ w.heap.size ≤ k_) ∧ some k_ ≠ (v362 : Value).ownBlock ∧ some k_ ≠ (.slice Ao35 t364.length co35 : Value).ownBlock ∧ some k_ ≠ (v377 : Value).ownBlock ∧ some k_ ≠ (.slice Ao50 t379.length co50 : Value).ownBlock ∧ some k_ ≠ (v384 : Value).ownBlock) (Kd.V_keptB (HO3.out) hkp (fun k_ hk_ hs_ => (hk_.1.1.2.2.2) hs_)) (fun k_ hk_ => ⟨hk_.1.1.1.1, hk_.1.1.1.2.1, hk_.1.1.1.2.2.1, hk_.1.1.2, hk_.1.2, fun e_ => Or.elim (ho0.1 k_ e_.symm) (fun hs_ => hk_.2.1 hs_) (fun hn_ => Nat.not_le.2 hk_.2.2 hn_)⟩)); have n2_ := A_ (Kd.V_mono (ok' := fun k_ => ((P1_ k_ ∨ P2_ k_ ∨ P3_ k_) ∨ w.heap.size ≤ k_) ∧ some k_ ≠ (v362 : Value).ownBlock ∧ some k_ ≠ (.slice Ao35 t364.length co35 : Value).ownBlock ∧ some k_ ≠ (v377 : Value).ownBlock ∧ some k_ ≠ (.slice Ao50 t379.length co50 : Value).ownBlock ∧ some k_ ≠ (v384 : Value).ownBlock) (Kd.V_keptB (HO351.out) hkp (fun k_ hk_ hs_ => (hk_.1.1.2.2.2) hs_)) (fun k_ hk_ => ⟨hk_.1.1.1.1, hk_.1.1.1.2.1, hk_.1.1.1.2.2.1, hk_.1.1.2, hk_.1.2, fun e_ => Or.elim (ho0.1 k_ e_.symm) (fun hs_ => hk_.2.1 hs_) (fun hn_ => Nat.not_le.2 hk_.2.2 hn_)⟩)); have n3_ := A_ (Kd.V_mono (ok' := fun k_ => ((P1_ k_ ∨ P2_ k_ ∨ P3_ k_) ∨ w.heap.size ≤ k_) ∧ some k_ ≠ (v362 : Value).ownBlock ∧ some k_ ≠ (.slice Ao35 t364.length co35 : Value).ownBlock ∧ some k_ ≠ (v377 : Value).ownBlock ∧ some k_ ≠ (.slice Ao50 t379.length co50 : Value).ownBlock ∧ some k_ ≠ (v384 : Value).ownBlock) (Kd.V_keptB (HO356.out) hkp (fun k_ hk_ hs_ => (hk_.1.1.2.2.2) hs_)) (fun k_ hk_ => ⟨hk_.1.1.1.1, hk_.1.1.1.2.1, hk_.1.1.1.2.2.1, hk_.1.1.2, hk_.1.2, fun e_ => Or.elim (ho0.1 k_ e_.symm) (fun hs_ => hk_.2.1 hs_) (fun hn_ => Nat.not_le.2 hk_.2.2 hn_)⟩)); have n4_ := A_ (Kd.V_mono (ok' := fun k_ => ((P1_ k_ ∨ P2_ k_ ∨ P3_ k_) ∨ w.heap.size ≤ k_) ∧ some k_ ≠ (v362 : Value).ownBlock ∧ some k_ ≠ (.slice Ao35 t364.length co35 : Value).ownBlock ∧ some k_ ≠ (v377 : Value).ownBlock ∧ some k_ ≠ (.slice Ao50 t379.length co50 : Value).ownBlock ∧ some k_ ≠ (v384 : Value).ownBlock) (Kd.V_keptB (HO359.out) hkp (fun k_ hk_ hs_ => (hk_.1.1.2.2.2) hs_)) (fun k_ hk_ => ⟨hk_.1.1.1.1, hk_.1.1.1.2.1, hk_.1.1.1.2.2.1, hk_.1.1.2, hk_.1.2, fun e_ => Or.elim (ho0.1 k_ e_.symm) (fun hs_ => hk_.2.1 hs_) (fun hn_ => Nat.not_le.2 hk_.2.2 hn_)⟩)); have n5_ := A_ (Kd.R_mono (ok' := fun k_ => (P1_ k_ ∨ w.heap.size ≤ k_) ∧ some k_ ≠ (.slice Ao35 t364.length co35 : Value).ownBlock ∧ some k_ ≠ (v377 : Value).ownBlock ∧ some k_ ≠ (.slice Ao50 t379.length co50 : Value).ownBlock ∧ some k_ ≠ (v384 : Value).ownBlock) (Kd.R_keptB (HO363.out) hkp (fun k_ hk_ hs_ => (hk_.1.1.2.2) hs_)) (fun k_ hk_ => ⟨hk_.1.1.1.1, hk_.1.1.1.2.1, hk_.1.1.2, hk_.1.2, fun e_ => Or.elim (ho0.1 k_ e_.symm) (fun hs_ => hk_.2.1 hs_) (fun hn_ => Nat.not_le.2 hk_.2.2 hn_)⟩)); have n6_ := A_ (Kd.R_mono (ok' := fun k_ => (P1_ k_ ∨ w.heap.size ≤ k_) ∧ some k_ ≠ (v362 : Value).ownBlock ∧ some k_ ≠ (v377 : Value).ownBlock ∧ some k_ ≠ (.slice Ao50 t379.length co50 : Value).ownBlock ∧ some k_ ≠ (v384 : Value).ownBlock) (Kd.R_keptB (HO366.out) hkp (fun k_ hk_ hs_ => (hk_.1.1.2.2) hs_)) (fun k_ hk_ => ⟨hk_.1.1.1.1, hk_.1.1.1.2.1, hk_.1.1.2, hk_.1.2, fun e_ => Or.elim (ho0.1 k_ e_.symm) (fun hs_ => hk_.2.1 hs_) (fun hn_ => Nat.not_le.2 hk_.2.2 hn_)⟩)); have n7_ := A_ (Kd.V_mono (ok' := fun k_ => ((P1_ k_ ∨ P2_ k_ ∨ P3_ k_) ∨ w.heap.size ≤ k_) ∧ some k_ ≠ (v362 : Value).ownBlock ∧ some k_ ≠ (.slice Ao35 t364.length co35 : Value).ownBlock ∧ some k_ ≠ (v377 : Value).ownBlock ∧ some k_ ≠ (.slice Ao50 t379.length co50 : Value).ownBlock ∧ some k_ ≠ (v384 : Value).ownBlock) (Kd.V_keptB (HO374.out) hkp (fun k_ hk_ hs_ => (hk_.1.1.2.2.2) hs_)) (fun k_ hk_ => ⟨hk_.1.1.1.1, hk_.1.1.1.2.1, hk_.1.1.1.2.2.1, hk_.1.1.2, hk_.1.2, fun e_ => Or.elim (ho0.1 k_ e_.symm) (fun hs_ => hk_.2.1 hs_) (fun hn_ => Nat.not_le.2 hk_.2.2 hn_)⟩)); have n8_ := A_ (Kd.R_mono (ok' := fun k_ => (P1_ k_ ∨ w.heap.size ≤ k_) ∧ some k_ ≠ (v362 : Value).ownBlock ∧ some k_ ≠ (.slice Ao35 t364.length co35 : Value).ownBlock ∧ some k_ ≠ (.slice Ao50 t379.length co50 : Value).ownBlock ∧ some k_ ≠ (v384 : Value).ownBlock) (Kd.R_keptB (HO378.out) hkp (fun k_ hk_ hs_ => (hk_.2) hs_)) (fun k_ hk_ => ⟨hk_.1.1.1.1.1, hk_.1.1.1.2, hk_.1.1.2, hk_.1.1.1.1.2, fun e_ => Or.elim (ho0.1 k_ e_.symm) (fun hs_ => hk_.2.1 hs_) (fun hn_ => Nat.not_le.2 hk_.2.2 hn_)⟩)); have n9_ := A_ (Kd.R_mono (ok' := fun k_ => (P1_ k_ ∨ w.heap.size ≤ k_) ∧ some k_ ≠ (v362 : Value).ownBlock ∧ some k_ ≠ (.slice Ao35 t364.length co35 : Value).ownBlock ∧ some k_ ≠ (v377 : Value).ownBlock ∧ some k_ ≠ (v384 : Value).ownBlock) (Kd.R_keptB (HO381.out) hkp (fun k_ hk_ hs_ => (hk_.2) hs_)) (fun k_ hk_ => ⟨hk_.1.1.1.1.1, hk_.1.1.1.2, hk_.1.1.2, hk_.1.1.1.1.2, fun e_ => Or.elim (ho0.1 k_ e_.symm) (fun hs_ => hk_.2.1 hs_) (fun hn_ => Nat.not_le.2 hk_.2.2 hn_)⟩)); have n10_ := A_ (Kd.R_mono (ok' := fun k_ => (P1_ k_ ∨ w.heap.size ≤ k_) ∧ some k_ ≠ (v362 : Value).ownBlock ∧ some k_ ≠ (.slice Ao35 t364.length co35 : Value).ownBlock ∧ some k_ ≠ (v377 : Value).ownBlock) ho0 (fun k_ hk_ => ⟨Or.elim hk_ (fun hs_ => (HO370.out.1 k_ (hs_).symm).1.1.1) (fun hn_ => (.inr (Nat.le_trans (by first | exact HK.out.1 | exact (show Kept w _ (fun k_ => P1_ k_) from by repeat (first | (with_reducible first | exact HK.out | apply Kept.alloc | apply Kept.drewN | apply Kept.drew) | exact HK.out)).1) hn_))), Or.elim hk_ (fun hs_ => fun e_ => (((HO363.out).1 k_ e_.symm).1.1.2.2) hs_) (fun hn_ => (Kd.fresh' (Kd.R_lt (nR_ HO363)) k_ hn_)), Or.elim hk_ (fun hs_ => fun e_ => (((HO366.out).1 k_ e_.symm).1.1.2.2) hs_) (fun hn_ => (Kd.fresh' (Kd.R_lt (nR_ HO366)) k_ hn_)), Or.elim hk_ (fun hs_ => fun e_ => (((HO378.out).1 k_ e_.symm).2) hs_) (fun hn_ => (Kd.fresh' (Kd.R_lt (nR_ HO378)) k_ hn_))⟩)); have n11_ := A_ (Kept.then_ (S := (fun k_ => P1_ k_)) (by repeat (first | (with_reducible first | exact HK.out | apply Kept.alloc | apply Kept.drewN | apply Kept.drew) | exact HK.out)) hkp (fun k_ hs_ => (fun e_ => (HO370.out.1 k_ e_.symm).1.1.1) hs_)); have n12_ := A_ (hb); clear HO2 HO3 HO351 HO356 HO359 HO363 HO366 HO374 HO378 HO381 HK HB HO370; have HO2 := n0_; have HO3 := n1_; have HO351 := n2_; have HO356 := n3_; have HO359 := n4_; have HO363 := n5_; have HO366 := n6_; have HO374 := n7_; have HO378 := n8_; have HO381 := n9_; have HO385 := n10_; have HK := n11_; have HB := n12_; clear n0_ n1_ n2_ n3_ n4_ n5_ n6_ n7_ n8_ n9_ n10_ n11_ n12_; (try clear hb); (try clear hkp); (try clear ho0))); go_upto_if 93 with (first | (go_at_call 40; (with_reducible refine (ih k (by omega) a0 (fun k_ => some k_ = (.slice Ao49 t368.length co49 : Value).ownBlock) (.slice Ao49 t368.length co49) t368 (fun k_ => some k_ = (.slice Ao50 t379.length co50 : Value).ownBlock) _ _ t379 (fun k_ => (((((P1_ k_ ∨ P2_ k_ ∨ P3_ k_) ∨ w.heap.size ≤ k_) ∧ (some k_ ≠ (v362 : Value).ownBlock ∧ (some k_ ≠ (.slice Ao35 t364.length co35 : Value).ownBlock ∧ some k_ ≠ (.slice Ao49 t368.length co49 : Value).ownBlock))) ∧ some k_ ≠ (v377 : Value).ownBlock) ∧ some k_ ≠ (.slice Ao50 t379.length co50 : Value).ownBlock)) _ _ y352 t383 t386 w0 _ ?side1 ?side2 ?side3 ?side4 A47.out).mono ?_); (case side1 => repeat (first | (with_reducible first | exact HB.out | apply below_alloc | apply pw_below_drewN | apply below_drew1) | exact HB.out)); (case side2 => exact Kd.R_tight rfl HO370.out); (case side3 => exact Kd.V_mono (Kd.R_V (Kd.R_tight rfl (HO381.out))) (fun k_ hk_ => ⟨hk_, ((HO381.out).1 k_ hk_.symm).2⟩)); (case side4 => exact Kd.V_mono (HO356.out) (fun k_ hk_ => ⟨hk_, hk_.1.1.2.2.2⟩)); rintro e w51 ⟨v384, rfl, ho0, hb, hkp⟩; have n0_ := A_ (Kd.V_mono (ok' := fun k_ => ((P1_ k_ ∨ P2_ k_ ∨ P3_ k_) ∨ w.heap.size ≤ k_) ∧ some k_ ≠ (v362 : Value).ownBlock ∧ some k_ ≠ (.slice Ao35 t364.length co35 : Value).ownBlock ∧ some k_ ≠ (v377 : Value).ownBlock ∧ some k_ ≠ (.slice Ao50 t379.length co50 : Value).ownBlock ∧ some k_ ≠ (v384 : Value).ownBlock) (Kd.V_keptB (HO2.out) hkp (fun k_ hk_ hs_ => (hk_.1.1.2.2.2) hs_)) (fun k_ hk_ => ⟨hk_.1.1.1.1, hk_.1.1.1.2.1, hk_.1.1.1.2.2.1, hk_.1.1.2, hk_.1.2, fun e_ => Or.elim (ho0.1 k_ e_.symm) (fun hs_ => hk_.2.1 hs_) (fun hn_ => Nat.not_le.2 hk_.2.2 hn_)⟩)); have n1_ := A_ (Kd.V_mono (ok' := fun k_ => ((P1_ k_ ∨ P2_ k_ ∨ P3_ k_) ∨ w.heap.size ≤ k_) ∧ some k_ ≠ (v362 : Value).ownBlock ∧ some k_ ≠ (.slice Ao35 t364.length co35 : Value).ownBlock ∧ some k_ ≠ (v377 : Value).ownBlock ∧ some k_ ≠ (.slice Ao50 t379.length co50 : Value).ownBlock ∧ some k_ ≠ (v384 : Value).ownBlock) (Kd.V_keptB (HO3.out) hkp (fun k_ hk_ hs_ => (hk_.1.1.2.2.2) hs_)) (fun k_ hk_ => ⟨hk_.1.1.1.1, hk_.1.1.1.2.1, hk_.1.1.1.2.2.1, hk_.1.1.2, hk_.1.2, fun e_ => Or.elim (ho0.1 k_ e_.symm) (fun hs_ => hk_.2.1 hs_) (fun hn_ => Nat.not_le.2 hk_.2.2 hn_)⟩)); have n2_ := A_ (Kd.V_mono (ok' := fun k_ => ((P1_ k_ ∨ P2_ k_ ∨ P3_ k_) ∨ w.heap.size ≤ k_) ∧ some k_ ≠ (v362 : Value).ownBlock ∧ some k_ ≠ (.slice Ao35 t364.length co35 : Value).ownBlock ∧ some k_ ≠ (v377 : Value).ownBlock ∧ some k_ ≠ (.slice Ao50 t379.length co50 : Value).ownBlock ∧ some k_ ≠ (v384 : Value).ownBlock) (Kd.V_keptB (HO351.out) hkp (fun k_ hk_ hs_ => (hk_.1.1.2.2.2) hs_)) (fun k_ hk_ => ⟨hk_.1.1.1.1, hk_.1.1.1.2.1, hk_.1.1.1.2.2.1, hk_.1.1.2, hk_.1.2, fun e_ => Or.elim (ho0.1 k_ e_.symm) (fun hs_ => hk_.2.1 hs_) (fun hn_ => Nat.not_le.2 hk_.2.2 hn_)⟩)); have n3_ := A_ (Kd.V_mono (ok' := fun k_ => ((P1_ k_ ∨ P2_ k_ ∨ P3_ k_) ∨ w.heap.size ≤ k_) ∧ some k_ ≠ (v362 : Value).ownBlock ∧ some k_ ≠ (.slice Ao35 t364.length co35 : Value).ownBlock ∧ some k_ ≠ (v377 : Value).ownBlock ∧ some k_ ≠ (.slice Ao50 t379.length co50 : Value).ownBlock ∧ some k_ ≠ (v384 : Value).ownBlock) (Kd.V_keptB (HO356.out) hkp (fun k_ hk_ hs_ => (hk_.1.1.2.2.2) hs_)) (fun k_ hk_ => ⟨hk_.1.1.1.1, hk_.1.1.1.2.1, hk_.1.1.1.2.2.1, hk_.1.1.2, hk_.1.2, fun e_ => Or.elim (ho0.1 k_ e_.symm) (fun hs_ => hk_.2.1 hs_) (fun hn_ => Nat.not_le.2 hk_.2.2 hn_)⟩)); have n4_ := A_ (Kd.V_mono (ok' := fun k_ => ((P1_ k_ ∨ P2_ k_ ∨ P3_ k_) ∨ w.heap.size ≤ k_) ∧ some k_ ≠ (v362 : Value).ownBlock ∧ some k_ ≠ (.slice Ao35 t364.length co35 : Value).ownBlock ∧ some k_ ≠ (v377 : Value).ownBlock ∧ some k_ ≠ (.slice Ao50 t379.length co50 : Value).ownBlock ∧ some k_ ≠ (v384 : Value).ownBlock) (Kd.V_keptB (HO359.out) hkp (fun k_ hk_ hs_ => (hk_.1.1.2.2.2) hs_)) (fun k_ hk_ => ⟨hk_.1.1.1.1, hk_.1.1.1.2.1, hk_.1.1.1.2.2.1, hk_.1.1.2, hk_.1.2, fun e_ => Or.elim (ho0.1 k_ e_.symm) (fun hs_ => hk_.2.1 hs_) (fun hn_ => Nat.not_le.2 hk_.2.2 hn_)⟩)); have n5_ := A_ (Kd.R_mono (ok' := fun k_ => (P1_ k_ ∨ w.heap.size ≤ k_) ∧ some k_ ≠ (.slice Ao35 t364.length co35 : Value).ownBlock ∧ some k_ ≠ (v377 : Value).ownBlock ∧ some k_ ≠ (.slice Ao50 t379.length co50 : Value).ownBlock ∧ some k_ ≠ (v384 : Value).ownBlock) (Kd.R_keptB (HO363.out) hkp (fun k_ hk_ hs_ => (hk_.1.1.2.2) hs_)) (fun k_ hk_ => ⟨hk_.1.1.1.1, hk_.1.1.1.2.1, hk_.1.1.2, hk_.1.2, fun e_ => Or.elim (ho0.1 k_ e_.symm) (fun hs_ => hk_.2.1 hs_) (fun hn_ => Nat.not_le.2 hk_.2.2 hn_)⟩)); have n6_ := A_ (Kd.R_mono (ok' := fun k_ => (P1_ k_ ∨ w.heap.size ≤ k_) ∧ some k_ ≠ (v362 : Value).ownBlock ∧ some k_ ≠ (v377 : Value).ownBlock ∧ some k_ ≠ (.slice Ao50 t379.length co50 : Value).ownBlock ∧ some k_ ≠ (v384 : Value).ownBlock) (Kd.R_keptB (HO366.out) hkp (fun k_ hk_ hs_ => (hk_.1.1.2.2) hs_)) (fun k_ hk_ => ⟨hk_.1.1.1.1, hk_.1.1.1.2.1, hk_.1.1.2, hk_.1.2, fun e_ => Or.elim (ho0.1 k_ e_.symm) (fun hs_ => hk_.2.1 hs_) (fun hn_ => Nat.not_le.2 hk_.2.2 hn_)⟩)); have n7_ := A_ (Kd.V_mono (ok' := fun k_ => ((P1_ k_ ∨ P2_ k_ ∨ P3_ k_) ∨ w.heap.size ≤ k_) ∧ some k_ ≠ (v362 : Value).ownBlock ∧ some k_ ≠ (.slice Ao35 t364.length co35 : Value).ownBlock ∧ some k_ ≠ (v377 : Value).ownBlock ∧ some k_ ≠ (.slice Ao50 t379.length co50 : Value).ownBlock ∧ some k_ ≠ (v384 : Value).ownBlock) (Kd.V_keptB (HO374.out) hkp (fun k_ hk_ hs_ => (hk_.1.1.2.2.2) hs_)) (fun k_ hk_ => ⟨hk_.1.1.1.1, hk_.1.1.1.2.1, hk_.1.1.1.2.2.1, hk_.1.1.2, hk_.1.2, fun e_ => Or.elim (ho0.1 k_ e_.symm) (fun hs_ => hk_.2.1 hs_) (fun hn_ => Nat.not_le.2 hk_.2.2 hn_)⟩)); have n8_ := A_ (Kd.R_mono (ok' := fun k_ => (P1_ k_ ∨ w.heap.size ≤ k_) ∧ some k_ ≠ (v362 : Value).ownBlock ∧ some k_ ≠ (.slice Ao35 t364.length co35 : Value).ownBlock ∧ some k_ ≠ (.slice Ao50 t379.length co50 : Value).ownBlock ∧ some k_ ≠ (v384 : Value).ownBlock) (Kd.R_keptB (HO378.out) hkp (fun k_ hk_ hs_ => (hk_.2) hs_)) (fun k_ hk_ => ⟨hk_.1.1.1.1.1, hk_.1.1.1.2, hk_.1.1.2, hk_.1.1.1.1.2, fun e_ => Or.elim (ho0.1 k_ e_.symm) (fun hs_ => hk_.2.1 hs_) (fun hn_ => Nat.not_le.2 hk_.2.2 hn_)⟩)); have n9_ := A_ (Kd.R_mono (ok' := fun k_ => (P1_ k_ ∨ w.heap.size ≤ k_) ∧ some k_ ≠ (v362 : Value).ownBlock ∧ some k_ ≠ (.slice Ao35 t364.length co35 : Value).ownBlock ∧ some k_ ≠ (v377 : Value).ownBlock ∧ some k_ ≠ (v384 : Value).ownBlock) (Kd.R_keptB (HO381.out) hkp (fun k_ hk_ hs_ => (hk_.2) hs_)) (fun k_ hk_ => ⟨hk_.1.1.1.1.1, hk_.1.1.1.2, hk_.1.1.2, hk_.1.1.1.1.2, fun e_ => Or.elim (ho0.1 k_ e_.symm) (fun hs_ => hk_.2.1 hs_) (fun hn_ => Nat.not_le.2 hk_.2.2 hn_)⟩)); have n10_ := A_ (Kd.R_mono (ok' := fun k_ => (P1_ k_ ∨ w.heap.size ≤ k_) ∧ some k_ ≠ (v362 : Value).ownBlock ∧ some k_ ≠ (.slice Ao35 t364.length co35 : Value).ownBlock ∧ some k_ ≠ (v377 : Value).ownBlock) ho0 (fun k_ hk_ => ⟨Or.elim hk_ (fun hs_ => (HO370.out.1 k_ (hs_).symm).1.1.1) (fun hn_ => (.inr (Nat.le_trans (by first | exact HK.out.1 | exact (show Kept w _ (fun k_ => P1_ k_) from by repeat (first | (with_reducible first | exact HK.out | apply Kept.alloc | apply Kept.drewN | apply Kept.drew) | exact HK.out)).1) hn_))), Or.elim hk_ (fun hs_ => fun e_ => (((HO363.out).1 k_ e_.symm).1.1.2.2) hs_) (fun hn_ => (Kd.fresh' (Kd.R_lt (nR_ HO363)) k_ hn_)), Or.elim hk_ (fun hs_ => fun e_ => (((HO366.out).1 k_ e_.symm).1.1.2.2) hs_) (fun hn_ => (Kd.fresh' (Kd.R_lt (nR_ HO366)) k_ hn_)), Or.elim hk_ (fun hs_ => fun e_ => (((HO378.out).1 k_ e_.symm).2) hs_) (fun hn_ => (Kd.fresh' (Kd.R_lt (nR_ HO378)) k_ hn_))⟩)); have n11_ := A_ (Kept.then_ (S := (fun k_ => P1_ k_)) (by repeat (first | (with_reducible first | exact HK.out | apply Kept.alloc | apply Kept.drewN | apply Kept.drew) | exact HK.out)) hkp (fun k_ hs_ => (fun e_ => (HO370.out.1 k_ e_.symm).1.1.1) hs_)); have n12_ := A_ (hb); clear HO2 HO3 HO351 HO356 HO359 HO363 HO366 HO374 HO378 HO381 HK HB HO370; have HO2 := n0_; have HO3 := n1_; have HO351 := n2_; have HO356 := n3_; have HO359 := n4_; have HO363 := n5_; have HO366 := n6_; have HO374 := n7_; have HO378 := n8_; have HO381 := n9_; have HO385 := n10_; have HK := n11_; have HB := n12_; clear n0_ n1_ n2_ n3_ n4_ n5_ n6_ n7_ n8_ n9_ n10_ n11_ n12_; (try clear hb); (try clear hkp); (try clear ho0))))
          (try simp only [Act.put, List.setIfInBounds_toArray, List.set_cons_zero, List.set_cons_succ])
          have H := HC48.out
          clear HC48
          by_cases c52 : t386 = 0
          ·rw [if_pos c52] at H
           have c52b0 : (t386 == 0) = true := beq_iff_eq.mpr c52
           have c52b1 : (t386 != 0) = false := bne_eq_false_iff_eq.mpr c52
           clear c52
           (first | rw [c52b0] | rw [c52b1] | (simp only [i64_w, i32_w]; first | rw [c52b0] | rw [c52b1]) | skip)
           simp only [Option.some.injEq, Prod.mk.injEq] at H
           obtain ⟨rfl, rfl⟩ := H
           go_wp2
           repeat (go_quiet (fail); try go_wp2)
           rw [rounds_succ]
           go_wp2
           repeat (go_quiet (fail); try go_wp2)
           go_ret2
           exact ⟨_, by first | rfl | (simp [errW_none, errW_some] <;> rfl) | (simp only [← hji15]; first | rfl | (simp [errW_none, errW_some] <;> rfl)) | (simp [*, errW_none, errW_some] <;> rfl), by (with_reducible repeat (first | apply Kd.R_alloc | apply Kd.R_drewN | apply Kd.R_drew)); exact Kd.R_mono HO385.out (fun _ hk => hk.1), by repeat (first | (with_reducible first | exact HB.out | apply below_alloc | apply pw_below_drewN | apply below_drew1) | exact HB.out), by repeat (first | (with_reducible first | exact HK.out | apply Kept.alloc | apply Kept.drewN | apply Kept.drew) | exact HK.out)⟩
          ·rw [if_neg c52] at H
           have c52b0 : (t386 == 0) = false := beq_eq_false_iff_ne.mpr c52
           have c52b1 : (t386 != 0) = true := bne_iff_ne.mpr c52
           (first | rw [c52b0] | rw [c52b1] | (simp only [i64_w, i32_w]; first | rw [c52b0] | rw [c52b1]) | skip)
           simp only [Option.some.injEq, Prod.mk.injEq] at H
           obtain ⟨rfl, rfl⟩ := H
           go_wp2
           repeat (go_quiet (fail); try go_wp2)
           go_ret2
           exact ⟨_, by first | rfl | (simp [errW_none, errW_some] <;> rfl) | (simp only [← hji15]; first | rfl | (simp [errW_none, errW_some] <;> rfl)) | (simp [*, errW_none, errW_some] <;> rfl), by first | exact Kd.R_nil _ _ _ _ _ | exact Kd.N_nil _ _ _ _ _ | exact Kd.V_nil _ _ _ _ _ | exact Kd.Q_nil _ _ _ _ _ | exact Kd.S_nil _ _ _ _ _, by repeat (first | (with_reducible first | exact HB.out | apply below_alloc | apply pw_below_drewN | apply below_drew1) | exact HB.out), by repeat (first | (with_reducible first | exact HK.out | apply Kept.alloc | apply Kept.drewN | apply Kept.drew) | exact HK.out)⟩
         ·rw [if_neg c46] at H
          have c46b0 : (t382 == 0) = false := beq_eq_false_iff_ne.mpr c46
          have c46b1 : (t382 != 0) = true := bne_iff_ne.mpr c46
          (first | rw [c46b0] | rw [c46b1] | (simp only [i64_w, i32_w]; first | rw [c46b0] | rw [c46b1]) | skip)
          simp only [Option.some.injEq, Prod.mk.injEq] at H
          obtain ⟨rfl, rfl⟩ := H
          go_wp2
          repeat (go_quiet (fail); try go_wp2)
          go_ret2
          exact ⟨_, by first | rfl | (simp [errW_none, errW_some] <;> rfl) | (simp only [← hji15]; first | rfl | (simp [errW_none, errW_some] <;> rfl)) | (simp [*, errW_none, errW_some] <;> rfl), by first | exact Kd.R_nil _ _ _ _ _ | exact Kd.N_nil _ _ _ _ _ | exact Kd.V_nil _ _ _ _ _ | exact Kd.Q_nil _ _ _ _ _ | exact Kd.S_nil _ _ _ _ _, by repeat (first | (with_reducible first | exact HB.out | apply below_alloc | apply pw_below_drewN | apply below_drew1) | exact HB.out), by repeat (first | (with_reducible first | exact HK.out | apply Kept.alloc | apply Kept.drewN | apply Kept.drew) | exact HK.out)⟩
        ·rw [if_neg c41] at H
         have c41b0 : (t375 == 0) = false := beq_eq_false_iff_ne.mpr c41
         have c41b1 : (t375 != 0) = true := bne_iff_ne.mpr c41
         (first | rw [c41b0] | rw [c41b1] | (simp only [i64_w, i32_w]; first | rw [c41b0] | rw [c41b1]) | skip)
         simp only [Option.some.injEq, Prod.mk.injEq] at H
         obtain ⟨rfl, rfl⟩ := H
         go_wp2
         repeat (go_quiet (fail); try go_wp2)
         go_ret2
         exact ⟨_, by first | rfl | (simp [errW_none, errW_some] <;> rfl) | (simp only [← hji15]; first | rfl | (simp [errW_none, errW_some] <;> rfl)) | (simp [*, errW_none, errW_some] <;> rfl), by first | exact Kd.R_nil _ _ _ _ _ | exact Kd.N_nil _ _ _ _ _ | exact Kd.V_nil _ _ _ _ _ | exact Kd.Q_nil _ _ _ _ _ | exact Kd.S_nil _ _ _ _ _, by repeat (first | (with_reducible first | exact HB.out | apply below_alloc | apply pw_below_drewN | apply below_drew1) | exact HB.out), by repeat (first | (with_reducible first | exact HK.out | apply Kept.alloc | apply Kept.drewN | apply Kept.drew) | exact HK.out)⟩
       ·rw [if_neg c37] at H
        have c37b0 : (t371 == 0) = false := beq_eq_false_iff_ne.mpr c37
        have c37b1 : (t371 != 0) = true := bne_iff_ne.mpr c37
        (first | rw [c37b0] | rw [c37b1] | (simp only [i64_w, i32_w]; first | rw [c37b0] | rw [c37b1]) | skip)
        simp only [Option.some.injEq, Prod.mk.injEq] at H
        obtain ⟨rfl, rfl⟩ := H
        go_wp2
        repeat (go_quiet (fail); try go_wp2)
        go_ret2
        exact ⟨_, by first | rfl | (simp [errW_none, errW_some] <;> rfl) | (simp only [← hji15]; first | rfl | (simp [errW_none, errW_some] <;> rfl)) | (simp [*, errW_none, errW_some] <;> rfl), by first | exact Kd.R_nil _ _ _ _ _ | exact Kd.N_nil _ _ _ _ _ | exact Kd.V_nil _ _ _ _ _ | exact Kd.Q_nil _ _ _ _ _ | exact Kd.S_nil _ _ _ _ _, by repeat (first | (with_reducible first | exact HB.out | apply below_alloc | apply pw_below_drewN | apply below_drew1) | exact HB.out), by repeat (first | (with_reducible first | exact HK.out | apply Kept.alloc | apply Kept.drewN | apply Kept.drew) | exact HK.out)⟩
      ·rw [if_neg c31] at H
       have c31b0 : (t367 == 0) = false := beq_eq_false_iff_ne.mpr c31
       have c31b1 : (t367 != 0) = true := bne_iff_ne.mpr c31
       (first | rw [c31b0] | rw [c31b1] | (simp only [i64_w, i32_w]; first | rw [c31b0] | rw [c31b1]) | skip)
       simp only [Option.some.injEq, Prod.mk.injEq] at H
       obtain ⟨rfl, rfl⟩ := H
       go_wp2
       repeat (go_quiet (fail); try go_wp2)
       go_ret2
       exact ⟨_, by first | rfl | (simp [errW_none, errW_some] <;> rfl) | (simp only [← hji15]; first | rfl | (simp [errW_none, errW_some] <;> rfl)) | (simp [*, errW_none, errW_some] <;> rfl), by first | exact Kd.R_nil _ _ _ _ _ | exact Kd.N_nil _ _ _ _ _ | exact Kd.V_nil _ _ _ _ _ | exact Kd.Q_nil _ _ _ _ _ | exact Kd.S_nil _ _ _ _ _, by repeat (first | (with_reducible first | exact HB.out | apply below_alloc | apply pw_below_drewN | apply below_drew1) | exact HB.out), by repeat (first | (with_reducible first | exact HK.out | apply Kept.alloc | apply Kept.drewN | apply Kept.drew) | exact HK.out)⟩
     ·rw [if_neg c26] at H
      have c26b0 : (t360 == 0) = false := beq_eq_false_iff_ne.mpr c26
      have c26b1 : (t360 != 0) = true := bne_iff_ne.mpr c26
      (first | rw [c26b0] | rw [c26b1] | (simp only [i64_w, i32_w]; first | rw [c26b0] | rw [c26b1]) | skip)
      simp only [Option.some.injEq, Prod.mk.injEq] at H
      obtain ⟨rfl, rfl⟩ := H
      go_wp2
      repeat (go_quiet (fail); try go_wp2)
      go_ret2
      exact ⟨_, by first | rfl | (simp [errW_none, errW_some] <;> rfl) | (simp only [← hji15]; first | rfl | (simp [errW_none, errW_some] <;> rfl)) | (simp [*, errW_none, errW_some] <;> rfl), by first | exact Kd.R_nil _ _ _ _ _ | exact Kd.N_nil _ _ _ _ _ | exact Kd.V_nil _ _ _ _ _ | exact Kd.Q_nil _ _ _ _ _ | exact Kd.S_nil _ _ _ _ _, by repeat (first | (with_reducible first | exact HB.out | apply below_alloc | apply pw_below_drewN | apply below_drew1) | exact HB.out), by repeat (first | (with_reducible first | exact HK.out | apply Kept.alloc | apply Kept.drewN | apply Kept.drew) | exact HK.out)⟩
    ·rw [if_neg c20] at H
     exact absurd H (by simp)
   ·rw [if_neg c17] at H
    exact absurd H (by simp)
  ·rw [if_neg c16] at H
   exact absurd H (by simp)
/-! ### tree_Values: function 20 -/
def tree_Values.f (k : Nat) (a0 : Int) (l1 : List Int) (l2 : List Int) : Option (List Int × Int) := (tree_may.f k a0 (([l1, l2] : List (List Int)))).bind fun t390 => (if t390 = 0 then ((tree_down.f k a0 ([] : List Int) l1 l2).bind fun bt391 => (some (bt391.1, bt391.2))) else (some (([] : List Int), t390)))
theorem tree_Values.mono : ∀ a0 a1 a2 k, LeO (tree_Values.f k a0 a1 a2) (tree_Values.f (k + 1) a0 a1 a2) := by
 intro a0 a1 a2 k
 unfold tree_Values.f
 repeat' first
   | (with_reducible exact tree_down.mono _ _ _ _ _)
   | (with_reducible exact tree_may.mono _ _ _)
   | (with_reducible exact LeO.refl _)
   | (with_reducible exact LeO.none _)
   | (with_reducible refine LeO.ite ?_ ?_)
   | (with_reducible refine LeO.bind ?_ (fun _ => ?_))
   | exact tree_down.mono _ _ _ _ _
   | exact tree_may.mono _ _ _
   | exact LeO.none _
   | refine LeO.ite ?_ ?_
   | refine LeO.bind ?_ (fun _ => ?_)
set_option maxHeartbeats 8000000 in
set_option maxRecDepth 100000 in
theorem tree_Values.calls (k : Nat) (a0 : Int) (P1_ : Nat → Prop) (A1 : Option Addr) (c1 : Nat) (l1 : List Int) (P2_ : Nat → Prop) (A2 : Option Addr) (c2 : Nat) (l2 : List Int) (r1 : List Int) (r2 : Int) (w : World) (hs1 : Kd.V (Kd.int .u64) 49 w w.heap.size (fun k_ => P1_ k_) (.slice A1 l1.length c1) l1) (hs2 : Kd.V (Kd.int .u64) 49 w w.heap.size (fun k_ => P2_ k_) (.slice A2 l2.length c2) l2) (h : tree_Values.f k a0 l1 l2 = some (r1, r2)) :
  Calls Try.prog 20 #[.int .u8 a0, .slice A1 l1.length c1, .slice A2 l2.length c2] w fun e w' => ∃ v0_ : Value, e = .returned (.tuple #[v0_, .int .i64 r2]) ∧ Kd.R (Kd.int .u64) 49 w' w.heap.size (fun k_ => (w.heap.size ≤ k_)) v0_ r1 ∧ Below w.heap.size w w' := by
 have HO1 := A_ (show Kd.V (Kd.int .u64) 49 w w.heap.size (fun k_ => ((P1_ k_ ∨ P2_ k_) ∨ w.heap.size ≤ k_)) (.slice A1 l1.length c1) l1 from Kd.V_mono hs1 (fun k_ hk => .inl (.inl hk)))
 have HO2 := A_ (show Kd.V (Kd.int .u64) 49 w w.heap.size (fun k_ => ((P1_ k_ ∨ P2_ k_) ∨ w.heap.size ≤ k_)) (.slice A2 l2.length c2) l2 from Kd.V_mono hs2 (fun k_ hk => .inl (.inr hk)))
 have HB := A_ (Below.refl w.heap.size w)
 have H : ((tree_may.f k a0 (([l1, l2] : List (List Int)))).bind fun t390 => (if t390 = 0 then ((tree_down.f k a0 ([] : List Int) l1 l2).bind fun bt391 => (some (bt391.1, bt391.2))) else (some (([] : List Int), t390)))) = some (r1, r2) := h
 clear h
 obtain ⟨y387, hy387⟩ : ∃ y_ : List (List Int), y_ = (([l1, l2] : List (List Int))) := ⟨_, rfl⟩
 replace H : ((tree_may.f k a0 y387).bind fun t390 => (if t390 = 0 then ((tree_down.f k a0 ([] : List Int) l1 l2).bind fun bt391 => (some (bt391.1, bt391.2))) else (some (([] : List Int), t390)))) = some (r1, r2) := by first | (rw [hy387]; with_reducible exact H) | (have H2_ := (Option.bind_some _ _).symm.trans H; rw [hy387]; with_reducible exact H2_) | (have H2_ := (Option.bind_some _ _).symm.trans H; with_reducible exact H2_) | with_reducible exact H | (rw [hy387]; exact H) | exact H
 have Ny387 := Aside0.mk hy387
 clear hy387
 replace H := Option.bind_eq_some_iff.mp H
 obtain ⟨t390, A40, H⟩ := H
 replace H : (if t390 = 0 then ((tree_down.f k a0 ([] : List Int) l1 l2).bind fun bt391 => (some (bt391.1, bt391.2))) else (some (([] : List Int), t390))) = some (r1, r2) := H
 have A4 := Aside0.mk A40
 clear A40
 have HC5 := Aside0.mk H
 clear H
 go_enter Try.func20, Try.ntmps20
 go_upto_if 15 with (first | ((with_reducible refine gate_dst (N := 12) rfl ?_); refine Kd.N_lit (Kd.slice 49 (Kd.int .u64)) _ 22 ?hg (N' := 12) ?hd (xs := ([l1, l2] : List (List Int))) (inner := [.slice A1 l1.length c1, .slice A2 l2.length c2]) (ok := (fun k_ => ((P1_ k_ ∨ P2_ k_) ∨ w.heap.size ≤ k_))) (okp := (fun k_ => ((P1_ k_ ∨ P2_ k_) ∨ w.heap.size ≤ k_))) ?hr ?hp (fun _ hk => hk) ((show ∀ k_, w.heap.size ≤ k_ → (fun k_ => ((P1_ k_ ∨ P2_ k_) ∨ w.heap.size ≤ k_)) k_ from fun k_ hk => (.inr (Nat.le_trans (below_size hb_) hk))) _ (Nat.le_refl _)) (Below.refl _ _) (Nat.le_refl _) (by simp) ?_; (case hd => rfl); (case hg => rfl); (case hr => first | (go_simp; done) | (go_simp; rfl)); (case hp => exact (Reps.one (show Kd.FK (Kd.slice 49 (Kd.int .u64)) _ _ l1 [.slice A1 l1.length c1] from (Kd.FK_slice_mk (Kd.V_reads' (Kd.V_mono (ok' := (fun k_ => ((P1_ k_ ∨ P2_ k_) ∨ w.heap.size ≤ k_))) (HO1.out) (fun k_ hk => hk))).2.1 (Kd.V_F (Kd.V_mono (ok' := (fun k_ => ((P1_ k_ ∨ P2_ k_) ∨ w.heap.size ≤ k_))) (HO1.out) (fun k_ hk => hk))))) (Reps.one (show Kd.FK (Kd.slice 49 (Kd.int .u64)) _ _ l2 [.slice A2 l2.length c2] from (Kd.FK_slice_mk (Kd.V_reads' (Kd.V_mono (ok' := (fun k_ => ((P1_ k_ ∨ P2_ k_) ∨ w.heap.size ≤ k_))) (HO2.out) (fun k_ hk => hk))).2.1 (Kd.V_F (Kd.V_mono (ok' := (fun k_ => ((P1_ k_ ∨ P2_ k_) ∨ w.heap.size ≤ k_))) (HO2.out) (fun k_ hk => hk))))) (Reps.none _ _)))); intro v388 w6 ho7 hb hg_ hnew_; clear hg_ hnew_; (first | rw [← Ny387.out] at ho7 | (simp only [Int.reduceToNat] at ho7; rw [← Ny387.out] at ho7)); have n0_ := A_ (Kd.V_elder' (nV_ HO1) (Kd.N_base ho7) hb); have n1_ := A_ (Kd.V_elder' (nV_ HO2) (Kd.N_base ho7) hb); have n2_ := A_ (Kd.N_lower ho7 (below_size hb_)); have n3_ := A_ (below_step hb_ hb); clear HO1 HO2 HB; have HO1 := n0_; have HO2 := n1_; have HO389 := n2_; have HB := n3_; clear n0_ n1_ n2_ n3_; clear hb ho7; obtain ⟨Ao8, co8, eo8⟩ := Kd.N_slice HO389.out; subst eo8) | ((with_reducible refine gate_callee (f := 31) rfl ?_); refine goesM_ (some 13) Try.func31 #[.int .u8 a0, .slice Ao8 y387.length co8] ?_; (with_reducible refine (tree_may.calls k a0 _ _ y387 t390 _ ?side1 ?side2 A4.out).mono ?_); (case side1 => repeat (first | exact (Kd.N_reads' HO389.out).2.2 | (with_reducible refine Kd.C_alloc ?_ _) | (with_reducible refine Kd.C_drewN ?_ _) | (with_reducible refine Kd.C_drew ?_))); (case side2 => exact (Kd.N_reads' HO389.out).2.1); rintro e w9 ⟨rfl, hb⟩; refine ⟨_, rfl, ?_⟩; have n0_ := A_ (Kd.V_below (nV_ HO1) hb); have n1_ := A_ (Kd.V_below (nV_ HO2) hb); have n2_ := A_ (Kd.N_below (nN_ HO389) hb); have n3_ := A_ (below_step hb_ hb); clear HO1 HO2 HO389 HB; have HO1 := n0_; have HO2 := n1_; have HO389 := n2_; have HB := n3_; clear n0_ n1_ n2_ n3_; (try clear hb)))
 (try simp only [Act.put, List.setIfInBounds_toArray, List.set_cons_zero, List.set_cons_succ])
 have H := HC5.out
 clear HC5
 by_cases c10 : t390 = 0
 ·rw [if_pos c10] at H
  have c10b0 : (t390 == 0) = true := beq_iff_eq.mpr c10
  have c10b1 : (t390 != 0) = false := bne_eq_false_iff_eq.mpr c10
  clear c10
  (first | rw [c10b0] | rw [c10b1] | (simp only [i64_w, i32_w]; first | rw [c10b0] | rw [c10b1]) | skip)
  replace H := Option.bind_eq_some_iff.mp H
  obtain ⟨⟨t391, t394⟩, A110, H⟩ := H
  replace H : (some (t391, t394)) = some (r1, r2) := H
  have A11 := Aside0.mk A110
  clear A110
  simp only [Option.some.injEq, Prod.mk.injEq] at H
  obtain ⟨rfl, rfl⟩ := H
  go_wp2_with (first | ((with_reducible refine gate_callee (f := 40) rfl ?_); refine goesM_ (some 20) Try.func40 #[.int .u8 a0, .slice none 0 0, .slice A1 l1.length c1, .slice A2 l2.length c2] ?_; (refine (tree_down.calls k a0 (fun k_ => some k_ = (.slice none 0 0 : Value).ownBlock) (.slice none 0 0) ([] : List Int) (fun k_ => (((P1_ k_ ∨ P2_ k_) ∨ w.heap.size ≤ k_) ∧ some k_ ≠ (.slice Ao8 y387.length co8 : Value).ownBlock)) _ _ l1 (fun k_ => (((P1_ k_ ∨ P2_ k_) ∨ w.heap.size ≤ k_) ∧ some k_ ≠ (.slice Ao8 y387.length co8 : Value).ownBlock)) _ _ l2 t391 t394 w _ ?side1 ?side2 ?side3 ?side4 A11.out).mono ?_); (case side1 => repeat (first | (with_reducible first | exact HB.out | apply below_alloc | apply pw_below_drewN | apply below_drew1) | exact HB.out)); (case side2 => exact Kd.R_nil _ _ _ _ _); (case side3 => exact Kd.V_mono (HO1.out) (fun k_ hk_ => ⟨hk_, (by simp [Value.ownBlock])⟩)); (case side4 => exact Kd.V_mono (HO2.out) (fun k_ hk_ => ⟨hk_, (by simp [Value.ownBlock])⟩)); rintro e w12 ⟨v392, rfl, ho0, hb, hkp⟩; refine ⟨_, rfl, ?_⟩; have n0_ := A_ (Kd.V_mono (ok' := fun k_ => ((P1_ k_ ∨ P2_ k_) ∨ w.heap.size ≤ k_) ∧ some k_ ≠ (.slice Ao8 y387.length co8 : Value).ownBlock ∧ some k_ ≠ (v392 : Value).ownBlock) (Kd.V_keptB (HO1.out) hkp (fun k_ hk_ hs_ => (fun e_ => by simp [Value.ownBlock] at e_) hs_)) (fun k_ hk_ => ⟨hk_.1.1, hk_.1.2, fun e_ => Or.elim (ho0.1 k_ e_.symm) (fun hs_ => hk_.2.1 hs_) (fun hn_ => Nat.not_le.2 hk_.2.2 hn_)⟩)); have n1_ := A_ (Kd.V_mono (ok' := fun k_ => ((P1_ k_ ∨ P2_ k_) ∨ w.heap.size ≤ k_) ∧ some k_ ≠ (.slice Ao8 y387.length co8 : Value).ownBlock ∧ some k_ ≠ (v392 : Value).ownBlock) (Kd.V_keptB (HO2.out) hkp (fun k_ hk_ hs_ => (fun e_ => by simp [Value.ownBlock] at e_) hs_)) (fun k_ hk_ => ⟨hk_.1.1, hk_.1.2, fun e_ => Or.elim (ho0.1 k_ e_.symm) (fun hs_ => hk_.2.1 hs_) (fun hn_ => Nat.not_le.2 hk_.2.2 hn_)⟩)); have n2_ := A_ (Kd.N_mono (ok' := fun k_ => ((P1_ k_ ∨ P2_ k_) ∨ w.heap.size ≤ k_) ∧ some k_ ≠ (v392 : Value).ownBlock) (Kd.N_keptB (HO389.out) hkp (fun k_ hk_ hs_ => (fun e_ => by simp [Value.ownBlock] at e_) hs_)) (fun k_ hk_ => ⟨hk_.1, fun e_ => Or.elim (ho0.1 k_ e_.symm) (fun hs_ => hk_.2.1 hs_) (fun hn_ => Nat.not_le.2 hk_.2.2 hn_)⟩)); have n3_ := A_ (Kd.R_mono (ok' := fun k_ => (w.heap.size ≤ k_)) ho0 (fun k_ hk_ => Or.elim hk_ (fun hs_ => absurd hs_ (by simp [Value.ownBlock])) (fun hn_ => (Nat.le_trans (below_size hb_) hn_)))); have n4_ := A_ (hb); clear HO1 HO2 HO389 HB; have HO1 := n0_; have HO2 := n1_; have HO389 := n2_; have HO393 := n3_; have HB := n4_; clear n0_ n1_ n2_ n3_ n4_; (try clear hb); (try clear hkp); (try clear ho0)))
  go_ret2
  exact ⟨_, fr_, nR_ HO393, hb_⟩
 ·rw [if_neg c10] at H
  have c10b0 : (t390 == 0) = false := beq_eq_false_iff_ne.mpr c10
  have c10b1 : (t390 != 0) = true := bne_iff_ne.mpr c10
  (first | rw [c10b0] | rw [c10b1] | (simp only [i64_w, i32_w]; first | rw [c10b0] | rw [c10b1]) | skip)
  simp only [Option.some.injEq, Prod.mk.injEq] at H
  obtain ⟨rfl, rfl⟩ := H
  go_wp2
  go_ret2
  exact ⟨_, fr_, by first | exact Kd.R_nil _ _ _ _ _ | exact Kd.N_nil _ _ _ _ _ | exact Kd.V_nil _ _ _ _ _ | exact Kd.Q_nil _ _ _ _ _ | exact Kd.S_nil _ _ _ _ _, hb_⟩
/-! ### conclavelaw06_anchored: function 19 -/
def conclavelaw06_anchored.f (k : Nat)  : Option (Bool) := (tree_Zero.f k 1 (([1, 2] : List Int))).bind fun bt398 => ((tree_Values.f k 1 (([0, 0, 1] : List Int)) (([2, 3] : List Int))).bind fun bt408 => (if bt398.2 = 0 then (if bt408.2 = 0 then ((cr1_Same.f k bt398.1 (([2, 2013265918, 1] : List Int))).bind fun t415 => (if t415 = true then ((cr1_Same.f k bt408.1 (([4, 9] : List Int))).bind fun t419 => (some t419)) else (none))) else (none)) else (none)))
theorem conclavelaw06_anchored.mono : ∀ k, LeO (conclavelaw06_anchored.f k ) (conclavelaw06_anchored.f (k + 1) ) := by
 intro  k
 unfold conclavelaw06_anchored.f
 repeat' first
   | (with_reducible exact cr1_Same.mono _ _ _)
   | (with_reducible exact tree_Values.mono _ _ _ _)
   | (with_reducible exact tree_Zero.mono _ _ _)
   | (with_reducible exact LeO.refl _)
   | (with_reducible exact LeO.none _)
   | (with_reducible refine LeO.ite ?_ ?_)
   | (with_reducible refine LeO.bind ?_ (fun _ => ?_))
   | exact cr1_Same.mono _ _ _
   | exact tree_Values.mono _ _ _ _
   | exact tree_Zero.mono _ _ _
   | exact LeO.none _
   | refine LeO.ite ?_ ?_
   | refine LeO.bind ?_ (fun _ => ?_)
set_option maxHeartbeats 8000000 in
set_option maxRecDepth 100000 in
theorem conclavelaw06_anchored.calls (k : Nat)  (r : Bool) (w : World) (h : conclavelaw06_anchored.f k  = some r) :
  Calls Try.prog 19 #[] w fun e w' => e = .returned (.bool r) ∧ Below w.heap.size w w' := by
 have HB := A_ (Below.refl w.heap.size w)
 have H : ((tree_Zero.f k 1 (([1, 2] : List Int))).bind fun bt398 => ((tree_Values.f k 1 (([0, 0, 1] : List Int)) (([2, 3] : List Int))).bind fun bt408 => (if bt398.2 = 0 then (if bt408.2 = 0 then ((cr1_Same.f k bt398.1 (([2, 2013265918, 1] : List Int))).bind fun t415 => (if t415 = true then ((cr1_Same.f k bt408.1 (([4, 9] : List Int))).bind fun t419 => (some t419)) else (none))) else (none)) else (none)))) = some r := h
 clear h
 obtain ⟨y395, hy395⟩ : ∃ y_ : List Int, y_ = (([1, 2] : List Int)) := ⟨_, rfl⟩
 replace H : ((tree_Zero.f k 1 y395).bind fun bt398 => ((tree_Values.f k 1 (([0, 0, 1] : List Int)) (([2, 3] : List Int))).bind fun bt408 => (if bt398.2 = 0 then (if bt408.2 = 0 then ((cr1_Same.f k bt398.1 (([2, 2013265918, 1] : List Int))).bind fun t415 => (if t415 = true then ((cr1_Same.f k bt408.1 (([4, 9] : List Int))).bind fun t419 => (some t419)) else (none))) else (none)) else (none)))) = some r := by first | (rw [hy395]; with_reducible exact H) | (have H2_ := (Option.bind_some _ _).symm.trans H; rw [hy395]; with_reducible exact H2_) | (have H2_ := (Option.bind_some _ _).symm.trans H; with_reducible exact H2_) | with_reducible exact H | (rw [hy395]; exact H) | exact H
 have Ny395 := Aside0.mk hy395
 clear hy395
 replace H := Option.bind_eq_some_iff.mp H
 obtain ⟨⟨t398, t401⟩, A10, H⟩ := H
 (try dsimp only at H)
 have A1 := Aside0.mk A10
 clear A10
 obtain ⟨y402, hy402⟩ : ∃ y_ : List Int, y_ = (([0, 0, 1] : List Int)) := ⟨_, rfl⟩
 replace H : ((tree_Values.f k 1 y402 (([2, 3] : List Int))).bind fun bt408 => (if t401 = 0 then (if bt408.2 = 0 then ((cr1_Same.f k t398 (([2, 2013265918, 1] : List Int))).bind fun t415 => (if t415 = true then ((cr1_Same.f k bt408.1 (([4, 9] : List Int))).bind fun t419 => (some t419)) else (none))) else (none)) else (none))) = some r := by first | (rw [hy402]; with_reducible exact H) | (have H2_ := (Option.bind_some _ _).symm.trans H; rw [hy402]; with_reducible exact H2_) | (have H2_ := (Option.bind_some _ _).symm.trans H; with_reducible exact H2_) | with_reducible exact H | (rw [hy402]; exact H) | exact H
 have Ny402 := Aside0.mk hy402
 clear hy402
 obtain ⟨y405, hy405⟩ : ∃ y_ : List Int, y_ = (([2, 3] : List Int)) := ⟨_, rfl⟩
 replace H : ((tree_Values.f k 1 y402 y405).bind fun bt408 => (if t401 = 0 then (if bt408.2 = 0 then ((cr1_Same.f k t398 (([2, 2013265918, 1] : List Int))).bind fun t415 => (if t415 = true then ((cr1_Same.f k bt408.1 (([4, 9] : List Int))).bind fun t419 => (some t419)) else (none))) else (none)) else (none))) = some r := by first | (rw [hy405]; with_reducible exact H) | (have H2_ := (Option.bind_some _ _).symm.trans H; rw [hy405]; with_reducible exact H2_) | (have H2_ := (Option.bind_some _ _).symm.trans H; with_reducible exact H2_) | with_reducible exact H | (rw [hy405]; exact H) | exact H
 have Ny405 := Aside0.mk hy405
 clear hy405
 replace H := Option.bind_eq_some_iff.mp H
 obtain ⟨⟨t408, t411⟩, A20, H⟩ := H
 replace H : (if t401 = 0 then (if t411 = 0 then ((cr1_Same.f k t398 (([2, 2013265918, 1] : List Int))).bind fun t415 => (if t415 = true then ((cr1_Same.f k t408 (([4, 9] : List Int))).bind fun t419 => (some t419)) else (none))) else (none)) else (none)) = some r := H
 have A2 := Aside0.mk A20
 clear A20
 by_cases c3 : t401 = 0
 ·rw [if_pos c3] at H
  have c3b0 : (t401 == 0) = true := beq_iff_eq.mpr c3
  have c3b1 : (t401 != 0) = false := bne_eq_false_iff_eq.mpr c3
  clear c3
  by_cases c4 : t411 = 0
  ·rw [if_pos c4] at H
   have c4b0 : (t411 == 0) = true := beq_iff_eq.mpr c4
   have c4b1 : (t411 != 0) = false := bne_eq_false_iff_eq.mpr c4
   clear c4
   obtain ⟨y412, hy412⟩ : ∃ y_ : List Int, y_ = (([2, 2013265918, 1] : List Int)) := ⟨_, rfl⟩
   replace H : ((cr1_Same.f k t398 y412).bind fun t415 => (if t415 = true then ((cr1_Same.f k t408 (([4, 9] : List Int))).bind fun t419 => (some t419)) else (none))) = some r := by first | (rw [hy412]; with_reducible exact H) | (have H2_ := (Option.bind_some _ _).symm.trans H; rw [hy412]; with_reducible exact H2_) | (have H2_ := (Option.bind_some _ _).symm.trans H; with_reducible exact H2_) | with_reducible exact H | (rw [hy412]; exact H) | exact H
   have Ny412 := Aside0.mk hy412
   clear hy412
   replace H := Option.bind_eq_some_iff.mp H
   obtain ⟨t415, A50, H⟩ := H
   replace H : (if t415 = true then ((cr1_Same.f k t408 (([4, 9] : List Int))).bind fun t419 => (some t419)) else (none)) = some r := H
   have A5 := Aside0.mk A50
   clear A50
   by_cases c6 : t415 = true
   ·subst c6
    have H1 : ((cr1_Same.f k t408 (([4, 9] : List Int))).bind fun t419 => (some t419)) = some r := by rw [if_pos rfl] at H; exact H
    clear H
    have H := H1
    clear H1
    obtain ⟨y416, hy416⟩ : ∃ y_ : List Int, y_ = (([4, 9] : List Int)) := ⟨_, rfl⟩
    replace H : ((cr1_Same.f k t408 y416).bind fun t419 => (some t419)) = some r := by first | (rw [hy416]; with_reducible exact H) | (have H2_ := (Option.bind_some _ _).symm.trans H; rw [hy416]; with_reducible exact H2_) | (have H2_ := (Option.bind_some _ _).symm.trans H; with_reducible exact H2_) | with_reducible exact H | (rw [hy416]; exact H) | exact H
    have Ny416 := Aside0.mk hy416
    clear hy416
    replace H := Option.bind_eq_some_iff.mp H
    obtain ⟨t419, A70, H⟩ := H
    replace H : (some t419) = some r := H
    have A7 := Aside0.mk A70
    clear A70
    obtain rfl := Option.some.inj H
    go_enter Try.func19, Try.ntmps19
    go_wp2_with (first | ((with_reducible refine gate_dst (N := 6) rfl ?_); (try (refine gate_guard (by rfl) ?_; dsimp only)); refine Kd.R_lit (Kd.int .u64) _ 49 ?hg (N := 6) ?hd (xs := ([1, 2] : List Int)) (inner := [.int .u64 1, .int .u64 2]) (ok := fun _ => True) (okp := fun _ => True) ?hr ?hp (fun _ hk => hk) trivial (Below.refl _ _) (Nat.le_refl _) (by simp) ?_; (case hd => rfl); (case hg => rfl); (case hr => first | (go_simp; done) | (go_simp; rfl)); (case hp => exact (Reps.one (show Kd.M (Kd.int .u64) _ _ _ 1 [.int .u64 1] from rfl) (Reps.one (show Kd.M (Kd.int .u64) _ _ _ 2 [.int .u64 2] from rfl) (Reps.none _ _)))); intro v396 w8 ho9 hb hg_ hnew_; clear hg_ hnew_; (first | rw [← Ny395.out] at ho9 | (simp only [Int.reduceToNat] at ho9; rw [← Ny395.out] at ho9)); have n0_ := A_ (Kd.R_lower ho9 (below_size hb_)); have n1_ := A_ (below_step hb_ hb); clear HB; have HO397 := n0_; have HB := n1_; clear n0_ n1_; clear hb ho9; obtain ⟨Ao10, co10, eo10⟩ := Kd.R_slice HO397.out; subst eo10) | ((with_reducible refine gate_callee (f := 15) rfl ?_); refine goesM_ (some 7) Try.func15 #[.int .u8 1, .slice Ao10 y395.length co10] ?_; (with_reducible refine (tree_Zero.calls k 1 (fun k_ => some k_ = (.slice Ao10 y395.length co10 : Value).ownBlock) _ _ y395 t398 t401 _ ?side1 A1.out).mono ?_); (case side1 => exact Kd.R_V (Kd.R_tight rfl (HO397.out))); rintro e w11 ⟨v399, rfl, ho0, hb⟩; refine ⟨_, rfl, ?_⟩; have n0_ := A_ (Kd.R_below (nR_ HO397) hb); have n1_ := A_ (Kd.V_lower (Kd.V_mono (ok' := fun k_ => True) ho0 (fun k_ hk_ => trivial)) (below_size hb_)); have n2_ := A_ (below_step hb_ hb); clear HO397 HB; have HO397 := n0_; have HO400 := n1_; have HB := n2_; clear n0_ n1_ n2_; (try clear hb); (try clear ho0)) | ((with_reducible refine gate_dst (N := 11) rfl ?_); (try (refine gate_guard (by rfl) ?_; dsimp only)); refine Kd.R_lit (Kd.int .u64) _ 49 ?hg (N := 11) ?hd (xs := ([0, 0, 1] : List Int)) (inner := [.int .u64 0, .int .u64 0, .int .u64 1]) (ok := fun _ => True) (okp := fun _ => True) ?hr ?hp (fun _ hk => hk) trivial (Below.refl _ _) (Nat.le_refl _) (by simp) ?_; (case hd => rfl); (case hg => rfl); (case hr => first | (go_simp; done) | (go_simp; rfl)); (case hp => exact (Reps.one (show Kd.M (Kd.int .u64) _ _ _ 0 [.int .u64 0] from rfl) (Reps.one (show Kd.M (Kd.int .u64) _ _ _ 0 [.int .u64 0] from rfl) (Reps.one (show Kd.M (Kd.int .u64) _ _ _ 1 [.int .u64 1] from rfl) (Reps.none _ _))))); intro v403 w12 ho13 hb hg_ hnew_; clear hg_ hnew_; (first | rw [← Ny402.out] at ho13 | (simp only [Int.reduceToNat] at ho13; rw [← Ny402.out] at ho13)); have n0_ := A_ (Kd.R_elder' (nR_ HO397) (Kd.R_base ho13) hb); have n1_ := A_ (Kd.V_elder' (nV_ HO400) (Kd.R_base ho13) hb); have n2_ := A_ (Kd.R_lower (Kd.R_new' ho13 (Kd.R_lt (nR_ HO397))) (below_size hb_)); have n3_ := A_ (below_step hb_ hb); clear HO397 HO400 HB; have HO397 := n0_; have HO400 := n1_; have HO404 := n2_; have HB := n3_; clear n0_ n1_ n2_ n3_; clear hb ho13) | ((with_reducible refine gate_dst (N := 12) rfl ?_); (try (refine gate_guard (by rfl) ?_; dsimp only)); refine Kd.R_lit (Kd.int .u64) _ 49 ?hg (N := 12) ?hd (xs := ([2, 3] : List Int)) (inner := [.int .u64 2, .int .u64 3]) (ok := fun _ => True) (okp := fun _ => True) ?hr ?hp (fun _ hk => hk) trivial (Below.refl _ _) (Nat.le_refl _) (by simp) ?_; (case hd => rfl); (case hg => rfl); (case hr => first | (go_simp; done) | (go_simp; rfl)); (case hp => exact (Reps.one (show Kd.M (Kd.int .u64) _ _ _ 2 [.int .u64 2] from rfl) (Reps.one (show Kd.M (Kd.int .u64) _ _ _ 3 [.int .u64 3] from rfl) (Reps.none _ _)))); intro v406 w14 ho15 hb hg_ hnew_; clear hg_ hnew_; (first | rw [← Ny405.out] at ho15 | (simp only [Int.reduceToNat] at ho15; rw [← Ny405.out] at ho15)); have n0_ := A_ (Kd.R_elder' (nR_ HO397) (Kd.R_base ho15) hb); have n1_ := A_ (Kd.V_elder' (nV_ HO400) (Kd.R_base ho15) hb); have n2_ := A_ (Kd.R_elder' (nR_ HO404) (Kd.R_base ho15) hb); have n3_ := A_ (Kd.R_lower (Kd.R_new' (Kd.R_new' ho15 (Kd.R_lt (nR_ HO397))) (Kd.R_lt (nR_ HO404))) (below_size hb_)); have n4_ := A_ (below_step hb_ hb); clear HO397 HO400 HO404 HB; have HO397 := n0_; have HO400 := n1_; have HO404 := n2_; have HO407 := n3_; have HB := n4_; clear n0_ n1_ n2_ n3_ n4_; clear hb ho15; obtain ⟨Ao16, co16, eo16⟩ := Kd.R_slice HO404.out; subst eo16; obtain ⟨Ao17, co17, eo17⟩ := Kd.R_slice HO407.out; subst eo17) | ((with_reducible refine gate_callee (f := 20) rfl ?_); refine goesM_ (some 13) Try.func20 #[.int .u8 1, .slice Ao16 y402.length co16, .slice Ao17 y405.length co17] ?_; (with_reducible refine (tree_Values.calls k 1 (fun k_ => some k_ = (.slice Ao16 y402.length co16 : Value).ownBlock) _ _ y402 (fun k_ => some k_ = (.slice Ao17 y405.length co17 : Value).ownBlock) _ _ y405 t408 t411 _ ?side1 ?side2 A2.out).mono ?_); (case side1 => exact Kd.R_V (Kd.R_tight rfl (HO404.out))); (case side2 => exact Kd.R_V (Kd.R_tight rfl (HO407.out))); rintro e w18 ⟨v409, rfl, ho0, hb⟩; refine ⟨_, rfl, ?_⟩; have n0_ := A_ (Kd.R_elder' (nR_ HO397) (Kd.R_base ho0) hb); have n1_ := A_ (Kd.V_elder' (nV_ HO400) (Kd.R_base ho0) hb); have n2_ := A_ (Kd.R_elder' (nR_ HO404) (Kd.R_base ho0) hb); have n3_ := A_ (Kd.R_elder' (nR_ HO407) (Kd.R_base ho0) hb); have n4_ := A_ (Kd.R_lower (Kd.R_new' (Kd.R_new' (Kd.R_new' (Kd.R_mono (ok' := fun k_ => True) ho0 (fun _ hk_ => trivial)) (Kd.R_lt (nR_ HO397))) (Kd.R_lt (nR_ HO404))) (Kd.R_lt (nR_ HO407))) (below_size hb_)); have n5_ := A_ (below_step hb_ hb); clear HO397 HO400 HO404 HO407 HB; have HO397 := n0_; have HO400 := n1_; have HO404 := n2_; have HO407 := n3_; have HO410 := n4_; have HB := n5_; clear n0_ n1_ n2_ n3_ n4_ n5_; (try clear hb); (try clear ho0)) | ((with_reducible refine gate_dst (N := 24) rfl ?_); (try (refine gate_guard (by rfl) ?_; dsimp only)); refine Kd.R_lit (Kd.int .u64) _ 49 ?hg (N := 24) ?hd (xs := ([2, 2013265918, 1] : List Int)) (inner := [.int .u64 2, .int .u64 2013265918, .int .u64 1]) (ok := fun _ => True) (okp := fun _ => True) ?hr ?hp (fun _ hk => hk) trivial (Below.refl _ _) (Nat.le_refl _) (by simp) ?_; (case hd => rfl); (case hg => rfl); (case hr => first | (go_simp; done) | (go_simp; rfl)); (case hp => exact (Reps.one (show Kd.M (Kd.int .u64) _ _ _ 2 [.int .u64 2] from rfl) (Reps.one (show Kd.M (Kd.int .u64) _ _ _ 2013265918 [.int .u64 2013265918] from rfl) (Reps.one (show Kd.M (Kd.int .u64) _ _ _ 1 [.int .u64 1] from rfl) (Reps.none _ _))))); intro v413 w19 ho20 hb hg_ hnew_; clear hg_ hnew_; (first | rw [← Ny412.out] at ho20 | (simp only [Int.reduceToNat] at ho20; rw [← Ny412.out] at ho20)); have n0_ := A_ (Kd.R_elder' (nR_ HO397) (Kd.R_base ho20) hb); have n1_ := A_ (Kd.V_elder' (nV_ HO400) (Kd.R_base ho20) hb); have n2_ := A_ (Kd.R_elder' (nR_ HO404) (Kd.R_base ho20) hb); have n3_ := A_ (Kd.R_elder' (nR_ HO407) (Kd.R_base ho20) hb); have n4_ := A_ (Kd.R_elder' (nR_ HO410) (Kd.R_base ho20) hb); have n5_ := A_ (Kd.R_lower (Kd.R_new' (Kd.R_new' (Kd.R_new' (Kd.R_new' ho20 (Kd.R_lt (nR_ HO397))) (Kd.R_lt (nR_ HO404))) (Kd.R_lt (nR_ HO407))) (Kd.R_lt (nR_ HO410))) (below_size hb_)); have n6_ := A_ (below_step hb_ hb); clear HO397 HO400 HO404 HO407 HO410 HB; have HO397 := n0_; have HO400 := n1_; have HO404 := n2_; have HO407 := n3_; have HO410 := n4_; have HO414 := n5_; have HB := n6_; clear n0_ n1_ n2_ n3_ n4_ n5_ n6_; clear hb ho20; obtain ⟨Ao21, co21, eo21⟩ := Kd.V_slice HO400.out; subst eo21; obtain ⟨Ao22, co22, eo22⟩ := Kd.R_slice HO414.out; subst eo22) | (go_at_call 14; (with_reducible refine (cr1_Same.calls k _ _ t398 _ _ y412 true _ ?side1 ?side2 ?side3 ?side4 A5.out).mono ?_); (case side1 => repeat (first | exact (Kd.V_reads' HO400.out).2.2 | (with_reducible refine Kd.C_alloc ?_ _) | (with_reducible refine Kd.C_drewN ?_ _) | (with_reducible refine Kd.C_drew ?_))); (case side2 => exact (Kd.V_reads' HO400.out).2.1); (case side3 => repeat (first | exact (Kd.R_reads' HO414.out).2.2 | (with_reducible refine Kd.C_alloc ?_ _) | (with_reducible refine Kd.C_drewN ?_ _) | (with_reducible refine Kd.C_drew ?_))); (case side4 => exact (Kd.R_reads' HO414.out).2.1); rintro e w' ⟨rfl, ⟨nd, rfl⟩⟩) | ((with_reducible refine gate_dst (N := 29) rfl ?_); (try (refine gate_guard (by rfl) ?_; dsimp only)); refine Kd.R_lit (Kd.int .u64) _ 49 ?hg (N := 29) ?hd (xs := ([4, 9] : List Int)) (inner := [.int .u64 4, .int .u64 9]) (ok := fun _ => True) (okp := fun _ => True) ?hr ?hp (fun _ hk => hk) trivial (Below.refl _ _) (Nat.le_refl _) (by simp) ?_; (case hd => rfl); (case hg => rfl); (case hr => first | (go_simp; done) | (go_simp; rfl)); (case hp => exact (Reps.one (show Kd.M (Kd.int .u64) _ _ _ 4 [.int .u64 4] from rfl) (Reps.one (show Kd.M (Kd.int .u64) _ _ _ 9 [.int .u64 9] from rfl) (Reps.none _ _)))); intro v417 w23 ho24 hb hg_ hnew_; clear hg_ hnew_; (first | rw [← Ny416.out] at ho24 | (simp only [Int.reduceToNat] at ho24; rw [← Ny416.out] at ho24)); have n0_ := A_ (Kd.R_elder' (nR_ HO397) (Kd.R_base ho24) hb); have n1_ := A_ (Kd.V_elder' (nV_ HO400) (Kd.R_base ho24) hb); have n2_ := A_ (Kd.R_elder' (nR_ HO404) (Kd.R_base ho24) hb); have n3_ := A_ (Kd.R_elder' (nR_ HO407) (Kd.R_base ho24) hb); have n4_ := A_ (Kd.R_elder' (nR_ HO410) (Kd.R_base ho24) hb); have n5_ := A_ (Kd.R_elder' (nR_ HO414) (Kd.R_base ho24) hb); have n6_ := A_ (Kd.R_lower (Kd.R_new' (Kd.R_new' (Kd.R_new' (Kd.R_new' (Kd.R_new' ho24 (Kd.R_lt (nR_ HO397))) (Kd.R_lt (nR_ HO404))) (Kd.R_lt (nR_ HO407))) (Kd.R_lt (nR_ HO410))) (Kd.R_lt (nR_ HO414))) (below_size hb_)); have n7_ := A_ (below_step hb_ hb); clear HO397 HO400 HO404 HO407 HO410 HO414 HB; have HO397 := n0_; have HO400 := n1_; have HO404 := n2_; have HO407 := n3_; have HO410 := n4_; have HO414 := n5_; have HO418 := n6_; have HB := n7_; clear n0_ n1_ n2_ n3_ n4_ n5_ n6_ n7_; clear hb ho24; obtain ⟨Ao25, co25, eo25⟩ := Kd.R_slice HO410.out; subst eo25; obtain ⟨Ao26, co26, eo26⟩ := Kd.R_slice HO418.out; subst eo26) | (go_at_call 14; (with_reducible refine (cr1_Same.calls k _ _ t408 _ _ y416 t419 _ ?side1 ?side2 ?side3 ?side4 A7.out).mono ?_); (case side1 => repeat (first | exact (Kd.R_reads' HO410.out).2.2 | (with_reducible refine Kd.C_alloc ?_ _) | (with_reducible refine Kd.C_drewN ?_ _) | (with_reducible refine Kd.C_drew ?_))); (case side2 => exact (Kd.R_reads' HO410.out).2.1); (case side3 => repeat (first | exact (Kd.R_reads' HO418.out).2.2 | (with_reducible refine Kd.C_alloc ?_ _) | (with_reducible refine Kd.C_drewN ?_ _) | (with_reducible refine Kd.C_drew ?_))); (case side4 => exact (Kd.R_reads' HO418.out).2.1); rintro e w' ⟨rfl, ⟨nd, rfl⟩⟩))
    go_ret
    exact ⟨fr_, hb_⟩
   ·replace c6 := Bool.eq_false_iff.mpr c6
    subst c6
    have H1 : (none) = some r := by rw [if_neg (show ¬ (false = true) by decide)] at H; exact H
    clear H
    have H := H1
    clear H1
    exact absurd H (by simp)
  ·rw [if_neg c4] at H
   exact absurd H (by simp)
 ·rw [if_neg c3] at H
  exact absurd H (by simp)
/-! ### cr1_P: function 38 -/
def cr1_P.f (a0 : Int) : Option (Int) := if a0 = 1 then (some 2013265921) else (if a0 = 2 then (some 18446744069414584321) else (some 0))
set_option maxHeartbeats 8000000 in
set_option maxRecDepth 100000 in
theorem cr1_P.calls (a0 : Int) (r : Int) (w : World) (h : cr1_P.f a0 = some r) :
  Calls Try.prog 38 #[.int .u8 a0] w fun e w' => e = .returned (.int .u64 r) ∧ Drawn0 w w' := by
 have H : (if a0 = 1 then (some 2013265921) else (if a0 = 2 then (some 18446744069414584321) else (some 0))) = some r := h
 clear h
 by_cases c2 : a0 = 1
 ·rw [if_pos c2] at H
  have c2b0 : (a0 == 1) = true := beq_iff_eq.mpr c2
  have c2b1 : (a0 != 1) = false := bne_eq_false_iff_eq.mpr c2
  clear c2
  obtain rfl := Option.some.inj H
  go_enter Try.func38, Try.ntmps38
  go_wp2
  go_ret
  exact ⟨fs_, by repeat (first | exact Drawn0.refl _ | apply Drawn0.step)⟩
 ·rw [if_neg c2] at H
  have c2b0 : (a0 == 1) = false := beq_eq_false_iff_ne.mpr c2
  have c2b1 : (a0 != 1) = true := bne_iff_ne.mpr c2
  by_cases c3 : a0 = 2
  ·rw [if_pos c3] at H
   have c3b0 : (a0 == 2) = true := beq_iff_eq.mpr c3
   have c3b1 : (a0 != 2) = false := bne_eq_false_iff_eq.mpr c3
   clear c3
   obtain rfl := Option.some.inj H
   go_enter Try.func38, Try.ntmps38
   go_wp2
   go_ret
   exact ⟨fs_, by repeat (first | exact Drawn0.refl _ | apply Drawn0.step)⟩
  ·rw [if_neg c3] at H
   have c3b0 : (a0 == 2) = false := beq_eq_false_iff_ne.mpr c3
   have c3b1 : (a0 != 2) = true := bne_iff_ne.mpr c3
   obtain rfl := Option.some.inj H
   go_enter Try.func38, Try.ntmps38
   go_wp2
   go_ret
   exact ⟨fs_, by repeat (first | exact Drawn0.refl _ | apply Drawn0.step)⟩
/-! ### cr1_In: function 41 -/
def cr1_In.l0 : Nat → List Int → Int → Int → Option (Bool)
 | 0, _, _, _ => none
 | k + 1, x1, x5, x6 => if x6 < (x1.length : Int) then (if 0 ≤ x6 then (if (rd x1 x6) ≥ x5 then (some false) else (cr1_In.l0 k x1 x5 (wrap64 (x6 + 1)))) else (none)) else (some (x5 != 0))
def cr1_In.f (k : Nat) (a0 : Int) (l1 : List Int) : Option (Bool) := (cr1_P.f a0).bind fun t420 => (cr1_In.l0 k l1 t420 0)
theorem cr1_In.mono_l : ∀ k, (∀ y0 y1 y2, LeO (cr1_In.l0 k y0 y1 y2) (cr1_In.l0 (k + 1) y0 y1 y2))
 | 0 => fun _ _ _ r h => by simp [cr1_In.l0] at h
 | k + 1 => by
  have ih0 := cr1_In.mono_l k
  ·intro y0 y1 y2
   unfold cr1_In.l0
   repeat' first
   | (with_reducible exact ih0 _ _ _)
   | (with_reducible exact LeO.refl _)
   | (with_reducible exact LeO.none _)
   | (with_reducible refine LeO.ite ?_ ?_)
   | (with_reducible refine LeO.bind ?_ (fun _ => ?_))
   | exact ih0 _ _ _
   | exact LeO.none _
   | refine LeO.ite ?_ ?_
   | refine LeO.bind ?_ (fun _ => ?_)
theorem cr1_In.mono : ∀ a0 a1 k, LeO (cr1_In.f k a0 a1) (cr1_In.f (k + 1) a0 a1) := by
 intro a0 a1 k
 have ih0 := cr1_In.mono_l k
 unfold cr1_In.f
 repeat' first
   | (with_reducible exact ih0 _ _ _)
   | (with_reducible exact LeO.refl _)
   | (with_reducible exact LeO.none _)
   | (with_reducible refine LeO.ite ?_ ?_)
   | (with_reducible refine LeO.bind ?_ (fun _ => ?_))
   | exact ih0 _ _ _
   | exact LeO.none _
   | refine LeO.ite ?_ ?_
   | refine LeO.bind ?_ (fun _ => ?_)
set_option maxHeartbeats 8000000 in
set_option maxRecDepth 100000 in
theorem cr1_In.calls (k : Nat) (a0 : Int) (A1 : Option Addr) (c1 : Nat) (l1 : List Int) (r : Bool) (w : World) (hr1 : Kd.C (Kd.int .u64) w A1 l1.length l1) (hc1 : l1.length ≤ c1) (h : cr1_In.f k a0 l1 = some r) :
  Calls Try.prog 41 #[.int .u8 a0, .slice A1 l1.length c1] w fun e w' => e = .returned (.bool r) ∧ Drawn0 w w' := by
 have HR1 := Aside0.mk hr1
 have HC1 := Aside0.mk hc1
 clear hr1 hc1
 have H : ((cr1_P.f a0).bind fun t420 => (cr1_In.l0 k l1 t420 0)) = some r := h
 clear h
 replace H := Option.bind_eq_some_iff.mp H
 obtain ⟨t420, A30, H⟩ := H
 replace H : (cr1_In.l0 k l1 t420 0) = some r := H
 have A3 := Aside0.mk A30
 clear A30
 have H' := Aside0.mk H
 clear H
 go_enter Try.func41, Try.ntmps41
 go_wp2_with (first | ((with_reducible refine gate_callee (f := 38) rfl ?_); refine goesM_ (some 8) Try.func38 #[.int .u8 a0] ?_; (with_reducible refine (cr1_P.calls a0 t420 _ A3.out).mono ?_); rintro e w' ⟨rfl, ⟨nd, rfl⟩⟩; refine ⟨_, rfl, ?_⟩))
 go_loopg [6] k (fun kq v6 w' => ∃ (x6_1 : Int), v6 = .int .i64 x6_1 ∧ Aside0 (cr1_In.l0 kq l1 t420 x6_1 = some r) ∧ Aside0 (kq ≤ k) ∧ Drawn0 w w')
 case atStart => exact ⟨(0), (fs_), H', ⟨Nat.le_refl _⟩, by repeat (first | exact Drawn0.refl _ | apply Drawn0.step)⟩
 case round =>
  clear H'
  try clear c1
  try clear p2
  try clear c3
  obtain ⟨x6_1, rfl, HA, HK1, ⟨m1, rfl⟩⟩ := hrel
  cases gk with
  | zero => exact absurd HA.out (by simp [cr1_In.l0])
  | succ k1 =>
   have H := HA.out
   clear HA
   simp only [cr1_In.l0] at H
   by_cases c4 : x6_1 < (l1.length : Int)
   ·rw [if_pos c4] at H
    have c4b0 : decide (x6_1 < (l1.length : Int)) = true := decide_eq_true c4
    clear c4
    by_cases c5 : 0 ≤ x6_1
    ·rw [if_pos c5] at H
     have c5b0 : decide (0 ≤ x6_1) = true := decide_eq_true c5
     clear c5
     have HC6 := Aside0.mk H
     clear H
     have p421 : 0 ≤ (x6_1 : Int) := of_decide_eq_true (by first | (with_reducible assumption) | assumption)
     have q421 : x6_1 < (l1.length : Int) := of_decide_eq_true (by first | (with_reducible assumption) | assumption)
     obtain ⟨ad421, e421, hx421_0⟩ := Kd.at_int HR1.out x6_1 p421 q421
     cases e421
     replace p421 := eq_true p421
     replace q421 := eq_true q421
     go_upto_if 20 with (fail)
     have H := HC6.out
     clear HC6
     by_cases c7 : (rd l1 x6_1) ≥ t420
     ·rw [if_pos c7] at H
      have c7b0 : decide (t420 ≤ (rd l1 x6_1)) = true := decide_eq_true c7
      clear c7
      (first | rw [c7b0] | (simp only [i64_w, i32_w]; first | rw [c7b0]) | skip)
      obtain rfl := Option.some.inj H
      go_wp2
      go_ret
      exact ⟨fs_, by repeat (first | exact Drawn0.refl _ | apply Drawn0.step)⟩
     ·rw [if_neg c7] at H
      have c7b0 : decide (t420 ≤ (rd l1 x6_1)) = false := decide_eq_false c7
      clear c7
      (first | rw [c7b0] | (simp only [i64_w, i32_w]; first | rw [c7b0]) | skip)
      have H' := Aside0.mk H
      clear H
      go_wp2
      go_roundg k1
      case measure => have := HK1.out; omega
      case rel => exact ⟨(wrap64 (x6_1 + 1)), (fs_), H', ⟨by have := HK1.out; omega⟩, by repeat (first | exact Drawn0.refl _ | apply Drawn0.step)⟩
    ·rw [if_neg c5] at H
     exact absurd H (by simp)
   ·rw [if_neg c4] at H
    have c4b0 : decide (x6_1 < (l1.length : Int)) = false := decide_eq_false c4
    clear c4
    obtain rfl := Option.some.inj H
    go_wp2
    go_ret
    exact ⟨fs_, by repeat (first | exact Drawn0.refl _ | apply Drawn0.step)⟩
end Go.Proofs.Ytkaongcpekhbdaa.PTreeFresh
