/- The Go functions as Lean functions, each with the proof that its call comes to just that; written by a program of this session, by the words of the print. -/
import Derived.Test.YteofgcmgncaojaaPEuclidRowsx0
import Derived.Test.YteofgcmgncaojaaPEuclidRowsx1
import Derived.Test.YteofgcmgncaojaaPEuclidRowsx9
import Derived.Test.YteofgcmgncaojaaPEuclidRowsx15
namespace Go.Proofs.Yteofgcmgncaojaa.PEuclidRows
open Go.RowKit Go.Proofs.YteofgcmgncaojaaW.PrintWords Go.Proofs.YteofgcmgncaojaaW.PrintLast Go.Proofs.YteofgcmgncaojaaW.PrintMore
attribute [local go_sem] max2_int min2_int max_two min_two max_three min_three max_four min_four   -- for this text's walks alone
set_option linter.unusedVariables false
set_option linter.unusedSimpArgs false
/-! ### conclavelaw05_EuclidRows: function 6 -/
def conclavelaw05_EuclidRows.f (k : Nat) (a0 : Int) (l1_0 : List Int) (l1_1 : List Int) (a2 : Int) : Option (Bool) := (euclid_Partial.f k a0 l1_0 l1_1 a2).bind fun bt609 => ((cr5_Partial.f k a0 l1_0 l1_1 a2).bind fun bt619 => ((cr1_Same.f k bt609.1 bt619.1).bind fun t629 => (if t629 = true then ((cr1_Same.f k bt609.2.1 bt619.2.1).bind fun t630 => (if t630 = true then ((cr1_Same.f k bt609.2.2.1 bt619.2.2.1).bind fun t631 => (if t631 = true then (if bt609.2.2.2 = bt619.2.2.2 then ((conclavelaw05_anchored.f k).bind fun t632 => (some t632)) else (none)) else (none))) else (none))) else (none))))
theorem conclavelaw05_EuclidRows.mono : ∀ a0 a1 a2 a3 k, LeO (conclavelaw05_EuclidRows.f k a0 a1 a2 a3) (conclavelaw05_EuclidRows.f (k + 1) a0 a1 a2 a3) := by
 intro a0 a1 a2 a3 k
 unfold conclavelaw05_EuclidRows.f
 repeat' first
   | (with_reducible exact conclavelaw05_anchored.mono _)
   | (with_reducible exact cr1_Same.mono _ _ _)
   | (with_reducible exact cr5_Partial.mono _ _ _ _ _)
   | (with_reducible exact euclid_Partial.mono _ _ _ _ _)
   | (with_reducible exact LeO.refl _)
   | (with_reducible exact LeO.none _)
   | (with_reducible refine LeO.ite ?_ ?_)
   | (with_reducible refine LeO.bind ?_ (fun _ => ?_))
   | exact conclavelaw05_anchored.mono _
   | exact cr1_Same.mono _ _ _
   | exact cr5_Partial.mono _ _ _ _ _
   | exact euclid_Partial.mono _ _ _ _ _
   | exact LeO.none _
   | refine LeO.ite ?_ ?_
   | refine LeO.bind ?_ (fun _ => ?_)
set_option maxHeartbeats 8000000 in
set_option maxRecDepth 100000 in
theorem conclavelaw05_EuclidRows.calls (k : Nat) (a0 : Int) (A1_0 : Option Addr) (c1_0 : Nat) (l1_0 : List Int) (A1_1 : Option Addr) (c1_1 : Nat) (l1_1 : List Int) (a2 : Int) (r : Bool) (w : World) (hr1_0 : Kd.C (Kd.int .u64) w A1_0 l1_0.length l1_0) (hc1_0 : l1_0.length ≤ c1_0) (hr1_1 : Kd.C (Kd.int .u64) w A1_1 l1_1.length l1_1) (hc1_1 : l1_1.length ≤ c1_1) (h : conclavelaw05_EuclidRows.f k a0 l1_0 l1_1 a2 = some r) :
  Calls Try.prog 6 #[.int .u8 a0, .agg #[.slice A1_0 l1_0.length c1_0, .slice A1_1 l1_1.length c1_1], .int .i64 a2] w fun e w' => e = .returned (.bool r) ∧ Below w.heap.size w w' := by
 have hu35 := Try.underlying35
 have HR1_0 := Aside0.mk hr1_0
 have HC1_0 := Aside0.mk hc1_0
 clear hr1_0 hc1_0
 have HR1_1 := Aside0.mk hr1_1
 have HC1_1 := Aside0.mk hc1_1
 clear hr1_1 hc1_1
 have HB := A_ (Below.refl w.heap.size w)
 have H : ((euclid_Partial.f k a0 l1_0 l1_1 a2).bind fun bt609 => ((cr5_Partial.f k a0 l1_0 l1_1 a2).bind fun bt619 => ((cr1_Same.f k bt609.1 bt619.1).bind fun t629 => (if t629 = true then ((cr1_Same.f k bt609.2.1 bt619.2.1).bind fun t630 => (if t630 = true then ((cr1_Same.f k bt609.2.2.1 bt619.2.2.1).bind fun t631 => (if t631 = true then (if bt609.2.2.2 = bt619.2.2.2 then ((conclavelaw05_anchored.f k).bind fun t632 => (some t632)) else (none)) else (none))) else (none))) else (none))))) = some r := h
 clear h
 replace H := Option.bind_eq_some_iff.mp H
 obtain ⟨⟨t609, t612, t615, t618⟩, A40, H⟩ := H
 (try dsimp only at H)
 have A4 := Aside0.mk A40
 clear A40
 replace H := Option.bind_eq_some_iff.mp H
 obtain ⟨⟨t619, t620, t621, t622⟩, A50, H⟩ := H
 (try dsimp only at H)
 have A5 := Aside0.mk A50
 clear A50
 replace H := Option.bind_eq_some_iff.mp H
 obtain ⟨t629, A60, H⟩ := H
 (try dsimp only at H)
 have A6 := Aside0.mk A60
 clear A60
 by_cases c7 : t629 = true
 ·subst c7
  have H1 : ((cr1_Same.f k t612 t620).bind fun t630 => (if t630 = true then ((cr1_Same.f k t615 t621).bind fun t631 => (if t631 = true then (if t618 = t622 then ((conclavelaw05_anchored.f k).bind fun t632 => (some t632)) else (none)) else (none))) else (none))) = some r := by rw [if_pos rfl] at H; exact H
  clear H
  have H := H1
  clear H1
  replace H := Option.bind_eq_some_iff.mp H
  obtain ⟨t630, A80, H⟩ := H
  replace H : (if t630 = true then ((cr1_Same.f k t615 t621).bind fun t631 => (if t631 = true then (if t618 = t622 then ((conclavelaw05_anchored.f k).bind fun t632 => (some t632)) else (none)) else (none))) else (none)) = some r := H
  have A8 := Aside0.mk A80
  clear A80
  by_cases c9 : t630 = true
  ·subst c9
   have H1 : ((cr1_Same.f k t615 t621).bind fun t631 => (if t631 = true then (if t618 = t622 then ((conclavelaw05_anchored.f k).bind fun t632 => (some t632)) else (none)) else (none))) = some r := by rw [if_pos rfl] at H; exact H
   clear H
   have H := H1
   clear H1
   replace H := Option.bind_eq_some_iff.mp H
   obtain ⟨t631, A100, H⟩ := H
   replace H : (if t631 = true then (if t618 = t622 then ((conclavelaw05_anchored.f k).bind fun t632 => (some t632)) else (none)) else (none)) = some r := H
   have A10 := Aside0.mk A100
   clear A100
   by_cases c11 : t631 = true
   ·subst c11
    have H1 : (if t618 = t622 then ((conclavelaw05_anchored.f k).bind fun t632 => (some t632)) else (none)) = some r := by rw [if_pos rfl] at H; exact H
    clear H
    have H := H1
    clear H1
    by_cases c12 : t618 = t622
    ·rw [if_pos c12] at H
     have c12b0 : (t618 == t622) = true := beq_iff_eq.mpr c12
     have c12b1 : (t618 != t622) = false := bne_eq_false_iff_eq.mpr c12
     clear c12
     replace H := Option.bind_eq_some_iff.mp H
     obtain ⟨t632, A130, H⟩ := H
     replace H : (some t632) = some r := H
     have A13 := Aside0.mk A130
     clear A130
     obtain rfl := Option.some.inj H
     go_enter Try.func6, Try.ntmps6
     go_wp2_with (first | ((with_reducible refine gate_dst (N := 4) rfl ?_); refine box_event ?hg (N := 4) ?hd (cs := #[.slice A1_0 l1_0.length c1_0, .slice A1_1 l1_1.length c1_1]) (t := 35) ?hr ?_; (case hd => rfl); (case hg => rfl); (case hr => first | (go_simp; done) | (go_simp; rfl)); intro gb608 hg w14 hbox hb; have n0_ := A_ (below_step hb_ hb); have n1_ := A_ (hbox); have n2_ := A_ ((by rw [hg]; exact (below_size hb_) : w.heap.size ≤ gb608)); have n3_ := A_ ((by rw [hg]; exact (below_size hb_) : w.heap.size ≤ gb608)); clear HB; have HB := n0_; have BK608 := n1_; have GW608 := n2_; have GE608 := n3_; clear n0_ n1_ n2_ n3_; clear hb hbox hg; have hcz15_0 : w14.cell? ⟨gb608, 0, none⟩ = some (.slice A1_0 l1_0.length c1_0) := (blk_cell BK608.out 0).trans rfl; have hcz15_1 : w14.cell? ⟨gb608, 1, none⟩ = some (.slice A1_1 l1_1.length c1_1) := (blk_cell BK608.out 1).trans rfl; have hfz15_0 := blk_frozen BK608.out 0; have hfz15_1 := blk_frozen BK608.out 1) | ((with_reducible refine gate_callee (f := 21) rfl ?_); refine goesM_ (some 24) Try.func21 #[.int .u8 a0, .slice A1_0 l1_0.length c1_0, .slice A1_1 l1_1.length c1_1, .int .i64 a2] ?_; (with_reducible refine (euclid_Partial.calls k a0 (fun k_ => k_ < w.heap.size) _ _ l1_0 (fun k_ => k_ < w.heap.size) _ _ l1_1 a2 t609 t612 t615 t618 _ ?side1 ?side2 A4.out).mono ?_); (case side1 => exact Kd.V_mk HC1_0.out (Kd.F_below (Kd.C_F (Kd.heap_int .u64) HR1_0.out) hs_)); (case side2 => exact Kd.V_mk HC1_1.out (Kd.F_below (Kd.C_F (Kd.heap_int .u64) HR1_1.out) hs_)); rintro e w16 ⟨v610, v613, v616, rfl, ho0, ho1, ho2, hb⟩; refine ⟨_, rfl, ?_⟩; have n0_ := A_ (Kd.R_lower (Kd.R_mono (ok' := fun k_ => True) ho0 (fun _ hk_ => trivial)) (below_size hs_)); have n1_ := A_ (Kd.R_lower (Kd.R_mono (ok' := fun k_ => True) ho1 (fun _ hk_ => trivial)) (below_size hs_)); have n2_ := A_ (Kd.R_lower (Kd.R_mono (ok' := fun k_ => True) ho2 (fun _ hk_ => trivial)) (below_size hs_)); have n3_ := A_ (blk_below (g := gb608) (o := .cells #[.slice A1_0 l1_0.length c1_0, .slice A1_1 l1_1.length c1_1] 35 (0, 0)) (nb_ BK608) hb); have n4_ := A_ (below_step hs_ hb); clear BK608 HB; have HO611 := n0_; have HO614 := n1_; have HO617 := n2_; have BK608 := n3_; have HB := n4_; clear n0_ n1_ n2_ n3_ n4_; (try clear hb); (try clear ho0); (try clear ho1); (try clear ho2); have hcz17_0 : w16.cell? ⟨gb608, 0, none⟩ = some (.slice A1_0 l1_0.length c1_0) := (blk_cell BK608.out 0).trans rfl; have hcz17_1 : w16.cell? ⟨gb608, 1, none⟩ = some (.slice A1_1 l1_1.length c1_1) := (blk_cell BK608.out 1).trans rfl; have hfz17_0 := blk_frozen BK608.out 0; have hfz17_1 := blk_frozen BK608.out 1) | ((with_reducible refine gate_callee (f := 22) rfl ?_); refine goesM_ (some 36) Try.func22 #[.int .u8 a0, .slice A1_0 l1_0.length c1_0, .slice A1_1 l1_1.length c1_1, .int .i64 a2] ?_; (with_reducible refine (cr5_Partial.calls k a0 _ _ l1_0 _ _ l1_1 a2 t619 t620 t621 t622 _ ?side1 ?side2 ?side3 ?side4 A5.out).mono ?_); (case side1 => repeat (first | exact (Kd.C_below HR1_0.out HB.out) | (with_reducible refine Kd.C_alloc ?_ _) | (with_reducible refine Kd.C_drewN ?_ _) | (with_reducible refine Kd.C_drew ?_))); (case side2 => exact HC1_0.out); (case side3 => repeat (first | exact (Kd.C_below HR1_1.out HB.out) | (with_reducible refine Kd.C_alloc ?_ _) | (with_reducible refine Kd.C_drewN ?_ _) | (with_reducible refine Kd.C_drew ?_))); (case side4 => exact HC1_1.out); rintro e w18 ⟨v623, v625, v627, rfl, ho0, ho1, ho2, hb⟩; refine ⟨_, rfl, ?_⟩; have n0_ := A_ (Kd.R_below (nR_ HO611) hb); have n1_ := A_ (Kd.R_below (nR_ HO614) hb); have n2_ := A_ (Kd.R_below (nR_ HO617) hb); have n3_ := A_ (Kd.R_lower (Kd.R_mono (ok' := fun _ => True) ho0 (fun _ _ => trivial)) (below_size hs_)); have n4_ := A_ (Kd.R_lower (Kd.R_mono (ok' := fun _ => True) ho1 (fun _ _ => trivial)) (below_size hs_)); have n5_ := A_ (Kd.R_lower (Kd.R_mono (ok' := fun _ => True) ho2 (fun _ _ => trivial)) (below_size hs_)); have n6_ := A_ (blk_below (g := gb608) (o := .cells #[.slice A1_0 l1_0.length c1_0, .slice A1_1 l1_1.length c1_1] 35 (0, 0)) (nb_ BK608) hb); have n7_ := A_ (below_step hs_ hb); clear HO611 HO614 HO617 BK608 HB; have HO611 := n0_; have HO614 := n1_; have HO617 := n2_; have HO624 := n3_; have HO626 := n4_; have HO628 := n5_; have BK608 := n6_; have HB := n7_; clear n0_ n1_ n2_ n3_ n4_ n5_ n6_ n7_; (try clear hb); (try clear ho0); (try clear ho1); (try clear ho2); obtain ⟨Ao19, co19, eo19⟩ := Kd.R_slice HO611.out; subst eo19; obtain ⟨Ao20, co20, eo20⟩ := Kd.R_slice HO624.out; subst eo20) | ((with_reducible refine gate_callee (f := 14) rfl ?_); refine goesM_ (some 43) Try.func14 #[.slice Ao19 t609.length co19, .slice Ao20 t619.length co20] ?_; (with_reducible refine (cr1_Same.calls k _ _ t609 _ _ t619 true _ ?side1 ?side2 ?side3 ?side4 A6.out).mono ?_); (case side1 => repeat (first | exact (Kd.R_reads' HO611.out).2.2 | (with_reducible refine Kd.C_alloc ?_ _) | (with_reducible refine Kd.C_drewN ?_ _) | (with_reducible refine Kd.C_drew ?_))); (case side2 => exact (Kd.R_reads' HO611.out).2.1); (case side3 => repeat (first | exact (Kd.R_reads' HO624.out).2.2 | (with_reducible refine Kd.C_alloc ?_ _) | (with_reducible refine Kd.C_drewN ?_ _) | (with_reducible refine Kd.C_drew ?_))); (case side4 => exact (Kd.R_reads' HO624.out).2.1); rintro e w' ⟨rfl, ⟨nd, rfl⟩⟩; refine ⟨_, rfl, ?_⟩; obtain ⟨Ao21, co21, eo21⟩ := Kd.R_slice HO614.out; subst eo21; obtain ⟨Ao22, co22, eo22⟩ := Kd.R_slice HO626.out; subst eo22) | (go_at_call 14; (with_reducible refine (cr1_Same.calls k _ _ t612 _ _ t620 true _ ?side1 ?side2 ?side3 ?side4 A8.out).mono ?_); (case side1 => repeat (first | exact (Kd.R_reads' HO614.out).2.2 | (with_reducible refine Kd.C_alloc ?_ _) | (with_reducible refine Kd.C_drewN ?_ _) | (with_reducible refine Kd.C_drew ?_))); (case side2 => exact (Kd.R_reads' HO614.out).2.1); (case side3 => repeat (first | exact (Kd.R_reads' HO626.out).2.2 | (with_reducible refine Kd.C_alloc ?_ _) | (with_reducible refine Kd.C_drewN ?_ _) | (with_reducible refine Kd.C_drew ?_))); (case side4 => exact (Kd.R_reads' HO626.out).2.1); rintro e w' ⟨rfl, ⟨nd, rfl⟩⟩; obtain ⟨Ao23, co23, eo23⟩ := Kd.R_slice HO617.out; subst eo23; obtain ⟨Ao24, co24, eo24⟩ := Kd.R_slice HO628.out; subst eo24) | (go_at_call 14; (with_reducible refine (cr1_Same.calls k _ _ t615 _ _ t621 true _ ?side1 ?side2 ?side3 ?side4 A10.out).mono ?_); (case side1 => repeat (first | exact (Kd.R_reads' HO617.out).2.2 | (with_reducible refine Kd.C_alloc ?_ _) | (with_reducible refine Kd.C_drewN ?_ _) | (with_reducible refine Kd.C_drew ?_))); (case side2 => exact (Kd.R_reads' HO617.out).2.1); (case side3 => repeat (first | exact (Kd.R_reads' HO628.out).2.2 | (with_reducible refine Kd.C_alloc ?_ _) | (with_reducible refine Kd.C_drewN ?_ _) | (with_reducible refine Kd.C_drew ?_))); (case side4 => exact (Kd.R_reads' HO628.out).2.1); rintro e w' ⟨rfl, ⟨nd, rfl⟩⟩) | (go_at_call 17; (with_reducible refine (conclavelaw05_anchored.calls k  t632 _ A13.out).mono ?_); rintro e w25 ⟨rfl, hb⟩; have n0_ := A_ (Kd.R_below (nR_ HO611) hb); have n1_ := A_ (Kd.R_below (nR_ HO614) hb); have n2_ := A_ (Kd.R_below (nR_ HO617) hb); have n3_ := A_ (Kd.R_below (nR_ HO624) hb); have n4_ := A_ (Kd.R_below (nR_ HO626) hb); have n5_ := A_ (Kd.R_below (nR_ HO628) hb); have n6_ := A_ (blk_below (g := gb608) (o := .cells #[.slice A1_0 l1_0.length c1_0, .slice A1_1 l1_1.length c1_1] 35 (0, 0)) (nb_ BK608) hb); have n7_ := A_ (below_step hs_ hb); clear HO611 HO614 HO617 HO624 HO626 HO628 BK608 HB; have HO611 := n0_; have HO614 := n1_; have HO617 := n2_; have HO624 := n3_; have HO626 := n4_; have HO628 := n5_; have BK608 := n6_; have HB := n7_; clear n0_ n1_ n2_ n3_ n4_ n5_ n6_ n7_; (try clear hb)))
     go_ret
     exact ⟨fr_, hs_⟩
    ·rw [if_neg c12] at H
     exact absurd H (by simp)
   ·replace c11 := Bool.eq_false_iff.mpr c11
    subst c11
    have H1 : (none) = some r := by rw [if_neg (show ¬ (false = true) by decide)] at H; exact H
    clear H
    have H := H1
    clear H1
    exact absurd H (by simp)
  ·replace c9 := Bool.eq_false_iff.mpr c9
   subst c9
   have H1 : (none) = some r := by rw [if_neg (show ¬ (false = true) by decide)] at H; exact H
   clear H
   have H := H1
   clear H1
   exact absurd H (by simp)
 ·replace c7 := Bool.eq_false_iff.mpr c7
  subst c7
  have H1 : (none) = some r := by rw [if_neg (show ¬ (false = true) by decide)] at H; exact H
  clear H
  have H := H1
  clear H1
  exact absurd H (by simp)
/-- THE ONE PURE STATEMENT of conclavelaw05_EuclidRows: yours. -/
def conclavelaw05_EuclidRows.Pure : Prop := ∀ (a0 : Int) (l1_0 : List Int) (l1_1 : List Int) (a2 : Int), (Lit.int .u8 a0).wf = true → l1_0.length ≤ maxLen → l1_0.length * 8 ≤ 140737488351232 → (∀ x ∈ l1_0, (Lit.int .u64 x).wf = true) → l1_1.length ≤ maxLen → l1_1.length * 8 ≤ 140737488351232 → (∀ x ∈ l1_1, (Lit.int .u64 x).wf = true) → (Lit.int .i64 a2).wf = true → ∃ k, conclavelaw05_EuclidRows.f k a0 l1_0 l1_1 a2 = some true
theorem conclavelaw05_EuclidRows.walk (P : conclavelaw05_EuclidRows.Pure) (a0 : Int) (a1_0 : Option Addr) (len1_0 cap1_0 : Nat) (z1_0 : List Int) (a1_1 : Option Addr) (len1_1 cap1_1 : Nat) (z1_1 : List Int) (a2 : Int) (w : World) (w0 : (Lit.int .u8 a0).wf = true) (w1_0 : (a1_0 = none ∧ len1_0 = 0 ∧ cap1_0 = 0 ∧ z1_0 = []) ∨ ∃ x, a1_0 = some x ∧ len1_0 ≤ cap1_0 ∧ cap1_0 ≤ maxLen ∧ z1_0.length = cap1_0 ∧ (∀ i, i < z1_0.length → w.cell? (x.add i) = some (.int .u64 (z1_0.getD i 0))) ∧ ∀ n ∈ z1_0, (Lit.int .u64 n).wf = true) (y1_0 : len1_0 * 8 ≤ 140737488351232) (w1_1 : (a1_1 = none ∧ len1_1 = 0 ∧ cap1_1 = 0 ∧ z1_1 = []) ∨ ∃ x, a1_1 = some x ∧ len1_1 ≤ cap1_1 ∧ cap1_1 ≤ maxLen ∧ z1_1.length = cap1_1 ∧ (∀ i, i < z1_1.length → w.cell? (x.add i) = some (.int .u64 (z1_1.getD i 0))) ∧ ∀ n ∈ z1_1, (Lit.int .u64 n).wf = true) (y1_1 : len1_1 * 8 ≤ 140737488351232) (w2 : (Lit.int .i64 a2).wf = true) :
  Calls Try.prog 6 #[.int .u8 a0, .agg #[.slice a1_0 len1_0 cap1_0, .slice a1_1 len1_1 cap1_1], .int .i64 a2] w fun e w' => e = .returned (.bool true) ∧ Below w.heap.size w w' := by
 obtain ⟨l1_0, rfl, hr1_0, hm1_0, hw1_0, hc1_0⟩ := ReadsInt.ofRowC w1_0
 obtain ⟨l1_1, rfl, hr1_1, hm1_1, hw1_1, hc1_1⟩ := ReadsInt.ofRowC w1_1
 obtain ⟨k, h⟩ := P a0 l1_0 l1_1 a2 w0 hm1_0 y1_0 hw1_0 hm1_1 y1_1 hw1_1 w2
 refine (conclavelaw05_EuclidRows.calls k a0 _ _ l1_0 _ _ l1_1 a2 true w (Kd.C_of_reads (d := (0 : Int)) (h1 := fun _ => rfl) hr1_0) hc1_0 (Kd.C_of_reads (d := (0 : Int)) (h1 := fun _ => rfl) hr1_1) hc1_1 h).mono ?_
 rintro e w' ⟨rfl, hd⟩
 exact ⟨rfl, hd⟩
end Go.Proofs.Yteofgcmgncaojaa.PEuclidRows
