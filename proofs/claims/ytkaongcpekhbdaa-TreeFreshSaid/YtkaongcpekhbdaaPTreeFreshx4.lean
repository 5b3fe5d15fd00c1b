/- The Go functions as Lean functions, each with the proof that its call comes to just that; written by a program of this session, by the words of the print. -/
import Derived.Test.YtkaongcpekhbdaaPTreeFreshx0
import Derived.Test.YtkaongcpekhbdaaPTreeFreshx1
import Derived.Test.YtkaongcpekhbdaaPTreeFreshx2
import Derived.Test.YtkaongcpekhbdaaPTreeFreshx3
namespace Go.Proofs.Ytkaongcpekhbdaa.PTreeFresh
open Go.RowKit Go.Proofs.YtkaongcpekhbdaaW.PrintWords Go.Proofs.YtkaongcpekhbdaaW.PrintLast Go.Proofs.YtkaongcpekhbdaaW.PrintMore
attribute [local go_sem] max2_int min2_int max_two min_two max_three min_three max_four min_four   -- for this text's walks alone
set_option linter.unusedVariables false
set_option linter.unusedSimpArgs false
/-! ### poly_DivMod: function 32 -/
mutual
def poly_DivMod.l0 : Nat → List Int → List Int → List Int → Int → Int → Option (List Int × List Int × Int)
 | 0, _, _, _, _, _ => none
 | k + 1, x2, x6, x7, x10, x206000 => (poly_trimmed_own.f k x7).bind fun t212 => (if (wrap64 ((t212.length : Int) - (x2.length : Int))) < 0 then ((poly_trimmed_own.f k x6).bind fun t215 => (some (t215, t212, 0))) else (if 0 ≤ (wrap64 ((t212.length : Int) - 1)) then (if (wrap64 ((t212.length : Int) - 1)) < (t212.length : Int) then ((poly_reckoner_mul.f k x206000 (rd t212 (wrap64 ((t212.length : Int) - 1))) x10).bind fun t219 => (if 0 ≤ (wrap64 ((t212.length : Int) - (x2.length : Int))) then (if (wrap64 ((t212.length : Int) - (x2.length : Int))) < (x6.length : Int) then (poly_DivMod.l1 k x2 (x6.set ((wrap64 ((t212.length : Int) - (x2.length : Int))) : Int).toNat t219) t212 x10 (wrap64 ((t212.length : Int) - (x2.length : Int))) t219 x2 (x2.length : Int) 0 x206000) else (none)) else (none))) else (none)) else (none)))
def poly_DivMod.l1 : Nat → List Int → List Int → List Int → Int → Int → Int → List Int → Int → Int → Int → Option (List Int × List Int × Int)
 | 0, _, _, _, _, _, _, _, _, _, _ => none
 | k + 1, x2, x6, x7, x10, x12, x13, x77, x78, x79, x206000 => if x79 < x78 then (if 0 ≤ x79 then (if x79 < (x77.length : Int) then (if 0 ≤ (wrap64 (x12 + x79)) then (if (wrap64 (x12 + x79)) < (x7.length : Int) then ((poly_reckoner_mul.f k x206000 x13 (rd x77 x79)).bind fun t223 => ((poly_reckoner_sub.f k x206000 (rd x7 (wrap64 (x12 + x79))) t223).bind fun t224 => (poly_DivMod.l1 k x2 x6 (x7.set ((wrap64 (x12 + x79)) : Int).toNat t224) x10 x12 x13 x77 x78 (wrap64 (x79 + 1)) x206000))) else (none)) else (none)) else (none)) else (none)) else (poly_DivMod.l0 k x2 x6 x7 x10 x206000)
end
def poly_DivMod.f (k : Nat) (a0 : Int) (l1 : List Int) (l2 : List Int) : Option (List Int × List Int × Int) := (poly_may.f k a0 (([l1, l2] : List (List Int)))).bind fun t198 => (if t198 = 0 then ((poly_trimmed.f k l2).bind fun t199 => (if (t199.length : Int) = 0 then (some (([] : List Int), ([] : List Int), 5)) else (if 0 ≤ (wrap64 ((t199.length : Int) - 1)) then (if (wrap64 ((t199.length : Int) - 1)) < (t199.length : Int) then ((field_Inv.f k a0 (rd t199 (wrap64 ((t199.length : Int) - 1)))).bind fun bt203 => (if bt203.2 = 0 then ((poly_Trim.f k l1).bind fun t206 => (if 0 ≤ (mx 0 (wrap64 ((wrap64 ((t206.length : Int) - (t199.length : Int))) + 1))) then (if (mx 0 (wrap64 ((wrap64 ((t206.length : Int) - (t199.length : Int))) + 1)) : Int).toNat ≤ 35184372088832 then (poly_DivMod.l0 k t199 (List.replicate (mx 0 (wrap64 ((wrap64 ((t206.length : Int) - (t199.length : Int))) + 1)) : Int).toNat 0) t206 bt203.1 a0) else (none)) else (none))) else (some (([] : List Int), ([] : List Int), bt203.2)))) else (none)) else (none)))) else (some (([] : List Int), ([] : List Int), t198)))
theorem poly_DivMod.mono_l : ∀ k, (∀ y0 y1 y2 y3 y4, LeO (poly_DivMod.l0 k y0 y1 y2 y3 y4) (poly_DivMod.l0 (k + 1) y0 y1 y2 y3 y4)) ∧ (∀ y0 y1 y2 y3 y4 y5 y6 y7 y8 y9, LeO (poly_DivMod.l1 k y0 y1 y2 y3 y4 y5 y6 y7 y8 y9) (poly_DivMod.l1 (k + 1) y0 y1 y2 y3 y4 y5 y6 y7 y8 y9))
 | 0 => ⟨fun _ _ _ _ _ r h => by simp [poly_DivMod.l0] at h, fun _ _ _ _ _ _ _ _ _ _ r h => by simp [poly_DivMod.l1] at h⟩
 | k + 1 => by
  obtain ⟨ih0, ih1⟩ := poly_DivMod.mono_l k
  refine ⟨?_, ?_⟩
  ·intro y0 y1 y2 y3 y4
   unfold poly_DivMod.l0
   repeat' first
   | (with_reducible exact ih0 _ _ _ _ _)
   | (with_reducible exact ih1 _ _ _ _ _ _ _ _ _ _)
   | (with_reducible exact field_Inv.mono _ _ _)
   | (with_reducible exact poly_Trim.mono _ _)
   | (with_reducible exact poly_may.mono _ _ _)
   | (with_reducible exact poly_reckoner_mul.mono _ _ _ _)
   | (with_reducible exact poly_reckoner_sub.mono _ _ _ _)
   | (with_reducible exact poly_trimmed.mono _ _)
   | (with_reducible exact poly_trimmed_own.mono _ _)
   | (with_reducible exact LeO.refl _)
   | (with_reducible exact LeO.none _)
   | (with_reducible refine LeO.ite ?_ ?_)
   | (with_reducible refine LeO.bind ?_ (fun _ => ?_))
   | exact ih0 _ _ _ _ _
   | exact ih1 _ _ _ _ _ _ _ _ _ _
   | exact field_Inv.mono _ _ _
   | exact poly_Trim.mono _ _
   | exact poly_may.mono _ _ _
   | exact poly_reckoner_mul.mono _ _ _ _
   | exact poly_reckoner_sub.mono _ _ _ _
   | exact poly_trimmed.mono _ _
   | exact poly_trimmed_own.mono _ _
   | exact LeO.none _
   | refine LeO.ite ?_ ?_
   | refine LeO.bind ?_ (fun _ => ?_)
  ·intro y0 y1 y2 y3 y4 y5 y6 y7 y8 y9
   unfold poly_DivMod.l1
   repeat' first
   | (with_reducible exact ih0 _ _ _ _ _)
   | (with_reducible exact ih1 _ _ _ _ _ _ _ _ _ _)
   | (with_reducible exact field_Inv.mono _ _ _)
   | (with_reducible exact poly_Trim.mono _ _)
   | (with_reducible exact poly_may.mono _ _ _)
   | (with_reducible exact poly_reckoner_mul.mono _ _ _ _)
   | (with_reducible exact poly_reckoner_sub.mono _ _ _ _)
   | (with_reducible exact poly_trimmed.mono _ _)
   | (with_reducible exact poly_trimmed_own.mono _ _)
   | (with_reducible exact LeO.refl _)
   | (with_reducible exact LeO.none _)
   | (with_reducible refine LeO.ite ?_ ?_)
   | (with_reducible refine LeO.bind ?_ (fun _ => ?_))
   | exact ih0 _ _ _ _ _
   | exact ih1 _ _ _ _ _ _ _ _ _ _
   | exact field_Inv.mono _ _ _
   | exact poly_Trim.mono _ _
   | exact poly_may.mono _ _ _
   | exact poly_reckoner_mul.mono _ _ _ _
   | exact poly_reckoner_sub.mono _ _ _ _
   | exact poly_trimmed.mono _ _
   | exact poly_trimmed_own.mono _ _
   | exact LeO.none _
   | refine LeO.ite ?_ ?_
   | refine LeO.bind ?_ (fun _ => ?_)
theorem poly_DivMod.mono : ∀ a0 a1 a2 k, LeO (poly_DivMod.f k a0 a1 a2) (poly_DivMod.f (k + 1) a0 a1 a2) := by
 intro a0 a1 a2 k
 obtain ⟨ih0, ih1⟩ := poly_DivMod.mono_l k
 unfold poly_DivMod.f
 repeat' first
   | (with_reducible exact ih0 _ _ _ _ _)
   | (with_reducible exact ih1 _ _ _ _ _ _ _ _ _ _)
   | (with_reducible exact field_Inv.mono _ _ _)
   | (with_reducible exact poly_Trim.mono _ _)
   | (with_reducible exact poly_may.mono _ _ _)
   | (with_reducible exact poly_reckoner_mul.mono _ _ _ _)
   | (with_reducible exact poly_reckoner_sub.mono _ _ _ _)
   | (with_reducible exact poly_trimmed.mono _ _)
   | (with_reducible exact poly_trimmed_own.mono _ _)
   | (with_reducible exact LeO.refl _)
   | (with_reducible exact LeO.none _)
   | (with_reducible refine LeO.ite ?_ ?_)
   | (with_reducible refine LeO.bind ?_ (fun _ => ?_))
   | exact ih0 _ _ _ _ _
   | exact ih1 _ _ _ _ _ _ _ _ _ _
   | exact field_Inv.mono _ _ _
   | exact poly_Trim.mono _ _
   | exact poly_may.mono _ _ _
   | exact poly_reckoner_mul.mono _ _ _ _
   | exact poly_reckoner_sub.mono _ _ _ _
   | exact poly_trimmed.mono _ _
   | exact poly_trimmed_own.mono _ _
   | exact LeO.none _
   | refine LeO.ite ?_ ?_
   | refine LeO.bind ?_ (fun _ => ?_)
def poly_DivMod.T16 : Bool × List (List Nat × List Nat) := (true, [([], []), ([], []), ([], []), ([2], [2]), ([3], [3]), ([1, 4], [1, 4]), ([5], [5]), ([], []), ([0, 6, 7], [0, 6, 7]), ([8, 8, 0, 1, 2, 3, 4, 5, 6, 7, 8], [8])])
def poly_DivMod.B16 : List Nat := [0, 0, 0, 4, 12, 30, 62, 0, 255, 511]
theorem poly_DivMod.tab16 : rtab .any (opsOf Try.f32 16) = poly_DivMod.T16 := by kernel_rfl
theorem poly_DivMod.bits16 : waitsOk poly_DivMod.T16.2 poly_DivMod.B16 = true := by kernel_rfl
def poly_DivMod.T21 : Bool × List (List Nat × List Nat) := (true, [([], []), ([], []), ([], []), ([1, 2], [1, 2]), ([], []), ([], []), ([], []), ([], []), ([6, 7], [6, 7]), ([5, 8], [5, 8]), ([9], [9]), ([], []), ([], []), ([], []), ([11, 12, 13], [11, 12, 13]), ([4, 10, 14, 14], [4, 10, 14]), ([0, 3, 0, 1, 2, 3, 4, 5, 6, 7, 8, 9, 10, 11, 12, 13, 14, 15], [0, 3]), ([16, 15, 15, 0, 1, 2, 3, 4, 5, 6, 7, 8, 9, 10, 11, 12, 13, 14, 15], [15, 16])])
def poly_DivMod.B21 : List Nat := [0, 0, 0, 6, 0, 0, 0, 0, 192, 480, 992, 0, 0, 0, 14336, 32752, 65535, 131071]
theorem poly_DivMod.tab21 : rtab .any (opsOf Try.f32 21) = poly_DivMod.T21 := by kernel_rfl
theorem poly_DivMod.bits21 : waitsOk poly_DivMod.T21.2 poly_DivMod.B21 = true := by kernel_rfl
set_option maxHeartbeats 8000000 in
set_option maxRecDepth 100000 in
theorem poly_DivMod.calls (k : Nat) (a0 : Int) (P1_ : Nat → Prop) (A1 : Option Addr) (c1 : Nat) (l1 : List Int) (P2_ : Nat → Prop) (A2 : Option Addr) (c2 : Nat) (l2 : List Int) (r1 : List Int) (r2 : List Int) (r3 : Int) (w : World) (hs1 : Kd.V (Kd.int .u64) 49 w w.heap.size (fun k_ => P1_ k_) (.slice A1 l1.length c1) l1) (hs2 : Kd.V (Kd.int .u64) 49 w w.heap.size (fun k_ => P2_ k_) (.slice A2 l2.length c2) l2) (h : poly_DivMod.f k a0 l1 l2 = some (r1, r2, r3)) :
  Calls Try.prog 32 #[.int .u8 a0, .slice A1 l1.length c1, .slice A2 l2.length c2] w fun e w' => ∃ v0_ v1_ : Value, e = .returned (.tuple #[v0_, v1_, .int .i64 r3]) ∧ Kd.R (Kd.int .u64) 49 w' w.heap.size (fun k_ => (w.heap.size ≤ k_) ∧ some k_ ≠ (v1_ : Value).ownBlock) v0_ r1 ∧ Kd.R (Kd.int .u64) 49 w' w.heap.size (fun k_ => (w.heap.size ≤ k_) ∧ some k_ ≠ (v0_ : Value).ownBlock) v1_ r2 ∧ Below w.heap.size w w' := by
 have hu72 := Try.underlying72
 have HO1 := A_ (show Kd.V (Kd.int .u64) 49 w w.heap.size (fun k_ => ((P1_ k_ ∨ P2_ k_) ∨ w.heap.size ≤ k_)) (.slice A1 l1.length c1) l1 from Kd.V_mono hs1 (fun k_ hk => .inl (.inl hk)))
 have HO2 := A_ (show Kd.V (Kd.int .u64) 49 w w.heap.size (fun k_ => ((P1_ k_ ∨ P2_ k_) ∨ w.heap.size ≤ k_)) (.slice A2 l2.length c2) l2 from Kd.V_mono hs2 (fun k_ hk => .inl (.inr hk)))
 have HB := A_ (Below.refl w.heap.size w)
 have H : ((poly_may.f k a0 (([l1, l2] : List (List Int)))).bind fun t198 => (if t198 = 0 then ((poly_trimmed.f k l2).bind fun t199 => (if (t199.length : Int) = 0 then (some (([] : List Int), ([] : List Int), 5)) else (if 0 ≤ (wrap64 ((t199.length : Int) - 1)) then (if (wrap64 ((t199.length : Int) - 1)) < (t199.length : Int) then ((field_Inv.f k a0 (rd t199 (wrap64 ((t199.length : Int) - 1)))).bind fun bt203 => (if bt203.2 = 0 then ((poly_Trim.f k l1).bind fun t206 => (if 0 ≤ (mx 0 (wrap64 ((wrap64 ((t206.length : Int) - (t199.length : Int))) + 1))) then (if (mx 0 (wrap64 ((wrap64 ((t206.length : Int) - (t199.length : Int))) + 1)) : Int).toNat ≤ 35184372088832 then (poly_DivMod.l0 k t199 (List.replicate (mx 0 (wrap64 ((wrap64 ((t206.length : Int) - (t199.length : Int))) + 1)) : Int).toNat 0) t206 bt203.1 a0) else (none)) else (none))) else (some (([] : List Int), ([] : List Int), bt203.2)))) else (none)) else (none)))) else (some (([] : List Int), ([] : List Int), t198)))) = some (r1, r2, r3) := h
 clear h
 obtain ⟨y195, hy195⟩ : ∃ y_ : List (List Int), y_ = (([l1, l2] : List (List Int))) := ⟨_, rfl⟩
 replace H : ((poly_may.f k a0 y195).bind fun t198 => (if t198 = 0 then ((poly_trimmed.f k l2).bind fun t199 => (if (t199.length : Int) = 0 then (some (([] : List Int), ([] : List Int), 5)) else (if 0 ≤ (wrap64 ((t199.length : Int) - 1)) then (if (wrap64 ((t199.length : Int) - 1)) < (t199.length : Int) then ((field_Inv.f k a0 (rd t199 (wrap64 ((t199.length : Int) - 1)))).bind fun bt203 => (if bt203.2 = 0 then ((poly_Trim.f k l1).bind fun t206 => (if 0 ≤ (mx 0 (wrap64 ((wrap64 ((t206.length : Int) - (t199.length : Int))) + 1))) then (if (mx 0 (wrap64 ((wrap64 ((t206.length : Int) - (t199.length : Int))) + 1)) : Int).toNat ≤ 35184372088832 then (poly_DivMod.l0 k t199 (List.replicate (mx 0 (wrap64 ((wrap64 ((t206.length : Int) - (t199.length : Int))) + 1)) : Int).toNat 0) t206 bt203.1 a0) else (none)) else (none))) else (some (([] : List Int), ([] : List Int), bt203.2)))) else (none)) else (none)))) else (some (([] : List Int), ([] : List Int), t198)))) = some (r1, r2, r3) := by first | (rw [hy195]; with_reducible exact H) | (have H2_ := (Option.bind_some _ _).symm.trans H; rw [hy195]; with_reducible exact H2_) | (have H2_ := (Option.bind_some _ _).symm.trans H; with_reducible exact H2_) | with_reducible exact H | (rw [hy195]; exact H) | exact H
 have Ny195 := Aside0.mk hy195
 clear hy195
 replace H := Option.bind_eq_some_iff.mp H
 obtain ⟨t198, A40, H⟩ := H
 (try dsimp only at H)
 have A4 := Aside0.mk A40
 clear A40
 by_cases c5 : t198 = 0
 ·rw [if_pos c5] at H
  have c5b0 : (t198 == 0) = true := beq_iff_eq.mpr c5
  have c5b1 : (t198 != 0) = false := bne_eq_false_iff_eq.mpr c5
  clear c5
  replace H := Option.bind_eq_some_iff.mp H
  obtain ⟨t199, A60, H⟩ := H
  (try dsimp only at H)
  have A6 := Aside0.mk A60
  clear A60
  by_cases c7 : (t199.length : Int) = 0
  ·rw [if_pos c7] at H
   have c7b0 : ((t199.length : Int) == 0) = true := beq_iff_eq.mpr c7
   have c7b1 : ((t199.length : Int) != 0) = false := bne_eq_false_iff_eq.mpr c7
   clear c7
   simp only [Option.some.injEq, Prod.mk.injEq] at H
   obtain ⟨rfl, rfl, rfl⟩ := H
   go_enter Try.func32, Try.ntmps32
   go_wp2_with (first | go_step3 | ((with_reducible refine gate_dst (N := 19) rfl ?_); refine Kd.N_lit (Kd.slice 49 (Kd.int .u64)) _ 22 ?hg (N' := 19) ?hd (xs := ([l1, l2] : List (List Int))) (inner := [.slice A1 l1.length c1, .slice A2 l2.length c2]) (ok := (fun k_ => ((P1_ k_ ∨ P2_ k_) ∨ w.heap.size ≤ k_))) (okp := (fun k_ => ((P1_ k_ ∨ P2_ k_) ∨ w.heap.size ≤ k_))) ?hr ?hp (fun _ hk => hk) ((show ∀ k_, w.heap.size ≤ k_ → (fun k_ => ((P1_ k_ ∨ P2_ k_) ∨ w.heap.size ≤ k_)) k_ from fun k_ hk => (.inr (Nat.le_trans (below_size hb_) hk))) _ (Nat.le_refl _)) (Below.refl _ _) (Nat.le_refl _) (by simp) ?_; (case hd => rfl); (case hg => rfl); (case hr => first | (go_simp; done) | (go_simp; rfl)); (case hp => exact (Reps.one (show Kd.FK (Kd.slice 49 (Kd.int .u64)) _ _ l1 [.slice A1 l1.length c1] from (Kd.FK_slice_mk (Kd.V_reads' (Kd.V_mono (ok' := (fun k_ => ((P1_ k_ ∨ P2_ k_) ∨ w.heap.size ≤ k_))) (HO1.out) (fun k_ hk => hk))).2.1 (Kd.V_F (Kd.V_mono (ok' := (fun k_ => ((P1_ k_ ∨ P2_ k_) ∨ w.heap.size ≤ k_))) (HO1.out) (fun k_ hk => hk))))) (Reps.one (show Kd.FK (Kd.slice 49 (Kd.int .u64)) _ _ l2 [.slice A2 l2.length c2] from (Kd.FK_slice_mk (Kd.V_reads' (Kd.V_mono (ok' := (fun k_ => ((P1_ k_ ∨ P2_ k_) ∨ w.heap.size ≤ k_))) (HO2.out) (fun k_ hk => hk))).2.1 (Kd.V_F (Kd.V_mono (ok' := (fun k_ => ((P1_ k_ ∨ P2_ k_) ∨ w.heap.size ≤ k_))) (HO2.out) (fun k_ hk => hk))))) (Reps.none _ _)))); intro v196 w8 ho9 hb hg_ hnew_; clear hg_ hnew_; (first | rw [← Ny195.out] at ho9 | (simp only [Int.reduceToNat] at ho9; rw [← Ny195.out] at ho9)); have n0_ := A_ (Kd.V_elder' (nV_ HO1) (Kd.N_base ho9) hb); have n1_ := A_ (Kd.V_elder' (nV_ HO2) (Kd.N_base ho9) hb); have n2_ := A_ (Kd.N_lower ho9 (below_size hb_)); have n3_ := A_ (below_step hb_ hb); clear HO1 HO2 HB; have HO1 := n0_; have HO2 := n1_; have HO197 := n2_; have HB := n3_; clear n0_ n1_ n2_ n3_; clear hb ho9; obtain ⟨Ao10, co10, eo10⟩ := Kd.N_slice HO197.out; subst eo10) | ((with_reducible refine gate_callee (f := 46) rfl ?_); refine goesM_ (some 20) Try.func46 #[.int .u8 a0, .slice Ao10 y195.length co10] ?_; (with_reducible refine (poly_may.calls k a0 _ _ y195 t198 _ ?side1 ?side2 A4.out).mono ?_); (case side1 => repeat (first | exact (Kd.N_reads' HO197.out).2.2 | (with_reducible refine Kd.C_alloc ?_ _) | (with_reducible refine Kd.C_drewN ?_ _) | (with_reducible refine Kd.C_drew ?_))); (case side2 => exact (Kd.N_reads' HO197.out).2.1); rintro e w11 ⟨rfl, hb⟩; refine ⟨_, rfl, ?_⟩; have n0_ := A_ (Kd.V_below (nV_ HO1) hb); have n1_ := A_ (Kd.V_below (nV_ HO2) hb); have n2_ := A_ (Kd.N_below (nN_ HO197) hb); have n3_ := A_ (below_step hb_ hb); clear HO1 HO2 HO197 HB; have HO1 := n0_; have HO2 := n1_; have HO197 := n2_; have HB := n3_; clear n0_ n1_ n2_ n3_; (try clear hb)) | ((with_reducible refine gate_callee (f := 47) rfl ?_); refine goesM_ (some 25) Try.func47 #[.slice A2 l2.length c2] ?_; (with_reducible refine (poly_trimmed.calls k (fun k_ => (((P1_ k_ ∨ P2_ k_) ∨ w.heap.size ≤ k_) ∧ some k_ ≠ (.slice Ao10 y195.length co10 : Value).ownBlock)) _ _ l2 t199 _ ?side1 A6.out).mono ?_); (case side1 => exact HO2.out); rintro e w12 ⟨v200, rfl, ho0, hb⟩; refine ⟨_, rfl, ?_⟩; have n0_ := A_ (Kd.V_below (nV_ HO1) hb); have n1_ := A_ (Kd.V_below (nV_ HO2) hb); have n2_ := A_ (Kd.N_below (nN_ HO197) hb); have n3_ := A_ (Kd.V_lower (Kd.V_mono (ok' := fun k_ => ((P1_ k_ ∨ P2_ k_) ∨ w.heap.size ≤ k_) ∧ some k_ ≠ (.slice Ao10 y195.length co10 : Value).ownBlock) ho0 (fun k_ hk_ => ⟨Or.elim hk_ (fun hs_ => hs_.1) (fun hn_ => (.inr (Nat.le_trans (below_size hb_) hn_))), Or.elim hk_ (fun hs_ => hs_.2) (fun hn_ => (Kd.fresh' (Kd.N_lt (nN_ HO197)) k_ hn_))⟩)) (below_size hb_)); have n4_ := A_ (below_step hb_ hb); clear HO1 HO2 HO197 HB; have HO1 := n0_; have HO2 := n1_; have HO197 := n2_; have HO201 := n3_; have HB := n4_; clear n0_ n1_ n2_ n3_ n4_; (try clear hb); (try clear ho0); obtain ⟨Ao13, co13, eo13⟩ := Kd.V_slice HO201.out; subst eo13))
   (try rw [Exit.noGoto_ret])
   go_ret3
   exact ⟨_, _, fr_, by first | exact Kd.R_nil _ _ _ _ _ | exact Kd.N_nil _ _ _ _ _ | exact Kd.V_nil _ _ _ _ _ | exact Kd.Q_nil _ _ _ _ _ | exact Kd.S_nil _ _ _ _ _, by first | exact Kd.R_nil _ _ _ _ _ | exact Kd.N_nil _ _ _ _ _ | exact Kd.V_nil _ _ _ _ _ | exact Kd.Q_nil _ _ _ _ _ | exact Kd.S_nil _ _ _ _ _, hb_⟩
  ·rw [if_neg c7] at H
   have c7b0 : ((t199.length : Int) == 0) = false := beq_eq_false_iff_ne.mpr c7
   have c7b1 : ((t199.length : Int) != 0) = true := bne_iff_ne.mpr c7
   have c7b2 : ¬ (t199 = []) := fun h_ => c7 (by rw [h_]; rfl)
   obtain ⟨ji14, hji14⟩ : ∃ j_ : Int, (wrap64 ((t199.length : Int) - 1)) = j_ := ⟨_, rfl⟩
   replace H : (if 0 ≤ (ji14) then (if (ji14) < (t199.length : Int) then ((field_Inv.f k a0 (rd t199 (ji14))).bind fun bt203 => (if bt203.2 = 0 then ((poly_Trim.f k l1).bind fun t206 => (if 0 ≤ (mx 0 (wrap64 ((wrap64 ((t206.length : Int) - (t199.length : Int))) + 1))) then (if (mx 0 (wrap64 ((wrap64 ((t206.length : Int) - (t199.length : Int))) + 1)) : Int).toNat ≤ 35184372088832 then (poly_DivMod.l0 k t199 (List.replicate (mx 0 (wrap64 ((wrap64 ((t206.length : Int) - (t199.length : Int))) + 1)) : Int).toNat 0) t206 bt203.1 a0) else (none)) else (none))) else (some (([] : List Int), ([] : List Int), bt203.2)))) else (none)) else (none)) = some (r1, r2, r3) := by first | (rw [hji14] at H; exact H) | (simp only [hji14] at H ⊢; exact H)
   (try rw [hji14] at A4)
   (try rw [hji14] at A6)
   have hji14w : (IntKind.i64.wrap ((t199.length : Int) - 1)) = ji14 := (i64_w _).trans hji14
   by_cases c15 : 0 ≤ (ji14)
   ·rw [if_pos c15] at H
    have c15b0 : decide (0 ≤ (ji14)) = true := decide_eq_true c15
    clear c15
    by_cases c16 : (ji14) < (t199.length : Int)
    ·rw [if_pos c16] at H
     have c16b0 : decide ((ji14) < (t199.length : Int)) = true := decide_eq_true c16
     clear c16
     replace H := Option.bind_eq_some_iff.mp H
     obtain ⟨⟨t203, t204⟩, A170, H⟩ := H
     (try dsimp only at H)
     have A17 := Aside0.mk A170
     clear A170
     by_cases c18 : t204 = 0
     ·rw [if_pos c18] at H
      have c18b0 : (t204 == 0) = true := beq_iff_eq.mpr c18
      have c18b1 : (t204 != 0) = false := bne_eq_false_iff_eq.mpr c18
      clear c18
      replace H := Option.bind_eq_some_iff.mp H
      obtain ⟨t206, A190, H⟩ := H
      (try dsimp only at H)
      have A19 := Aside0.mk A190
      clear A190
      obtain ⟨ji20, hji20⟩ : ∃ j_ : Int, (mx 0 (wrap64 ((wrap64 ((t206.length : Int) - (t199.length : Int))) + 1))) = j_ := ⟨_, rfl⟩
      replace H : (if 0 ≤ (ji20) then (if (ji20 : Int).toNat ≤ 35184372088832 then (poly_DivMod.l0 k t199 (List.replicate (ji20 : Int).toNat 0) t206 t203 a0) else (none)) else (none)) = some (r1, r2, r3) := by first | (rw [hji20] at H; exact H) | (simp only [hji20] at H ⊢; exact H)
      (try rw [hji20] at A4)
      (try rw [hji20] at A6)
      (try rw [hji20] at A17)
      (try rw [hji20] at A19)
      (try (have hji20l : 0 ≤ ji20 := by (rw [← hji20]; unfold mx; (repeat' split) <;> omega)))
      (try (have hji20m : 0 ≤ ji20 := by omega))
      have hji20_ : (if 0 < (wrap64 ((wrap64 ((t206.length : Int) - (t199.length : Int))) + 1)) then (wrap64 ((wrap64 ((t206.length : Int) - (t199.length : Int))) + 1)) else 0) = ji20 := hji20
      by_cases c21 : 0 ≤ (ji20)
      ·rw [if_pos c21] at H
       have c21b0 := eq_true c21
       have c21b1 : decide (0 ≤ (ji20)) = true := decide_eq_true c21
       clear c21
       by_cases c22 : (ji20 : Int).toNat ≤ 35184372088832
       ·rw [if_pos c22] at H
        have c22b0 := eq_true c22
        have c22b1 : decide ((ji20 : Int).toNat ≤ 35184372088832) = true := decide_eq_true c22
        clear c22
        obtain ⟨y209, hy209⟩ : ∃ y_ : List Int, y_ = (List.replicate (ji20 : Int).toNat 0) := ⟨_, rfl⟩
        replace H : (poly_DivMod.l0 k t199 y209 t206 t203 a0) = some (r1, r2, r3) := by first | (rw [hy209]; with_reducible exact H) | (have H2_ := (Option.bind_some _ _).symm.trans H; rw [hy209]; with_reducible exact H2_) | (have H2_ := (Option.bind_some _ _).symm.trans H; with_reducible exact H2_) | with_reducible exact H | (rw [hy209]; exact H) | exact H
        have Ny209 := Aside0.mk hy209
        clear hy209
        have H' := Aside0.mk H
        clear H
        go_enter Try.func32, Try.ntmps32
        go_wp2_with (first | go_step3 | ((with_reducible refine gate_dst (N := 19) rfl ?_); refine Kd.N_lit (Kd.slice 49 (Kd.int .u64)) _ 22 ?hg (N' := 19) ?hd (xs := ([l1, l2] : List (List Int))) (inner := [.slice A1 l1.length c1, .slice A2 l2.length c2]) (ok := (fun k_ => ((P1_ k_ ∨ P2_ k_) ∨ w.heap.size ≤ k_))) (okp := (fun k_ => ((P1_ k_ ∨ P2_ k_) ∨ w.heap.size ≤ k_))) ?hr ?hp (fun _ hk => hk) ((show ∀ k_, w.heap.size ≤ k_ → (fun k_ => ((P1_ k_ ∨ P2_ k_) ∨ w.heap.size ≤ k_)) k_ from fun k_ hk => (.inr (Nat.le_trans (below_size hb_) hk))) _ (Nat.le_refl _)) (Below.refl _ _) (Nat.le_refl _) (by simp) ?_; (case hd => rfl); (case hg => rfl); (case hr => first | (go_simp; done) | (go_simp; rfl)); (case hp => exact (Reps.one (show Kd.FK (Kd.slice 49 (Kd.int .u64)) _ _ l1 [.slice A1 l1.length c1] from (Kd.FK_slice_mk (Kd.V_reads' (Kd.V_mono (ok' := (fun k_ => ((P1_ k_ ∨ P2_ k_) ∨ w.heap.size ≤ k_))) (HO1.out) (fun k_ hk => hk))).2.1 (Kd.V_F (Kd.V_mono (ok' := (fun k_ => ((P1_ k_ ∨ P2_ k_) ∨ w.heap.size ≤ k_))) (HO1.out) (fun k_ hk => hk))))) (Reps.one (show Kd.FK (Kd.slice 49 (Kd.int .u64)) _ _ l2 [.slice A2 l2.length c2] from (Kd.FK_slice_mk (Kd.V_reads' (Kd.V_mono (ok' := (fun k_ => ((P1_ k_ ∨ P2_ k_) ∨ w.heap.size ≤ k_))) (HO2.out) (fun k_ hk => hk))).2.1 (Kd.V_F (Kd.V_mono (ok' := (fun k_ => ((P1_ k_ ∨ P2_ k_) ∨ w.heap.size ≤ k_))) (HO2.out) (fun k_ hk => hk))))) (Reps.none _ _)))); intro v196 w23 ho24 hb hg_ hnew_; clear hg_ hnew_; (first | rw [← Ny195.out] at ho24 | (simp only [Int.reduceToNat] at ho24; rw [← Ny195.out] at ho24)); have n0_ := A_ (Kd.V_elder' (nV_ HO1) (Kd.N_base ho24) hb); have n1_ := A_ (Kd.V_elder' (nV_ HO2) (Kd.N_base ho24) hb); have n2_ := A_ (Kd.N_lower ho24 (below_size hb_)); have n3_ := A_ (below_step hb_ hb); clear HO1 HO2 HB; have HO1 := n0_; have HO2 := n1_; have HO197 := n2_; have HB := n3_; clear n0_ n1_ n2_ n3_; clear hb ho24; obtain ⟨Ao25, co25, eo25⟩ := Kd.N_slice HO197.out; subst eo25) | ((with_reducible refine gate_callee (f := 46) rfl ?_); refine goesM_ (some 20) Try.func46 #[.int .u8 a0, .slice Ao25 y195.length co25] ?_; (with_reducible refine (poly_may.calls k a0 _ _ y195 t198 _ ?side1 ?side2 A4.out).mono ?_); (case side1 => repeat (first | exact (Kd.N_reads' HO197.out).2.2 | (with_reducible refine Kd.C_alloc ?_ _) | (with_reducible refine Kd.C_drewN ?_ _) | (with_reducible refine Kd.C_drew ?_))); (case side2 => exact (Kd.N_reads' HO197.out).2.1); rintro e w26 ⟨rfl, hb⟩; refine ⟨_, rfl, ?_⟩; have n0_ := A_ (Kd.V_below (nV_ HO1) hb); have n1_ := A_ (Kd.V_below (nV_ HO2) hb); have n2_ := A_ (Kd.N_below (nN_ HO197) hb); have n3_ := A_ (below_step hb_ hb); clear HO1 HO2 HO197 HB; have HO1 := n0_; have HO2 := n1_; have HO197 := n2_; have HB := n3_; clear n0_ n1_ n2_ n3_; (try clear hb)) | ((with_reducible refine gate_callee (f := 47) rfl ?_); refine goesM_ (some 25) Try.func47 #[.slice A2 l2.length c2] ?_; (with_reducible refine (poly_trimmed.calls k (fun k_ => (((P1_ k_ ∨ P2_ k_) ∨ w.heap.size ≤ k_) ∧ some k_ ≠ (.slice Ao25 y195.length co25 : Value).ownBlock)) _ _ l2 t199 _ ?side1 A6.out).mono ?_); (case side1 => exact HO2.out); rintro e w27 ⟨v200, rfl, ho0, hb⟩; refine ⟨_, rfl, ?_⟩; have n0_ := A_ (Kd.V_below (nV_ HO1) hb); have n1_ := A_ (Kd.V_below (nV_ HO2) hb); have n2_ := A_ (Kd.N_below (nN_ HO197) hb); have n3_ := A_ (Kd.V_lower (Kd.V_mono (ok' := fun k_ => ((P1_ k_ ∨ P2_ k_) ∨ w.heap.size ≤ k_) ∧ some k_ ≠ (.slice Ao25 y195.length co25 : Value).ownBlock) ho0 (fun k_ hk_ => ⟨Or.elim hk_ (fun hs_ => hs_.1) (fun hn_ => (.inr (Nat.le_trans (below_size hb_) hn_))), Or.elim hk_ (fun hs_ => hs_.2) (fun hn_ => (Kd.fresh' (Kd.N_lt (nN_ HO197)) k_ hn_))⟩)) (below_size hb_)); have n4_ := A_ (below_step hb_ hb); clear HO1 HO2 HO197 HB; have HO1 := n0_; have HO2 := n1_; have HO197 := n2_; have HO201 := n3_; have HB := n4_; clear n0_ n1_ n2_ n3_ n4_; (try clear hb); (try clear ho0); obtain ⟨Ao28, co28, eo28⟩ := Kd.V_slice HO201.out; subst eo28; have p202 : 0 ≤ ((ji14) : Int) := of_decide_eq_true (by first | (with_reducible assumption) | assumption); have q202 : (ji14) < (t199.length : Int) := of_decide_eq_true (by first | (with_reducible assumption) | assumption); obtain ⟨ad202, e202, hx202_0⟩ := Kd.at_int (Kd.V_reads' HO201.out).2.2 (ji14) p202 q202; cases e202; replace p202 := eq_true p202; replace q202 := eq_true q202) | ((with_reducible refine gate_callee (f := 48) rfl ?_); refine goesL_ (some 37) rfl rfl Try.func48 (by kernel_rfl) rfl #[.int .u8 a0, .int .u64 (rd t199 (ji14))] rfl (by (try simp only [List.map_toArray, List.map_cons, List.map_nil]); first | done | (simp only [hji14]; rfl) | rfl | (simp only [List.length_drop, List.length_take]; rfl)) ?_; (with_reducible refine (field_Inv.calls k a0 (rd t199 (ji14)) t203 t204 _ A17.out).mono ?_); rintro e w29 ⟨rfl, hb⟩; refine ⟨_, rfl, ?_⟩; have n0_ := A_ (Kd.V_below (nV_ HO1) hb); have n1_ := A_ (Kd.V_below (nV_ HO2) hb); have n2_ := A_ (Kd.N_below (nN_ HO197) hb); have n3_ := A_ (Kd.V_below (nV_ HO201) hb); have n4_ := A_ (below_step hb_ hb); clear HO1 HO2 HO197 HO201 HB; have HO1 := n0_; have HO2 := n1_; have HO197 := n2_; have HO201 := n3_; have HB := n4_; clear n0_ n1_ n2_ n3_ n4_; (try clear hb)) | ((with_reducible refine gate_dst (N := 11) rfl ?_); refine box_event ?hg (N := 11) ?hd (cs := #[.int .u8 0]) (t := 72) ?hr ?_; (case hd => rfl); (case hg => rfl); (case hr => first | (go_simp; done) | (go_simp; rfl)); intro gb205 hg w30 hbox hb; have n0_ := A_ (Kd.V_below (Kd.V_elderB (nV_ HO1) gb205 (Nat.le_of_eq hg.symm)) hb); have n1_ := A_ (Kd.V_below (Kd.V_elderB (nV_ HO2) gb205 (Nat.le_of_eq hg.symm)) hb); have n2_ := A_ (Kd.N_below (Kd.N_elderB (nN_ HO197) gb205 (Nat.le_of_eq hg.symm)) hb); have n3_ := A_ (Kd.V_below (Kd.V_elderB (nV_ HO201) gb205 (Nat.le_of_eq hg.symm)) hb); have n4_ := A_ (below_step hb_ hb); have n5_ := A_ (hbox); have n6_ := A_ ((by rw [hg]; exact (below_size hb_) : w.heap.size ≤ gb205)); have n7_ := A_ ((by rw [hg]; exact (below_size hb_) : w.heap.size ≤ gb205)); clear HO1 HO2 HO197 HO201 HB; have HO1 := n0_; have HO2 := n1_; have HO197 := n2_; have HO201 := n3_; have HB := n4_; have BK205 := n5_; have GW205 := n6_; have GE205 := n7_; clear n0_ n1_ n2_ n3_ n4_ n5_ n6_ n7_; clear hb hbox hg; have hcz31_0 : w30.cell? ⟨gb205, 0, none⟩ = some (.int .u8 0) := (blk_cell BK205.out 0).trans rfl; have hfz31_0 := blk_frozen BK205.out 0) | ((with_reducible refine gate_callee (f := 36) rfl ?_); refine goesM_ (some 46) Try.func36 #[.slice A1 l1.length c1] ?_; (with_reducible refine (poly_Trim.calls k _ _ l1 t206 _ ?side1 ?side2 A19.out).mono ?_); (case side1 => refine (Kd.V_reads' (e := 49) (base := w.heap.size) (ok := fun k_ => ((((P1_ k_ ∨ P2_ k_) ∨ w.heap.size ≤ k_) ∧ some k_ ≠ (.slice Ao25 y195.length co25 : Value).ownBlock) ∧ k_ ≠ gb205)) (n := l1.length) (c := c1) ?_).2.2; exact (by (with_reducible repeat (first | apply Kd.V_alloc | apply Kd.V_drewN | apply Kd.V_drew)); exact (Kd.V_mono (Kd.V_far (p := ⟨gb205, 0, none⟩) (Kd.V_mono HO1.out (fun k_ hk => (⟨hk, hk.2⟩ : _ ∧ k_ ≠ gb205))) (fun _ hk => hk.2) (.int .u8 a0)) (fun _ h_ => h_.1)))); (case side2 => exact (Kd.V_reads' HO1.out).2.1); rintro e w32 ⟨v207, rfl, ho0, hb⟩; refine ⟨_, rfl, ?_⟩; have n0_ := A_ (Kd.V_elder' (by (with_reducible repeat (first | apply Kd.V_alloc | apply Kd.V_drewN | apply Kd.V_drew)); exact (Kd.V_mono (Kd.V_far (p := ⟨gb205, 0, none⟩) (Kd.V_mono HO1.out (fun k_ hk => (⟨hk, hk.2⟩ : _ ∧ k_ ≠ gb205))) (fun _ hk => hk.2) (.int .u8 a0)) (fun _ h_ => h_.1))) (Kd.R_base ho0) hb); have n1_ := A_ (Kd.V_elder' (by (with_reducible repeat (first | apply Kd.V_alloc | apply Kd.V_drewN | apply Kd.V_drew)); exact (Kd.V_mono (Kd.V_far (p := ⟨gb205, 0, none⟩) (Kd.V_mono HO2.out (fun k_ hk => (⟨hk, hk.2⟩ : _ ∧ k_ ≠ gb205))) (fun _ hk => hk.2) (.int .u8 a0)) (fun _ h_ => h_.1))) (Kd.R_base ho0) hb); have n2_ := A_ (Kd.N_elder' (by (with_reducible repeat (first | apply Kd.N_alloc | apply Kd.N_drewN | apply Kd.N_drew)); exact (Kd.N_mono (Kd.N_far (p := ⟨gb205, 0, none⟩) (Kd.N_mono HO197.out (fun k_ hk => (⟨hk, hk.2⟩ : _ ∧ k_ ≠ gb205))) (fun _ hk => hk.2) (.int .u8 a0)) (fun _ h_ => h_.1))) (Kd.R_base ho0) hb); have n3_ := A_ (Kd.V_elder' (by (with_reducible repeat (first | apply Kd.V_alloc | apply Kd.V_drewN | apply Kd.V_drew)); exact (Kd.V_mono (Kd.V_far (p := ⟨gb205, 0, none⟩) (Kd.V_mono HO201.out (fun k_ hk => (⟨hk, hk.2⟩ : _ ∧ k_ ≠ gb205))) (fun _ hk => hk.2) (.int .u8 a0)) (fun _ h_ => h_.1))) (Kd.R_base ho0) hb); have n4_ := A_ (Kd.R_lower (Kd.R_newM (M := fun k_ => (w.heap.size ≤ k_)) ho0 (below_size hs_) (fun k_ h_ => h_)) (below_size hs_)); have n5_ := A_ (blk_below (g := gb205) (o := .cells #[.int .u8 a0] 72 (0, 0)) (by (with_reducible repeat (first | refine blk_drewN ?_ _ | refine blk_drew ?_ | refine blk_alloc ?_ _)); refine blk_put (cs := #[.int .u8 0]) ?_ 0 _ rfl; (with_reducible repeat (first | refine blk_drewN ?_ _ | refine blk_drew ?_ | refine blk_alloc ?_ _)); exact BK205.out) hb); have n6_ := A_ (below_step hs_ hb); clear HO1 HO2 HO197 HO201 BK205 HB; have HO1 := n0_; have HO2 := n1_; have HO197 := n2_; have HO201 := n3_; have HO208 := n4_; have BK205 := n5_; have HB := n6_; clear n0_ n1_ n2_ n3_ n4_ n5_ n6_; (try clear hb); (try clear ho0); obtain ⟨Ao33, co33, eo33⟩ := Kd.R_slice HO208.out; subst eo33) | ((with_reducible refine gate_dst (N := 54) rfl ?_); refine Kd.R_make (Kd.int .u64) _ 49 rfl (N := 54) rfl 22 _ _ rfl ji20 rfl rfl Try.underlying22 (.int .u64 0) 8 info49 rfl (by decide) (by omega) 0 (ok := fun _ => True) (okp := fun _ => True) rfl (fun _ hk => hk) trivial (of_decide_eq_true (by first | (with_reducible assumption) | assumption)) (Nat.le_trans (Nat.mul_le_mul_right _ (of_decide_eq_true (by first | (with_reducible assumption) | assumption) : ji20.toNat ≤ 35184372088832)) (by omega)) (Below.refl _ _) (Nat.le_refl _) ?_; intro v210 w34 ho35 hb hg_ hnew_; clear hg_ hnew_; (first | rw [← Ny209.out] at ho35 | (simp only [Int.reduceToNat] at ho35; rw [← Ny209.out] at ho35)); have n0_ := A_ (Kd.V_elder' (nV_ HO1) (Kd.R_base ho35) hb); have n1_ := A_ (Kd.V_elder' (nV_ HO2) (Kd.R_base ho35) hb); have n2_ := A_ (Kd.N_elder' (nN_ HO197) (Kd.R_base ho35) hb); have n3_ := A_ (Kd.V_elder' (nV_ HO201) (Kd.R_base ho35) hb); have n4_ := A_ (Kd.R_elder' (nR_ HO208) (Kd.R_base ho35) hb); have n5_ := A_ (Kd.R_lower (Kd.R_new' (Kd.R_newM (M := fun k_ => (w.heap.size ≤ k_)) ho35 (below_size hs_) (fun k_ h_ => h_)) (Kd.R_lt (nR_ HO208))) (below_size hs_)); have n6_ := A_ (blk_below (g := gb205) (o := .cells #[.int .u8 a0] 72 (0, 0)) (nb_ BK205) hb); have n7_ := A_ (below_step hs_ hb); clear HO1 HO2 HO197 HO201 HO208 BK205 HB; have HO1 := n0_; have HO2 := n1_; have HO197 := n2_; have HO201 := n3_; have HO208 := n4_; have HO211 := n5_; have BK205 := n6_; have HB := n7_; clear n0_ n1_ n2_ n3_ n4_ n5_ n6_ n7_; clear hb ho35))
        go_loopg [7] k (fun kq v7 w' => ∃ (x2_1 : List Int) (x6_1 : List Int) (x7_1 : List Int), Aside0 (poly_DivMod.l0 kq x2_1 x6_1 x7_1 t203 a0 = some (r1, r2, r3)) ∧ Aside0 (kq ≤ k) ∧ Aside0 (Kd.V (Kd.int .u64) 49 w' w.heap.size (fun k_ => ((P1_ k_ ∨ P2_ k_) ∨ w.heap.size ≤ k_) ∧ some k_ ≠ (v210 : Value).ownBlock ∧ some k_ ≠ (v7 : Value).ownBlock ∧ k_ ≠ gb205) (.slice (some ad202) t199.length co28) x2_1) ∧ Aside0 (Kd.R (Kd.int .u64) 49 w' w.heap.size (fun k_ => (w.heap.size ≤ k_) ∧ some k_ ≠ (v7 : Value).ownBlock) v210 x6_1) ∧ Aside0 (Kd.R (Kd.int .u64) 49 w' w.heap.size (fun k_ => (w.heap.size ≤ k_) ∧ some k_ ≠ (v210 : Value).ownBlock) v7 x7_1) ∧ Aside0 (w'.heap[gb205]? = some (.cells #[.int .u8 a0] 72 (0, 0))) ∧ Aside0 (Below w.heap.size w w'))
        case atStart => exact ⟨(t199), (y209), (t206), H', ⟨Nat.le_refl _⟩, ⟨by (with_reducible repeat (first | apply Kd.V_alloc | apply Kd.V_drewN | apply Kd.V_drew)); exact Kd.V_mono HO201.out (fun _ hk => ⟨hk.1.1.1.1, ⟨hk.2, ⟨hk.1.2, hk.1.1.2⟩⟩⟩)⟩, ⟨by (with_reducible repeat (first | apply Kd.R_alloc | apply Kd.R_drewN | apply Kd.R_drew)); exact Kd.R_mono HO211.out (fun _ hk => ⟨hk.1.1, hk.2⟩)⟩, ⟨by (with_reducible repeat (first | apply Kd.R_alloc | apply Kd.R_drewN | apply Kd.R_drew)); exact Kd.R_mono HO208.out (fun _ hk => ⟨hk.1.1, hk.2⟩)⟩, ⟨mb_ BK205.out⟩, ⟨hs_⟩⟩
        case round =>
         clear H'
         try clear c1
         try clear c2
         try clear p2
         try clear q2
         try clear hx2
         try clear c3
         try clear c4
         try clear c5
         try clear c5b0
         try clear c5b1
         try clear p6
         try clear c7
         try clear c7b0
         try clear c7b1
         try clear c7b2
         try clear c15
         try clear c15b0
         try clear c16
         try clear c16b0
         try clear c18
         try clear c18b0
         try clear c18b1
         try clear p20
         try clear q20
         try clear hx20
         try clear c21
         try clear c21b0
         try clear c21b1
         try clear c22
         try clear c22b0
         try clear c22b1
         try clear c32
         try clear hcz31_0
         try clear hfz31_0
         try clear hx202_0
         try clear p202
         try clear q202
         obtain ⟨x2_1, x6_1, x7_1, HA, HK1, HO_2, HO_6, HO_7, BK205, HB⟩ := hrel
         have hl2_1 := (Kd.V_reads' HO_2.out).1
         rw [hl2_1] at HO_2
         (try simp only [hl2_1])
         (try simp only [hl2_1] at BK205)
         (try simp only [hl2_1] at HO_6)
         (try simp only [hl2_1] at HO_7)
         cases gk with
         | zero => exact absurd HA.out (by simp [poly_DivMod.l0])
         | succ k1 =>
          have H := HA.out
          clear HA
          simp only [poly_DivMod.l0] at H
          replace H := Option.bind_eq_some_iff.mp H
          obtain ⟨t212, A360, H⟩ := H
          (try dsimp only at H)
          have A36 := Aside0.mk A360
          clear A360
          by_cases c37 : (wrap64 ((t212.length : Int) - (x2_1.length : Int))) < 0
          ·rw [if_pos c37] at H
           have c37b0 : decide ((wrap64 ((t212.length : Int) - (x2_1.length : Int))) < 0) = true := decide_eq_true c37
           (try simp only [hl2_1] at c37b0)
           clear c37
           replace H := Option.bind_eq_some_iff.mp H
           obtain ⟨t215, A380, H⟩ := H
           replace H : (some (t215, t212, 0)) = some (r1, r2, r3) := H
           have A38 := Aside0.mk A380
           clear A380
           simp only [Option.some.injEq, Prod.mk.injEq] at H
           obtain ⟨rfl, rfl, rfl⟩ := H
           obtain ⟨Ao39, co39, eo39⟩ := Kd.R_slice HO_7.out
           subst eo39
           go_wp2_with (first | go_step3 | ((with_reducible refine gate_callee (f := 47) rfl ?_); refine goesM_ (some 56) Try.func47 #[.slice Ao39 x7_1.length co39] ?_; (with_reducible refine (poly_trimmed_own.calls k1 (fun k_ => some k_ = (.slice Ao39 x7_1.length co39 : Value).ownBlock) (.slice Ao39 x7_1.length co39) x7_1 t212 w _ ?side1 ?side2 A36.out).mono ?_); (case side1 => repeat (first | (with_reducible first | exact HB.out | apply below_alloc | apply pw_below_drewN | apply below_drew1 | refine below_set ?_ GE205.out) | exact HB.out)); (case side2 => exact Kd.R_tight rfl HO_7.out); rintro e w40 ⟨v213, rfl, ho0, hb, hkp⟩; refine ⟨_, rfl, ?_⟩; have n0_ := A_ (Kd.V_mono (ok' := fun k_ => ((P1_ k_ ∨ P2_ k_) ∨ w.heap.size ≤ k_) ∧ some k_ ≠ (v210 : Value).ownBlock ∧ k_ ≠ gb205 ∧ some k_ ≠ (v213 : Value).ownBlock) (Kd.V_keptB (HO_2.out) hkp (fun k_ hk_ hs_ => (hk_.2.2.1) hs_)) (fun k_ hk_ => ⟨hk_.1.1, hk_.1.2.1, hk_.1.2.2.2, fun e_ => Or.elim (ho0.1 k_ e_.symm) (fun hs_ => hk_.2.1 hs_) (fun hn_ => Nat.not_le.2 hk_.2.2 hn_)⟩)); have n1_ := A_ (Kd.R_mono (ok' := fun k_ => (w.heap.size ≤ k_) ∧ some k_ ≠ (v213 : Value).ownBlock) (Kd.R_keptB (HO_6.out) hkp (fun k_ hk_ hs_ => (hk_.2) hs_)) (fun k_ hk_ => ⟨hk_.1.1, fun e_ => Or.elim (ho0.1 k_ e_.symm) (fun hs_ => hk_.2.1 hs_) (fun hn_ => Nat.not_le.2 hk_.2.2 hn_)⟩)); have n2_ := A_ (blk_kept (nb_ BK205) hkp (fun hs_ => (fun e_ => (Kd.R_ne HO_7.out BK205.out (by decide)) e_) hs_)); have n3_ := A_ (Kd.R_mono (ok' := fun k_ => (w.heap.size ≤ k_) ∧ some k_ ≠ (v210 : Value).ownBlock) ho0 (fun k_ hk_ => ⟨Or.elim hk_ (fun hs_ => (HO_7.out.1 k_ (hs_).symm).1) (fun hn_ => (Nat.le_trans (below_size hs_) hn_)), Or.elim hk_ (fun hs_ => fun e_ => (((HO_6.out).1 k_ e_.symm).2) hs_) (fun hn_ => (Kd.fresh' (Kd.R_lt (nR_ HO_6)) k_ hn_))⟩)); have n4_ := A_ (hb); clear HO_2 HO_6 BK205 HB HO_7; have HO_2 := n0_; have HO_6 := n1_; have BK205 := n2_; have HO214 := n3_; have HB := n4_; clear n0_ n1_ n2_ n3_ n4_; (try clear hb); (try clear hkp); (try clear ho0); obtain ⟨Ao41, co41, eo41⟩ := Kd.R_slice HO214.out; subst eo41; obtain ⟨Ao42, co42, eo42⟩ := Kd.R_slice HO_6.out; subst eo42) | ((with_reducible refine gate_callee (f := 47) rfl ?_); refine goesM_ (some 103) Try.func47 #[.slice Ao42 x6_1.length co42] ?_; (with_reducible refine (poly_trimmed_own.calls k1 (fun k_ => some k_ = (.slice Ao42 x6_1.length co42 : Value).ownBlock) (.slice Ao42 x6_1.length co42) x6_1 t215 w _ ?side1 ?side2 A38.out).mono ?_); (case side1 => repeat (first | (with_reducible first | exact HB.out | apply below_alloc | apply pw_below_drewN | apply below_drew1 | refine below_set ?_ GE205.out) | exact HB.out)); (case side2 => exact Kd.R_tight rfl HO_6.out); rintro e w43 ⟨v216, rfl, ho0, hb, hkp⟩; refine ⟨_, rfl, ?_⟩; have n0_ := A_ (Kd.V_mono (ok' := fun k_ => ((P1_ k_ ∨ P2_ k_) ∨ w.heap.size ≤ k_) ∧ some k_ ≠ (.slice Ao41 t212.length co41 : Value).ownBlock ∧ k_ ≠ gb205 ∧ some k_ ≠ (v216 : Value).ownBlock) (Kd.V_keptB (HO_2.out) hkp (fun k_ hk_ hs_ => (hk_.2.1) hs_)) (fun k_ hk_ => ⟨hk_.1.1, hk_.1.2.2.2, hk_.1.2.2.1, fun e_ => Or.elim (ho0.1 k_ e_.symm) (fun hs_ => hk_.2.1 hs_) (fun hn_ => Nat.not_le.2 hk_.2.2 hn_)⟩)); have n1_ := A_ (blk_kept (nb_ BK205) hkp (fun hs_ => (fun e_ => (Kd.R_ne HO_6.out BK205.out (by decide)) e_) hs_)); have n2_ := A_ (Kd.R_mono (ok' := fun k_ => (w.heap.size ≤ k_) ∧ some k_ ≠ (v216 : Value).ownBlock) (Kd.R_keptB (HO214.out) hkp (fun k_ hk_ hs_ => (hk_.2) hs_)) (fun k_ hk_ => ⟨hk_.1.1, fun e_ => Or.elim (ho0.1 k_ e_.symm) (fun hs_ => hk_.2.1 hs_) (fun hn_ => Nat.not_le.2 hk_.2.2 hn_)⟩)); have n3_ := A_ (Kd.R_mono (ok' := fun k_ => (w.heap.size ≤ k_) ∧ some k_ ≠ (.slice Ao41 t212.length co41 : Value).ownBlock) ho0 (fun k_ hk_ => ⟨Or.elim hk_ (fun hs_ => (HO_6.out.1 k_ (hs_).symm).1) (fun hn_ => (Nat.le_trans (below_size hs_) hn_)), Or.elim hk_ (fun hs_ => fun e_ => (((HO214.out).1 k_ e_.symm).2) hs_) (fun hn_ => (Kd.fresh' (Kd.R_lt (nR_ HO214)) k_ hn_))⟩)); have n4_ := A_ (hb); clear HO_2 BK205 HO214 HB HO_6; have HO_2 := n0_; have BK205 := n1_; have HO214 := n2_; have HO217 := n3_; have HB := n4_; clear n0_ n1_ n2_ n3_ n4_; (try clear hb); (try clear hkp); (try clear ho0)))
           (try rw [Exit.noGoto_ret])
           go_ret3
           exact ⟨_, _, by first | rfl | (simp [errW_none, errW_some] <;> rfl) | (simp only [← hji14, ← hji20]; first | rfl | (simp [errW_none, errW_some] <;> rfl)) | (simp [*, errW_none, errW_some] <;> rfl), nR_ HO217, nR_ HO214, hs_⟩
          ·rw [if_neg c37] at H
           have c37b0 : decide ((wrap64 ((t212.length : Int) - (x2_1.length : Int))) < 0) = false := decide_eq_false c37
           (try simp only [hl2_1] at c37b0)
           clear c37
           obtain ⟨ji44, hji44⟩ : ∃ j_ : Int, (wrap64 ((t212.length : Int) - 1)) = j_ := ⟨_, rfl⟩
           replace H : (if 0 ≤ (ji44) then (if (ji44) < (t212.length : Int) then ((poly_reckoner_mul.f k1 a0 (rd t212 (ji44)) t203).bind fun t219 => (if 0 ≤ (wrap64 ((t212.length : Int) - (x2_1.length : Int))) then (if (wrap64 ((t212.length : Int) - (x2_1.length : Int))) < (x6_1.length : Int) then (poly_DivMod.l1 k1 x2_1 (x6_1.set ((wrap64 ((t212.length : Int) - (x2_1.length : Int))) : Int).toNat t219) t212 t203 (wrap64 ((t212.length : Int) - (x2_1.length : Int))) t219 x2_1 (x2_1.length : Int) 0 a0) else (none)) else (none))) else (none)) else (none)) = some (r1, r2, r3) := by first | (rw [hji44] at H; exact H) | (simp only [hji44] at H ⊢; exact H)
           (try rw [hji44] at A36)
           have hji44w : (IntKind.i64.wrap ((t212.length : Int) - 1)) = ji44 := (i64_w _).trans hji44
           by_cases c45 : 0 ≤ (ji44)
           ·rw [if_pos c45] at H
            have c45b0 : decide (0 ≤ (ji44)) = true := decide_eq_true c45
            clear c45
            by_cases c46 : (ji44) < (t212.length : Int)
            ·rw [if_pos c46] at H
             have c46b0 : decide ((ji44) < (t212.length : Int)) = true := decide_eq_true c46
             (try simp only [hl2_1] at c46b0)
             clear c46
             replace H := Option.bind_eq_some_iff.mp H
             obtain ⟨t219, A470, H⟩ := H
             (try dsimp only at H)
             have A47 := Aside0.mk A470
             clear A470
             obtain ⟨ji48, hji48⟩ : ∃ j_ : Int, (wrap64 ((t212.length : Int) - (x2_1.length : Int))) = j_ := ⟨_, rfl⟩
             replace H : (if 0 ≤ (ji48) then (if (ji48) < (x6_1.length : Int) then (poly_DivMod.l1 k1 x2_1 (x6_1.set ((ji48) : Int).toNat t219) t212 t203 ji48 t219 x2_1 (x2_1.length : Int) 0 a0) else (none)) else (none)) = some (r1, r2, r3) := by first | (rw [hji48] at H; exact H) | (simp only [hji48] at H ⊢; exact H)
             (try rw [hji48] at c37b0)
             (try rw [hji48] at A36)
             (try rw [hji48] at A47)
             have hji48w : (IntKind.i64.wrap ((t212.length : Int) - (x2_1.length : Int))) = ji48 := (i64_w _).trans hji48
             by_cases c49 : 0 ≤ (ji48)
             ·rw [if_pos c49] at H
              have c49b0 : decide (0 ≤ (ji48)) = true := decide_eq_true c49
              clear c49
              by_cases c50 : (ji48) < (x6_1.length : Int)
              ·rw [if_pos c50] at H
               have c50b0 : decide ((ji48) < (x6_1.length : Int)) = true := decide_eq_true c50
               (try simp only [hl2_1] at c50b0)
               clear c50
               obtain ⟨y220, hy220⟩ : ∃ y_ : List Int, y_ = (x6_1.set ((ji48) : Int).toNat t219) := ⟨_, rfl⟩
               replace H : (poly_DivMod.l1 k1 x2_1 y220 t212 t203 ji48 t219 x2_1 (x2_1.length : Int) 0 a0) = some (r1, r2, r3) := by first | (rw [hy220]; with_reducible exact H) | (have H2_ := (Option.bind_some _ _).symm.trans H; rw [hy220]; with_reducible exact H2_) | (have H2_ := (Option.bind_some _ _).symm.trans H; with_reducible exact H2_) | with_reducible exact H | (rw [hy220]; exact H) | exact H
               have Ny220 := Aside0.mk hy220
               clear hy220
               have H' := Aside0.mk H
               clear H
               obtain ⟨Ao52, co52, eo52⟩ := Kd.R_slice HO_7.out
               subst eo52
               try go_wp2_with (first | go_step3 | ((with_reducible refine gate_callee (f := 47) rfl ?_); refine goesM_ (some 56) Try.func47 #[.slice Ao52 x7_1.length co52] ?_; (with_reducible refine (poly_trimmed_own.calls k1 (fun k_ => some k_ = (.slice Ao52 x7_1.length co52 : Value).ownBlock) (.slice Ao52 x7_1.length co52) x7_1 t212 w _ ?side1 ?side2 A36.out).mono ?_); (case side1 => repeat (first | (with_reducible first | exact HB.out | apply below_alloc | apply pw_below_drewN | apply below_drew1 | refine below_set ?_ GE205.out) | exact HB.out)); (case side2 => exact Kd.R_tight rfl HO_7.out); rintro e w53 ⟨v213, rfl, ho0, hb, hkp⟩; refine ⟨_, rfl, ?_⟩; have n0_ := A_ (Kd.V_mono (ok' := fun k_ => ((P1_ k_ ∨ P2_ k_) ∨ w.heap.size ≤ k_) ∧ some k_ ≠ (v210 : Value).ownBlock ∧ k_ ≠ gb205 ∧ some k_ ≠ (v213 : Value).ownBlock) (Kd.V_keptB (HO_2.out) hkp (fun k_ hk_ hs_ => (hk_.2.2.1) hs_)) (fun k_ hk_ => ⟨hk_.1.1, hk_.1.2.1, hk_.1.2.2.2, fun e_ => Or.elim (ho0.1 k_ e_.symm) (fun hs_ => hk_.2.1 hs_) (fun hn_ => Nat.not_le.2 hk_.2.2 hn_)⟩)); have n1_ := A_ (Kd.R_mono (ok' := fun k_ => (w.heap.size ≤ k_) ∧ some k_ ≠ (v213 : Value).ownBlock) (Kd.R_keptB (HO_6.out) hkp (fun k_ hk_ hs_ => (hk_.2) hs_)) (fun k_ hk_ => ⟨hk_.1.1, fun e_ => Or.elim (ho0.1 k_ e_.symm) (fun hs_ => hk_.2.1 hs_) (fun hn_ => Nat.not_le.2 hk_.2.2 hn_)⟩)); have n2_ := A_ (blk_kept (nb_ BK205) hkp (fun hs_ => (fun e_ => (Kd.R_ne HO_7.out BK205.out (by decide)) e_) hs_)); have n3_ := A_ (Kd.R_mono (ok' := fun k_ => (w.heap.size ≤ k_) ∧ some k_ ≠ (v210 : Value).ownBlock) ho0 (fun k_ hk_ => ⟨Or.elim hk_ (fun hs_ => (HO_7.out.1 k_ (hs_).symm).1) (fun hn_ => (Nat.le_trans (below_size hs_) hn_)), Or.elim hk_ (fun hs_ => fun e_ => (((HO_6.out).1 k_ e_.symm).2) hs_) (fun hn_ => (Kd.fresh' (Kd.R_lt (nR_ HO_6)) k_ hn_))⟩)); have n4_ := A_ (hb); clear HO_2 HO_6 BK205 HB HO_7; have HO_2 := n0_; have HO_6 := n1_; have BK205 := n2_; have HO214 := n3_; have HB := n4_; clear n0_ n1_ n2_ n3_ n4_; (try clear hb); (try clear hkp); (try clear ho0); obtain ⟨Ao54, co54, eo54⟩ := Kd.R_slice HO214.out; subst eo54))
               have n0_ := A_ (Kd.V_drew HO_2.out)
               have n1_ := A_ (Kd.R_drew HO_6.out)
               have n2_ := A_ (Kd.R_drew HO214.out)
               have n3_ := A_ (blk_drew BK205.out)
               have n4_ := A_ (below_drew1 HB.out)
               clear HO_2
               clear HO_6
               clear HO214
               clear BK205
               clear HB
               have HO_2 := n0_
               have HO_6 := n1_
               have HO214 := n2_
               have BK205 := n3_
               have HB := n4_
               clear n0_ n1_ n2_ n3_ n4_
               have p218 : 0 ≤ ((ji44) : Int) := of_decide_eq_true (by first | (with_reducible assumption) | assumption)
               have q218 : (ji44) < (t212.length : Int) := of_decide_eq_true (by first | (with_reducible assumption) | assumption)
               obtain ⟨ad218, e218, hx218_0⟩ := Kd.at_int (Kd.R_reads' HO214.out).2.2 (ji44) p218 q218
               cases e218
               replace p218 := eq_true p218
               replace q218 := eq_true q218
               refine start_ (n := 10) (S := fun w' => w'.cell? ⟨gb205, 0, none⟩ = some (.int .u8 a0) ∧ w'.cell? (ad218.add ((ji44)).toNat) = some (.int .u64 (rd t212 (ji44)))) (ds := []) #[false, false, false, false, false, false, false, false, false, false] (by kernel_rfl) rfl rfl ⟨(blk_cell BK205.out 0).trans rfl, hx218_0⟩ (fun hHeld => ?_); refine with_tabW poly_DivMod.tab16 poly_DivMod.bits16 (fun HT_ HW_ => ?_)
               generalize w53.drew = w55 at HO_2 HO_6 HO214 BK205 HB hx218_0 hHeld ⊢
               refine pure_ (i := 1) (N := some 65) (v := ?_) (a' := ?_) #[false, true, false, false, false, false, false, false, false, false] rfl rfl (any_of HT_.out (by kernel_rfl)) (fun _ _ _ h => h) (Or.inl ⟨by rfl, ?_⟩) ?_ ?_
               rotate_left
               ·intro w'
                go_simp
                with_reducible rfl
               rotate_left
               ·simp only [Act.put, List.setIfInBounds_toArray, List.set_cons_zero, List.set_cons_succ, i64_w, i32_w]
                rfl
               refine pure_ (i := 2) (N := some 66) (v := ?_) (a' := ?_) #[false, true, true, false, false, false, false, false, false, false] rfl rfl (any_of HT_.out (by kernel_rfl)) (fun _ _ _ h => h) (Or.inl ⟨by rfl, ?_⟩) ?_ ?_
               rotate_left
               ·intro w'
                go_simp
                with_reducible rfl
               rotate_left
               ·simp only [Act.put, List.setIfInBounds_toArray, List.set_cons_zero, List.set_cons_succ, i64_w, i32_w]
                rfl
               refine pure_ (i := 3) (N := some 67) (v := ?_) (a' := ?_) #[false, true, true, true, false, false, false, false, false, false] rfl rfl (any_of HT_.out (by kernel_rfl)) (fun _ _ _ h => h) (Or.inl ⟨by rfl, ?_⟩) ?_ ?_
               rotate_left
               ·intro w'
                go_simp
                with_reducible rfl
               rotate_left
               ·simp only [Act.put, List.setIfInBounds_toArray, List.set_cons_zero, List.set_cons_succ, i64_w, i32_w]
                rfl
               refine pure_ (i := 4) (N := some 68) (v := ?_) (a' := ?_) #[false, true, true, true, true, false, false, false, false, false] rfl rfl (any_of HT_.out (by kernel_rfl)) (fun _ _ _ h => h) (Or.inl ⟨by rfl, ?_⟩) ?_ ?_
               rotate_left
               ·intro w'
                go_simp
                with_reducible rfl
               rotate_left
               ·simp only [Act.put, List.setIfInBounds_toArray, List.set_cons_zero, List.set_cons_succ, i64_w, i32_w]
                rfl
               refine pure_ (i := 5) (N := some 69) (v := ?_) (a' := ?_) #[false, true, true, true, true, true, false, false, false, false] rfl rfl (any_of HT_.out (by kernel_rfl)) (fun _ _ _ h => h) (Or.inl ⟨by rfl, ?_⟩) ?_ ?_
               rotate_left
               ·intro w'
                go_simp
                with_reducible rfl
               rotate_left
               ·simp only [Act.put, List.setIfInBounds_toArray, List.set_cons_zero, List.set_cons_succ, i64_w, i32_w]
                rfl
               refine pure_ (i := 7) (N := some 71) (v := ?_) (a' := ?_) #[false, true, true, true, true, true, false, true, false, false] rfl rfl (any_of HT_.out (by kernel_rfl)) (fun _ _ _ h => h) (Or.inl ⟨by rfl, ?_⟩) ?_ ?_
               rotate_left
               ·intro w'
                go_simp
                with_reducible rfl
               rotate_left
               ·simp only [Act.put, List.setIfInBounds_toArray, List.set_cons_zero, List.set_cons_succ, i64_w, i32_w]
                rfl
               refine take_ (i := 0) (N := some 64) (v := ?_) (a' := ?_) #[true, true, true, true, true, true, false, true, false, false] rfl rfl (take_ofW HT_.out HW_.out (by kernel_rfl)) (fun _ _ _ h => h) (Or.inl ⟨by rfl, ?_⟩) hHeld ?_ ?_
               rotate_left
               ·rintro w' ⟨s0, s1⟩
                go_simp
                with_reducible rfl
               rotate_left
               ·simp only [Act.put, List.setIfInBounds_toArray, List.set_cons_zero, List.set_cons_succ, i64_w, i32_w]
                rfl
               refine take_ (i := 6) (N := some 70) (v := ?_) (a' := ?_) #[true, true, true, true, true, true, true, true, false, false] rfl rfl (take_ofW HT_.out HW_.out (by kernel_rfl)) (fun _ _ _ h => h) (Or.inl ⟨by rfl, ?_⟩) hHeld ?_ ?_
               rotate_left
               ·rintro w' ⟨s0, s1⟩
                go_simp
                with_reducible rfl
               rotate_left
               ·simp only [Act.put, List.setIfInBounds_toArray, List.set_cons_zero, List.set_cons_succ, i64_w, i32_w]
                rfl
               refine one_ (i := 8) (N := some 72) #[true, true, true, true, true, true, true, true, true, false] rfl rfl (one_of HT_.out (by kernel_rfl)) (by decide) (fun K hK => ?_)
               refine goes_ Try.func49 (by kernel_rfl) rfl #[.agg #[.int .u8 a0], .int .u64 (rd t212 (ji44)), .int .u64 t203] (by rfl) rfl rfl (by (try simp only [List.map_toArray, List.map_cons, List.map_nil]); first | done | (simp only [hji44]; rfl) | rfl | (simp only [List.length_drop, List.length_take]; rfl)) ?_
               with_reducible refine (poly_reckoner_mul.calls k1 a0 (rd t212 (ji44)) t203 t219 _ A47.out).mono ?_
               rintro e w56 ⟨rfl, hb⟩
               have HS1_ := (hb.cell (World.block_lt_of_cell? _ _ (hHeld.2))).trans (hHeld.2)
               refine ⟨_, rfl, ?_⟩
               have n0_ := A_ (Kd.V_below (nV_ HO_2) hb)
               have n1_ := A_ (Kd.R_below (nR_ HO_6) hb)
               have n2_ := A_ (Kd.R_below (nR_ HO214) hb)
               have n3_ := A_ (blk_below (g := gb205) (o := .cells #[.int .u8 a0] 72 (0, 0)) (nb_ BK205) hb)
               have n4_ := A_ (below_step hs_ hb)
               clear HO_2
               clear HO_6
               clear HO214
               clear BK205
               clear HB
               have HO_2 := n0_
               have HO_6 := n1_
               have HO214 := n2_
               have BK205 := n3_
               have HB := n4_
               clear n0_ n1_ n2_ n3_ n4_
               (try clear hb)
               (try clear hb2)
               (try clear hk)
               (try clear hi)
               refine hK.out _ _ ⟨(blk_cell BK205.out 0).trans rfl, HS1_⟩ (fun hHeld => ?_)
               clear hK K
               refine norm_ (a' := ?_) ?_ ?_
               rotate_left
               ·show Act.put _ (some 72) _ = _
                simp only [Act.put, List.setIfInBounds_toArray, List.set_cons_zero, List.set_cons_succ, i64_w, i32_w]
                rfl
               refine pure_ (i := 9) (N := some 13) (v := ?_) (a' := ?_) #[true, true, true, true, true, true, true, true, true, true] rfl rfl (any_of HT_.out (by kernel_rfl)) (fun _ _ _ h => h) (Or.inl ⟨by rfl, ?_⟩) ?_ ?_
               rotate_left
               ·intro w'
                go_simp
                with_reducible rfl
               rotate_left
               ·simp only [Act.put, List.setIfInBounds_toArray, List.set_cons_zero, List.set_cons_succ, i64_w, i32_w]
                rfl
               refine done_ (done_of HT_.out (by kernel_rfl)) ?_
               have p51 : 0 ≤ ((ji48) : Int) := of_decide_eq_true (by first | (with_reducible assumption) | assumption)
               have q51 : ((ji48) : Int) < ((x6_1.length : Int) : Int) := of_decide_eq_true (by first | (with_reducible assumption) | assumption)
               obtain ⟨go51, co51, eo51, gb51, gl51, cl51, HG51⟩ := Kd.R_form HO_6.out (by omega)
               (first | cases eo51 | (injection eo51 with ea_ en_ ec_; (first | subst ea_ | (injection ea_ with ea_; subst ea_)); subst ec_; clear en_))
               (try simp only [addr_add0] at *)
               have GB51 := Aside0.mk gb51
               have GG51 := Aside0.mk HG51
               clear gb51 gl51 HG51
               obtain ⟨hx51_0, hf51_0⟩ := Kd.R_celln 0 HO_6.out ((ji48) : Int) p51 q51
               replace p51 := eq_true p51
               replace q51 := eq_true q51
               obtain ⟨hy57_, hz57_⟩ := Kd.R_celln 0 HO_6.out ((ji48) : Int) (of_decide_eq_true (by first | (with_reducible assumption) | assumption)) (of_decide_eq_true (by first | (with_reducible assumption) | assumption))
               have HP57 := Kd.R_putg HO_6.out ((ji48) : Int) t219
               try go_wp2_with (first | go_step3 | ((with_reducible refine gate_store (t := 49) (p := 76) rfl ?_); (try (rw [drewN_self w56]; generalize hq_ : World.drewN w56 _ = w56; have n0_ := A_ (Kd.V_at hq_ HO_2.out); have n1_ := A_ (Kd.R_at hq_ HO_6.out); have n2_ := A_ (Kd.R_at hq_ HO214.out); have n3_ := A_ (blk_at hq_ BK205.out); have n4_ := A_ (below_at hq_ HB.out); clear hq_ HO_2 HO_6 HO214 BK205 HB; have HO_2 := n0_; have HO_6 := n1_; have HO214 := n2_; have BK205 := n3_; have HB := n4_; clear n0_ n1_ n2_ n3_ n4_; (try (obtain ⟨hy57_, hz57_⟩ := Kd.R_celln 0 HO_6.out ((ji48) : Int) (of_decide_eq_true (by first | (with_reducible assumption) | assumption)) (of_decide_eq_true (by first | (with_reducible assumption) | assumption)))); (try (have HP57 := Kd.R_putg HO_6.out ((ji48) : Int) t219)))); refine store_event (t := 49) (p := 76) (v := ?vo_w58) (w1 := (w56.setCell ⟨go51, ((ji48) : Int).toNat, none⟩ (.int .u64 t219))) ?hg ?ho ?hn ?hr ?_; (case ho => rfl); (case hg => rfl); (case hn => rfl); (case hr => first | (go_simp; done) | (go_simp; rfl)); intro w58 hw; have hg : w56.grownBy w58 (some go51) := (by rw [hw]; exact HP57.2); have hp_ : Kd.R (Kd.int .u64) 49 w58 w.heap.size (fun k_ => (w.heap.size ≤ k_) ∧ some k_ ≠ (.slice (some ad218) t212.length co54 : Value).ownBlock) (.slice (some ⟨go51, 0, none⟩) x6_1.length co51) y220 := (by rw [hw, Ny220.out]; exact HP57.1); clear HP57; have n0_ := A_ (Kd.V_afterv (v := (.slice (some ⟨go51, 0, none⟩) x6_1.length co51)) (v1 := (.slice (some ⟨go51, 0, none⟩) x6_1.length co51)) (ok := (fun k_ => ((P1_ k_ ∨ P2_ k_) ∨ w.heap.size ≤ k_) ∧ some k_ ≠ (.slice (some ad218) t212.length co54 : Value).ownBlock ∧ k_ ≠ gb205)) (by (with_reducible repeat (first | apply Kd.V_alloc | apply Kd.V_drewN | apply Kd.V_drew)); exact Kd.V_mono HO_2.out (fun _ hk => ⟨⟨hk.1, ⟨hk.2.2.2, hk.2.2.1⟩⟩, hk.2.1⟩)) hg (.inl rfl)); have n1_ := A_ (hp_); have n2_ := A_ (blk_grown (g := gb205) (o := .cells #[.int .u8 a0] 72 (0, 0)) (nb_ BK205) hg (Kd.R_ne HO_6.out BK205.out (by decide))); have n3_ := A_ (Kd.R_after (v := (.slice (some ⟨go51, 0, none⟩) x6_1.length co51)) (v1 := (.slice (some ⟨go51, 0, none⟩) x6_1.length co51)) (ok := (fun k_ => (w.heap.size ≤ k_))) (nR_ HO214) hg (.inl rfl)); have n4_ := A_ ((by rw [hw]; exact below_set (HB.out) GB51.out : Below w.heap.size w w58)); clear HO_2 HO_6 BK205 HO214 HB; have HO_2 := n0_; have HO_6 := n1_; have BK205 := n2_; have HO214 := n3_; have HB := n4_; clear n0_ n1_ n2_ n3_ n4_; clear hg hw hp_))
               go_loopg [79] k1 (fun kq v79 w' => ∃ (x7_2 : List Int) (x79_2 : Int), v79 = .int .i64 x79_2 ∧ Aside0 (poly_DivMod.l1 kq x2_1 y220 x7_2 t203 ji48 t219 x2_1 (x2_1.length : Int) x79_2 a0 = some (r1, r2, r3)) ∧ Aside0 (kq ≤ k1) ∧ Aside0 (Kd.V (Kd.int .u64) 49 w' w.heap.size (fun k_ => ((P1_ k_ ∨ P2_ k_) ∨ w.heap.size ≤ k_) ∧ some k_ ≠ ((.slice (some ⟨go51, 0, none⟩) x6_1.length co51) : Value).ownBlock ∧ some k_ ≠ ((.slice (some ad218) t212.length co54) : Value).ownBlock ∧ k_ ≠ gb205) (.slice (some ad202) x2_1.length co28) x2_1) ∧ Aside0 (Kd.R (Kd.int .u64) 49 w' w.heap.size (fun k_ => (w.heap.size ≤ k_) ∧ some k_ ≠ ((.slice (some ad218) t212.length co54) : Value).ownBlock) (.slice (some ⟨go51, 0, none⟩) x6_1.length co51) y220) ∧ Aside0 (Kd.R (Kd.int .u64) 49 w' w.heap.size (fun k_ => (w.heap.size ≤ k_) ∧ some k_ ≠ ((.slice (some ⟨go51, 0, none⟩) x6_1.length co51) : Value).ownBlock) (.slice (some ad218) t212.length co54) x7_2) ∧ Aside0 (Kd.V (Kd.int .u64) 49 w' w.heap.size (fun k_ => ((P1_ k_ ∨ P2_ k_) ∨ w.heap.size ≤ k_) ∧ some k_ ≠ ((.slice (some ⟨go51, 0, none⟩) x6_1.length co51) : Value).ownBlock ∧ some k_ ≠ ((.slice (some ad218) t212.length co54) : Value).ownBlock ∧ k_ ≠ gb205) (.slice (some ad202) x2_1.length co28) x2_1) ∧ Aside0 (w'.heap[gb205]? = some (.cells #[.int .u8 a0] 72 (0, 0))) ∧ Aside0 (Below w.heap.size w w'))
               case atStart => exact ⟨(t212), (0), (fs_), H', ⟨Nat.le_refl _⟩, ⟨by (try simp only [hl2_1]); (with_reducible repeat (first | apply Kd.V_alloc | apply Kd.V_drewN | apply Kd.V_drew)); exact Kd.V_mono HO_2.out (fun _ hk => ⟨hk.1.1, ⟨hk.2, ⟨hk.1.2.1, hk.1.2.2⟩⟩⟩)⟩, ⟨by (try simp only [hl2_1]); (with_reducible repeat (first | apply Kd.R_alloc | apply Kd.R_drewN | apply Kd.R_drew)); exact HO_6.out⟩, ⟨by (try simp only [hl2_1]); (with_reducible repeat (first | apply Kd.R_alloc | apply Kd.R_drewN | apply Kd.R_drew)); exact HO214.out⟩, ⟨by (try simp only [hl2_1]); (with_reducible repeat (first | apply Kd.V_alloc | apply Kd.V_drewN | apply Kd.V_drew)); exact Kd.V_mono HO_2.out (fun _ hk => ⟨hk.1.1, ⟨hk.2, ⟨hk.1.2.1, hk.1.2.2⟩⟩⟩)⟩, ⟨by (try simp only [hl2_1]); (with_reducible repeat (first | refine blk_drewN ?_ _ | refine blk_drew ?_ | refine blk_alloc ?_ _)); exact BK205.out⟩, ⟨hs_⟩⟩
               case round =>
                clear H'
                try clear c1
                try clear c2
                try clear p2
                try clear q2
                try clear hx2
                try clear c3
                try clear c4
                try clear c5
                try clear c5b0
                try clear c5b1
                try clear p5
                try clear q5
                try clear hx5
                try clear hf5
                try clear p6
                try clear c7
                try clear c7b0
                try clear c7b1
                try clear c7b2
                try clear c15
                try clear c15b0
                try clear c16
                try clear c16b0
                try clear c18
                try clear c18b0
                try clear c18b1
                try clear p20
                try clear q20
                try clear hx20
                try clear c21
                try clear c21b0
                try clear c21b1
                try clear p21
                try clear q21
                try clear hx21
                try clear c22
                try clear c22b0
                try clear c22b1
                try clear c32
                try clear c36
                try clear c37
                try clear c37b0
                try clear c45
                try clear c45b0
                try clear c46
                try clear c46b0
                try clear c47
                try clear c48
                try clear c49
                try clear c49b0
                try clear c50
                try clear c50b0
                try clear p51
                try clear q51
                try clear hx51
                try clear hf51
                try clear hcz31_0
                try clear hfz31_0
                try clear hx202_0
                try clear hx218_0
                try clear hx51_0
                try clear p2
                try clear p20
                try clear p202
                try clear p218
                try clear p51
                try clear p6
                try clear q2
                try clear q20
                try clear q202
                try clear q218
                try clear q51
                obtain ⟨x7_2, x79_2, rfl, HA, HK2, HO_2, HO_6, HO_7, HO_77, BK205, HB⟩ := hrel
                have hl6_2 := (Kd.R_reads' HO_6.out).1
                rw [hl6_2] at HO_6
                (try simp only [hl6_2])
                (try simp only [hl6_2] at BK205)
                (try simp only [hl6_2] at HO_2)
                (try simp only [hl6_2] at HO_7)
                (try simp only [hl6_2] at HO_77)
                have hl7_2 := (Kd.R_reads' HO_7.out).1
                rw [hl7_2] at HO_7
                (try simp only [hl7_2])
                (try simp only [hl7_2] at BK205)
                (try simp only [hl7_2] at HO_2)
                (try simp only [hl7_2] at HO_6)
                (try simp only [hl7_2] at HO_77)
                cases gk with
                | zero => exact absurd HA.out (by simp [poly_DivMod.l1])
                | succ k2 =>
                 have H := HA.out
                 clear HA
                 simp only [poly_DivMod.l1] at H
                 by_cases c59 : x79_2 < (x2_1.length : Int)
                 ·rw [if_pos c59] at H
                  have c59b0 : decide (x79_2 < (x2_1.length : Int)) = true := decide_eq_true c59
                  (try simp only [hl2_1, hl6_2, hl7_2] at c59b0)
                  clear c59
                  by_cases c60 : 0 ≤ x79_2
                  ·rw [if_pos c60] at H
                   have c60b0 : decide (0 ≤ x79_2) = true := decide_eq_true c60
                   clear c60
                   by_cases c61 : x79_2 < (x2_1.length : Int)
                   ·rw [if_pos c61] at H
                    have c61b0 : decide (x79_2 < (x2_1.length : Int)) = true := decide_eq_true c61
                    (try simp only [hl2_1, hl6_2, hl7_2] at c61b0)
                    clear c61
                    obtain ⟨ji62, hji62⟩ : ∃ j_ : Int, (wrap64 (ji48 + x79_2)) = j_ := ⟨_, rfl⟩
                    replace H : (if 0 ≤ (ji62) then (if (ji62) < (x7_2.length : Int) then ((poly_reckoner_mul.f k2 a0 t219 (rd x2_1 x79_2)).bind fun t223 => ((poly_reckoner_sub.f k2 a0 (rd x7_2 (ji62)) t223).bind fun t224 => (poly_DivMod.l1 k2 x2_1 y220 (x7_2.set ((ji62) : Int).toNat t224) t203 ji48 t219 x2_1 (x2_1.length : Int) (wrap64 (x79_2 + 1)) a0))) else (none)) else (none)) = some (r1, r2, r3) := by first | (rw [hji62] at H; exact H) | (simp only [hji62] at H ⊢; exact H)
                    have hji62w : (IntKind.i64.wrap (ji48 + x79_2)) = ji62 := (i64_w _).trans hji62
                    by_cases c63 : 0 ≤ (ji62)
                    ·rw [if_pos c63] at H
                     have c63b0 : decide (0 ≤ (ji62)) = true := decide_eq_true c63
                     clear c63
                     by_cases c64 : (ji62) < (x7_2.length : Int)
                     ·rw [if_pos c64] at H
                      have c64b0 : decide ((ji62) < (x7_2.length : Int)) = true := decide_eq_true c64
                      (try simp only [hl2_1, hl6_2, hl7_2] at c64b0)
                      clear c64
                      replace H := Option.bind_eq_some_iff.mp H
                      obtain ⟨t223, A650, H⟩ := H
                      replace H : ((poly_reckoner_sub.f k2 a0 (rd x7_2 (ji62)) t223).bind fun t224 => (poly_DivMod.l1 k2 x2_1 y220 (x7_2.set ((ji62) : Int).toNat t224) t203 ji48 t219 x2_1 (x2_1.length : Int) (wrap64 (x79_2 + 1)) a0)) = some (r1, r2, r3) := H
                      have A65 := Aside0.mk A650
                      clear A650
                      replace H := Option.bind_eq_some_iff.mp H
                      obtain ⟨t224, A660, H⟩ := H
                      replace H : (poly_DivMod.l1 k2 x2_1 y220 (x7_2.set ((ji62) : Int).toNat t224) t203 ji48 t219 x2_1 (x2_1.length : Int) (wrap64 (x79_2 + 1)) a0) = some (r1, r2, r3) := H
                      have A66 := Aside0.mk A660
                      clear A660
                      obtain ⟨y225, hy225⟩ : ∃ y_ : List Int, y_ = (x7_2.set ((ji62) : Int).toNat t224) := ⟨_, rfl⟩
                      replace H : (poly_DivMod.l1 k2 x2_1 y220 y225 t203 ji48 t219 x2_1 (x2_1.length : Int) (wrap64 (x79_2 + 1)) a0) = some (r1, r2, r3) := by first | (rw [hy225]; with_reducible exact H) | (have H2_ := (Option.bind_some _ _).symm.trans H; rw [hy225]; with_reducible exact H2_) | (have H2_ := (Option.bind_some _ _).symm.trans H; with_reducible exact H2_) | with_reducible exact H | (rw [hy225]; exact H) | exact H
                      have Ny225 := Aside0.mk hy225
                      clear hy225
                      have H' := Aside0.mk H
                      clear H
                      have p221 : 0 ≤ (x79_2 : Int) := of_decide_eq_true (by first | (with_reducible assumption) | assumption)
                      have q221 : x79_2 < (x2_1.length : Int) := of_decide_eq_true (by first | (with_reducible assumption) | assumption)
                      obtain ⟨ad221, e221, hx221_0⟩ := Kd.at_int (Kd.V_reads' HO_77.out).2.2 x79_2 p221 q221
                      obtain rfl : ad202 = ad221 := (by injection e221)
                      replace p221 := eq_true p221
                      replace q221 := eq_true q221
                      try go_wp2_with (go_step3)
                      have n0_ := A_ (Kd.V_drew HO_2.out)
                      have n1_ := A_ (Kd.R_drew HO_6.out)
                      have n2_ := A_ (Kd.R_drew HO_7.out)
                      have n3_ := A_ (Kd.V_drew HO_77.out)
                      have n4_ := A_ (blk_drew BK205.out)
                      have n5_ := A_ (below_drew1 HB.out)
                      clear HO_2
                      clear HO_6
                      clear HO_7
                      clear HO_77
                      clear BK205
                      clear HB
                      have HO_2 := n0_
                      have HO_6 := n1_
                      have HO_7 := n2_
                      have HO_77 := n3_
                      have BK205 := n4_
                      have HB := n5_
                      clear n0_ n1_ n2_ n3_ n4_ n5_
                      have p222 : 0 ≤ ((ji62) : Int) := of_decide_eq_true (by first | (with_reducible assumption) | assumption)
                      have q222 : (ji62) < (x7_2.length : Int) := of_decide_eq_true (by first | (with_reducible assumption) | assumption)
                      obtain ⟨ad222, e222, hx222_0⟩ := Kd.at_int (Kd.R_reads' HO_7.out).2.2 (ji62) p222 q222
                      obtain rfl : ad218 = ad222 := (by injection e222)
                      replace p222 := eq_true p222
                      replace q222 := eq_true q222
                      refine start_ (n := 18) (S := fun w' => w'.cell? ⟨gb205, 0, none⟩ = some (.int .u8 a0) ∧ w'.cell? (ad218.add ((ji62)).toNat) = some (.int .u64 (rd x7_2 (ji62)))) (ds := [17]) #[false, false, false, false, false, false, false, false, false, false, false, false, false, false, false, false, false, false] (by kernel_rfl) rfl rfl ⟨(blk_cell BK205.out 0).trans rfl, hx222_0⟩ (fun hHeld => ?_); refine with_tabW poly_DivMod.tab21 poly_DivMod.bits21 (fun HT_ HW_ => ?_)
                      generalize wr.drew = w68 at HO_2 HO_6 HO_7 HO_77 BK205 HB hx222_0 hHeld ⊢
                      refine pure_ (i := 0) (N := some 84) (v := ?_) (a' := ?_) #[true, false, false, false, false, false, false, false, false, false, false, false, false, false, false, false, false, false] rfl rfl (any_of HT_.out (by kernel_rfl)) (fun _ _ _ h => h) (Or.inl ⟨by rfl, ?_⟩) ?_ ?_
                      rotate_left
                      ·intro w'
                       go_simp
                       with_reducible rfl
                      rotate_left
                      ·simp only [Act.put, List.setIfInBounds_toArray, List.set_cons_zero, List.set_cons_succ, i64_w, i32_w]
                       rfl
                      refine pure_ (i := 1) (N := some 85) (v := ?_) (a' := ?_) #[true, true, false, false, false, false, false, false, false, false, false, false, false, false, false, false, false, false] rfl rfl (any_of HT_.out (by kernel_rfl)) (fun _ _ _ h => h) (Or.inl ⟨by rfl, ?_⟩) ?_ ?_
                      rotate_left
                      ·intro w'
                       go_simp
                       with_reducible rfl
                      rotate_left
                      ·simp only [Act.put, List.setIfInBounds_toArray, List.set_cons_zero, List.set_cons_succ, i64_w, i32_w]
                       rfl
                      refine pure_ (i := 2) (N := some 86) (v := ?_) (a' := ?_) #[true, true, true, false, false, false, false, false, false, false, false, false, false, false, false, false, false, false] rfl rfl (any_of HT_.out (by kernel_rfl)) (fun _ _ _ h => h) (Or.inl ⟨by rfl, ?_⟩) ?_ ?_
                      rotate_left
                      ·intro w'
                       go_simp
                       with_reducible rfl
                      rotate_left
                      ·simp only [Act.put, List.setIfInBounds_toArray, List.set_cons_zero, List.set_cons_succ, i64_w, i32_w]
                       rfl
                      refine pure_ (i := 3) (N := some 87) (v := ?_) (a' := ?_) #[true, true, true, true, false, false, false, false, false, false, false, false, false, false, false, false, false, false] rfl rfl (any_of HT_.out (by kernel_rfl)) (fun _ _ _ h => h) (Or.inl ⟨by rfl, ?_⟩) ?_ ?_
                      rotate_left
                      ·intro w'
                       go_simp
                       with_reducible rfl
                      rotate_left
                      ·simp only [Act.put, List.setIfInBounds_toArray, List.set_cons_zero, List.set_cons_succ, i64_w, i32_w]
                       rfl
                      refine pure_ (i := 5) (N := some 89) (v := ?_) (a' := ?_) #[true, true, true, true, false, true, false, false, false, false, false, false, false, false, false, false, false, false] rfl rfl (any_of HT_.out (by kernel_rfl)) (fun _ _ _ h => h) (Or.inl ⟨by rfl, ?_⟩) ?_ ?_
                      rotate_left
                      ·intro w'
                       go_simp
                       with_reducible rfl
                      rotate_left
                      ·simp only [Act.put, List.setIfInBounds_toArray, List.set_cons_zero, List.set_cons_succ, i64_w, i32_w]
                       rfl
                      refine pure_ (i := 6) (N := some 90) (v := ?_) (a' := ?_) #[true, true, true, true, false, true, true, false, false, false, false, false, false, false, false, false, false, false] rfl rfl (any_of HT_.out (by kernel_rfl)) (fun _ _ _ h => h) (Or.inl ⟨by rfl, ?_⟩) ?_ ?_
                      rotate_left
                      ·intro w'
                       go_simp
                       with_reducible rfl
                      rotate_left
                      ·simp only [Act.put, List.setIfInBounds_toArray, List.set_cons_zero, List.set_cons_succ, i64_w, i32_w]
                       rfl
                      refine pure_ (i := 7) (N := some 91) (v := ?_) (a' := ?_) #[true, true, true, true, false, true, true, true, false, false, false, false, false, false, false, false, false, false] rfl rfl (any_of HT_.out (by kernel_rfl)) (fun _ _ _ h => h) (Or.inl ⟨by rfl, ?_⟩) ?_ ?_
                      rotate_left
                      ·intro w'
                       go_simp
                       with_reducible rfl
                      rotate_left
                      ·simp only [Act.put, List.setIfInBounds_toArray, List.set_cons_zero, List.set_cons_succ, i64_w, i32_w]
                       rfl
                      refine pure_ (i := 8) (N := some 92) (v := ?_) (a' := ?_) #[true, true, true, true, false, true, true, true, true, false, false, false, false, false, false, false, false, false] rfl rfl (any_of HT_.out (by kernel_rfl)) (fun _ _ _ h => h) (Or.inl ⟨by rfl, ?_⟩) ?_ ?_
                      rotate_left
                      ·intro w'
                       go_simp
                       with_reducible rfl
                      rotate_left
                      ·simp only [Act.put, List.setIfInBounds_toArray, List.set_cons_zero, List.set_cons_succ, i64_w, i32_w]
                       rfl
                      refine pure_ (i := 9) (N := some 93) (v := ?_) (a' := ?_) #[true, true, true, true, false, true, true, true, true, true, false, false, false, false, false, false, false, false] rfl rfl (any_of HT_.out (by kernel_rfl)) (fun _ _ _ h => h) (Or.inl ⟨by rfl, ?_⟩) ?_ ?_
                      rotate_left
                      ·intro w'
                       go_simp
                       with_reducible rfl
                      rotate_left
                      ·simp only [Act.put, List.setIfInBounds_toArray, List.set_cons_zero, List.set_cons_succ, i64_w, i32_w]
                       rfl
                      refine pure_ (i := 12) (N := some 96) (v := ?_) (a' := ?_) #[true, true, true, true, false, true, true, true, true, true, false, false, true, false, false, false, false, false] rfl rfl (any_of HT_.out (by kernel_rfl)) (fun _ _ _ h => h) (Or.inl ⟨by rfl, ?_⟩) ?_ ?_
                      rotate_left
                      ·intro w'
                       go_simp
                       with_reducible rfl
                      rotate_left
                      ·simp only [Act.put, List.setIfInBounds_toArray, List.set_cons_zero, List.set_cons_succ, i64_w, i32_w]
                       rfl
                      refine pure_ (i := 13) (N := some 97) (v := ?_) (a' := ?_) #[true, true, true, true, false, true, true, true, true, true, false, false, true, true, false, false, false, false] rfl rfl (any_of HT_.out (by kernel_rfl)) (fun _ _ _ h => h) (Or.inl ⟨by rfl, ?_⟩) ?_ ?_
                      rotate_left
                      ·intro w'
                       go_simp
                       with_reducible rfl
                      rotate_left
                      ·simp only [Act.put, List.setIfInBounds_toArray, List.set_cons_zero, List.set_cons_succ, i64_w, i32_w]
                       rfl
                      refine take_ (i := 4) (N := some 88) (v := ?_) (a' := ?_) #[true, true, true, true, true, true, true, true, true, true, false, false, true, true, false, false, false, false] rfl rfl (take_ofW HT_.out HW_.out (by kernel_rfl)) (fun _ _ _ h => h) (Or.inl ⟨by rfl, ?_⟩) hHeld ?_ ?_
                      rotate_left
                      ·rintro w' ⟨s0, s1⟩
                       go_simp
                       with_reducible rfl
                      rotate_left
                      ·simp only [Act.put, List.setIfInBounds_toArray, List.set_cons_zero, List.set_cons_succ, i64_w, i32_w]
                       rfl
                      refine take_ (i := 10) (N := some 94) (v := ?_) (a' := ?_) #[true, true, true, true, true, true, true, true, true, true, true, false, true, true, false, false, false, false] rfl rfl (take_ofW HT_.out HW_.out (by kernel_rfl)) (fun _ _ _ h => h) (Or.inl ⟨by rfl, ?_⟩) hHeld ?_ ?_
                      rotate_left
                      ·rintro w' ⟨s0, s1⟩
                       go_simp
                       with_reducible rfl
                      rotate_left
                      ·simp only [Act.put, List.setIfInBounds_toArray, List.set_cons_zero, List.set_cons_succ, i64_w, i32_w]
                       rfl
                      refine take_ (i := 11) (N := some 95) (v := ?_) (a' := ?_) #[true, true, true, true, true, true, true, true, true, true, true, true, true, true, false, false, false, false] rfl rfl (take_ofW HT_.out HW_.out (by kernel_rfl)) (fun _ _ _ h => h) (Or.inl ⟨by rfl, ?_⟩) hHeld ?_ ?_
                      rotate_left
                      ·rintro w' ⟨s0, s1⟩
                       go_simp
                       with_reducible rfl
                      rotate_left
                      ·simp only [Act.put, List.setIfInBounds_toArray, List.set_cons_zero, List.set_cons_succ, i64_w, i32_w]
                       rfl
                      refine one_ (i := 14) (N := some 98) #[true, true, true, true, true, true, true, true, true, true, true, true, true, true, true, false, false, false] rfl rfl (one_of HT_.out (by kernel_rfl)) (by decide) (fun K hK => ?_)
                      refine goes_ Try.func49 (by kernel_rfl) rfl #[.agg #[.int .u8 a0], .int .u64 t219, .int .u64 (rd x2_1 x79_2)] (by rfl) rfl rfl (by (try simp only [List.map_toArray, List.map_cons, List.map_nil]); first | done | rfl | (simp only [List.length_drop, List.length_take]; rfl)) ?_
                      with_reducible refine (poly_reckoner_mul.calls k2 a0 t219 (rd x2_1 x79_2) t223 _ A65.out).mono ?_
                      rintro e w69 ⟨rfl, hb⟩
                      have HS1_ := (hb.cell (World.block_lt_of_cell? _ _ (hHeld.2))).trans (hHeld.2)
                      refine ⟨_, rfl, ?_⟩
                      have n0_ := A_ (Kd.V_below (nV_ HO_2) hb)
                      have n1_ := A_ (Kd.R_below (nR_ HO_6) hb)
                      have n2_ := A_ (Kd.R_below (nR_ HO_7) hb)
                      have n3_ := A_ (Kd.V_below (nV_ HO_77) hb)
                      have n4_ := A_ (blk_below (g := gb205) (o := .cells #[.int .u8 a0] 72 (0, 0)) (nb_ BK205) hb)
                      have n5_ := A_ (below_step hs_ hb)
                      clear HO_2
                      clear HO_6
                      clear HO_7
                      clear HO_77
                      clear BK205
                      clear HB
                      have HO_2 := n0_
                      have HO_6 := n1_
                      have HO_7 := n2_
                      have HO_77 := n3_
                      have BK205 := n4_
                      have HB := n5_
                      clear n0_ n1_ n2_ n3_ n4_ n5_
                      (try clear hb)
                      (try clear hb2)
                      (try clear hk)
                      (try clear hi)
                      refine hK.out _ _ ⟨(blk_cell BK205.out 0).trans rfl, HS1_⟩ (fun hHeld => ?_)
                      clear hK K
                      refine norm_ (a' := ?_) ?_ ?_
                      rotate_left
                      ·show Act.put _ (some 98) _ = _
                       simp only [Act.put, List.setIfInBounds_toArray, List.set_cons_zero, List.set_cons_succ, i64_w, i32_w]
                       rfl
                      refine one_ (i := 15) (N := some 99) #[true, true, true, true, true, true, true, true, true, true, true, true, true, true, true, true, false, false] rfl rfl (one_of HT_.out (by kernel_rfl)) (by decide) (fun K hK => ?_)
                      refine goes_ Try.func50 (by kernel_rfl) rfl #[.agg #[.int .u8 a0], .int .u64 (rd x7_2 (ji62)), .int .u64 t223] (by rfl) rfl rfl (by (try simp only [List.map_toArray, List.map_cons, List.map_nil]); first | done | (simp only [hji62]; rfl) | rfl | (simp only [List.length_drop, List.length_take]; rfl)) ?_
                      with_reducible refine (poly_reckoner_sub.calls k2 a0 (rd x7_2 (ji62)) t223 t224 _ A66.out).mono ?_
                      rintro e w70 ⟨rfl, hb⟩
                      have HS1_ := (hb.cell (World.block_lt_of_cell? _ _ (hHeld.2))).trans (hHeld.2)
                      refine ⟨_, rfl, ?_⟩
                      have n0_ := A_ (Kd.V_below (nV_ HO_2) hb)
                      have n1_ := A_ (Kd.R_below (nR_ HO_6) hb)
                      have n2_ := A_ (Kd.R_below (nR_ HO_7) hb)
                      have n3_ := A_ (Kd.V_below (nV_ HO_77) hb)
                      have n4_ := A_ (blk_below (g := gb205) (o := .cells #[.int .u8 a0] 72 (0, 0)) (nb_ BK205) hb)
                      have n5_ := A_ (below_step hs_ hb)
                      clear HO_2
                      clear HO_6
                      clear HO_7
                      clear HO_77
                      clear BK205
                      clear HB
                      have HO_2 := n0_
                      have HO_6 := n1_
                      have HO_7 := n2_
                      have HO_77 := n3_
                      have BK205 := n4_
                      have HB := n5_
                      clear n0_ n1_ n2_ n3_ n4_ n5_
                      (try clear hb)
                      (try clear hb2)
                      (try clear hk)
                      (try clear hi)
                      have p67 : 0 ≤ ((ji62) : Int) := of_decide_eq_true (by first | (with_reducible assumption) | assumption)
                      have q67 : ((ji62) : Int) < ((x7_2.length : Int) : Int) := of_decide_eq_true (by first | (with_reducible assumption) | assumption)
                      obtain ⟨go67, co67, eo67, gb67, gl67, cl67, HG67⟩ := Kd.R_form HO_7.out (by omega)
                      (first | cases eo67 | (injection eo67 with ea_ en_ ec_; (first | subst ea_ | (injection ea_ with ea_; subst ea_)); subst ec_; clear en_))
                      (try simp only [addr_add0] at *)
                      have GB67 := Aside0.mk gb67
                      have GG67 := Aside0.mk HG67
                      clear gb67 gl67 HG67
                      (first | simp only [add_plain] at hx218_0 | skip)
                      (first | simp only [add_plain] at hx222_0 | skip)
                      obtain ⟨hx67_0, hf67_0⟩ := Kd.R_celln 0 HO_7.out ((ji62) : Int) p67 q67
                      replace p67 := eq_true p67
                      replace q67 := eq_true q67
                      have HP71 := Kd.R_putn HO_7.out ((ji62) : Int) t224
                      rw [← Ny225.out] at HP71
                      have HQ71 := Aside0.mk HP71
                      clear HP71
                      refine hK.out _ _ ⟨(blk_cell BK205.out 0).trans rfl, HS1_⟩ (fun hHeld => ?_)
                      clear hK K
                      refine norm_ (a' := ?_) ?_ ?_
                      rotate_left
                      ·show Act.put _ (some 99) _ = _
                       simp only [Act.put, List.setIfInBounds_toArray, List.set_cons_zero, List.set_cons_succ, i64_w, i32_w]
                       rfl
                      refine pure_ (i := 16) (N := some 100) (v := ?_) (a' := ?_) #[true, true, true, true, true, true, true, true, true, true, true, true, true, true, true, true, true, false] rfl rfl (any_of HT_.out (by kernel_rfl)) (fun _ _ _ h => h) (Or.inl ⟨by rfl, ?_⟩) ?_ ?_
                      rotate_left
                      ·intro w'
                       go_simp
                       with_reducible rfl
                      rotate_left
                      ·simp only [Act.put, List.setIfInBounds_toArray, List.set_cons_zero, List.set_cons_succ, i64_w, i32_w]
                       rfl
                      refine last_ (i := 17) (N := none) #[true, true, true, true, true, true, true, true, true, true, true, true, true, true, true, true, true, true] rfl rfl (one_of HT_.out (by kernel_rfl)) (by decide) (fun K hK => ?_)
                      refine skip_ (w1 := ?_) (by rfl) rfl ?_ ?_
                      rotate_left
                      ·go_simp
                       rfl
                      refine hK.out _ _ ?_
                      clear hK K
                      refine done_ (done_of HT_.out (by kernel_rfl)) ?_
                      try go_wp2_with (go_step3)
                      (try simp only [← hl6_2, ← hl7_2])
                      go_roundg k2
                      case measure => have := HK1.out; have := HK2.out; omega
                      case rel => exact ⟨(y225), (wrap64 (x79_2 + 1)), (fs_), H', ⟨by have := HK1.out; have := HK2.out; omega⟩, ⟨by (try simp only [hl2_1]); (try simp only [hl6_2]); (try simp only [hl7_2]); (with_reducible repeat (first | apply Kd.V_alloc | apply Kd.V_drewN | apply Kd.V_drew)); exact Kd.V_mono (Kd.V_far (p := ⟨go67, ((ji62) : Int).toNat, none⟩) (Kd.V_mono HO_2.out (fun k_ hk => (⟨hk, fun e_ => hk.2.2.1 (by rw [e_]; rfl)⟩ : _ ∧ k_ ≠ go67))) (fun _ hk => hk.2) (.int .u64 t224)) (fun _ hk => ⟨hk.1.1, ⟨hk.1.2.1, ⟨hk.1.2.2.1, hk.1.2.2.2⟩⟩⟩)⟩, ⟨by (try simp only [hl2_1]); (try simp only [hl6_2]); (try simp only [hl7_2]); (with_reducible repeat (first | apply Kd.R_alloc | apply Kd.R_drewN | apply Kd.R_drew)); exact Kd.R_mono (Kd.R_far (p := ⟨go67, ((ji62) : Int).toNat, none⟩) (Kd.R_mono HO_6.out (fun k_ hk => (⟨hk, fun e_ => hk.2 (by rw [e_]; rfl)⟩ : _ ∧ k_ ≠ go67))) (fun _ hk => hk.2) (.int .u64 t224)) (fun _ hk => ⟨hk.1.1, hk.1.2⟩)⟩, ⟨by (try simp only [hl2_1]); (try simp only [hl6_2]); (try simp only [hl7_2]); (with_reducible repeat (first | apply Kd.R_alloc | apply Kd.R_drewN | apply Kd.R_drew)); exact HQ71.out⟩, ⟨by (try simp only [hl2_1]); (try simp only [hl6_2]); (try simp only [hl7_2]); (with_reducible repeat (first | apply Kd.V_alloc | apply Kd.V_drewN | apply Kd.V_drew)); exact Kd.V_mono (Kd.V_far (p := ⟨go67, ((ji62) : Int).toNat, none⟩) (Kd.V_mono HO_77.out (fun k_ hk => (⟨hk, fun e_ => hk.2.2.1 (by rw [e_]; rfl)⟩ : _ ∧ k_ ≠ go67))) (fun _ hk => hk.2) (.int .u64 t224)) (fun _ hk => ⟨hk.1.1, ⟨hk.1.2.1, ⟨hk.1.2.2.1, hk.1.2.2.2⟩⟩⟩)⟩, ⟨by (try simp only [hl2_1]); (try simp only [hl6_2]); (try simp only [hl7_2]); (with_reducible repeat (first | refine blk_drewN ?_ _ | refine blk_drew ?_ | refine blk_alloc ?_ _)); refine blk_far ?_ (by have h_ := Kd.R_ne HO_7.out BK205.out (by decide); intro e_; exact h_ (by rw [e_]; rfl)) _; (with_reducible repeat (first | refine blk_drewN ?_ _ | refine blk_drew ?_ | refine blk_alloc ?_ _)); exact BK205.out⟩, ⟨by repeat (first | (with_reducible first | exact HB.out | apply below_alloc | apply pw_below_drewN | apply below_drew1 | refine below_set ?_ GB67.out | refine below_set ?_ GE205.out) | exact HB.out)⟩⟩
                     ·rw [if_neg c64] at H
                      exact absurd H (by simp)
                    ·rw [if_neg c63] at H
                     exact absurd H (by simp)
                   ·rw [if_neg c61] at H
                    exact absurd H (by simp)
                  ·rw [if_neg c60] at H
                   exact absurd H (by simp)
                 ·rw [if_neg c59] at H
                  have c59b0 : decide (x79_2 < (x2_1.length : Int)) = false := decide_eq_false c59
                  (try simp only [hl2_1, hl6_2, hl7_2] at c59b0)
                  clear c59
                  have H' := Aside0.mk H
                  clear H
                  go_wp2_with (go_step3)
                  (try simp only [← hl2_1, ← hl6_2, ← hl7_2])
                  go_roundg k2
                  case measure => have := HK1.out; have := HK2.out; omega
                  case rel => exact ⟨(x2_1), (y220), (x7_2), H', ⟨by have := HK1.out; have := HK2.out; omega⟩, ⟨by (try simp only [hl2_1]); (try simp only [hl6_2]); (try simp only [hl7_2]); (with_reducible repeat (first | apply Kd.V_alloc | apply Kd.V_drewN | apply Kd.V_drew)); exact HO_2.out⟩, ⟨by (try simp only [hl2_1]); (try simp only [hl6_2]); (try simp only [hl7_2]); (with_reducible repeat (first | apply Kd.R_alloc | apply Kd.R_drewN | apply Kd.R_drew)); exact HO_6.out⟩, ⟨by (try simp only [hl2_1]); (try simp only [hl6_2]); (try simp only [hl7_2]); (with_reducible repeat (first | apply Kd.R_alloc | apply Kd.R_drewN | apply Kd.R_drew)); exact HO_7.out⟩, ⟨by (try simp only [hl2_1]); (try simp only [hl6_2]); (try simp only [hl7_2]); (with_reducible repeat (first | refine blk_drewN ?_ _ | refine blk_drew ?_ | refine blk_alloc ?_ _)); exact BK205.out⟩, ⟨hs_⟩⟩
              ·rw [if_neg c50] at H
               exact absurd H (by simp)
             ·rw [if_neg c49] at H
              exact absurd H (by simp)
            ·rw [if_neg c46] at H
             exact absurd H (by simp)
           ·rw [if_neg c45] at H
            exact absurd H (by simp)
       ·rw [if_neg c22] at H
        exact absurd H (by simp)
      ·rw [if_neg c21] at H
       exact absurd H (by simp)
     ·rw [if_neg c18] at H
      have c18b0 : (t204 == 0) = false := beq_eq_false_iff_ne.mpr c18
      have c18b1 : (t204 != 0) = true := bne_iff_ne.mpr c18
      simp only [Option.some.injEq, Prod.mk.injEq] at H
      obtain ⟨rfl, rfl, rfl⟩ := H
      go_enter Try.func32, Try.ntmps32
      go_wp2_with (first | go_step3 | ((with_reducible refine gate_dst (N := 19) rfl ?_); refine Kd.N_lit (Kd.slice 49 (Kd.int .u64)) _ 22 ?hg (N' := 19) ?hd (xs := ([l1, l2] : List (List Int))) (inner := [.slice A1 l1.length c1, .slice A2 l2.length c2]) (ok := (fun k_ => ((P1_ k_ ∨ P2_ k_) ∨ w.heap.size ≤ k_))) (okp := (fun k_ => ((P1_ k_ ∨ P2_ k_) ∨ w.heap.size ≤ k_))) ?hr ?hp (fun _ hk => hk) ((show ∀ k_, w.heap.size ≤ k_ → (fun k_ => ((P1_ k_ ∨ P2_ k_) ∨ w.heap.size ≤ k_)) k_ from fun k_ hk => (.inr (Nat.le_trans (below_size hb_) hk))) _ (Nat.le_refl _)) (Below.refl _ _) (Nat.le_refl _) (by simp) ?_; (case hd => rfl); (case hg => rfl); (case hr => first | (go_simp; done) | (go_simp; rfl)); (case hp => exact (Reps.one (show Kd.FK (Kd.slice 49 (Kd.int .u64)) _ _ l1 [.slice A1 l1.length c1] from (Kd.FK_slice_mk (Kd.V_reads' (Kd.V_mono (ok' := (fun k_ => ((P1_ k_ ∨ P2_ k_) ∨ w.heap.size ≤ k_))) (HO1.out) (fun k_ hk => hk))).2.1 (Kd.V_F (Kd.V_mono (ok' := (fun k_ => ((P1_ k_ ∨ P2_ k_) ∨ w.heap.size ≤ k_))) (HO1.out) (fun k_ hk => hk))))) (Reps.one (show Kd.FK (Kd.slice 49 (Kd.int .u64)) _ _ l2 [.slice A2 l2.length c2] from (Kd.FK_slice_mk (Kd.V_reads' (Kd.V_mono (ok' := (fun k_ => ((P1_ k_ ∨ P2_ k_) ∨ w.heap.size ≤ k_))) (HO2.out) (fun k_ hk => hk))).2.1 (Kd.V_F (Kd.V_mono (ok' := (fun k_ => ((P1_ k_ ∨ P2_ k_) ∨ w.heap.size ≤ k_))) (HO2.out) (fun k_ hk => hk))))) (Reps.none _ _)))); intro v196 w72 ho73 hb hg_ hnew_; clear hg_ hnew_; (first | rw [← Ny195.out] at ho73 | (simp only [Int.reduceToNat] at ho73; rw [← Ny195.out] at ho73)); have n0_ := A_ (Kd.V_elder' (nV_ HO1) (Kd.N_base ho73) hb); have n1_ := A_ (Kd.V_elder' (nV_ HO2) (Kd.N_base ho73) hb); have n2_ := A_ (Kd.N_lower ho73 (below_size hb_)); have n3_ := A_ (below_step hb_ hb); clear HO1 HO2 HB; have HO1 := n0_; have HO2 := n1_; have HO197 := n2_; have HB := n3_; clear n0_ n1_ n2_ n3_; clear hb ho73; obtain ⟨Ao74, co74, eo74⟩ := Kd.N_slice HO197.out; subst eo74) | ((with_reducible refine gate_callee (f := 46) rfl ?_); refine goesM_ (some 20) Try.func46 #[.int .u8 a0, .slice Ao74 y195.length co74] ?_; (with_reducible refine (poly_may.calls k a0 _ _ y195 t198 _ ?side1 ?side2 A4.out).mono ?_); (case side1 => repeat (first | exact (Kd.N_reads' HO197.out).2.2 | (with_reducible refine Kd.C_alloc ?_ _) | (with_reducible refine Kd.C_drewN ?_ _) | (with_reducible refine Kd.C_drew ?_))); (case side2 => exact (Kd.N_reads' HO197.out).2.1); rintro e w75 ⟨rfl, hb⟩; refine ⟨_, rfl, ?_⟩; have n0_ := A_ (Kd.V_below (nV_ HO1) hb); have n1_ := A_ (Kd.V_below (nV_ HO2) hb); have n2_ := A_ (Kd.N_below (nN_ HO197) hb); have n3_ := A_ (below_step hb_ hb); clear HO1 HO2 HO197 HB; have HO1 := n0_; have HO2 := n1_; have HO197 := n2_; have HB := n3_; clear n0_ n1_ n2_ n3_; (try clear hb)) | ((with_reducible refine gate_callee (f := 47) rfl ?_); refine goesM_ (some 25) Try.func47 #[.slice A2 l2.length c2] ?_; (with_reducible refine (poly_trimmed.calls k (fun k_ => (((P1_ k_ ∨ P2_ k_) ∨ w.heap.size ≤ k_) ∧ some k_ ≠ (.slice Ao74 y195.length co74 : Value).ownBlock)) _ _ l2 t199 _ ?side1 A6.out).mono ?_); (case side1 => exact HO2.out); rintro e w76 ⟨v200, rfl, ho0, hb⟩; refine ⟨_, rfl, ?_⟩; have n0_ := A_ (Kd.V_below (nV_ HO1) hb); have n1_ := A_ (Kd.V_below (nV_ HO2) hb); have n2_ := A_ (Kd.N_below (nN_ HO197) hb); have n3_ := A_ (Kd.V_lower (Kd.V_mono (ok' := fun k_ => ((P1_ k_ ∨ P2_ k_) ∨ w.heap.size ≤ k_) ∧ some k_ ≠ (.slice Ao74 y195.length co74 : Value).ownBlock) ho0 (fun k_ hk_ => ⟨Or.elim hk_ (fun hs_ => hs_.1) (fun hn_ => (.inr (Nat.le_trans (below_size hb_) hn_))), Or.elim hk_ (fun hs_ => hs_.2) (fun hn_ => (Kd.fresh' (Kd.N_lt (nN_ HO197)) k_ hn_))⟩)) (below_size hb_)); have n4_ := A_ (below_step hb_ hb); clear HO1 HO2 HO197 HB; have HO1 := n0_; have HO2 := n1_; have HO197 := n2_; have HO201 := n3_; have HB := n4_; clear n0_ n1_ n2_ n3_ n4_; (try clear hb); (try clear ho0); obtain ⟨Ao77, co77, eo77⟩ := Kd.V_slice HO201.out; subst eo77; have p202 : 0 ≤ ((ji14) : Int) := of_decide_eq_true (by first | (with_reducible assumption) | assumption); have q202 : (ji14) < (t199.length : Int) := of_decide_eq_true (by first | (with_reducible assumption) | assumption); obtain ⟨ad202, e202, hx202_0⟩ := Kd.at_int (Kd.V_reads' HO201.out).2.2 (ji14) p202 q202; cases e202; replace p202 := eq_true p202; replace q202 := eq_true q202) | ((with_reducible refine gate_callee (f := 48) rfl ?_); refine goesL_ (some 37) rfl rfl Try.func48 (by kernel_rfl) rfl #[.int .u8 a0, .int .u64 (rd t199 (ji14))] rfl (by (try simp only [List.map_toArray, List.map_cons, List.map_nil]); first | done | (simp only [hji14]; rfl) | rfl | (simp only [List.length_drop, List.length_take]; rfl)) ?_; (with_reducible refine (field_Inv.calls k a0 (rd t199 (ji14)) t203 t204 _ A17.out).mono ?_); rintro e w78 ⟨rfl, hb⟩; refine ⟨_, rfl, ?_⟩; have n0_ := A_ (Kd.V_below (nV_ HO1) hb); have n1_ := A_ (Kd.V_below (nV_ HO2) hb); have n2_ := A_ (Kd.N_below (nN_ HO197) hb); have n3_ := A_ (Kd.V_below (nV_ HO201) hb); have n4_ := A_ (below_step hb_ hb); clear HO1 HO2 HO197 HO201 HB; have HO1 := n0_; have HO2 := n1_; have HO197 := n2_; have HO201 := n3_; have HB := n4_; clear n0_ n1_ n2_ n3_ n4_; (try clear hb)))
      (try rw [Exit.noGoto_ret])
      go_ret3
      exact ⟨_, _, by first | rfl | (simp [errW_none, errW_some] <;> rfl) | (simp only [← hji14]; first | rfl | (simp [errW_none, errW_some] <;> rfl)) | (simp [*, errW_none, errW_some] <;> rfl), by first | exact Kd.R_nil _ _ _ _ _ | exact Kd.N_nil _ _ _ _ _ | exact Kd.V_nil _ _ _ _ _ | exact Kd.Q_nil _ _ _ _ _ | exact Kd.S_nil _ _ _ _ _, by first | exact Kd.R_nil _ _ _ _ _ | exact Kd.N_nil _ _ _ _ _ | exact Kd.V_nil _ _ _ _ _ | exact Kd.Q_nil _ _ _ _ _ | exact Kd.S_nil _ _ _ _ _, hb_⟩
    ·rw [if_neg c16] at H
     exact absurd H (by simp)
   ·rw [if_neg c15] at H
    exact absurd H (by simp)
 ·rw [if_neg c5] at H
  have c5b0 : (t198 == 0) = false := beq_eq_false_iff_ne.mpr c5
  have c5b1 : (t198 != 0) = true := bne_iff_ne.mpr c5
  simp only [Option.some.injEq, Prod.mk.injEq] at H
  obtain ⟨rfl, rfl, rfl⟩ := H
  go_enter Try.func32, Try.ntmps32
  go_wp2_with (first | go_step3 | ((with_reducible refine gate_dst (N := 19) rfl ?_); refine Kd.N_lit (Kd.slice 49 (Kd.int .u64)) _ 22 ?hg (N' := 19) ?hd (xs := ([l1, l2] : List (List Int))) (inner := [.slice A1 l1.length c1, .slice A2 l2.length c2]) (ok := (fun k_ => ((P1_ k_ ∨ P2_ k_) ∨ w.heap.size ≤ k_))) (okp := (fun k_ => ((P1_ k_ ∨ P2_ k_) ∨ w.heap.size ≤ k_))) ?hr ?hp (fun _ hk => hk) ((show ∀ k_, w.heap.size ≤ k_ → (fun k_ => ((P1_ k_ ∨ P2_ k_) ∨ w.heap.size ≤ k_)) k_ from fun k_ hk => (.inr (Nat.le_trans (below_size hb_) hk))) _ (Nat.le_refl _)) (Below.refl _ _) (Nat.le_refl _) (by simp) ?_; (case hd => rfl); (case hg => rfl); (case hr => first | (go_simp; done) | (go_simp; rfl)); (case hp => exact (Reps.one (show Kd.FK (Kd.slice 49 (Kd.int .u64)) _ _ l1 [.slice A1 l1.length c1] from (Kd.FK_slice_mk (Kd.V_reads' (Kd.V_mono (ok' := (fun k_ => ((P1_ k_ ∨ P2_ k_) ∨ w.heap.size ≤ k_))) (HO1.out) (fun k_ hk => hk))).2.1 (Kd.V_F (Kd.V_mono (ok' := (fun k_ => ((P1_ k_ ∨ P2_ k_) ∨ w.heap.size ≤ k_))) (HO1.out) (fun k_ hk => hk))))) (Reps.one (show Kd.FK (Kd.slice 49 (Kd.int .u64)) _ _ l2 [.slice A2 l2.length c2] from (Kd.FK_slice_mk (Kd.V_reads' (Kd.V_mono (ok' := (fun k_ => ((P1_ k_ ∨ P2_ k_) ∨ w.heap.size ≤ k_))) (HO2.out) (fun k_ hk => hk))).2.1 (Kd.V_F (Kd.V_mono (ok' := (fun k_ => ((P1_ k_ ∨ P2_ k_) ∨ w.heap.size ≤ k_))) (HO2.out) (fun k_ hk => hk))))) (Reps.none _ _)))); intro v196 w79 ho80 hb hg_ hnew_; clear hg_ hnew_; (first | rw [← Ny195.out] at ho80 | (simp only [Int.reduceToNat] at ho80; rw [← Ny195.out] at ho80)); have n0_ := A_ (Kd.V_elder' (nV_ HO1) (Kd.N_base ho80) hb); have n1_ := A_ (Kd.V_elder' (nV_ HO2) (Kd.N_base ho80) hb); have n2_ := A_ (Kd.N_lower ho80 (below_size hb_)); have n3_ := A_ (below_step hb_ hb); clear HO1 HO2 HB; have HO1 := n0_; have HO2 := n1_; have HO197 := n2_; have HB := n3_; clear n0_ n1_ n2_ n3_; clear hb ho80; obtain ⟨Ao81, co81, eo81⟩ := Kd.N_slice HO197.out; subst eo81) | ((with_reducible refine gate_callee (f := 46) rfl ?_); refine goesM_ (some 20) Try.func46 #[.int .u8 a0, .slice Ao81 y195.length co81] ?_; (with_reducible refine (poly_may.calls k a0 _ _ y195 t198 _ ?side1 ?side2 A4.out).mono ?_); (case side1 => repeat (first | exact (Kd.N_reads' HO197.out).2.2 | (with_reducible refine Kd.C_alloc ?_ _) | (with_reducible refine Kd.C_drewN ?_ _) | (with_reducible refine Kd.C_drew ?_))); (case side2 => exact (Kd.N_reads' HO197.out).2.1); rintro e w82 ⟨rfl, hb⟩; refine ⟨_, rfl, ?_⟩; have n0_ := A_ (Kd.V_below (nV_ HO1) hb); have n1_ := A_ (Kd.V_below (nV_ HO2) hb); have n2_ := A_ (Kd.N_below (nN_ HO197) hb); have n3_ := A_ (below_step hb_ hb); clear HO1 HO2 HO197 HB; have HO1 := n0_; have HO2 := n1_; have HO197 := n2_; have HB := n3_; clear n0_ n1_ n2_ n3_; (try clear hb)))
  (try rw [Exit.noGoto_ret])
  go_ret3
  exact ⟨_, _, fr_, by first | exact Kd.R_nil _ _ _ _ _ | exact Kd.N_nil _ _ _ _ _ | exact Kd.V_nil _ _ _ _ _ | exact Kd.Q_nil _ _ _ _ _ | exact Kd.S_nil _ _ _ _ _, by first | exact Kd.R_nil _ _ _ _ _ | exact Kd.N_nil _ _ _ _ _ | exact Kd.V_nil _ _ _ _ _ | exact Kd.Q_nil _ _ _ _ _ | exact Kd.S_nil _ _ _ _ _, hb_⟩
end Go.Proofs.Ytkaongcpekhbdaa.PTreeFresh
