/- The Go functions as Lean functions, each with the proof that its call comes to just that; written by a program of this session, by the words of the print. -/
import Derived.Test.YthlmfgnmljhdbaaPRootSquaresx0
import Derived.Test.YthlmfgnmljhdbaaPRootSquaresx2
import Derived.Test.YthlmfgnmljhdbaaPRootSquaresx3
import Derived.Test.YthlmfgnmljhdbaaPRootSquaresx4
namespace Go.Proofs.Ythlmfgnmljhdbaa.PRootSquares
open Go.RowKit Go.Proofs.YthlmfgnmljhdbaaW.PrintWords Go.Proofs.YthlmfgnmljhdbaaW.PrintLast Go.Proofs.YthlmfgnmljhdbaaW.PrintMore
attribute [local go_sem] max2_int min2_int max_two min_two max_three min_three max_four min_four   -- for this text's walks alone
set_option linter.unusedVariables false
set_option linter.unusedSimpArgs false

/-! ### conclavelaw02_RootSquares: function 13 -/
mutual
def conclavelaw02_RootSquares.j0 : Nat → Int → Int → Int → Bool → Option (Bool)
  | 0, _, _, _, _ => none
  | k + 1, x5, x8, x9, x61 => if x61 = true then (none) else (if x8 = 0 then ((conclavelaw02_anchored.f k).bind fun t203 => (if t203 = true then (some (x9 == 1)) else (none))) else ((root_Root.f k x5 (wrap64 (x8 - 1))).bind fun bt204 => ((conclaveref01_P.f x5).bind fun t206 => (if bt204.2 = 0 then ((conclaveref01_Times.f k t206 x9 x9).bind fun t207 => (conclavelaw02_RootSquares.j1 k x5 x8 x9 t206 (t207 != bt204.1))) else (conclavelaw02_RootSquares.j1 k x5 x8 x9 t206 true)))))
def conclavelaw02_RootSquares.j1 : Nat → Int → Int → Int → Int → Bool → Option (Bool)
  | 0, _, _, _, _, _ => none
  | k + 1, x5, x8, x9, x16, x87 => if x87 = true then (none) else (if x8 > 8 then ((conclavelaw02_anchored.f k).bind fun t208 => (some t208)) else (if 0 ≤ (IntKind.u64.wrap (x8)) then ((root_Powers.f k x5 x9 (shl .i64 1 (IntKind.u64.wrap (x8)))).bind fun bt209 => (conclavelaw02_RootSquares.l0 k x8 x16 bt209.1 bt209.2 0 0)) else (none)))
def conclavelaw02_RootSquares.l0 : Nat → Int → Int → List Int → Int → Int → Int → Option (Bool)
  | 0, _, _, _, _, _, _ => none
  | k + 1, x8, x16, x17, x18, x19, x20 => if x20 < (x17.length : Int) then (if 0 ≤ x20 then ((conclaveref01_Sum.f x16 x19 (rd x17 x20)).bind fun t214 => (conclavelaw02_RootSquares.l0 k x8 x16 x17 x18 t214 (wrap64 (x20 + 1)))) else (none)) else ((conclavelaw02_anchored.f k).bind fun t215 => (if t215 = true then (if x18 = 0 then (if x19 = 0 then (if 0 ≤ (IntKind.u64.wrap (x8)) then (some ((x17.length : Int) == (shl .i64 1 (IntKind.u64.wrap (x8))))) else (none)) else (none)) else (none)) else (none)))
end
def conclavelaw02_RootSquares.f (k : Nat) (a0 : Int) (a1 : Int) : Option (Bool) := (root_Two.f k (((Int.tmod a0 2) + 1) % 256)).bind fun bt196 => (if (wrap64 (bt196.1 + 1)) = 0 then (none) else ((root_Root.f k (((Int.tmod a0 2) + 1) % 256) (Int.tmod (wrap64 (a1)) (wrap64 (bt196.1 + 1)))).bind fun bt198 => ((root_Log.f k (((Int.tmod a0 2) + 1) % 256) bt198.1).bind fun bt200 => (if bt198.2 = 0 then (if bt200.2.2 = 0 then (if bt200.2.1 = true then (conclavelaw02_RootSquares.j0 k (((Int.tmod a0 2) + 1) % 256) (Int.tmod (wrap64 (a1)) (wrap64 (bt196.1 + 1))) bt198.1 (bt200.1 != (Int.tmod (wrap64 (a1)) (wrap64 (bt196.1 + 1))))) else (conclavelaw02_RootSquares.j0 k (((Int.tmod a0 2) + 1) % 256) (Int.tmod (wrap64 (a1)) (wrap64 (bt196.1 + 1))) bt198.1 true)) else (conclavelaw02_RootSquares.j0 k (((Int.tmod a0 2) + 1) % 256) (Int.tmod (wrap64 (a1)) (wrap64 (bt196.1 + 1))) bt198.1 true)) else (conclavelaw02_RootSquares.j0 k (((Int.tmod a0 2) + 1) % 256) (Int.tmod (wrap64 (a1)) (wrap64 (bt196.1 + 1))) bt198.1 true)))))
theorem conclavelaw02_RootSquares.mono_l : ∀ k, (∀ y0 y1 y2 y3, LeO (conclavelaw02_RootSquares.j0 k y0 y1 y2 y3) (conclavelaw02_RootSquares.j0 (k + 1) y0 y1 y2 y3)) ∧ (∀ y0 y1 y2 y3 y4, LeO (conclavelaw02_RootSquares.j1 k y0 y1 y2 y3 y4) (conclavelaw02_RootSquares.j1 (k + 1) y0 y1 y2 y3 y4)) ∧ (∀ y0 y1 y2 y3 y4 y5, LeO (conclavelaw02_RootSquares.l0 k y0 y1 y2 y3 y4 y5) (conclavelaw02_RootSquares.l0 (k + 1) y0 y1 y2 y3 y4 y5))
  | 0 => ⟨fun _ _ _ _ r h => by simp [conclavelaw02_RootSquares.j0] at h, fun _ _ _ _ _ r h => by simp [conclavelaw02_RootSquares.j1] at h, fun _ _ _ _ _ _ r h => by simp [conclavelaw02_RootSquares.l0] at h⟩
  | k + 1 => by
    obtain ⟨ih0, ih1, ih2⟩ := conclavelaw02_RootSquares.mono_l k
    refine ⟨?_, ?_, ?_⟩
    · intro y0 y1 y2 y3
      unfold conclavelaw02_RootSquares.j0
      repeat' first
      | (with_reducible exact ih0 _ _ _ _)
      | (with_reducible exact ih1 _ _ _ _ _)
      | (with_reducible exact ih2 _ _ _ _ _ _)
      | (with_reducible exact conclavelaw02_anchored.mono _)
      | (with_reducible exact conclaveref01_Times.mono _ _ _ _)
      | (with_reducible exact root_Log.mono _ _ _)
      | (with_reducible exact root_Powers.mono _ _ _ _)
      | (with_reducible exact root_Root.mono _ _ _)
      | (with_reducible exact root_Two.mono _ _)
      | (with_reducible exact LeO.refl _)
      | (with_reducible exact LeO.none _)
      | (with_reducible refine LeO.ite ?_ ?_)
      | (with_reducible refine LeO.bind ?_ (fun _ => ?_))
      | exact ih0 _ _ _ _
      | exact ih1 _ _ _ _ _
      | exact ih2 _ _ _ _ _ _
      | exact conclavelaw02_anchored.mono _
      | exact conclaveref01_Times.mono _ _ _ _
      | exact root_Log.mono _ _ _
      | exact root_Powers.mono _ _ _ _
      | exact root_Root.mono _ _ _
      | exact root_Two.mono _ _
      | exact LeO.none _
      | refine LeO.ite ?_ ?_
      | refine LeO.bind ?_ (fun _ => ?_)
    · intro y0 y1 y2 y3 y4
      unfold conclavelaw02_RootSquares.j1
      repeat' first
      | (with_reducible exact ih0 _ _ _ _)
      | (with_reducible exact ih1 _ _ _ _ _)
      | (with_reducible exact ih2 _ _ _ _ _ _)
      | (with_reducible exact conclavelaw02_anchored.mono _)
      | (with_reducible exact conclaveref01_Times.mono _ _ _ _)
      | (with_reducible exact root_Log.mono _ _ _)
      | (with_reducible exact root_Powers.mono _ _ _ _)
      | (with_reducible exact root_Root.mono _ _ _)
      | (with_reducible exact root_Two.mono _ _)
      | (with_reducible exact LeO.refl _)
      | (with_reducible exact LeO.none _)
      | (with_reducible refine LeO.ite ?_ ?_)
      | (with_reducible refine LeO.bind ?_ (fun _ => ?_))
      | exact ih0 _ _ _ _
      | exact ih1 _ _ _ _ _
      | exact ih2 _ _ _ _ _ _
      | exact conclavelaw02_anchored.mono _
      | exact conclaveref01_Times.mono _ _ _ _
      | exact root_Log.mono _ _ _
      | exact root_Powers.mono _ _ _ _
      | exact root_Root.mono _ _ _
      | exact root_Two.mono _ _
      | exact LeO.none _
      | refine LeO.ite ?_ ?_
      | refine LeO.bind ?_ (fun _ => ?_)
    · intro y0 y1 y2 y3 y4 y5
      unfold conclavelaw02_RootSquares.l0
      repeat' first
      | (with_reducible exact ih0 _ _ _ _)
      | (with_reducible exact ih1 _ _ _ _ _)
      | (with_reducible exact ih2 _ _ _ _ _ _)
      | (with_reducible exact conclavelaw02_anchored.mono _)
      | (with_reducible exact conclaveref01_Times.mono _ _ _ _)
      | (with_reducible exact root_Log.mono _ _ _)
      | (with_reducible exact root_Powers.mono _ _ _ _)
      | (with_reducible exact root_Root.mono _ _ _)
      | (with_reducible exact root_Two.mono _ _)
      | (with_reducible exact LeO.refl _)
      | (with_reducible exact LeO.none _)
      | (with_reducible refine LeO.ite ?_ ?_)
      | (with_reducible refine LeO.bind ?_ (fun _ => ?_))
      | exact ih0 _ _ _ _
      | exact ih1 _ _ _ _ _
      | exact ih2 _ _ _ _ _ _
      | exact conclavelaw02_anchored.mono _
      | exact conclaveref01_Times.mono _ _ _ _
      | exact root_Log.mono _ _ _
      | exact root_Powers.mono _ _ _ _
      | exact root_Root.mono _ _ _
      | exact root_Two.mono _ _
      | exact LeO.none _
      | refine LeO.ite ?_ ?_
      | refine LeO.bind ?_ (fun _ => ?_)
theorem conclavelaw02_RootSquares.mono : ∀ a0 a1 k, LeO (conclavelaw02_RootSquares.f k a0 a1) (conclavelaw02_RootSquares.f (k + 1) a0 a1) := by
  intro a0 a1 k
  obtain ⟨ih0, ih1, ih2⟩ := conclavelaw02_RootSquares.mono_l k
  unfold conclavelaw02_RootSquares.f
  repeat' first
      | (with_reducible exact ih0 _ _ _ _)
      | (with_reducible exact ih1 _ _ _ _ _)
      | (with_reducible exact ih2 _ _ _ _ _ _)
      | (with_reducible exact conclavelaw02_anchored.mono _)
      | (with_reducible exact conclaveref01_Times.mono _ _ _ _)
      | (with_reducible exact root_Log.mono _ _ _)
      | (with_reducible exact root_Powers.mono _ _ _ _)
      | (with_reducible exact root_Root.mono _ _ _)
      | (with_reducible exact root_Two.mono _ _)
      | (with_reducible exact LeO.refl _)
      | (with_reducible exact LeO.none _)
      | (with_reducible refine LeO.ite ?_ ?_)
      | (with_reducible refine LeO.bind ?_ (fun _ => ?_))
      | exact ih0 _ _ _ _
      | exact ih1 _ _ _ _ _
      | exact ih2 _ _ _ _ _ _
      | exact conclavelaw02_anchored.mono _
      | exact conclaveref01_Times.mono _ _ _ _
      | exact root_Log.mono _ _ _
      | exact root_Powers.mono _ _ _ _
      | exact root_Root.mono _ _ _
      | exact root_Two.mono _ _
      | exact LeO.none _
      | refine LeO.ite ?_ ?_
      | refine LeO.bind ?_ (fun _ => ?_)
set_option maxHeartbeats 8000000 in
set_option maxRecDepth 100000 in
theorem conclavelaw02_RootSquares.calls (k : Nat) (a0 : Int) (a1 : Int) (r : Bool) (w : World) (h : conclavelaw02_RootSquares.f k a0 a1 = some r) :
    Calls Try.prog 13 #[.int .u8 a0, .int .u8 a1] w fun e w' => e = .returned (.bool r) ∧ Below w.heap.size w w' := by
  have HB := Aside0.mk (Below.refl w.heap.size w)
  have H : ((root_Two.f k (((Int.tmod a0 2) + 1) % 256)).bind fun bt196 => (if (wrap64 (bt196.1 + 1)) = 0 then (none) else ((root_Root.f k (((Int.tmod a0 2) + 1) % 256) (Int.tmod (wrap64 (a1)) (wrap64 (bt196.1 + 1)))).bind fun bt198 => ((root_Log.f k (((Int.tmod a0 2) + 1) % 256) bt198.1).bind fun bt200 => (if bt198.2 = 0 then (if bt200.2.2 = 0 then (if bt200.2.1 = true then (conclavelaw02_RootSquares.j0 k (((Int.tmod a0 2) + 1) % 256) (Int.tmod (wrap64 (a1)) (wrap64 (bt196.1 + 1))) bt198.1 (bt200.1 != (Int.tmod (wrap64 (a1)) (wrap64 (bt196.1 + 1))))) else (conclavelaw02_RootSquares.j0 k (((Int.tmod a0 2) + 1) % 256) (Int.tmod (wrap64 (a1)) (wrap64 (bt196.1 + 1))) bt198.1 true)) else (conclavelaw02_RootSquares.j0 k (((Int.tmod a0 2) + 1) % 256) (Int.tmod (wrap64 (a1)) (wrap64 (bt196.1 + 1))) bt198.1 true)) else (conclavelaw02_RootSquares.j0 k (((Int.tmod a0 2) + 1) % 256) (Int.tmod (wrap64 (a1)) (wrap64 (bt196.1 + 1))) bt198.1 true)))))) = some r := h
  clear h
  replace H := Option.bind_eq_some_iff.mp H
  obtain ⟨⟨t196, t197⟩, A30, H⟩ := H
  replace H : (if (wrap64 (t196 + 1)) = 0 then (none) else ((root_Root.f k (((Int.tmod a0 2) + 1) % 256) (Int.tmod (wrap64 (a1)) (wrap64 (t196 + 1)))).bind fun bt198 => ((root_Log.f k (((Int.tmod a0 2) + 1) % 256) bt198.1).bind fun bt200 => (if bt198.2 = 0 then (if bt200.2.2 = 0 then (if bt200.2.1 = true then (conclavelaw02_RootSquares.j0 k (((Int.tmod a0 2) + 1) % 256) (Int.tmod (wrap64 (a1)) (wrap64 (t196 + 1))) bt198.1 (bt200.1 != (Int.tmod (wrap64 (a1)) (wrap64 (t196 + 1))))) else (conclavelaw02_RootSquares.j0 k (((Int.tmod a0 2) + 1) % 256) (Int.tmod (wrap64 (a1)) (wrap64 (t196 + 1))) bt198.1 true)) else (conclavelaw02_RootSquares.j0 k (((Int.tmod a0 2) + 1) % 256) (Int.tmod (wrap64 (a1)) (wrap64 (t196 + 1))) bt198.1 true)) else (conclavelaw02_RootSquares.j0 k (((Int.tmod a0 2) + 1) % 256) (Int.tmod (wrap64 (a1)) (wrap64 (t196 + 1))) bt198.1 true))))) = some r := H
  have A3 := Aside0.mk A30
  clear A30
  by_cases c4 : (wrap64 (t196 + 1)) = 0
  · rw [if_pos c4] at H
    exact absurd H (by simp)
  · rw [if_neg c4] at H
    have c4b0 : ((wrap64 (t196 + 1)) == 0) = false := beq_eq_false_iff_ne.mpr c4
    have c4b1 : ((wrap64 (t196 + 1)) != 0) = true := bne_iff_ne.mpr c4
    replace H := Option.bind_eq_some_iff.mp H
    obtain ⟨⟨t198, t199⟩, A50, H⟩ := H
    replace H : ((root_Log.f k (((Int.tmod a0 2) + 1) % 256) t198).bind fun bt200 => (if t199 = 0 then (if bt200.2.2 = 0 then (if bt200.2.1 = true then (conclavelaw02_RootSquares.j0 k (((Int.tmod a0 2) + 1) % 256) (Int.tmod (wrap64 (a1)) (wrap64 (t196 + 1))) t198 (bt200.1 != (Int.tmod (wrap64 (a1)) (wrap64 (t196 + 1))))) else (conclavelaw02_RootSquares.j0 k (((Int.tmod a0 2) + 1) % 256) (Int.tmod (wrap64 (a1)) (wrap64 (t196 + 1))) t198 true)) else (conclavelaw02_RootSquares.j0 k (((Int.tmod a0 2) + 1) % 256) (Int.tmod (wrap64 (a1)) (wrap64 (t196 + 1))) t198 true)) else (conclavelaw02_RootSquares.j0 k (((Int.tmod a0 2) + 1) % 256) (Int.tmod (wrap64 (a1)) (wrap64 (t196 + 1))) t198 true))) = some r := H
    have A5 := Aside0.mk A50
    clear A50
    replace H := Option.bind_eq_some_iff.mp H
    obtain ⟨⟨t200, t201, t202⟩, A60, H⟩ := H
    replace H : (if t199 = 0 then (if t202 = 0 then (if t201 = true then (conclavelaw02_RootSquares.j0 k (((Int.tmod a0 2) + 1) % 256) (Int.tmod (wrap64 (a1)) (wrap64 (t196 + 1))) t198 (t200 != (Int.tmod (wrap64 (a1)) (wrap64 (t196 + 1))))) else (conclavelaw02_RootSquares.j0 k (((Int.tmod a0 2) + 1) % 256) (Int.tmod (wrap64 (a1)) (wrap64 (t196 + 1))) t198 true)) else (conclavelaw02_RootSquares.j0 k (((Int.tmod a0 2) + 1) % 256) (Int.tmod (wrap64 (a1)) (wrap64 (t196 + 1))) t198 true)) else (conclavelaw02_RootSquares.j0 k (((Int.tmod a0 2) + 1) % 256) (Int.tmod (wrap64 (a1)) (wrap64 (t196 + 1))) t198 true)) = some r := H
    have A6 := Aside0.mk A60
    clear A60
    have HC7 := Aside0.mk H
    clear H
    go_enter Try.func13, Try.ntmps13
    go_upto_region 6 with (first | ((with_reducible refine gate_callee (f := 43) rfl ?_); refine goesL_ (some 26) rfl rfl Try.func43 (by kernel_rfl) rfl #[.int .u8 (((Int.tmod a0 2) + 1) % 256)] rfl (by (try simp only [List.map_toArray, List.map_cons, List.map_nil]); first | done | rfl | (simp only [List.length_drop, List.length_take]; rfl)) ?_; (with_reducible refine (root_Two.calls k (((Int.tmod a0 2) + 1) % 256) t196 t197 _ A3.out).mono ?_); rintro e w8 ⟨rfl, hb⟩; refine ⟨_, rfl, ?_⟩; have n0_ := Aside0.mk (below_step (by repeat (first | (with_reducible first | exact HB.out | apply below_alloc | apply pw_below_drewN | apply below_drew1) | exact HB.out)) hb); clear HB; have HB := n0_; clear n0_; (try clear hb); (try clear hb2); (try clear hk); (try clear hi)) | ((with_reducible refine gate_callee (f := 45) rfl ?_); refine goesL_ (some 37) rfl rfl Try.func45 (by kernel_rfl) rfl #[.int .u8 (((Int.tmod a0 2) + 1) % 256), .int .i64 (Int.tmod (wrap64 (a1)) (wrap64 (t196 + 1)))] rfl (by (try simp only [List.map_toArray, List.map_cons, List.map_nil]); first | done | rfl | (simp only [List.length_drop, List.length_take]; rfl)) ?_; (with_reducible refine (root_Root.calls k (((Int.tmod a0 2) + 1) % 256) (Int.tmod (wrap64 (a1)) (wrap64 (t196 + 1))) t198 t199 _ A5.out).mono ?_); rintro e w9 ⟨rfl, hb⟩; refine ⟨_, rfl, ?_⟩; have n0_ := Aside0.mk (below_step (by repeat (first | (with_reducible first | exact HB.out | apply below_alloc | apply pw_below_drewN | apply below_drew1) | exact HB.out)) hb); clear HB; have HB := n0_; clear n0_; (try clear hb); (try clear hb2); (try clear hk); (try clear hi)) | ((with_reducible refine gate_callee (f := 47) rfl ?_); refine goesL_ (some 43) rfl rfl Try.func47 (by kernel_rfl) rfl #[.int .u8 (((Int.tmod a0 2) + 1) % 256), .int .u64 t198] rfl (by (try simp only [List.map_toArray, List.map_cons, List.map_nil]); first | done | rfl | (simp only [List.length_drop, List.length_take]; rfl)) ?_; (with_reducible refine (root_Log.calls k (((Int.tmod a0 2) + 1) % 256) t198 t200 t201 t202 _ A6.out).mono ?_); rintro e w10 ⟨rfl, hb⟩; refine ⟨_, rfl, ?_⟩; have n0_ := Aside0.mk (below_step (by repeat (first | (with_reducible first | exact HB.out | apply below_alloc | apply pw_below_drewN | apply below_drew1) | exact HB.out)) hb); clear HB; have HB := n0_; clear n0_; (try clear hb); (try clear hb2); (try clear hk); (try clear hi)))
    (try simp only [Act.put, List.setIfInBounds_toArray, List.set_cons_zero, List.set_cons_succ])
    go_cut [61] (fun v61 wc => ∃ (kq : Nat) (x61_6 : Bool), v61 = .bool x61_6 ∧ Aside0 (conclavelaw02_RootSquares.j0 kq (((Int.tmod a0 2) + 1) % 256) (Int.tmod (wrap64 (a1)) (wrap64 (t196 + 1))) t198 x61_6 = some r) ∧ Aside0 (kq ≤ k) ∧ Aside0 (Below w.heap.size w wc))
    case first =>
      have H := HC7.out
      clear HC7
      by_cases c11 : t199 = 0
      · rw [if_pos c11] at H
        have c11b0 : (t199 == 0) = true := beq_iff_eq.mpr c11
        have c11b1 : (t199 != 0) = false := bne_eq_false_iff_eq.mpr c11
        clear c11
        (first | rw [c11b0] | (simp only [i64_w, i32_w]; rw [c11b0]) | skip)
        by_cases c12 : t202 = 0
        · rw [if_pos c12] at H
          have c12b0 : (t202 == 0) = true := beq_iff_eq.mpr c12
          have c12b1 : (t202 != 0) = false := bne_eq_false_iff_eq.mpr c12
          clear c12
          by_cases c13 : t201 = true
          · subst c13
            have H1 : (conclavelaw02_RootSquares.j0 k (((Int.tmod a0 2) + 1) % 256) (Int.tmod (wrap64 (a1)) (wrap64 (t196 + 1))) t198 (t200 != (Int.tmod (wrap64 (a1)) (wrap64 (t196 + 1))))) = some r := by rw [if_pos rfl] at H; exact H
            clear H
            have H := H1
            clear H1
            have H' := Aside0.mk H
            clear H
            go_wp2
            go_meet
            case rel => exact ⟨_, ((t200 != (Int.tmod (wrap64 (a1)) (wrap64 (t196 + 1))))), (by first | rfl | (simp; done) | (simp [*]; done)), H', ⟨by first | omega | exact Nat.le_refl _⟩, ⟨by repeat (first | (with_reducible first | exact HB.out | apply below_alloc | apply pw_below_drewN | apply below_drew1) | exact HB.out)⟩⟩
          · replace c13 := Bool.eq_false_iff.mpr c13
            subst c13
            have H1 : (conclavelaw02_RootSquares.j0 k (((Int.tmod a0 2) + 1) % 256) (Int.tmod (wrap64 (a1)) (wrap64 (t196 + 1))) t198 true) = some r := by rw [if_neg (show ¬ (false = true) by decide)] at H; exact H
            clear H
            have H := H1
            clear H1
            have H' := Aside0.mk H
            clear H
            go_wp2
            go_meet
            case rel => exact ⟨_, (true), (by first | rfl | (simp; done) | (simp [*]; done)), H', ⟨by first | omega | exact Nat.le_refl _⟩, ⟨by repeat (first | (with_reducible first | exact HB.out | apply below_alloc | apply pw_below_drewN | apply below_drew1) | exact HB.out)⟩⟩
        · rw [if_neg c12] at H
          have c12b0 : (t202 == 0) = false := beq_eq_false_iff_ne.mpr c12
          have c12b1 : (t202 != 0) = true := bne_iff_ne.mpr c12
          have H' := Aside0.mk H
          clear H
          go_wp2
          go_meet
          case rel => exact ⟨_, (true), (by first | rfl | (simp; done) | (simp [*]; done)), H', ⟨by first | omega | exact Nat.le_refl _⟩, ⟨by repeat (first | (with_reducible first | exact HB.out | apply below_alloc | apply pw_below_drewN | apply below_drew1) | exact HB.out)⟩⟩
      · rw [if_neg c11] at H
        have c11b0 : (t199 == 0) = false := beq_eq_false_iff_ne.mpr c11
        have c11b1 : (t199 != 0) = true := bne_iff_ne.mpr c11
        (first | rw [c11b0] | (simp only [i64_w, i32_w]; rw [c11b0]) | skip)
        have H' := Aside0.mk H
        clear H
        go_wp2
        go_meet
        case rel => exact ⟨_, (true), (by first | rfl | (simp; done) | (simp [*]; done)), H', ⟨by first | omega | exact Nat.le_refl _⟩, ⟨by repeat (first | (with_reducible first | exact HB.out | apply below_alloc | apply pw_below_drewN | apply below_drew1) | exact HB.out)⟩⟩
    case rest =>
      clear HC7
      try clear c1
      try clear p2
      try clear c4
      try clear c4b0
      try clear c4b1
      try clear p6
      try clear c11
      try clear c11b0
      try clear c11b1
      try clear c12
      try clear c12b0
      try clear c12b1
      try clear c13
      obtain ⟨kq, x61_6, rfl, HA, HJ6, HB⟩ := hcut
      cases kq with
      | zero => exact absurd HA.out (by simp [conclavelaw02_RootSquares.j0])
      | succ kj6 =>
        have H := HA.out
        clear HA
        simp only [conclavelaw02_RootSquares.j0] at H
        by_cases c14 : x61_6 = true
        · subst c14
          have H1 : (none) = some r := by rw [if_pos rfl] at H; exact H
          clear H
          have H := H1
          clear H1
          exact absurd H (by simp)
        · replace c14 := Bool.eq_false_iff.mpr c14
          subst c14
          have H1 : (if (Int.tmod (wrap64 (a1)) (wrap64 (t196 + 1))) = 0 then ((conclavelaw02_anchored.f kj6).bind fun t203 => (if t203 = true then (some (t198 == 1)) else (none))) else ((root_Root.f kj6 (((Int.tmod a0 2) + 1) % 256) (wrap64 ((Int.tmod (wrap64 (a1)) (wrap64 (t196 + 1))) - 1))).bind fun bt204 => ((conclaveref01_P.f (((Int.tmod a0 2) + 1) % 256)).bind fun t206 => (if bt204.2 = 0 then ((conclaveref01_Times.f kj6 t206 t198 t198).bind fun t207 => (conclavelaw02_RootSquares.j1 kj6 (((Int.tmod a0 2) + 1) % 256) (Int.tmod (wrap64 (a1)) (wrap64 (t196 + 1))) t198 t206 (t207 != bt204.1))) else (conclavelaw02_RootSquares.j1 kj6 (((Int.tmod a0 2) + 1) % 256) (Int.tmod (wrap64 (a1)) (wrap64 (t196 + 1))) t198 t206 true))))) = some r := by rw [if_neg (show ¬ (false = true) by decide)] at H; exact H
          clear H
          have H := H1
          clear H1
          by_cases c15 : (Int.tmod (wrap64 (a1)) (wrap64 (t196 + 1))) = 0
          · rw [if_pos c15] at H
            have c15b0 : ((Int.tmod (wrap64 (a1)) (wrap64 (t196 + 1))) == 0) = true := beq_iff_eq.mpr c15
            have c15b1 : ((Int.tmod (wrap64 (a1)) (wrap64 (t196 + 1))) != 0) = false := bne_eq_false_iff_eq.mpr c15
            clear c15
            replace H := Option.bind_eq_some_iff.mp H
            obtain ⟨t203, A160, H⟩ := H
            replace H : (if t203 = true then (some (t198 == 1)) else (none)) = some r := H
            have A16 := Aside0.mk A160
            clear A160
            by_cases c17 : t203 = true
            · subst c17
              have H1 : (some (t198 == 1)) = some r := by rw [if_pos rfl] at H; exact H
              clear H
              have H := H1
              clear H1
              obtain rfl := Option.some.inj H
              go_wp2_with (first | ((with_reducible refine gate_callee (f := 42) rfl ?_); refine goesL_ (some 64) rfl rfl Try.func42 (by kernel_rfl) rfl #[] rfl (by (try simp only [List.map_toArray, List.map_cons, List.map_nil]); first | done | rfl | (simp only [List.length_drop, List.length_take]; rfl)) ?_; (with_reducible refine (conclavelaw02_anchored.calls kj6  true _ A16.out).mono ?_); rintro e w18 ⟨rfl, hb⟩; refine ⟨_, rfl, ?_⟩; have n0_ := Aside0.mk (below_step (by repeat (first | (with_reducible first | exact HB.out | apply below_alloc | apply pw_below_drewN | apply below_drew1) | exact HB.out)) hb); clear HB; have HB := n0_; clear n0_; (try clear hb); (try clear hb2); (try clear hk); (try clear hi)))
              go_ret
              exact ⟨by first | rfl | (simp [errW_none, errW_some] <;> rfl) | (simp [*, errW_none, errW_some] <;> rfl), by repeat (first | (with_reducible first | exact HB.out | apply below_alloc | apply pw_below_drewN | apply below_drew1) | exact HB.out)⟩
            · replace c17 := Bool.eq_false_iff.mpr c17
              subst c17
              have H1 : (none) = some r := by rw [if_neg (show ¬ (false = true) by decide)] at H; exact H
              clear H
              have H := H1
              clear H1
              exact absurd H (by simp)
          · rw [if_neg c15] at H
            have c15b0 : ((Int.tmod (wrap64 (a1)) (wrap64 (t196 + 1))) == 0) = false := beq_eq_false_iff_ne.mpr c15
            have c15b1 : ((Int.tmod (wrap64 (a1)) (wrap64 (t196 + 1))) != 0) = true := bne_iff_ne.mpr c15
            replace H := Option.bind_eq_some_iff.mp H
            obtain ⟨⟨t204, t205⟩, A190, H⟩ := H
            replace H : ((conclaveref01_P.f (((Int.tmod a0 2) + 1) % 256)).bind fun t206 => (if t205 = 0 then ((conclaveref01_Times.f kj6 t206 t198 t198).bind fun t207 => (conclavelaw02_RootSquares.j1 kj6 (((Int.tmod a0 2) + 1) % 256) (Int.tmod (wrap64 (a1)) (wrap64 (t196 + 1))) t198 t206 (t207 != t204))) else (conclavelaw02_RootSquares.j1 kj6 (((Int.tmod a0 2) + 1) % 256) (Int.tmod (wrap64 (a1)) (wrap64 (t196 + 1))) t198 t206 true))) = some r := H
            have A19 := Aside0.mk A190
            clear A190
            replace H := Option.bind_eq_some_iff.mp H
            obtain ⟨t206, A200, H⟩ := H
            replace H : (if t205 = 0 then ((conclaveref01_Times.f kj6 t206 t198 t198).bind fun t207 => (conclavelaw02_RootSquares.j1 kj6 (((Int.tmod a0 2) + 1) % 256) (Int.tmod (wrap64 (a1)) (wrap64 (t196 + 1))) t198 t206 (t207 != t204))) else (conclavelaw02_RootSquares.j1 kj6 (((Int.tmod a0 2) + 1) % 256) (Int.tmod (wrap64 (a1)) (wrap64 (t196 + 1))) t198 t206 true)) = some r := H
            have A20 := Aside0.mk A200
            clear A200
            have HC21 := Aside0.mk H
            clear H
            go_upto_region 12 with (first | ((with_reducible refine gate_callee (f := 45) rfl ?_); refine goesL_ (some 73) rfl rfl Try.func45 (by kernel_rfl) rfl #[.int .u8 (((Int.tmod a0 2) + 1) % 256), .int .i64 (wrap64 ((Int.tmod (wrap64 (a1)) (wrap64 (t196 + 1))) - 1))] rfl (by (try simp only [List.map_toArray, List.map_cons, List.map_nil]); first | done | rfl | (simp only [List.length_drop, List.length_take]; rfl)) ?_; (with_reducible refine (root_Root.calls kj6 (((Int.tmod a0 2) + 1) % 256) (wrap64 ((Int.tmod (wrap64 (a1)) (wrap64 (t196 + 1))) - 1)) t204 t205 _ A19.out).mono ?_); rintro e w22 ⟨rfl, hb⟩; refine ⟨_, rfl, ?_⟩; have n0_ := Aside0.mk (below_step (by repeat (first | (with_reducible first | exact HB.out | apply below_alloc | apply pw_below_drewN | apply below_drew1) | exact HB.out)) hb); clear HB; have HB := n0_; clear n0_; (try clear hb); (try clear hb2); (try clear hk); (try clear hi)) | ((with_reducible refine gate_callee (f := 30) rfl ?_); refine goesL_ (some 77) rfl rfl Try.func30 (by kernel_rfl) rfl #[.int .u8 (((Int.tmod a0 2) + 1) % 256)] rfl (by (try simp only [List.map_toArray, List.map_cons, List.map_nil]); first | done | rfl | (simp only [List.length_drop, List.length_take]; rfl)) ?_; (with_reducible refine (conclaveref01_P.calls (((Int.tmod a0 2) + 1) % 256) t206 _ A20.out).mono ?_); rintro e w' ⟨rfl, ⟨nd, rfl⟩⟩; refine ⟨_, rfl, ?_⟩))
            (try simp only [Act.put, List.setIfInBounds_toArray, List.set_cons_zero, List.set_cons_succ])
            go_cut [87] (fun v87 wc => ∃ (kq : Nat) (x87_20 : Bool), v87 = .bool x87_20 ∧ Aside0 (conclavelaw02_RootSquares.j1 kq (((Int.tmod a0 2) + 1) % 256) (Int.tmod (wrap64 (a1)) (wrap64 (t196 + 1))) t198 t206 x87_20 = some r) ∧ Aside0 (kq ≤ kj6) ∧ Aside0 (Below w.heap.size w wc))
            case first =>
              have H := HC21.out
              clear HC21
              by_cases c23 : t205 = 0
              · rw [if_pos c23] at H
                have c23b0 : (t205 == 0) = true := beq_iff_eq.mpr c23
                have c23b1 : (t205 != 0) = false := bne_eq_false_iff_eq.mpr c23
                clear c23
                (first | rw [c23b0] | (simp only [i64_w, i32_w]; rw [c23b0]) | skip)
                replace H := Option.bind_eq_some_iff.mp H
                obtain ⟨t207, A240, H⟩ := H
                replace H : (conclavelaw02_RootSquares.j1 kj6 (((Int.tmod a0 2) + 1) % 256) (Int.tmod (wrap64 (a1)) (wrap64 (t196 + 1))) t198 t206 (t207 != t204)) = some r := H
                have A24 := Aside0.mk A240
                clear A240
                have H' := Aside0.mk H
                clear H
                go_wp2_with (first | (go_at_call 49; (with_reducible refine (conclaveref01_Times.calls kj6 t206 t198 t198 t207 _ A24.out).mono ?_); rintro e w' ⟨rfl, ⟨nd, rfl⟩⟩))
                go_meet
                case rel => exact ⟨_, ((t207 != t204)), (by first | rfl | (simp; done) | (simp [*]; done)), H', ⟨by have := HJ6.out; first | omega | exact Nat.le_refl _⟩, ⟨by repeat (first | (with_reducible first | exact HB.out | apply below_alloc | apply pw_below_drewN | apply below_drew1) | exact HB.out)⟩⟩
              · rw [if_neg c23] at H
                have c23b0 : (t205 == 0) = false := beq_eq_false_iff_ne.mpr c23
                have c23b1 : (t205 != 0) = true := bne_iff_ne.mpr c23
                (first | rw [c23b0] | (simp only [i64_w, i32_w]; rw [c23b0]) | skip)
                have H' := Aside0.mk H
                clear H
                go_wp2
                go_meet
                case rel => exact ⟨_, (true), (by first | rfl | (simp; done) | (simp [*]; done)), H', ⟨by have := HJ6.out; first | omega | exact Nat.le_refl _⟩, ⟨by repeat (first | (with_reducible first | exact HB.out | apply below_alloc | apply pw_below_drewN | apply below_drew1) | exact HB.out)⟩⟩
            case rest =>
              clear HC21
              try clear c1
              try clear c2
              try clear p2
              try clear c3
              try clear c4
              try clear c4b0
              try clear c4b1
              try clear p6
              try clear c11
              try clear c11b0
              try clear c11b1
              try clear c12
              try clear c12b0
              try clear c12b1
              try clear c13
              try clear c14
              try clear c15
              try clear c15b0
              try clear c15b1
              try clear c17
              try clear c23
              try clear c23b0
              try clear c23b1
              try clear p2
              try clear p6
              obtain ⟨kq, x87_20, rfl, HA, HJ20, HB⟩ := hcut
              cases kq with
              | zero => exact absurd HA.out (by simp [conclavelaw02_RootSquares.j1])
              | succ kj20 =>
                have H := HA.out
                clear HA
                simp only [conclavelaw02_RootSquares.j1] at H
                by_cases c25 : x87_20 = true
                · subst c25
                  have H1 : (none) = some r := by rw [if_pos rfl] at H; exact H
                  clear H
                  have H := H1
                  clear H1
                  exact absurd H (by simp)
                · replace c25 := Bool.eq_false_iff.mpr c25
                  subst c25
                  have H1 : (if (Int.tmod (wrap64 (a1)) (wrap64 (t196 + 1))) > 8 then ((conclavelaw02_anchored.f kj20).bind fun t208 => (some t208)) else (if 0 ≤ (IntKind.u64.wrap ((Int.tmod (wrap64 (a1)) (wrap64 (t196 + 1))))) then ((root_Powers.f kj20 (((Int.tmod a0 2) + 1) % 256) t198 (shl .i64 1 (IntKind.u64.wrap ((Int.tmod (wrap64 (a1)) (wrap64 (t196 + 1))))))).bind fun bt209 => (conclavelaw02_RootSquares.l0 kj20 (Int.tmod (wrap64 (a1)) (wrap64 (t196 + 1))) t206 bt209.1 bt209.2 0 0)) else (none))) = some r := by rw [if_neg (show ¬ (false = true) by decide)] at H; exact H
                  clear H
                  have H := H1
                  clear H1
                  by_cases c26 : (Int.tmod (wrap64 (a1)) (wrap64 (t196 + 1))) > 8
                  · rw [if_pos c26] at H
                    have c26b0 : decide (8 < (Int.tmod (wrap64 (a1)) (wrap64 (t196 + 1)))) = true := decide_eq_true c26
                    clear c26
                    replace H := Option.bind_eq_some_iff.mp H
                    obtain ⟨t208, A270, H⟩ := H
                    replace H : (some t208) = some r := H
                    have A27 := Aside0.mk A270
                    clear A270
                    obtain rfl := Option.some.inj H
                    go_wp2_with (first | ((with_reducible refine gate_callee (f := 42) rfl ?_); refine goesL_ (some 90) rfl rfl Try.func42 (by kernel_rfl) rfl #[] rfl (by (try simp only [List.map_toArray, List.map_cons, List.map_nil]); first | done | rfl | (simp only [List.length_drop, List.length_take]; rfl)) ?_; (with_reducible refine (conclavelaw02_anchored.calls kj20  t208 _ A27.out).mono ?_); rintro e w28 ⟨rfl, hb⟩; refine ⟨_, rfl, ?_⟩; have n0_ := Aside0.mk (below_step (by repeat (first | (with_reducible first | exact HB.out | apply below_alloc | apply pw_below_drewN | apply below_drew1) | exact HB.out)) hb); clear HB; have HB := n0_; clear n0_; (try clear hb); (try clear hb2); (try clear hk); (try clear hi)))
                    go_ret
                    exact ⟨by first | rfl | (simp [errW_none, errW_some] <;> rfl) | (simp [*, errW_none, errW_some] <;> rfl), by repeat (first | (with_reducible first | exact HB.out | apply below_alloc | apply pw_below_drewN | apply below_drew1) | exact HB.out)⟩
                  · rw [if_neg c26] at H
                    have c26b0 : decide (8 < (Int.tmod (wrap64 (a1)) (wrap64 (t196 + 1)))) = false := decide_eq_false c26
                    clear c26
                    obtain ⟨ji29, hji29⟩ : ∃ j_ : Int, (IntKind.u64.wrap ((Int.tmod (wrap64 (a1)) (wrap64 (t196 + 1))))) = j_ := ⟨_, rfl⟩
                    replace H : (if 0 ≤ (ji29) then ((root_Powers.f kj20 (((Int.tmod a0 2) + 1) % 256) t198 (shl .i64 1 (ji29))).bind fun bt209 => (conclavelaw02_RootSquares.l0 kj20 (Int.tmod (wrap64 (a1)) (wrap64 (t196 + 1))) t206 bt209.1 bt209.2 0 0)) else (none)) = some r := by first | (rw [hji29] at H; exact H) | (simp only [hji29] at H ⊢; exact H)
                    by_cases c30 : 0 ≤ (ji29)
                    · rw [if_pos c30] at H
                      have c30b0 := eq_true c30
                      have c30b1 : decide (0 ≤ (ji29)) = true := decide_eq_true c30
                      clear c30
                      obtain ⟨ji31, hji31⟩ : ∃ j_ : Int, (shl .i64 1 (ji29)) = j_ := ⟨_, rfl⟩
                      replace H : ((root_Powers.f kj20 (((Int.tmod a0 2) + 1) % 256) t198 (ji31)).bind fun bt209 => (conclavelaw02_RootSquares.l0 kj20 (Int.tmod (wrap64 (a1)) (wrap64 (t196 + 1))) t206 bt209.1 bt209.2 0 0)) = some r := by first | (rw [hji31] at H; exact H) | (simp only [hji31] at H ⊢; exact H)
                      have hji31_ : (IntKind.i64.wrap (1 * 2 ^ min (ji29).toNat 64)) = ji31 := hji31
                      have hji31z : (ji29) ≤ 64 → (IntKind.i64.wrap (1 * 2 ^ (ji29).toNat)) = ji31 := shl_small hji31
                      have hji31u : (IntKind.i64.wrap (2 ^ min (ji29).toNat 64)) = ji31 := by have h_ := hji31_; rw [Int.one_mul] at h_; exact h_
                      have hji31v : (ji29) ≤ 64 → (IntKind.i64.wrap (2 ^ (ji29).toNat)) = ji31 := fun hle_ => by have h_ := hji31z hle_; rw [Int.one_mul] at h_; exact h_
                      have hji31y : (wrap64 (1 * 2 ^ min (ji29).toNat 64)) = ji31 := (i64_w _).symm.trans hji31_
                      have hji31x : (ji29) ≤ 64 → (wrap64 (1 * 2 ^ (ji29).toNat)) = ji31 := fun h_ => (i64_w _).symm.trans (hji31z h_)
                      replace H := Option.bind_eq_some_iff.mp H
                      obtain ⟨⟨t209, t210⟩, A320, H⟩ := H
                      replace H : (conclavelaw02_RootSquares.l0 kj20 (Int.tmod (wrap64 (a1)) (wrap64 (t196 + 1))) t206 t209 t210 0 0) = some r := H
                      have A32 := Aside0.mk A320
                      clear A320
                      have H' := Aside0.mk H
                      clear H
                      go_wp2_with (first | ((with_reducible refine gate_callee (f := 19) rfl ?_); refine goesL_ (some 97) rfl rfl Try.func19 (by kernel_rfl) rfl #[.int .u8 (((Int.tmod a0 2) + 1) % 256), .int .u64 t198, .int .i64 ji31] rfl (by (try simp only [List.map_toArray, List.map_cons, List.map_nil]); first | done | (simp only [hji31]; rfl) | rfl | (simp only [List.length_drop, List.length_take]; rfl)) ?_; (with_reducible refine (root_Powers.calls kj20 (((Int.tmod a0 2) + 1) % 256) t198 ji31 t209 t210 _ A32.out).mono ?_); rintro e w33 ⟨v211, rfl, ho0, hb⟩; refine ⟨_, rfl, ?_⟩; have n0_ := Aside0.mk (Kd.R_lower ho0 (below_size (by repeat (first | (with_reducible first | exact HB.out | apply below_alloc | apply pw_below_drewN | apply below_drew1) | exact HB.out)))); have n1_ := Aside0.mk (below_step (by repeat (first | (with_reducible first | exact HB.out | apply below_alloc | apply pw_below_drewN | apply below_drew1) | exact HB.out)) hb); clear HB; have HO212 := n0_; have HB := n1_; clear n0_ n1_; (try clear hb); (try clear hb2); (try clear hk); (try clear hi); (try clear ho0)))
                      go_loopg [19, 20] kj20 (fun kq v19 v20 w' => ∃ (x19_3 : Int) (x20_3 : Int), v19 = .int .u64 x19_3 ∧ v20 = .int .i64 x20_3 ∧ Aside0 (conclavelaw02_RootSquares.l0 kq (Int.tmod (wrap64 (a1)) (wrap64 (t196 + 1))) t206 t209 t210 x19_3 x20_3 = some r) ∧ Aside0 (kq ≤ kj20) ∧ Aside0 (Kd.R (Kd.int .u64) 22 w' w.heap.size (fun _ => True) v211 t209) ∧ Aside0 (Below w.heap.size w w'))
                      case atStart => exact ⟨(0), (0), (by first | rfl | (simp; done) | (simp [*]; done)), (by first | rfl | (simp; done) | (simp [*]; done)), H', ⟨Nat.le_refl _⟩, ⟨by (with_reducible repeat (first | apply Kd.R_alloc | apply Kd.R_drewN | apply Kd.R_drew)); exact HO212.out⟩, ⟨by repeat (first | (with_reducible first | exact HB.out | apply below_alloc | apply pw_below_drewN | apply below_drew1) | exact HB.out)⟩⟩
                      case round =>
                        clear H'
                        try clear c1
                        try clear c2
                        try clear p2
                        try clear c3
                        try clear c4
                        try clear c4b0
                        try clear c4b1
                        try clear p6
                        try clear c11
                        try clear c11b0
                        try clear c11b1
                        try clear c12
                        try clear c12b0
                        try clear c12b1
                        try clear c13
                        try clear c14
                        try clear c15
                        try clear c15b0
                        try clear c15b1
                        try clear c17
                        try clear c19
                        try clear c23
                        try clear c23b0
                        try clear c23b1
                        try clear c25
                        try clear c26
                        try clear c26b0
                        try clear c30
                        try clear c30b0
                        try clear c30b1
                        try clear p2
                        try clear p6
                        obtain ⟨x19_3, x20_3, rfl, rfl, HA, HK3, HO_17, HB⟩ := hrel
                        cases gk with
                        | zero => exact absurd HA.out (by simp [conclavelaw02_RootSquares.l0])
                        | succ k3 =>
                          have H := HA.out
                          clear HA
                          simp only [conclavelaw02_RootSquares.l0] at H
                          by_cases c34 : x20_3 < (t209.length : Int)
                          · rw [if_pos c34] at H
                            have c34b0 : decide (x20_3 < (t209.length : Int)) = true := decide_eq_true c34
                            clear c34
                            by_cases c35 : 0 ≤ x20_3
                            · rw [if_pos c35] at H
                              have c35b0 : decide (0 ≤ x20_3) = true := decide_eq_true c35
                              clear c35
                              replace H := Option.bind_eq_some_iff.mp H
                              obtain ⟨t214, A360, H⟩ := H
                              replace H : (conclavelaw02_RootSquares.l0 k3 (Int.tmod (wrap64 (a1)) (wrap64 (t196 + 1))) t206 t209 t210 t214 (wrap64 (x20_3 + 1))) = some r := H
                              have A36 := Aside0.mk A360
                              clear A360
                              have H' := Aside0.mk H
                              clear H
                              obtain ⟨Ao37, co37, eo37⟩ := Kd.R_slice HO_17.out
                              subst eo37
                              have p213 : 0 ≤ (x20_3 : Int) := of_decide_eq_true (by first | (with_reducible assumption) | assumption)
                              have q213 : x20_3 < (t209.length : Int) := of_decide_eq_true (by first | (with_reducible assumption) | assumption)
                              obtain ⟨ad213, e213, hx213_0⟩ := Kd.at_int (Kd.R_reads' HO_17.out).2.2 x20_3 p213 q213
                              cases e213
                              replace p213 := eq_true p213
                              replace q213 := eq_true q213
                              go_wp2_with (first | ((with_reducible refine gate_callee (f := 50) rfl ?_); refine goesL_ (some 112) rfl rfl Try.func50 (by kernel_rfl) rfl #[.int .u64 t206, .int .u64 x19_3, .int .u64 (rd t209 x20_3)] rfl (by (try simp only [List.map_toArray, List.map_cons, List.map_nil]); first | done | rfl | (simp only [List.length_drop, List.length_take]; rfl)) ?_; (with_reducible refine (conclaveref01_Sum.calls t206 x19_3 (rd t209 x20_3) t214 _ A36.out).mono ?_); rintro e w' ⟨rfl, ⟨nd, rfl⟩⟩; refine ⟨_, rfl, ?_⟩))
                              go_roundg k3
                              case measure => have := HJ6.out; have := HJ20.out; have := HK3.out; omega
                              case rel => exact ⟨(t214), (wrap64 (x20_3 + 1)), (by first | rfl | (simp; done) | (simp [*]; done)), (by first | rfl | (simp; done) | (simp [*]; done)), H', ⟨by have := HJ6.out; have := HJ20.out; have := HK3.out; omega⟩, ⟨by (with_reducible repeat (first | apply Kd.R_alloc | apply Kd.R_drewN | apply Kd.R_drew)); exact HO_17.out⟩, ⟨by repeat (first | (with_reducible first | exact HB.out | apply below_alloc | apply pw_below_drewN | apply below_drew1) | exact HB.out)⟩⟩
                            · rw [if_neg c35] at H
                              exact absurd H (by simp)
                          · rw [if_neg c34] at H
                            have c34b0 : decide (x20_3 < (t209.length : Int)) = false := decide_eq_false c34
                            clear c34
                            replace H := Option.bind_eq_some_iff.mp H
                            obtain ⟨t215, A380, H⟩ := H
                            replace H : (if t215 = true then (if t210 = 0 then (if x19_3 = 0 then (if 0 ≤ (IntKind.u64.wrap ((Int.tmod (wrap64 (a1)) (wrap64 (t196 + 1))))) then (some ((t209.length : Int) == (shl .i64 1 (IntKind.u64.wrap ((Int.tmod (wrap64 (a1)) (wrap64 (t196 + 1)))))))) else (none)) else (none)) else (none)) else (none)) = some r := H
                            have A38 := Aside0.mk A380
                            clear A380
                            by_cases c39 : t215 = true
                            · subst c39
                              have H1 : (if t210 = 0 then (if x19_3 = 0 then (if 0 ≤ (IntKind.u64.wrap ((Int.tmod (wrap64 (a1)) (wrap64 (t196 + 1))))) then (some ((t209.length : Int) == (shl .i64 1 (IntKind.u64.wrap ((Int.tmod (wrap64 (a1)) (wrap64 (t196 + 1)))))))) else (none)) else (none)) else (none)) = some r := by rw [if_pos rfl] at H; exact H
                              clear H
                              have H := H1
                              clear H1
                              by_cases c40 : t210 = 0
                              · rw [if_pos c40] at H
                                have c40b0 : (t210 == 0) = true := beq_iff_eq.mpr c40
                                have c40b1 : (t210 != 0) = false := bne_eq_false_iff_eq.mpr c40
                                clear c40
                                by_cases c41 : x19_3 = 0
                                · rw [if_pos c41] at H
                                  have c41b0 : (x19_3 == 0) = true := beq_iff_eq.mpr c41
                                  have c41b1 : (x19_3 != 0) = false := bne_eq_false_iff_eq.mpr c41
                                  clear c41
                                  replace H : (if 0 ≤ (ji29) then (some ((t209.length : Int) == (shl .i64 1 (ji29)))) else (none)) = some r := by first | (rw [hji29] at H; exact H) | (simp only [hji29] at H ⊢; exact H)
                                  by_cases c42 : 0 ≤ (ji29)
                                  · rw [if_pos c42] at H
                                    have c42b0 := eq_true c42
                                    have c42b1 : decide (0 ≤ (ji29)) = true := decide_eq_true c42
                                    clear c42
                                    replace H : (some ((t209.length : Int) == (ji31))) = some r := by first | (rw [hji31] at H; exact H) | (simp only [hji31] at H ⊢; exact H)
                                    obtain rfl := Option.some.inj H
                                    obtain ⟨Ao43, co43, eo43⟩ := Kd.R_slice HO_17.out
                                    subst eo43
                                    go_wp2_with (first | ((with_reducible refine gate_callee (f := 42) rfl ?_); refine goesL_ (some 113) rfl rfl Try.func42 (by kernel_rfl) rfl #[] rfl (by (try simp only [List.map_toArray, List.map_cons, List.map_nil]); first | done | rfl | (simp only [List.length_drop, List.length_take]; rfl)) ?_; (with_reducible refine (conclavelaw02_anchored.calls k3  true _ A38.out).mono ?_); rintro e w44 ⟨rfl, hb⟩; refine ⟨_, rfl, ?_⟩; have n0_ := Aside0.mk (Kd.R_below (by (with_reducible repeat (first | apply Kd.R_alloc | apply Kd.R_drewN | apply Kd.R_drew)); exact HO_17.out) hb); have n1_ := Aside0.mk (below_step (by repeat (first | (with_reducible first | exact HB.out | apply below_alloc | apply pw_below_drewN | apply below_drew1) | exact HB.out)) hb); clear HO_17; clear HB; have HO_17 := n0_; have HB := n1_; clear n0_ n1_; (try clear hb); (try clear hb2); (try clear hk); (try clear hi)))
                                    go_ret
                                    exact ⟨by first | rfl | (simp [errW_none, errW_some] <;> rfl) | (simp only [← hji29, ← hji31]; first | rfl | (simp [errW_none, errW_some] <;> rfl)) | (simp [*, errW_none, errW_some] <;> rfl), by repeat (first | (with_reducible first | exact HB.out | apply below_alloc | apply pw_below_drewN | apply below_drew1) | exact HB.out)⟩
                                  · rw [if_neg c42] at H
                                    exact absurd H (by simp)
                                · rw [if_neg c41] at H
                                  exact absurd H (by simp)
                              · rw [if_neg c40] at H
                                exact absurd H (by simp)
                            · replace c39 := Bool.eq_false_iff.mpr c39
                              subst c39
                              have H1 : (none) = some r := by rw [if_neg (show ¬ (false = true) by decide)] at H; exact H
                              clear H
                              have H := H1
                              clear H1
                              exact absurd H (by simp)
                    · rw [if_neg c30] at H
                      exact absurd H (by simp)

/-- THE ONE PURE STATEMENT of conclavelaw02_RootSquares: yours. -/
def conclavelaw02_RootSquares.Pure : Prop := ∀ (a0 : Int) (a1 : Int), (Lit.int .u8 a0).wf = true → (Lit.int .u8 a1).wf = true → ∃ k, conclavelaw02_RootSquares.f k a0 a1 = some true
theorem conclavelaw02_RootSquares.walk (P : conclavelaw02_RootSquares.Pure) (a0 : Int) (a1 : Int) (w : World) (w0 : (Lit.int .u8 a0).wf = true) (w1 : (Lit.int .u8 a1).wf = true) :
    Calls Try.prog 13 #[.int .u8 a0, .int .u8 a1] w fun e w' => e = .returned (.bool true) ∧ Below w.heap.size w w' := by
  obtain ⟨k, h⟩ := P a0 a1 w0 w1
  refine (conclavelaw02_RootSquares.calls k a0 a1 true w h).mono ?_
  rintro e w' ⟨rfl, hd⟩
  exact ⟨rfl, hd⟩

end Go.Proofs.Ythlmfgnmljhdbaa.PRootSquares
