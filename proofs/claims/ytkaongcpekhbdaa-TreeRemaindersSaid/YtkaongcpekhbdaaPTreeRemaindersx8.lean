/- The Go functions as Lean functions, each with the proof that its call comes to just that; written by a program of this session, by the words of the print. -/
import Derived.Test.YtkaongcpekhbdaaPTreeRemaindersx0
import Derived.Test.YtkaongcpekhbdaaPTreeRemaindersx1
import Derived.Test.YtkaongcpekhbdaaPTreeRemaindersx2
import Derived.Test.YtkaongcpekhbdaaPTreeRemaindersx3
import Derived.Test.YtkaongcpekhbdaaPTreeRemaindersx5
import Derived.Test.YtkaongcpekhbdaaPTreeRemaindersx7
namespace Go.Proofs.Ytkaongcpekhbdaa.PTreeRemainders
open Go.RowKit Go.Proofs.YtkaongcpekhbdaaW.PrintWords Go.Proofs.YtkaongcpekhbdaaW.PrintLast Go.Proofs.YtkaongcpekhbdaaW.PrintMore
attribute [local go_sem] max2_int min2_int max_two min_two max_three min_three max_four min_four   -- for this text's walks alone
set_option linter.unusedVariables false
set_option linter.unusedSimpArgs false
/-! ### cr6_Remainders: function 10 -/
mutual
def cr6_Remainders.l0 : Nat → Int → List Int → List (List Int) → Int → Int → Option ((List (List Int)) × Int)
 | 0, _, _, _, _, _ => none
 | k + 1, x0, x1, x2, x8, x9 => if x9 < (x2.length : Int) then (cr6_Remainders.j1 k x0 x1 x2 x8 x9 (x8 != 2)) else (cr6_Remainders.j1 k x0 x1 x2 x8 x9 false)
def cr6_Remainders.j1 : Nat → Int → List Int → List (List Int) → Int → Int → Bool → Option ((List (List Int)) × Int)
 | 0, _, _, _, _, _, _ => none
 | k + 1, x0, x1, x2, x8, x9, x24 => if x24 = true then (if 0 ≤ x9 then (if x9 < (x2.length : Int) then ((cr6_bad.f k x0 (rd_L1 x2 x9) ([] : List Int)).bind fun t301 => (if t301 = 0 then (cr6_Remainders.l0 k x0 x1 x2 x8 (wrap64 (x9 + 1))) else (if x8 = 0 then (cr6_Remainders.l0 k x0 x1 x2 t301 (wrap64 (x9 + 1))) else (if t301 = 2 then (cr6_Remainders.l0 k x0 x1 x2 t301 (wrap64 (x9 + 1))) else (cr6_Remainders.l0 k x0 x1 x2 x8 (wrap64 (x9 + 1))))))) else (none)) else (none)) else (if x8 = 0 then (cr6_Remainders.j2 k x0 x1 x2 x8 (decide ((x2.length : Int) > 2048))) else (cr6_Remainders.j2 k x0 x1 x2 x8 false))
def cr6_Remainders.j2 : Nat → Int → List Int → List (List Int) → Int → Bool → Option ((List (List Int)) × Int)
 | 0, _, _, _, _, _ => none
 | k + 1, x0, x1, x2, x8, x48 => if x48 = true then (cr6_Remainders.j3 k x0 x1 x2 4) else (cr6_Remainders.j3 k x0 x1 x2 x8)
def cr6_Remainders.j3 : Nat → Int → List Int → List (List Int) → Int → Option ((List (List Int)) × Int)
 | 0, _, _, _, _ => none
 | k + 1, x0, x1, x2, x8 => cr6_Remainders.l1 k x0 x1 x2 x8 ([] : List (List Int)) 0
def cr6_Remainders.l1 : Nat → Int → List Int → List (List Int) → Int → List (List Int) → Int → Option ((List (List Int)) × Int)
 | 0, _, _, _, _, _, _ => none
 | k + 1, x0, x1, x2, x8, x11, x12 => if x12 < (x2.length : Int) then (if x8 = 0 then (if 0 ≤ x12 then ((cr3_DivMod.f k x0 x1 (rd_L1 x2 x12)).bind fun bt303 => (if x11.length < 5864062014805 then (cr6_Remainders.l1 k x0 x1 x2 bt303.2.2 (x11 ++ [bt303.2.1]) (wrap64 (x12 + 1))) else (none))) else (none)) else (some (([] : List (List Int)), x8))) else (if x8 = 0 then (some (x11, 0)) else (some (([] : List (List Int)), x8)))
end
def cr6_Remainders.f (k : Nat) (a0 : Int) (l1 : List Int) (l2 : List (List Int)) : Option ((List (List Int)) × Int) := (cr6_bad.f k a0 l1 ([] : List Int)).bind fun t299 => (cr6_Remainders.l0 k a0 l1 l2 t299 0)
theorem cr6_Remainders.mono_l : ∀ k, (∀ y0 y1 y2 y3 y4, LeO (cr6_Remainders.l0 k y0 y1 y2 y3 y4) (cr6_Remainders.l0 (k + 1) y0 y1 y2 y3 y4)) ∧ (∀ y0 y1 y2 y3 y4 y5, LeO (cr6_Remainders.j1 k y0 y1 y2 y3 y4 y5) (cr6_Remainders.j1 (k + 1) y0 y1 y2 y3 y4 y5)) ∧ (∀ y0 y1 y2 y3 y4, LeO (cr6_Remainders.j2 k y0 y1 y2 y3 y4) (cr6_Remainders.j2 (k + 1) y0 y1 y2 y3 y4)) ∧ (∀ y0 y1 y2 y3, LeO (cr6_Remainders.j3 k y0 y1 y2 y3) (cr6_Remainders.j3 (k + 1) y0 y1 y2 y3)) ∧ (∀ y0 y1 y2 y3 y4 y5, LeO (cr6_Remainders.l1 k y0 y1 y2 y3 y4 y5) (cr6_Remainders.l1 (k + 1) y0 y1 y2 y3 y4 y5))
 | 0 => ⟨fun _ _ _ _ _ r h => by simp [cr6_Remainders.l0] at h, fun _ _ _ _ _ _ r h => by simp [cr6_Remainders.j1] at h, fun _ _ _ _ _ r h => by simp [cr6_Remainders.j2] at h, fun _ _ _ _ r h => by simp [cr6_Remainders.j3] at h, fun _ _ _ _ _ _ r h => by simp [cr6_Remainders.l1] at h⟩
 | k + 1 => by
  obtain ⟨ih0, ih1, ih2, ih3, ih4⟩ := cr6_Remainders.mono_l k
  refine ⟨?_, ?_, ?_, ?_, ?_⟩
  ·intro y0 y1 y2 y3 y4
   unfold cr6_Remainders.l0
   repeat' first
   | (with_reducible exact ih0 _ _ _ _ _)
   | (with_reducible exact ih1 _ _ _ _ _ _)
   | (with_reducible exact ih2 _ _ _ _ _)
   | (with_reducible exact ih3 _ _ _ _)
   | (with_reducible exact ih4 _ _ _ _ _ _)
   | (with_reducible exact cr3_DivMod.mono _ _ _ _)
   | (with_reducible exact cr6_bad.mono _ _ _ _)
   | (with_reducible exact LeO.refl _)
   | (with_reducible exact LeO.none _)
   | (with_reducible refine LeO.ite ?_ ?_)
   | (with_reducible refine LeO.bind ?_ (fun _ => ?_))
   | exact ih0 _ _ _ _ _
   | exact ih1 _ _ _ _ _ _
   | exact ih2 _ _ _ _ _
   | exact ih3 _ _ _ _
   | exact ih4 _ _ _ _ _ _
   | exact cr3_DivMod.mono _ _ _ _
   | exact cr6_bad.mono _ _ _ _
   | exact LeO.none _
   | refine LeO.ite ?_ ?_
   | refine LeO.bind ?_ (fun _ => ?_)
  ·intro y0 y1 y2 y3 y4 y5
   unfold cr6_Remainders.j1
   repeat' first
   | (with_reducible exact ih0 _ _ _ _ _)
   | (with_reducible exact ih1 _ _ _ _ _ _)
   | (with_reducible exact ih2 _ _ _ _ _)
   | (with_reducible exact ih3 _ _ _ _)
   | (with_reducible exact ih4 _ _ _ _ _ _)
   | (with_reducible exact cr3_DivMod.mono _ _ _ _)
   | (with_reducible exact cr6_bad.mono _ _ _ _)
   | (with_reducible exact LeO.refl _)
   | (with_reducible exact LeO.none _)
   | (with_reducible refine LeO.ite ?_ ?_)
   | (with_reducible refine LeO.bind ?_ (fun _ => ?_))
   | exact ih0 _ _ _ _ _
   | exact ih1 _ _ _ _ _ _
   | exact ih2 _ _ _ _ _
   | exact ih3 _ _ _ _
   | exact ih4 _ _ _ _ _ _
   | exact cr3_DivMod.mono _ _ _ _
   | exact cr6_bad.mono _ _ _ _
   | exact LeO.none _
   | refine LeO.ite ?_ ?_
   | refine LeO.bind ?_ (fun _ => ?_)
  ·intro y0 y1 y2 y3 y4
   unfold cr6_Remainders.j2
   repeat' first
   | (with_reducible exact ih0 _ _ _ _ _)
   | (with_reducible exact ih1 _ _ _ _ _ _)
   | (with_reducible exact ih2 _ _ _ _ _)
   | (with_reducible exact ih3 _ _ _ _)
   | (with_reducible exact ih4 _ _ _ _ _ _)
   | (with_reducible exact cr3_DivMod.mono _ _ _ _)
   | (with_reducible exact cr6_bad.mono _ _ _ _)
   | (with_reducible exact LeO.refl _)
   | (with_reducible exact LeO.none _)
   | (with_reducible refine LeO.ite ?_ ?_)
   | (with_reducible refine LeO.bind ?_ (fun _ => ?_))
   | exact ih0 _ _ _ _ _
   | exact ih1 _ _ _ _ _ _
   | exact ih2 _ _ _ _ _
   | exact ih3 _ _ _ _
   | exact ih4 _ _ _ _ _ _
   | exact cr3_DivMod.mono _ _ _ _
   | exact cr6_bad.mono _ _ _ _
   | exact LeO.none _
   | refine LeO.ite ?_ ?_
   | refine LeO.bind ?_ (fun _ => ?_)
  ·intro y0 y1 y2 y3
   unfold cr6_Remainders.j3
   repeat' first
   | (with_reducible exact ih0 _ _ _ _ _)
   | (with_reducible exact ih1 _ _ _ _ _ _)
   | (with_reducible exact ih2 _ _ _ _ _)
   | (with_reducible exact ih3 _ _ _ _)
   | (with_reducible exact ih4 _ _ _ _ _ _)
   | (with_reducible exact cr3_DivMod.mono _ _ _ _)
   | (with_reducible exact cr6_bad.mono _ _ _ _)
   | (with_reducible exact LeO.refl _)
   | (with_reducible exact LeO.none _)
   | (with_reducible refine LeO.ite ?_ ?_)
   | (with_reducible refine LeO.bind ?_ (fun _ => ?_))
   | exact ih0 _ _ _ _ _
   | exact ih1 _ _ _ _ _ _
   | exact ih2 _ _ _ _ _
   | exact ih3 _ _ _ _
   | exact ih4 _ _ _ _ _ _
   | exact cr3_DivMod.mono _ _ _ _
   | exact cr6_bad.mono _ _ _ _
   | exact LeO.none _
   | refine LeO.ite ?_ ?_
   | refine LeO.bind ?_ (fun _ => ?_)
  ·intro y0 y1 y2 y3 y4 y5
   unfold cr6_Remainders.l1
   repeat' first
   | (with_reducible exact ih0 _ _ _ _ _)
   | (with_reducible exact ih1 _ _ _ _ _ _)
   | (with_reducible exact ih2 _ _ _ _ _)
   | (with_reducible exact ih3 _ _ _ _)
   | (with_reducible exact ih4 _ _ _ _ _ _)
   | (with_reducible exact cr3_DivMod.mono _ _ _ _)
   | (with_reducible exact cr6_bad.mono _ _ _ _)
   | (with_reducible exact LeO.refl _)
   | (with_reducible exact LeO.none _)
   | (with_reducible refine LeO.ite ?_ ?_)
   | (with_reducible refine LeO.bind ?_ (fun _ => ?_))
   | exact ih0 _ _ _ _ _
   | exact ih1 _ _ _ _ _ _
   | exact ih2 _ _ _ _ _
   | exact ih3 _ _ _ _
   | exact ih4 _ _ _ _ _ _
   | exact cr3_DivMod.mono _ _ _ _
   | exact cr6_bad.mono _ _ _ _
   | exact LeO.none _
   | refine LeO.ite ?_ ?_
   | refine LeO.bind ?_ (fun _ => ?_)
theorem cr6_Remainders.mono : ∀ a0 a1 a2 k, LeO (cr6_Remainders.f k a0 a1 a2) (cr6_Remainders.f (k + 1) a0 a1 a2) := by
 intro a0 a1 a2 k
 obtain ⟨ih0, ih1, ih2, ih3, ih4⟩ := cr6_Remainders.mono_l k
 unfold cr6_Remainders.f
 repeat' first
   | (with_reducible exact ih0 _ _ _ _ _)
   | (with_reducible exact ih1 _ _ _ _ _ _)
   | (with_reducible exact ih2 _ _ _ _ _)
   | (with_reducible exact ih3 _ _ _ _)
   | (with_reducible exact ih4 _ _ _ _ _ _)
   | (with_reducible exact cr3_DivMod.mono _ _ _ _)
   | (with_reducible exact cr6_bad.mono _ _ _ _)
   | (with_reducible exact LeO.refl _)
   | (with_reducible exact LeO.none _)
   | (with_reducible refine LeO.ite ?_ ?_)
   | (with_reducible refine LeO.bind ?_ (fun _ => ?_))
   | exact ih0 _ _ _ _ _
   | exact ih1 _ _ _ _ _ _
   | exact ih2 _ _ _ _ _
   | exact ih3 _ _ _ _
   | exact ih4 _ _ _ _ _ _
   | exact cr3_DivMod.mono _ _ _ _
   | exact cr6_bad.mono _ _ _ _
   | exact LeO.none _
   | refine LeO.ite ?_ ?_
   | refine LeO.bind ?_ (fun _ => ?_)
set_option maxHeartbeats 8000000 in
set_option maxRecDepth 100000 in
theorem cr6_Remainders.calls (k : Nat) (a0 : Int) (A1 : Option Addr) (c1 : Nat) (l1 : List Int) (A2 : Option Addr) (c2 : Nat) (l2 : List (List Int)) (r1 : List (List Int)) (r2 : Int) (w : World) (hr1 : Kd.C (Kd.int .u64) w A1 l1.length l1) (hc1 : l1.length ≤ c1) (hr2 : Kd.C (Kd.slice 49 (Kd.int .u64)) w A2 l2.length l2) (hc2 : l2.length ≤ c2) (h : cr6_Remainders.f k a0 l1 l2 = some (r1, r2)) :
  Calls Try.prog 10 #[.int .u8 a0, .slice A1 l1.length c1, .slice A2 l2.length c2] w fun e w' => ∃ v0_ : Value, e = .returned (.tuple #[v0_, .int .i64 r2]) ∧ Kd.S (Kd.slice 49 (Kd.int .u64)) 22 w' w.heap.size (fun _ => True) v0_ r1 ∧ Below w.heap.size w w' := by
 have HR1 := Aside0.mk hr1
 have HC1 := Aside0.mk hc1
 clear hr1 hc1
 have HR2 := Aside0.mk hr2
 have HC2 := Aside0.mk hc2
 clear hr2 hc2
 have HB := A_ (Below.refl w.heap.size w)
 have H : ((cr6_bad.f k a0 l1 ([] : List Int)).bind fun t299 => (cr6_Remainders.l0 k a0 l1 l2 t299 0)) = some (r1, r2) := h
 clear h
 replace H := Option.bind_eq_some_iff.mp H
 obtain ⟨t299, A40, H⟩ := H
 replace H : (cr6_Remainders.l0 k a0 l1 l2 t299 0) = some (r1, r2) := H
 have A4 := Aside0.mk A40
 clear A40
 have H' := Aside0.mk H
 clear H
 go_enter Try.func10, Try.ntmps10
 go_wp2_with (first | ((with_reducible refine gate_callee (f := 33) rfl ?_); refine goesM_ (some 16) Try.func33 #[.int .u8 a0, .slice A1 l1.length c1, .slice none 0 0] ?_; (refine (cr6_bad.calls k a0 _ _ l1 _ _ ([] : List Int) t299 _ ?side1 ?side2 ?side3 ?side4 A4.out).mono ?_); (case side1 => exact nC_ HR1.out); (case side2 => exact HC1.out); (case side3 => exact Kd.C_nil _ _); (case side4 => exact Nat.le_refl _); rintro e w' ⟨rfl, ⟨nd, rfl⟩⟩; refine ⟨_, rfl, ?_⟩))
 go_loopg [8, 9] k (fun kq v8 v9 w' => ∃ (x8_1 : Int) (x9_1 : Int), v8 = .int .i64 x8_1 ∧ v9 = .int .i64 x9_1 ∧ Aside0 (cr6_Remainders.l0 kq a0 l1 l2 x8_1 x9_1 = some (r1, r2)) ∧ Aside0 (kq ≤ k) ∧ Aside0 (Below w.heap.size w w'))
 case atStart => exact ⟨(t299), (0), (fs_), (fs_), H', ⟨Nat.le_refl _⟩, ⟨by repeat (first | (with_reducible first | exact HB.out | apply below_alloc | apply pw_below_drewN | apply below_drew1) | exact HB.out)⟩⟩
 case round =>
  clear H'
  try clear c1
  try clear c2
  try clear p2
  try clear c3
  obtain ⟨x8_1, x9_1, rfl, rfl, HA, HK1, HB⟩ := hrel
  cases gk with
  | zero => exact absurd HA.out (by simp [cr6_Remainders.l0])
  | succ k1 =>
   have H := HA.out
   clear HA
   simp only [cr6_Remainders.l0] at H
   have HC5 := Aside0.mk H
   clear H
   go_upto_region 3 with (fail)
   go_cut [24] (fun v24 wc => ∃ (kq : Nat) (x24_4 : Bool), v24 = .bool x24_4 ∧ Aside0 (cr6_Remainders.j1 kq a0 l1 l2 x8_1 x9_1 x24_4 = some (r1, r2)) ∧ Aside0 (kq ≤ k1) ∧ Aside0 (Below w.heap.size w wc))
   case first =>
    have H := HC5.out
    clear HC5
    by_cases c6 : x9_1 < (l2.length : Int)
    ·rw [if_pos c6] at H
     have c6b0 : decide (x9_1 < (l2.length : Int)) = true := decide_eq_true c6
     clear c6
     (first | rw [c6b0] | (simp only [i64_w, i32_w]; first | rw [c6b0]) | skip)
     have H' := Aside0.mk H
     clear H
     go_wp2
     go_meet
     case rel => exact ⟨_, ((x8_1 != 2)), (fs_), H', ⟨by have := HK1.out; first | omega | exact Nat.le_refl _⟩, ⟨by repeat (first | (with_reducible first | exact HB.out | apply below_alloc | apply pw_below_drewN | apply below_drew1) | exact HB.out)⟩⟩
    ·rw [if_neg c6] at H
     have c6b0 : decide (x9_1 < (l2.length : Int)) = false := decide_eq_false c6
     clear c6
     (first | rw [c6b0] | (simp only [i64_w, i32_w]; first | rw [c6b0]) | skip)
     have H' := Aside0.mk H
     clear H
     go_wp2
     go_meet
     case rel => exact ⟨_, (false), (fs_), H', ⟨by have := HK1.out; first | omega | exact Nat.le_refl _⟩, ⟨by repeat (first | (with_reducible first | exact HB.out | apply below_alloc | apply pw_below_drewN | apply below_drew1) | exact HB.out)⟩⟩
   case rest =>
    clear HC5
    try clear c1
    try clear c2
    try clear p2
    try clear c3
    try clear c6
    try clear c6b0
    try clear p2
    obtain ⟨kq, x24_4, rfl, HA, HJ4, HB⟩ := hcut
    cases kq with
    | zero => exact absurd HA.out (by simp [cr6_Remainders.j1])
    | succ kj4 =>
     have H := HA.out
     clear HA
     simp only [cr6_Remainders.j1] at H
     by_cases c7 : x24_4 = true
     ·subst c7
      have H1 : (if 0 ≤ x9_1 then (if x9_1 < (l2.length : Int) then ((cr6_bad.f kj4 a0 (rd_L1 l2 x9_1) ([] : List Int)).bind fun t301 => (if t301 = 0 then (cr6_Remainders.l0 kj4 a0 l1 l2 x8_1 (wrap64 (x9_1 + 1))) else (if x8_1 = 0 then (cr6_Remainders.l0 kj4 a0 l1 l2 t301 (wrap64 (x9_1 + 1))) else (if t301 = 2 then (cr6_Remainders.l0 kj4 a0 l1 l2 t301 (wrap64 (x9_1 + 1))) else (cr6_Remainders.l0 kj4 a0 l1 l2 x8_1 (wrap64 (x9_1 + 1))))))) else (none)) else (none)) = some (r1, r2) := by rw [if_pos rfl] at H; exact H
      clear H
      have H := H1
      clear H1
      by_cases c8 : 0 ≤ x9_1
      ·rw [if_pos c8] at H
       have c8b0 : decide (0 ≤ x9_1) = true := decide_eq_true c8
       clear c8
       by_cases c9 : x9_1 < (l2.length : Int)
       ·rw [if_pos c9] at H
        have c9b0 : decide (x9_1 < (l2.length : Int)) = true := decide_eq_true c9
        clear c9
        replace H := Option.bind_eq_some_iff.mp H
        obtain ⟨t301, A100, H⟩ := H
        (try dsimp only at H)
        have A10 := Aside0.mk A100
        clear A100
        have HC11 := Aside0.mk H
        clear H
        have p300 : 0 ≤ (x9_1 : Int) := of_decide_eq_true (by first | (with_reducible assumption) | assumption)
        have q300 : x9_1 < (l2.length : Int) := of_decide_eq_true (by first | (with_reducible assumption) | assumption)
        obtain ⟨ad300, A300_0, c300_0, e300, hx300_0, hl300_0, hi300_0⟩ := at_L1 HR2.out x9_1 p300 q300
        cases e300
        replace hx300_0 := (HB.out.cell (World.block_lt_of_cell? w _ hx300_0)).trans hx300_0
        have HR300_0 := Aside0.mk hi300_0
        have HC300_0 := Aside0.mk hl300_0
        clear hi300_0 hl300_0
        replace p300 := eq_true p300
        replace q300 := eq_true q300
        go_upto_if 34 with (first | ((with_reducible refine gate_callee (f := 33) rfl ?_); refine goesM_ (some 32) Try.func33 #[.int .u8 a0, .slice A300_0 (rd_L1 l2 x9_1).length c300_0, .slice none 0 0] ?_; (refine (cr6_bad.calls kj4 a0 _ _ (rd_L1 l2 x9_1) _ _ ([] : List Int) t301 _ ?side1 ?side2 ?side3 ?side4 A10.out).mono ?_); (case side1 => repeat (first | exact (Kd.C_below HR300_0.out HB.out) | (with_reducible refine Kd.C_alloc ?_ _) | (with_reducible refine Kd.C_drewN ?_ _) | (with_reducible refine Kd.C_drew ?_))); (case side2 => exact HC300_0.out); (case side3 => exact Kd.C_nil _ _); (case side4 => exact Nat.le_refl _); rintro e w' ⟨rfl, ⟨nd, rfl⟩⟩; refine ⟨_, rfl, ?_⟩))
        (try simp only [Act.put, List.setIfInBounds_toArray, List.set_cons_zero, List.set_cons_succ])
        have H := HC11.out
        clear HC11
        by_cases c12 : t301 = 0
        ·rw [if_pos c12] at H
         have c12b0 : (t301 == 0) = true := beq_iff_eq.mpr c12
         have c12b1 : (t301 != 0) = false := bne_eq_false_iff_eq.mpr c12
         clear c12
         (first | rw [c12b0] | rw [c12b1] | (simp only [i64_w, i32_w]; first | rw [c12b0] | rw [c12b1]) | skip)
         have H' := Aside0.mk H
         clear H
         go_wp2
         go_roundg kj4
         case measure => have := HK1.out; have := HJ4.out; omega
         case rel => exact ⟨(x8_1), (wrap64 (x9_1 + 1)), (fs_), (fs_), H', ⟨by have := HK1.out; have := HJ4.out; omega⟩, ⟨by repeat (first | (with_reducible first | exact HB.out | apply below_alloc | apply pw_below_drewN | apply below_drew1) | exact HB.out)⟩⟩
        ·rw [if_neg c12] at H
         have c12b0 : (t301 == 0) = false := beq_eq_false_iff_ne.mpr c12
         have c12b1 : (t301 != 0) = true := bne_iff_ne.mpr c12
         (first | rw [c12b0] | rw [c12b1] | (simp only [i64_w, i32_w]; first | rw [c12b0] | rw [c12b1]) | skip)
         by_cases c13 : x8_1 = 0
         ·rw [if_pos c13] at H
          have c13b0 : (x8_1 == 0) = true := beq_iff_eq.mpr c13
          have c13b1 : (x8_1 != 0) = false := bne_eq_false_iff_eq.mpr c13
          clear c13
          have H' := Aside0.mk H
          clear H
          go_wp2
          go_roundg kj4
          case measure => have := HK1.out; have := HJ4.out; omega
          case rel => exact ⟨(t301), (wrap64 (x9_1 + 1)), (fs_), (fs_), H', ⟨by have := HK1.out; have := HJ4.out; omega⟩, ⟨by repeat (first | (with_reducible first | exact HB.out | apply below_alloc | apply pw_below_drewN | apply below_drew1) | exact HB.out)⟩⟩
         ·rw [if_neg c13] at H
          have c13b0 : (x8_1 == 0) = false := beq_eq_false_iff_ne.mpr c13
          have c13b1 : (x8_1 != 0) = true := bne_iff_ne.mpr c13
          by_cases c14 : t301 = 2
          ·rw [if_pos c14] at H
           have c14b0 : (t301 == 2) = true := beq_iff_eq.mpr c14
           have c14b1 : (t301 != 2) = false := bne_eq_false_iff_eq.mpr c14
           clear c14
           have H' := Aside0.mk H
           clear H
           go_wp2
           go_roundg kj4
           case measure => have := HK1.out; have := HJ4.out; omega
           case rel => exact ⟨(t301), (wrap64 (x9_1 + 1)), (fs_), (fs_), H', ⟨by have := HK1.out; have := HJ4.out; omega⟩, ⟨by repeat (first | (with_reducible first | exact HB.out | apply below_alloc | apply pw_below_drewN | apply below_drew1) | exact HB.out)⟩⟩
          ·rw [if_neg c14] at H
           have c14b0 : (t301 == 2) = false := beq_eq_false_iff_ne.mpr c14
           have c14b1 : (t301 != 2) = true := bne_iff_ne.mpr c14
           have H' := Aside0.mk H
           clear H
           go_wp2
           go_roundg kj4
           case measure => have := HK1.out; have := HJ4.out; omega
           case rel => exact ⟨(x8_1), (wrap64 (x9_1 + 1)), (fs_), (fs_), H', ⟨by have := HK1.out; have := HJ4.out; omega⟩, ⟨by repeat (first | (with_reducible first | exact HB.out | apply below_alloc | apply pw_below_drewN | apply below_drew1) | exact HB.out)⟩⟩
       ·rw [if_neg c9] at H
        exact absurd H (by simp)
      ·rw [if_neg c8] at H
       exact absurd H (by simp)
     ·replace c7 := Bool.eq_false_iff.mpr c7
      subst c7
      have H1 : (if x8_1 = 0 then (cr6_Remainders.j2 kj4 a0 l1 l2 x8_1 (decide ((l2.length : Int) > 2048))) else (cr6_Remainders.j2 kj4 a0 l1 l2 x8_1 false)) = some (r1, r2) := by rw [if_neg (show ¬ (false = true) by decide)] at H; exact H
      clear H
      have H := H1
      clear H1
      have HC15 := Aside0.mk H
      clear H
      go_upto_region 9 with (fail)
      go_cut [48] (fun v48 wc => ∃ (kq : Nat) (x48_14 : Bool), v48 = .bool x48_14 ∧ Aside0 (cr6_Remainders.j2 kq a0 l1 l2 x8_1 x48_14 = some (r1, r2)) ∧ Aside0 (kq ≤ kj4) ∧ Aside0 (Below w.heap.size w wc))
      case first =>
       have H := HC15.out
       clear HC15
       by_cases c16 : x8_1 = 0
       ·rw [if_pos c16] at H
        have c16b0 : (x8_1 == 0) = true := beq_iff_eq.mpr c16
        have c16b1 : (x8_1 != 0) = false := bne_eq_false_iff_eq.mpr c16
        clear c16
        (first | rw [c16b0] | rw [c16b1] | (simp only [i64_w, i32_w]; first | rw [c16b0] | rw [c16b1]) | skip)
        have H' := Aside0.mk H
        clear H
        go_wp2
        go_meet
        case rel => exact ⟨_, (decide ((l2.length : Int) > 2048)), (fs_), H', ⟨by have := HK1.out; have := HJ4.out; first | omega | exact Nat.le_refl _⟩, ⟨by repeat (first | (with_reducible first | exact HB.out | apply below_alloc | apply pw_below_drewN | apply below_drew1) | exact HB.out)⟩⟩
       ·rw [if_neg c16] at H
        have c16b0 : (x8_1 == 0) = false := beq_eq_false_iff_ne.mpr c16
        have c16b1 : (x8_1 != 0) = true := bne_iff_ne.mpr c16
        (first | rw [c16b0] | rw [c16b1] | (simp only [i64_w, i32_w]; first | rw [c16b0] | rw [c16b1]) | skip)
        have H' := Aside0.mk H
        clear H
        go_wp2
        go_meet
        case rel => exact ⟨_, (false), (fs_), H', ⟨by have := HK1.out; have := HJ4.out; first | omega | exact Nat.le_refl _⟩, ⟨by repeat (first | (with_reducible first | exact HB.out | apply below_alloc | apply pw_below_drewN | apply below_drew1) | exact HB.out)⟩⟩
      case rest =>
       clear HC15
       try clear c1
       try clear c2
       try clear p2
       try clear c3
       try clear p3
       try clear q3
       try clear hx3
       try clear c6
       try clear c6b0
       try clear p6
       try clear c7
       try clear c8
       try clear c8b0
       try clear c9
       try clear c9b0
       try clear c10
       try clear c12
       try clear c12b0
       try clear c12b1
       try clear c13
       try clear c13b0
       try clear c13b1
       try clear c14
       try clear c14b0
       try clear c14b1
       try clear c16
       try clear c16b0
       try clear c16b1
       try clear hx300_0
       try clear p2
       try clear p300
       try clear q300
       obtain ⟨kq, x48_14, rfl, HA, HJ14, HB⟩ := hcut
       cases kq with
       | zero => exact absurd HA.out (by simp [cr6_Remainders.j2])
       | succ kj14 =>
        have H := HA.out
        clear HA
        simp only [cr6_Remainders.j2] at H
        have HC17 := Aside0.mk H
        clear H
        go_upto_if 48 with (fail)
        go_cut [8] (fun v8 wc => ∃ (kq : Nat) (x8_16 : Int), v8 = .int .i64 x8_16 ∧ Aside0 (cr6_Remainders.j3 kq a0 l1 l2 x8_16 = some (r1, r2)) ∧ Aside0 (kq ≤ kj14) ∧ Aside0 (Below w.heap.size w wc))
        case first =>
         have H := HC17.out
         clear HC17
         by_cases c18 : x48_14 = true
         ·subst c18
          have H1 : (cr6_Remainders.j3 kj14 a0 l1 l2 4) = some (r1, r2) := by rw [if_pos rfl] at H; exact H
          clear H
          have H := H1
          clear H1
          have H' := Aside0.mk H
          clear H
          go_wp2
          go_meet
          case rel => exact ⟨_, (4), (fs_), H', ⟨by have := HK1.out; have := HJ4.out; have := HJ14.out; first | omega | exact Nat.le_refl _⟩, ⟨by repeat (first | (with_reducible first | exact HB.out | apply below_alloc | apply pw_below_drewN | apply below_drew1) | exact HB.out)⟩⟩
         ·replace c18 := Bool.eq_false_iff.mpr c18
          subst c18
          have H1 : (cr6_Remainders.j3 kj14 a0 l1 l2 x8_1) = some (r1, r2) := by rw [if_neg (show ¬ (false = true) by decide)] at H; exact H
          clear H
          have H := H1
          clear H1
          have H' := Aside0.mk H
          clear H
          go_wp2
          go_meet
          case rel => exact ⟨_, (x8_1), (fs_), H', ⟨by have := HK1.out; have := HJ4.out; have := HJ14.out; first | omega | exact Nat.le_refl _⟩, ⟨by repeat (first | (with_reducible first | exact HB.out | apply below_alloc | apply pw_below_drewN | apply below_drew1) | exact HB.out)⟩⟩
        case rest =>
         clear HC17
         try clear c1
         try clear c2
         try clear p2
         try clear c3
         try clear p3
         try clear q3
         try clear hx3
         try clear c6
         try clear c6b0
         try clear p6
         try clear c7
         try clear c8
         try clear c8b0
         try clear c9
         try clear c9b0
         try clear c10
         try clear c12
         try clear c12b0
         try clear c12b1
         try clear c13
         try clear c13b0
         try clear c13b1
         try clear c14
         try clear c14b0
         try clear c14b1
         try clear c16
         try clear c16b0
         try clear c16b1
         try clear c18
         try clear hx300_0
         try clear p2
         try clear p3
         try clear p300
         try clear p6
         try clear q3
         try clear q300
         obtain ⟨kq, x8_16, rfl, HA, HJ16, HB⟩ := hcut
         cases kq with
         | zero => exact absurd HA.out (by simp [cr6_Remainders.j3])
         | succ kj16 =>
          have H := HA.out
          clear HA
          simp only [cr6_Remainders.j3] at H
          have H' := Aside0.mk H
          clear H
          go_wp2
          go_loopg [8, 11, 12] kj16 (fun kq v8 v11 v12 w' => ∃ (x8_5 : Int) (x11_5 : List (List Int)) (x12_5 : Int), v8 = .int .i64 x8_5 ∧ v12 = .int .i64 x12_5 ∧ Aside0 (cr6_Remainders.l1 kq a0 l1 l2 x8_5 x11_5 x12_5 = some (r1, r2)) ∧ Aside0 (kq ≤ kj16) ∧ Aside0 (Kd.S (Kd.slice 49 (Kd.int .u64)) 22 w' w.heap.size (fun _ => True) v11 x11_5) ∧ Aside0 (Below w.heap.size w w'))
          case atStart => exact ⟨(x8_16), (([] : List (List Int))), (0), (fs_), (fs_), H', ⟨Nat.le_refl _⟩, ⟨by first | exact Kd.S_nil _ _ _ _ _ | exact Kd.N_nil _ _ _ _ _ | exact Kd.V_nil _ _ _ _ _ | exact Kd.Q_nil _ _ _ _ _ | exact Kd.R_nil _ _ _ _ _⟩, ⟨by repeat (first | (with_reducible first | exact HB.out | apply below_alloc | apply pw_below_drewN | apply below_drew1) | exact HB.out)⟩⟩
          case round =>
           clear H'
           try clear c1
           try clear c2
           try clear p2
           try clear c3
           try clear p3
           try clear q3
           try clear hx3
           try clear c6
           try clear c6b0
           try clear p6
           try clear c7
           try clear c8
           try clear c8b0
           try clear c9
           try clear c9b0
           try clear c10
           try clear c12
           try clear c12b0
           try clear c12b1
           try clear c13
           try clear c13b0
           try clear c13b1
           try clear c14
           try clear c14b0
           try clear c14b1
           try clear c16
           try clear c16b0
           try clear c16b1
           try clear c18
           try clear hx300_0
           try clear p2
           try clear p3
           try clear p300
           try clear p6
           try clear q3
           try clear q300
           obtain ⟨x8_5, x11_5, x12_5, rfl, rfl, HA, HK5, HO_11, HB⟩ := hrel
           cases gk with
           | zero => exact absurd HA.out (by simp [cr6_Remainders.l1])
           | succ k5 =>
            have H := HA.out
            clear HA
            simp only [cr6_Remainders.l1] at H
            by_cases c19 : x12_5 < (l2.length : Int)
            ·rw [if_pos c19] at H
             have c19b0 : decide (x12_5 < (l2.length : Int)) = true := decide_eq_true c19
             clear c19
             by_cases c20 : x8_5 = 0
             ·rw [if_pos c20] at H
              have c20b0 : (x8_5 == 0) = true := beq_iff_eq.mpr c20
              have c20b1 : (x8_5 != 0) = false := bne_eq_false_iff_eq.mpr c20
              clear c20
              by_cases c21 : 0 ≤ x12_5
              ·rw [if_pos c21] at H
               have c21b0 : decide (0 ≤ x12_5) = true := decide_eq_true c21
               clear c21
               replace H := Option.bind_eq_some_iff.mp H
               obtain ⟨⟨t303, t304, t305⟩, A220, H⟩ := H
               replace H : (if x11_5.length < 5864062014805 then (cr6_Remainders.l1 k5 a0 l1 l2 t305 (x11_5 ++ [t304]) (wrap64 (x12_5 + 1))) else (none)) = some (r1, r2) := H
               have A22 := Aside0.mk A220
               clear A220
               by_cases c23 : x11_5.length < 5864062014805
               ·rw [if_pos c23] at H
                have LMc23 := Aside0.mk c23
                clear c23
                obtain ⟨y310, hy310⟩ : ∃ y_ : List (List Int), y_ = (x11_5 ++ [t304]) := ⟨_, rfl⟩
                replace H : (cr6_Remainders.l1 k5 a0 l1 l2 t305 y310 (wrap64 (x12_5 + 1))) = some (r1, r2) := by first | (rw [hy310]; with_reducible exact H) | (have H2_ := (Option.bind_some _ _).symm.trans H; rw [hy310]; with_reducible exact H2_) | (have H2_ := (Option.bind_some _ _).symm.trans H; with_reducible exact H2_) | with_reducible exact H | (rw [hy310]; exact H) | exact H
                have Ny310 := Aside0.mk hy310
                clear hy310
                have H' := Aside0.mk H
                clear H
                have p302 : 0 ≤ (x12_5 : Int) := of_decide_eq_true (by first | (with_reducible assumption) | assumption)
                have q302 : x12_5 < (l2.length : Int) := of_decide_eq_true (by first | (with_reducible assumption) | assumption)
                obtain ⟨ad302, A302_0, c302_0, e302, hx302_0, hl302_0, hi302_0⟩ := at_L1 HR2.out x12_5 p302 q302
                cases e302
                replace hx302_0 := (HB.out.cell (World.block_lt_of_cell? w _ hx302_0)).trans hx302_0
                have HR302_0 := Aside0.mk hi302_0
                have HC302_0 := Aside0.mk hl302_0
                clear hi302_0 hl302_0
                replace p302 := eq_true p302
                replace q302 := eq_true q302
                go_wp2_with (first | ((with_reducible refine gate_callee (f := 34) rfl ?_); refine goesM_ (some 66) Try.func34 #[.int .u8 a0, .slice A1 l1.length c1, .slice A302_0 (rd_L1 l2 x12_5).length c302_0] ?_; (with_reducible refine (cr3_DivMod.calls k5 a0 _ _ l1 _ _ (rd_L1 l2 x12_5) t303 t304 t305 _ ?side1 ?side2 ?side3 ?side4 A22.out).mono ?_); (case side1 => repeat (first | exact (Kd.C_below HR1.out HB.out) | (with_reducible refine Kd.C_alloc ?_ _) | (with_reducible refine Kd.C_drewN ?_ _) | (with_reducible refine Kd.C_drew ?_))); (case side2 => exact HC1.out); (case side3 => repeat (first | exact (Kd.C_below HR302_0.out HB.out) | (with_reducible refine Kd.C_alloc ?_ _) | (with_reducible refine Kd.C_drewN ?_ _) | (with_reducible refine Kd.C_drew ?_))); (case side4 => exact HC302_0.out); rintro e w24 ⟨v306, v308, rfl, ho0, ho1, hb⟩; refine ⟨_, rfl, ?_⟩; have n0_ := A_ (Kd.S_mono (Kd.S_told (Kd.S_told (Kd.S_old (nS_ HO_11) hb) (Kd.R_base ho0)) (Kd.R_base ho1)) (fun _ h_ => h_.1)); have n1_ := A_ (Kd.R_lower ho0 (below_size hb_)); have n2_ := A_ (Kd.R_lower ho1 (below_size hb_)); have n3_ := A_ (below_step hb_ hb); clear HO_11 HB; have HO_11 := n0_; have HO307 := n1_; have HO309 := n2_; have HB := n3_; clear n0_ n1_ n2_ n3_; (try clear hb); (try clear ho0); (try clear ho1); obtain ⟨Ao26, co26, eo26⟩ := Kd.R_slice HO309.out; subst eo26) | ((with_reducible refine gate_builtin (b := .append) (xs := #[.tmp 70, .tmp 72]) rfl ?_); (try (refine gate_guard (by rfl) ?_; dsimp only)); at_builtin; refine Kd.S_append (Kd.slice 49 (Kd.int .u64)) (w0 := w) w.heap.size rfl (.tmp 70) (.tmp 72) 23 22 (.slice none 0 0) 24 rfl Try.underlying23 info22 rfl (by decide) (by omega) u11 x11_5 t304 [.slice Ao26 t304.length co26] (fun k_ => some k_ ≠ (v306 : Value).ownBlock) (fun k_ => some k_ = (.slice Ao26 t304.length co26 : Value).ownBlock) rfl rfl ?aP (fun k_ hk_ => ((Kd.R_mono (ok' := fun k_ => ((fun k_ => some k_ ≠ (v306 : Value).ownBlock)) k_ ∧ some k_ ≠ (u11 : Value).ownBlock) (Kd.R_apart' (HO309.out) (Kd.S_typed HO_11.out) (by decide)) (fun k_ hk => ⟨hk.1, hk.2⟩))).1 k_ hk_.symm) ?aF ?aO ?aB ?aS ?aL ?_; (case aP => exact Kd.M_row (Kd.R_mono (Kd.R_tight rfl (Kd.R_mono (ok' := fun k_ => ((fun k_ => some k_ ≠ (v306 : Value).ownBlock)) k_ ∧ some k_ ≠ (u11 : Value).ownBlock) (Kd.R_apart' (HO309.out) (Kd.S_typed HO_11.out) (by decide)) (fun k_ hk => ⟨hk.1, hk.2⟩))) (fun _ h_ => h_))); (case aB => exact hb_); (case aF => exact (fun k_ hk => Kd.fresh' (Kd.R_lt (nR_ HO307)) k_ hk)); (case aO => exact (by (with_reducible repeat (first | apply Kd.S_alloc | apply Kd.S_drewN | apply Kd.S_drew)); exact Kd.S_mono HO_11.out (fun k_ hk => ⟨hk.1.2, fun e_ => hk.2 e_⟩))); (case aS => exact (below_size hb_)); (case aL => have := LMc23.out; omega); intro v311 w25 ho hb hg hat; rw [← Ny310.out] at ho; have n0_ := A_ (Kd.R_over' (nR_ HO307) (Kd.S_typed (nS_ HO_11)) (by decide) hg); have n1_ := A_ (hb); have n2_ := A_ (ho); clear HO307 HB HO_11 HO309; have HO307 := n0_; have HB := n1_; have HO312 := n2_; clear n0_ n1_ n2_; clear ho hb hg hat))
                go_roundg k5
                case measure => have := HK1.out; have := HJ4.out; have := HJ14.out; have := HJ16.out; have := HK5.out; omega
                case rel => exact ⟨(t305), (y310), (wrap64 (x12_5 + 1)), (fs_), (fs_), H', ⟨by have := HK1.out; have := HJ4.out; have := HJ14.out; have := HJ16.out; have := HK5.out; omega⟩, ⟨by (with_reducible repeat (first | apply Kd.S_alloc | apply Kd.S_drewN | apply Kd.S_drew)); exact Kd.S_mono HO312.out (fun _ hk => trivial)⟩, ⟨by repeat (first | (with_reducible first | exact HB.out | apply below_alloc | apply pw_below_drewN | apply below_drew1) | exact HB.out)⟩⟩
               ·rw [if_neg c23] at H
                exact absurd H (by simp)
              ·rw [if_neg c21] at H
               exact absurd H (by simp)
             ·rw [if_neg c20] at H
              have c20b0 : (x8_5 == 0) = false := beq_eq_false_iff_ne.mpr c20
              have c20b1 : (x8_5 != 0) = true := bne_iff_ne.mpr c20
              simp only [Option.some.injEq, Prod.mk.injEq] at H
              obtain ⟨rfl, rfl⟩ := H
              go_wp2
              go_ret2
              exact ⟨_, fr_, by first | exact Kd.S_nil _ _ _ _ _ | exact Kd.N_nil _ _ _ _ _ | exact Kd.V_nil _ _ _ _ _ | exact Kd.Q_nil _ _ _ _ _ | exact Kd.R_nil _ _ _ _ _, hb_⟩
            ·rw [if_neg c19] at H
             have c19b0 : decide (x12_5 < (l2.length : Int)) = false := decide_eq_false c19
             clear c19
             by_cases c27 : x8_5 = 0
             ·rw [if_pos c27] at H
              have c27b0 : (x8_5 == 0) = true := beq_iff_eq.mpr c27
              have c27b1 : (x8_5 != 0) = false := bne_eq_false_iff_eq.mpr c27
              clear c27
              simp only [Option.some.injEq, Prod.mk.injEq] at H
              obtain ⟨rfl, rfl⟩ := H
              go_wp2
              go_ret2
              exact ⟨_, fr_, nS_ HO_11, hb_⟩
             ·rw [if_neg c27] at H
              have c27b0 : (x8_5 == 0) = false := beq_eq_false_iff_ne.mpr c27
              have c27b1 : (x8_5 != 0) = true := bne_iff_ne.mpr c27
              simp only [Option.some.injEq, Prod.mk.injEq] at H
              obtain ⟨rfl, rfl⟩ := H
              go_wp2
              go_ret2
              exact ⟨_, fr_, by first | exact Kd.S_nil _ _ _ _ _ | exact Kd.N_nil _ _ _ _ _ | exact Kd.V_nil _ _ _ _ _ | exact Kd.Q_nil _ _ _ _ _ | exact Kd.R_nil _ _ _ _ _, hb_⟩
/-! ### tree_Slope: function 11 -/
def tree_Slope.l0 : Nat → Int → List Int → List Int → Int → Option (List Int × Int)
 | 0, _, _, _, _ => none
 | k + 1, x0, x1, x7, x8 => if x8 < (x1.length : Int) then (if 0 ≤ x8 then ((field_Mul.f k x0 (IntKind.u64.wrap (x8)) (rd x1 x8)).bind fun bt318 => (if bt318.2 = 0 then (if x7.length < 17592186044416 then (tree_Slope.l0 k x0 x1 (x7 ++ [bt318.1]) (wrap64 (x8 + 1))) else (none)) else (some (([] : List Int), bt318.2)))) else (none)) else ((poly_Trim.f k x7).bind fun t323 => (some (t323, 0)))
def tree_Slope.f (k : Nat) (a0 : Int) (l1 : List Int) : Option (List Int × Int) := (tree_may.f k a0 (([l1] : List (List Int)))).bind fun t316 => (if t316 = 0 then (tree_Slope.l0 k a0 l1 ([] : List Int) 1) else (some (([] : List Int), t316)))
theorem tree_Slope.mono_l : ∀ k, (∀ y0 y1 y2 y3, LeO (tree_Slope.l0 k y0 y1 y2 y3) (tree_Slope.l0 (k + 1) y0 y1 y2 y3))
 | 0 => fun _ _ _ _ r h => by simp [tree_Slope.l0] at h
 | k + 1 => by
  have ih0 := tree_Slope.mono_l k
  ·intro y0 y1 y2 y3
   unfold tree_Slope.l0
   repeat' first
   | (with_reducible exact ih0 _ _ _ _)
   | (with_reducible exact field_Mul.mono _ _ _ _)
   | (with_reducible exact poly_Trim.mono _ _)
   | (with_reducible exact tree_may.mono _ _ _)
   | (with_reducible exact LeO.refl _)
   | (with_reducible exact LeO.none _)
   | (with_reducible refine LeO.ite ?_ ?_)
   | (with_reducible refine LeO.bind ?_ (fun _ => ?_))
   | exact ih0 _ _ _ _
   | exact field_Mul.mono _ _ _ _
   | exact poly_Trim.mono _ _
   | exact tree_may.mono _ _ _
   | exact LeO.none _
   | refine LeO.ite ?_ ?_
   | refine LeO.bind ?_ (fun _ => ?_)
theorem tree_Slope.mono : ∀ a0 a1 k, LeO (tree_Slope.f k a0 a1) (tree_Slope.f (k + 1) a0 a1) := by
 intro a0 a1 k
 have ih0 := tree_Slope.mono_l k
 unfold tree_Slope.f
 repeat' first
   | (with_reducible exact ih0 _ _ _ _)
   | (with_reducible exact field_Mul.mono _ _ _ _)
   | (with_reducible exact poly_Trim.mono _ _)
   | (with_reducible exact tree_may.mono _ _ _)
   | (with_reducible exact LeO.refl _)
   | (with_reducible exact LeO.none _)
   | (with_reducible refine LeO.ite ?_ ?_)
   | (with_reducible refine LeO.bind ?_ (fun _ => ?_))
   | exact ih0 _ _ _ _
   | exact field_Mul.mono _ _ _ _
   | exact poly_Trim.mono _ _
   | exact tree_may.mono _ _ _
   | exact LeO.none _
   | refine LeO.ite ?_ ?_
   | refine LeO.bind ?_ (fun _ => ?_)
set_option maxHeartbeats 8000000 in
set_option maxRecDepth 100000 in
theorem tree_Slope.calls (k : Nat) (a0 : Int) (P1_ : Nat → Prop) (A1 : Option Addr) (c1 : Nat) (l1 : List Int) (r1 : List Int) (r2 : Int) (w : World) (hs1 : Kd.V (Kd.int .u64) 49 w w.heap.size (fun k_ => P1_ k_) (.slice A1 l1.length c1) l1) (h : tree_Slope.f k a0 l1 = some (r1, r2)) :
  Calls Try.prog 11 #[.int .u8 a0, .slice A1 l1.length c1] w fun e w' => ∃ v0_ : Value, e = .returned (.tuple #[v0_, .int .i64 r2]) ∧ Kd.R (Kd.int .u64) 49 w' w.heap.size (fun k_ => (w.heap.size ≤ k_)) v0_ r1 ∧ Below w.heap.size w w' := by
 have HO1 := A_ (show Kd.V (Kd.int .u64) 49 w w.heap.size (fun k_ => (P1_ k_ ∨ w.heap.size ≤ k_)) (.slice A1 l1.length c1) l1 from Kd.V_mono hs1 (fun k_ hk => .inl hk))
 have HB := A_ (Below.refl w.heap.size w)
 have H : ((tree_may.f k a0 (([l1] : List (List Int)))).bind fun t316 => (if t316 = 0 then (tree_Slope.l0 k a0 l1 ([] : List Int) 1) else (some (([] : List Int), t316)))) = some (r1, r2) := h
 clear h
 obtain ⟨y313, hy313⟩ : ∃ y_ : List (List Int), y_ = (([l1] : List (List Int))) := ⟨_, rfl⟩
 replace H : ((tree_may.f k a0 y313).bind fun t316 => (if t316 = 0 then (tree_Slope.l0 k a0 l1 ([] : List Int) 1) else (some (([] : List Int), t316)))) = some (r1, r2) := by first | (rw [hy313]; with_reducible exact H) | (have H2_ := (Option.bind_some _ _).symm.trans H; rw [hy313]; with_reducible exact H2_) | (have H2_ := (Option.bind_some _ _).symm.trans H; with_reducible exact H2_) | with_reducible exact H | (rw [hy313]; exact H) | exact H
 have Ny313 := Aside0.mk hy313
 clear hy313
 replace H := Option.bind_eq_some_iff.mp H
 obtain ⟨t316, A30, H⟩ := H
 replace H : (if t316 = 0 then (tree_Slope.l0 k a0 l1 ([] : List Int) 1) else (some (([] : List Int), t316))) = some (r1, r2) := H
 have A3 := Aside0.mk A30
 clear A30
 have HC4 := Aside0.mk H
 clear H
 go_enter Try.func11, Try.ntmps11
 go_upto_if 16 with (first | ((with_reducible refine gate_dst (N := 13) rfl ?_); refine Kd.N_lit (Kd.slice 49 (Kd.int .u64)) _ 22 ?hg (N' := 13) ?hd (xs := ([l1] : List (List Int))) (inner := [.slice A1 l1.length c1]) (ok := (fun k_ => (P1_ k_ ∨ w.heap.size ≤ k_))) (okp := (fun k_ => (P1_ k_ ∨ w.heap.size ≤ k_))) ?hr ?hp (fun _ hk => hk) ((show ∀ k_, w.heap.size ≤ k_ → (fun k_ => (P1_ k_ ∨ w.heap.size ≤ k_)) k_ from fun k_ hk => (.inr (Nat.le_trans (below_size hb_) hk))) _ (Nat.le_refl _)) (Below.refl _ _) (Nat.le_refl _) (by simp) ?_; (case hd => rfl); (case hg => rfl); (case hr => first | (go_simp; done) | (go_simp; rfl)); (case hp => exact (Reps.one (show Kd.FK (Kd.slice 49 (Kd.int .u64)) _ _ l1 [.slice A1 l1.length c1] from (Kd.FK_slice_mk (Kd.V_reads' (Kd.V_mono (ok' := (fun k_ => (P1_ k_ ∨ w.heap.size ≤ k_))) (HO1.out) (fun k_ hk => hk))).2.1 (Kd.V_F (Kd.V_mono (ok' := (fun k_ => (P1_ k_ ∨ w.heap.size ≤ k_))) (HO1.out) (fun k_ hk => hk))))) (Reps.none _ _))); intro v314 w5 ho6 hb hg_ hnew_; clear hg_ hnew_; (first | rw [← Ny313.out] at ho6 | (simp only [Int.reduceToNat] at ho6; rw [← Ny313.out] at ho6)); have n0_ := A_ (Kd.V_elder' (nV_ HO1) (Kd.N_base ho6) hb); have n1_ := A_ (Kd.N_lower ho6 (below_size hb_)); have n2_ := A_ (below_step hb_ hb); clear HO1 HB; have HO1 := n0_; have HO315 := n1_; have HB := n2_; clear n0_ n1_ n2_; clear hb ho6; obtain ⟨Ao7, co7, eo7⟩ := Kd.N_slice HO315.out; subst eo7) | ((with_reducible refine gate_callee (f := 31) rfl ?_); refine goesM_ (some 14) Try.func31 #[.int .u8 a0, .slice Ao7 y313.length co7] ?_; (with_reducible refine (tree_may.calls k a0 _ _ y313 t316 _ ?side1 ?side2 A3.out).mono ?_); (case side1 => repeat (first | exact (Kd.N_reads' HO315.out).2.2 | (with_reducible refine Kd.C_alloc ?_ _) | (with_reducible refine Kd.C_drewN ?_ _) | (with_reducible refine Kd.C_drew ?_))); (case side2 => exact (Kd.N_reads' HO315.out).2.1); rintro e w8 ⟨rfl, hb⟩; refine ⟨_, rfl, ?_⟩; have n0_ := A_ (Kd.V_below (nV_ HO1) hb); have n1_ := A_ (Kd.N_below (nN_ HO315) hb); have n2_ := A_ (below_step hb_ hb); clear HO1 HO315 HB; have HO1 := n0_; have HO315 := n1_; have HB := n2_; clear n0_ n1_ n2_; (try clear hb)))
 (try simp only [Act.put, List.setIfInBounds_toArray, List.set_cons_zero, List.set_cons_succ])
 have H := HC4.out
 clear HC4
 by_cases c9 : t316 = 0
 ·rw [if_pos c9] at H
  have c9b0 : (t316 == 0) = true := beq_iff_eq.mpr c9
  have c9b1 : (t316 != 0) = false := bne_eq_false_iff_eq.mpr c9
  clear c9
  (first | rw [c9b0] | rw [c9b1] | (simp only [i64_w, i32_w]; first | rw [c9b0] | rw [c9b1]) | skip)
  have H' := Aside0.mk H
  clear H
  go_wp2
  go_loopg [7, 8] k (fun kq v7 v8 w' => ∃ (x7_1 : List Int) (x8_1 : Int), v8 = .int .i64 x8_1 ∧ Aside0 (tree_Slope.l0 kq a0 l1 x7_1 x8_1 = some (r1, r2)) ∧ Aside0 (kq ≤ k) ∧ Aside0 (Kd.V (Kd.int .u64) 49 w' w.heap.size (fun k_ => (P1_ k_ ∨ w.heap.size ≤ k_) ∧ some k_ ≠ (v7 : Value).ownBlock) (.slice A1 l1.length c1) l1) ∧ Aside0 (Kd.R (Kd.int .u64) 49 w' w.heap.size (fun k_ => (w.heap.size ≤ k_)) v7 x7_1) ∧ Aside0 (Below w.heap.size w w'))
  case atStart => exact ⟨(([] : List Int)), (1), (fs_), H', ⟨Nat.le_refl _⟩, ⟨by (with_reducible repeat (first | apply Kd.V_alloc | apply Kd.V_drewN | apply Kd.V_drew)); exact Kd.V_mono HO1.out (fun _ hk => ⟨hk.1, (by simp [Value.ownBlock])⟩)⟩, ⟨by first | exact Kd.R_nil _ _ _ _ _ | exact Kd.N_nil _ _ _ _ _ | exact Kd.V_nil _ _ _ _ _ | exact Kd.Q_nil _ _ _ _ _ | exact Kd.S_nil _ _ _ _ _⟩, ⟨by repeat (first | (with_reducible first | exact HB.out | apply below_alloc | apply pw_below_drewN | apply below_drew1) | exact HB.out)⟩⟩
  case round =>
   clear H'
   try clear c1
   try clear p2
   try clear c3
   try clear c9
   try clear c9b0
   try clear c9b1
   obtain ⟨x7_1, x8_1, rfl, HA, HK1, HO_1, HO_7, HB⟩ := hrel
   cases gk with
   | zero => exact absurd HA.out (by simp [tree_Slope.l0])
   | succ k1 =>
    have H := HA.out
    clear HA
    simp only [tree_Slope.l0] at H
    by_cases c10 : x8_1 < (l1.length : Int)
    ·rw [if_pos c10] at H
     have c10b0 : decide (x8_1 < (l1.length : Int)) = true := decide_eq_true c10
     clear c10
     by_cases c11 : 0 ≤ x8_1
     ·rw [if_pos c11] at H
      have c11b0 : decide (0 ≤ x8_1) = true := decide_eq_true c11
      clear c11
      replace H := Option.bind_eq_some_iff.mp H
      obtain ⟨⟨t318, t319⟩, A120, H⟩ := H
      replace H : (if t319 = 0 then (if x7_1.length < 17592186044416 then (tree_Slope.l0 k1 a0 l1 (x7_1 ++ [t318]) (wrap64 (x8_1 + 1))) else (none)) else (some (([] : List Int), t319))) = some (r1, r2) := H
      have A12 := Aside0.mk A120
      clear A120
      have HC13 := Aside0.mk H
      clear H
      have p317 : 0 ≤ (x8_1 : Int) := of_decide_eq_true (by first | (with_reducible assumption) | assumption)
      have q317 : x8_1 < (l1.length : Int) := of_decide_eq_true (by first | (with_reducible assumption) | assumption)
      obtain ⟨ad317, e317, hx317_0⟩ := Kd.at_int (Kd.V_reads' HO_1.out).2.2 x8_1 p317 q317
      cases e317
      replace p317 := eq_true p317
      replace q317 := eq_true q317
      go_upto_if 36 with (first | ((with_reducible refine gate_callee (f := 35) rfl ?_); refine goesM_ (some 32) Try.func35 #[.int .u8 a0, .int .u64 (IntKind.u64.wrap (x8_1)), .int .u64 (rd l1 x8_1)] ?_; (with_reducible refine (field_Mul.calls k1 a0 (IntKind.u64.wrap (x8_1)) (rd l1 x8_1) t318 t319 _ A12.out).mono ?_); rintro e w14 ⟨rfl, hb⟩; refine ⟨_, rfl, ?_⟩; have n0_ := A_ (Kd.V_below (nV_ HO_1) hb); have n1_ := A_ (Kd.R_below (nR_ HO_7) hb); have n2_ := A_ (below_step hb_ hb); clear HO_1 HO_7 HB; have HO_1 := n0_; have HO_7 := n1_; have HB := n2_; clear n0_ n1_ n2_; (try clear hb)))
      (try simp only [Act.put, List.setIfInBounds_toArray, List.set_cons_zero, List.set_cons_succ])
      have H := HC13.out
      clear HC13
      by_cases c15 : t319 = 0
      ·rw [if_pos c15] at H
       have c15b0 : (t319 == 0) = true := beq_iff_eq.mpr c15
       have c15b1 : (t319 != 0) = false := bne_eq_false_iff_eq.mpr c15
       clear c15
       (first | rw [c15b0] | rw [c15b1] | (simp only [i64_w, i32_w]; first | rw [c15b0] | rw [c15b1]) | skip)
       by_cases c16 : x7_1.length < 17592186044416
       ·rw [if_pos c16] at H
        have LMc16 := Aside0.mk c16
        clear c16
        obtain ⟨y320, hy320⟩ : ∃ y_ : List Int, y_ = (x7_1 ++ [t318]) := ⟨_, rfl⟩
        replace H : (tree_Slope.l0 k1 a0 l1 y320 (wrap64 (x8_1 + 1))) = some (r1, r2) := by first | (rw [hy320]; with_reducible exact H) | (have H2_ := (Option.bind_some _ _).symm.trans H; rw [hy320]; with_reducible exact H2_) | (have H2_ := (Option.bind_some _ _).symm.trans H; with_reducible exact H2_) | with_reducible exact H | (rw [hy320]; exact H) | exact H
        have Ny320 := Aside0.mk hy320
        clear hy320
        have H' := Aside0.mk H
        clear H
        go_wp2_with (first | ((with_reducible refine gate_builtin (b := .append) (xs := #[.tmp 38, .tmp 40]) rfl ?_); at_builtin; refine Kd.R_append (Kd.int .u64) (w0 := w) w.heap.size rfl (.tmp 38) (.tmp 40) 22 49 (.int .u64 0) 8 rfl Try.underlying22 info49 rfl (by decide) (by omega) u7 x7_1 t318 [.int .u64 t318] (fun k_ => (w.heap.size ≤ k_)) (fun _ => False) rfl rfl ?aP (fun _ hk => hk.elim) ?aF ?aO ?aB ?aS ?aL ?_; (case aP => exact rfl); (case aB => exact hb_); (case aF => exact (fun k_ hk => (Nat.le_trans (below_size hb_) hk))); (case aO => exact (nR_ HO_7)); (case aS => exact (below_size hb_)); (case aL => have := LMc16.out; omega); intro v321 w17 ho hb hg hat; rw [← Ny320.out] at ho; have n0_ := A_ (Kd.V_afterv (ok := (fun k_ => (P1_ k_ ∨ w.heap.size ≤ k_))) (nV_ HO_1) hg hat); have n1_ := A_ (hb); have n2_ := A_ (ho); clear HO_1 HB HO_7; have HO_1 := n0_; have HB := n1_; have HO322 := n2_; clear n0_ n1_ n2_; clear ho hb hg hat))
        go_roundg k1
        case measure => have := HK1.out; omega
        case rel => exact ⟨(y320), (wrap64 (x8_1 + 1)), (fs_), H', ⟨by have := HK1.out; omega⟩, ⟨mV_ HO_1.out⟩, ⟨mR_ HO322.out⟩, ⟨by repeat (first | (with_reducible first | exact HB.out | apply below_alloc | apply pw_below_drewN | apply below_drew1) | exact HB.out)⟩⟩
       ·rw [if_neg c16] at H
        exact absurd H (by simp)
      ·rw [if_neg c15] at H
       have c15b0 : (t319 == 0) = false := beq_eq_false_iff_ne.mpr c15
       have c15b1 : (t319 != 0) = true := bne_iff_ne.mpr c15
       (first | rw [c15b0] | rw [c15b1] | (simp only [i64_w, i32_w]; first | rw [c15b0] | rw [c15b1]) | skip)
       simp only [Option.some.injEq, Prod.mk.injEq] at H
       obtain ⟨rfl, rfl⟩ := H
       go_wp2
       go_ret2
       exact ⟨_, fr_, by first | exact Kd.R_nil _ _ _ _ _ | exact Kd.N_nil _ _ _ _ _ | exact Kd.V_nil _ _ _ _ _ | exact Kd.Q_nil _ _ _ _ _ | exact Kd.S_nil _ _ _ _ _, hb_⟩
     ·rw [if_neg c11] at H
      exact absurd H (by simp)
    ·rw [if_neg c10] at H
     have c10b0 : decide (x8_1 < (l1.length : Int)) = false := decide_eq_false c10
     clear c10
     replace H := Option.bind_eq_some_iff.mp H
     obtain ⟨t323, A180, H⟩ := H
     replace H : (some (t323, 0)) = some (r1, r2) := H
     have A18 := Aside0.mk A180
     clear A180
     simp only [Option.some.injEq, Prod.mk.injEq] at H
     obtain ⟨rfl, rfl⟩ := H
     obtain ⟨Ao19, co19, eo19⟩ := Kd.R_slice HO_7.out
     subst eo19
     go_wp2_with (first | ((with_reducible refine gate_callee (f := 36) rfl ?_); refine goesM_ (some 43) Try.func36 #[.slice Ao19 x7_1.length co19] ?_; (with_reducible refine (poly_Trim.calls k1 _ _ x7_1 t323 _ ?side1 ?side2 A18.out).mono ?_); (case side1 => repeat (first | exact (Kd.R_reads' HO_7.out).2.2 | (with_reducible refine Kd.C_alloc ?_ _) | (with_reducible refine Kd.C_drewN ?_ _) | (with_reducible refine Kd.C_drew ?_))); (case side2 => exact (Kd.R_reads' HO_7.out).2.1); rintro e w20 ⟨v324, rfl, ho0, hb⟩; refine ⟨_, rfl, ?_⟩; have n0_ := A_ (Kd.V_elder' (nV_ HO_1) (Kd.R_base ho0) hb); have n1_ := A_ (Kd.R_elder' (nR_ HO_7) (Kd.R_base ho0) hb); have n2_ := A_ (Kd.R_lower (Kd.R_new' (Kd.R_newM (M := fun k_ => (w.heap.size ≤ k_)) ho0 (below_size hb_) (fun k_ h_ => h_)) (Kd.R_lt (nR_ HO_7))) (below_size hb_)); have n3_ := A_ (below_step hb_ hb); clear HO_1 HO_7 HB; have HO_1 := n0_; have HO_7 := n1_; have HO325 := n2_; have HB := n3_; clear n0_ n1_ n2_ n3_; (try clear hb); (try clear ho0)))
     go_ret2
     exact ⟨_, fr_, by (with_reducible repeat (first | apply Kd.R_alloc | apply Kd.R_drewN | apply Kd.R_drew)); exact Kd.R_mono HO325.out (fun _ hk => hk.1.1), hb_⟩
 ·rw [if_neg c9] at H
  have c9b0 : (t316 == 0) = false := beq_eq_false_iff_ne.mpr c9
  have c9b1 : (t316 != 0) = true := bne_iff_ne.mpr c9
  (first | rw [c9b0] | rw [c9b1] | (simp only [i64_w, i32_w]; first | rw [c9b0] | rw [c9b1]) | skip)
  simp only [Option.some.injEq, Prod.mk.injEq] at H
  obtain ⟨rfl, rfl⟩ := H
  go_wp2
  go_ret2
  exact ⟨_, fr_, by first | exact Kd.R_nil _ _ _ _ _ | exact Kd.N_nil _ _ _ _ _ | exact Kd.V_nil _ _ _ _ _ | exact Kd.Q_nil _ _ _ _ _ | exact Kd.S_nil _ _ _ _ _, hb_⟩
end Go.Proofs.Ytkaongcpekhbdaa.PTreeRemainders
