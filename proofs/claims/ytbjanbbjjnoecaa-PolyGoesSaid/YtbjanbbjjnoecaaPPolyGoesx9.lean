/- The Go functions as Lean functions, each with the proof that its call comes to just that; written by a program of this session, by the words of the print. -/
import Derived.Test.YtbjanbbjjnoecaaPPolyGoesx0
import Derived.Test.YtbjanbbjjnoecaaPPolyGoesx2
import Derived.Test.YtbjanbbjjnoecaaPPolyGoesx3
import Derived.Test.YtbjanbbjjnoecaaPPolyGoesx6
import Derived.Test.YtbjanbbjjnoecaaPPolyGoesx7
import Derived.Test.YtbjanbbjjnoecaaPPolyGoesx8
namespace Go.Proofs.Ytbjanbbjjnoecaa.PPolyGoes
open Go.RowKit Go.Proofs.YtbjanbbjjnoecaaW.PrintWords Go.Proofs.YtbjanbbjjnoecaaW.PrintLast Go.Proofs.YtbjanbbjjnoecaaW.PrintMore
attribute [local go_sem] max2_int min2_int max_two min_two max_three min_three max_four min_four   -- for this text's walks alone
set_option linter.unusedVariables false
set_option linter.unusedSimpArgs false
/-! ### cr1_Sum: function 28 -/
def cr1_Sum.f (a0 : Int) (a1 : Int) (a2 : Int) : Option (Int) := if a1 ≥ (IntKind.u64.wrap (a0 - a2)) then (some (IntKind.u64.wrap (a1 - (IntKind.u64.wrap (a0 - a2))))) else (some (IntKind.u64.wrap (a1 + a2)))
set_option maxHeartbeats 8000000 in
set_option maxRecDepth 100000 in
theorem cr1_Sum.calls (a0 : Int) (a1 : Int) (a2 : Int) (r : Int) (w : World) (h : cr1_Sum.f a0 a1 a2 = some r) :
  Calls Try.prog 28 #[.int .u64 a0, .int .u64 a1, .int .u64 a2] w fun e w' => e = .returned (.int .u64 r) ∧ Drawn0 w w' := by
 have H : (if a1 ≥ (IntKind.u64.wrap (a0 - a2)) then (some (IntKind.u64.wrap (a1 - (IntKind.u64.wrap (a0 - a2))))) else (some (IntKind.u64.wrap (a1 + a2)))) = some r := h
 clear h
 by_cases c4 : a1 ≥ (IntKind.u64.wrap (a0 - a2))
 ·rw [if_pos c4] at H
  have c4b0 : decide ((IntKind.u64.wrap (a0 - a2)) ≤ a1) = true := decide_eq_true c4
  clear c4
  obtain rfl := Option.some.inj H
  go_enter Try.func28, Try.ntmps28
  go_wp2
  go_ret
  exact ⟨fs_, by repeat (first | exact Drawn0.refl _ | apply Drawn0.step)⟩
 ·rw [if_neg c4] at H
  have c4b0 : decide ((IntKind.u64.wrap (a0 - a2)) ≤ a1) = false := decide_eq_false c4
  clear c4
  obtain rfl := Option.some.inj H
  go_enter Try.func28, Try.ntmps28
  go_wp2
  go_ret
  exact ⟨fs_, by repeat (first | exact Drawn0.refl _ | apply Drawn0.step)⟩
/-! ### cr1_Times: function 29 -/
def cr1_Times.l0 : Nat → Int → Int → Int → Int → Int → Option (Int)
 | 0, _, _, _, _, _ => none
 | k + 1, x0, x1, x2, x7, x8 => if x8 ≥ 0 then ((cr1_Sum.f x0 x7 x7).bind fun t258 => (if 0 ≤ (IntKind.u64.wrap (x8)) then (if (Go.bits .and .u64 (shr .u64 x2 (IntKind.u64.wrap (x8))) 1) = 1 then ((cr1_Sum.f x0 t258 x1).bind fun t259 => (cr1_Times.l0 k x0 x1 x2 t259 (wrap64 (x8 - 1)))) else (cr1_Times.l0 k x0 x1 x2 t258 (wrap64 (x8 - 1)))) else (none))) else (some x7)
def cr1_Times.f (k : Nat) (a0 : Int) (a1 : Int) (a2 : Int) : Option (Int) := cr1_Times.l0 k a0 a1 a2 0 63
theorem cr1_Times.mono_l : ∀ k, (∀ y0 y1 y2 y3 y4, LeO (cr1_Times.l0 k y0 y1 y2 y3 y4) (cr1_Times.l0 (k + 1) y0 y1 y2 y3 y4))
 | 0 => fun _ _ _ _ _ r h => by simp [cr1_Times.l0] at h
 | k + 1 => by
  have ih0 := cr1_Times.mono_l k
  ·intro y0 y1 y2 y3 y4
   unfold cr1_Times.l0
   repeat' first
   | (with_reducible exact ih0 _ _ _ _ _)
   | (with_reducible exact LeO.refl _)
   | (with_reducible exact LeO.none _)
   | (with_reducible refine LeO.ite ?_ ?_)
   | (with_reducible refine LeO.bind ?_ (fun _ => ?_))
   | exact ih0 _ _ _ _ _
   | exact LeO.none _
   | refine LeO.ite ?_ ?_
   | refine LeO.bind ?_ (fun _ => ?_)
theorem cr1_Times.mono : ∀ a0 a1 a2 k, LeO (cr1_Times.f k a0 a1 a2) (cr1_Times.f (k + 1) a0 a1 a2) := by
 intro a0 a1 a2 k
 have ih0 := cr1_Times.mono_l k
 unfold cr1_Times.f
 repeat' first
   | (with_reducible exact ih0 _ _ _ _ _)
   | (with_reducible exact LeO.refl _)
   | (with_reducible exact LeO.none _)
   | (with_reducible refine LeO.ite ?_ ?_)
   | (with_reducible refine LeO.bind ?_ (fun _ => ?_))
   | exact ih0 _ _ _ _ _
   | exact LeO.none _
   | refine LeO.ite ?_ ?_
   | refine LeO.bind ?_ (fun _ => ?_)
set_option maxHeartbeats 8000000 in
set_option maxRecDepth 100000 in
theorem cr1_Times.calls (k : Nat) (a0 : Int) (a1 : Int) (a2 : Int) (r : Int) (w : World) (h : cr1_Times.f k a0 a1 a2 = some r) :
  Calls Try.prog 29 #[.int .u64 a0, .int .u64 a1, .int .u64 a2] w fun e w' => e = .returned (.int .u64 r) ∧ Drawn0 w w' := by
 have H : (cr1_Times.l0 k a0 a1 a2 0 63) = some r := h
 clear h
 have H' := Aside0.mk H
 clear H
 go_enter Try.func29, Try.ntmps29
 go_wp2
 go_loopg [7, 8] k (fun kq v7 v8 w' => ∃ (x7_1 : Int) (x8_1 : Int), v7 = .int .u64 x7_1 ∧ v8 = .int .i64 x8_1 ∧ Aside0 (cr1_Times.l0 kq a0 a1 a2 x7_1 x8_1 = some r) ∧ Aside0 (kq ≤ k) ∧ Drawn0 w w')
 case atStart => exact ⟨(0), (63), (fs_), (fs_), H', ⟨Nat.le_refl _⟩, by repeat (first | exact Drawn0.refl _ | apply Drawn0.step)⟩
 case round =>
  clear H'
  try clear c2
  try clear p2
  obtain ⟨x7_1, x8_1, rfl, rfl, HA, HK1, ⟨m1, rfl⟩⟩ := hrel
  cases gk with
  | zero => exact absurd HA.out (by simp [cr1_Times.l0])
  | succ k1 =>
   have H := HA.out
   clear HA
   simp only [cr1_Times.l0] at H
   by_cases c4 : x8_1 ≥ 0
   ·rw [if_pos c4] at H
    have c4b0 : decide (0 ≤ x8_1) = true := decide_eq_true c4
    clear c4
    replace H := Option.bind_eq_some_iff.mp H
    obtain ⟨t258, A50, H⟩ := H
    (try dsimp only at H)
    have A5 := Aside0.mk A50
    clear A50
    obtain ⟨ji6, hji6⟩ : ∃ j_ : Int, (IntKind.u64.wrap (x8_1)) = j_ := ⟨_, rfl⟩
    replace H : (if 0 ≤ (ji6) then (if (Go.bits .and .u64 (shr .u64 a2 (ji6)) 1) = 1 then ((cr1_Sum.f a0 t258 a1).bind fun t259 => (cr1_Times.l0 k1 a0 a1 a2 t259 (wrap64 (x8_1 - 1)))) else (cr1_Times.l0 k1 a0 a1 a2 t258 (wrap64 (x8_1 - 1)))) else (none)) = some r := by first | (rw [hji6] at H; exact H) | (simp only [hji6] at H ⊢; exact H)
    (try rw [hji6] at A5)
    by_cases c7 : 0 ≤ (ji6)
    ·rw [if_pos c7] at H
     have c7b0 := eq_true c7
     have c7b1 : decide (0 ≤ (ji6)) = true := decide_eq_true c7
     clear c7
     obtain ⟨ji8, hji8⟩ : ∃ j_ : Int, (shr .u64 a2 (ji6)) = j_ := ⟨_, rfl⟩
     replace H : (if (Go.bits .and .u64 (ji8) 1) = 1 then ((cr1_Sum.f a0 t258 a1).bind fun t259 => (cr1_Times.l0 k1 a0 a1 a2 t259 (wrap64 (x8_1 - 1)))) else (cr1_Times.l0 k1 a0 a1 a2 t258 (wrap64 (x8_1 - 1)))) = some r := by first | (rw [hji8] at H; exact H) | (simp only [hji8] at H ⊢; exact H)
     (try rw [hji8] at A5)
     have hji8_ : (a2 / 2 ^ min (ji6).toNat 64) = ji8 := hji8
     have hji8z : (ji6) ≤ 64 → (a2 / 2 ^ (ji6).toNat) = ji8 := shr_small hji8
     have HC9 := Aside0.mk H
     clear H
     go_upto_if 22 with (first | ((with_reducible refine gate_callee (f := 28) rfl ?_); refine goesM_ (some 16) Try.func28 #[.int .u64 a0, .int .u64 x7_1, .int .u64 x7_1] ?_; (with_reducible refine (cr1_Sum.calls a0 x7_1 x7_1 t258 _ A5.out).mono ?_); rintro e w' ⟨rfl, ⟨nd, rfl⟩⟩; refine ⟨_, rfl, ?_⟩))
     (try simp only [Act.put, List.setIfInBounds_toArray, List.set_cons_zero, List.set_cons_succ])
     have H := HC9.out
     clear HC9
     by_cases c10 : (Go.bits .and .u64 (ji8) 1) = 1
     ·rw [if_pos c10] at H
      have c10b0 : ((Go.bits .and .u64 (ji8) 1) == 1) = true := beq_iff_eq.mpr c10
      have c10b1 : ((Go.bits .and .u64 (ji8) 1) != 1) = false := bne_eq_false_iff_eq.mpr c10
      clear c10
      (first | rw [c10b0] | rw [c10b1] | (simp only [i64_w, i32_w]; first | rw [c10b0] | rw [c10b1]) | skip)
      replace H := Option.bind_eq_some_iff.mp H
      obtain ⟨t259, A110, H⟩ := H
      replace H : (cr1_Times.l0 k1 a0 a1 a2 t259 (wrap64 (x8_1 - 1))) = some r := H
      have A11 := Aside0.mk A110
      clear A110
      have H' := Aside0.mk H
      clear H
      go_wp2_with (first | ((with_reducible refine gate_callee (f := 28) rfl ?_); refine goesM_ (some 26) Try.func28 #[.int .u64 a0, .int .u64 t258, .int .u64 a1] ?_; (with_reducible refine (cr1_Sum.calls a0 t258 a1 t259 _ A11.out).mono ?_); rintro e w' ⟨rfl, ⟨nd, rfl⟩⟩; refine ⟨_, rfl, ?_⟩))
      go_roundg k1
      case measure => have := HK1.out; omega
      case rel => exact ⟨(t259), (wrap64 (x8_1 - 1)), (fs_), (fs_), H', ⟨by have := HK1.out; omega⟩, by repeat (first | exact Drawn0.refl _ | apply Drawn0.step)⟩
     ·rw [if_neg c10] at H
      have c10b0 : ((Go.bits .and .u64 (ji8) 1) == 1) = false := beq_eq_false_iff_ne.mpr c10
      have c10b1 : ((Go.bits .and .u64 (ji8) 1) != 1) = true := bne_iff_ne.mpr c10
      (first | rw [c10b0] | rw [c10b1] | (simp only [i64_w, i32_w]; first | rw [c10b0] | rw [c10b1]) | skip)
      have H' := Aside0.mk H
      clear H
      go_wp2
      go_roundg k1
      case measure => have := HK1.out; omega
      case rel => exact ⟨(t258), (wrap64 (x8_1 - 1)), (fs_), (fs_), H', ⟨by have := HK1.out; omega⟩, by repeat (first | exact Drawn0.refl _ | apply Drawn0.step)⟩
    ·rw [if_neg c7] at H
     exact absurd H (by simp)
   ·rw [if_neg c4] at H
    have c4b0 : decide (0 ≤ x8_1) = false := decide_eq_false c4
    clear c4
    obtain rfl := Option.some.inj H
    go_wp2
    go_ret
    exact ⟨fs_, by repeat (first | exact Drawn0.refl _ | apply Drawn0.step)⟩
/-! ### conclavelaw03_PolyGoes: function 6 -/
def conclavelaw03_PolyGoes.j0 : Nat → Int → Int → List Int → List Int → Bool → Option (Bool)
 | 0, _, _, _, _, _ => none
 | k + 1, x2, x7, x8, x9, x55 => if x55 = true then ((poly_Eval.f k 0 x8 x2).bind fun bt266 => ((conclavelaw03_anchored.f k).bind fun t268 => (if t268 = true then (some (bt266.2 == 2)) else (none)))) else ((poly_Add.f k x7 x8 x9).bind fun bt269 => ((poly_Mul.f k x7 x8 x9).bind fun bt273 => ((poly_Into.f k x7 x8 x9).bind fun bt277 => ((poly_Eval.f k x7 x8 x2).bind fun bt281 => ((poly_Eval.f k x7 x9 x2).bind fun bt283 => ((poly_Eval.f k x7 bt269.1 x2).bind fun bt285 => ((poly_Eval.f k x7 bt273.1 x2).bind fun bt287 => ((poly_Eval.f k x7 bt277.1 x2).bind fun bt289 => ((poly_Eval.f k x7 x8 bt283.1).bind fun bt291 => ((cr1_P.f x7).bind fun t293 => ((conclavelaw03_anchored.f k).bind fun t294 => (if t294 = true then (if bt269.2 = 0 then (if bt273.2 = 0 then (if bt277.2 = 0 then (if bt285.2 = 0 then (if bt287.2 = 0 then (if bt289.2 = 0 then (if bt291.2 = 0 then ((cr1_Sum.f t293 bt281.1 bt283.1).bind fun t295 => (if bt285.1 = t295 then ((cr1_Times.f k t293 bt281.1 bt283.1).bind fun t296 => (if bt287.1 = t296 then (some (bt289.1 == bt291.1)) else (none))) else (none))) else (none)) else (none)) else (none)) else (none)) else (none)) else (none)) else (none)) else (none)))))))))))))
def conclavelaw03_PolyGoes.f (k : Nat) (a0 : Int) (l1_0 : List Int) (l1_1 : List Int) (a2 : Int) : Option (Bool) := (cr3_Bad.f k a0 l1_0 l1_1).bind fun t261 => (if t261 = 0 then ((cr3_Bad.f k a0 (([a2] : List Int)) ([] : List Int)).bind fun t265 => (if t265 = 0 then (conclavelaw03_PolyGoes.j0 k a2 a0 l1_0 l1_1 (decide ((wrap64 ((l1_0.length : Int) * (l1_1.length : Int))) > 4000))) else (conclavelaw03_PolyGoes.j0 k a2 a0 l1_0 l1_1 true))) else (conclavelaw03_PolyGoes.j0 k a2 a0 l1_0 l1_1 true))
theorem conclavelaw03_PolyGoes.mono_l : ∀ k, (∀ y0 y1 y2 y3 y4, LeO (conclavelaw03_PolyGoes.j0 k y0 y1 y2 y3 y4) (conclavelaw03_PolyGoes.j0 (k + 1) y0 y1 y2 y3 y4))
 | 0 => fun _ _ _ _ _ r h => by simp [conclavelaw03_PolyGoes.j0] at h
 | k + 1 => by
  have ih0 := conclavelaw03_PolyGoes.mono_l k
  ·intro y0 y1 y2 y3 y4
   unfold conclavelaw03_PolyGoes.j0
   repeat' first
   | (with_reducible exact ih0 _ _ _ _ _)
   | (with_reducible exact conclavelaw03_anchored.mono _)
   | (with_reducible exact cr1_Times.mono _ _ _ _)
   | (with_reducible exact cr3_Bad.mono _ _ _ _)
   | (with_reducible exact poly_Add.mono _ _ _ _)
   | (with_reducible exact poly_Eval.mono _ _ _ _)
   | (with_reducible exact poly_Into.mono _ _ _ _)
   | (with_reducible exact poly_Mul.mono _ _ _ _)
   | (with_reducible exact LeO.refl _)
   | (with_reducible exact LeO.none _)
   | (with_reducible refine LeO.ite ?_ ?_)
   | (with_reducible refine LeO.bind ?_ (fun _ => ?_))
   | exact ih0 _ _ _ _ _
   | exact conclavelaw03_anchored.mono _
   | exact cr1_Times.mono _ _ _ _
   | exact cr3_Bad.mono _ _ _ _
   | exact poly_Add.mono _ _ _ _
   | exact poly_Eval.mono _ _ _ _
   | exact poly_Into.mono _ _ _ _
   | exact poly_Mul.mono _ _ _ _
   | exact LeO.none _
   | refine LeO.ite ?_ ?_
   | refine LeO.bind ?_ (fun _ => ?_)
theorem conclavelaw03_PolyGoes.mono : ∀ a0 a1 a2 a3 k, LeO (conclavelaw03_PolyGoes.f k a0 a1 a2 a3) (conclavelaw03_PolyGoes.f (k + 1) a0 a1 a2 a3) := by
 intro a0 a1 a2 a3 k
 have ih0 := conclavelaw03_PolyGoes.mono_l k
 unfold conclavelaw03_PolyGoes.f
 repeat' first
   | (with_reducible exact ih0 _ _ _ _ _)
   | (with_reducible exact conclavelaw03_anchored.mono _)
   | (with_reducible exact cr1_Times.mono _ _ _ _)
   | (with_reducible exact cr3_Bad.mono _ _ _ _)
   | (with_reducible exact poly_Add.mono _ _ _ _)
   | (with_reducible exact poly_Eval.mono _ _ _ _)
   | (with_reducible exact poly_Into.mono _ _ _ _)
   | (with_reducible exact poly_Mul.mono _ _ _ _)
   | (with_reducible exact LeO.refl _)
   | (with_reducible exact LeO.none _)
   | (with_reducible refine LeO.ite ?_ ?_)
   | (with_reducible refine LeO.bind ?_ (fun _ => ?_))
   | exact ih0 _ _ _ _ _
   | exact conclavelaw03_anchored.mono _
   | exact cr1_Times.mono _ _ _ _
   | exact cr3_Bad.mono _ _ _ _
   | exact poly_Add.mono _ _ _ _
   | exact poly_Eval.mono _ _ _ _
   | exact poly_Into.mono _ _ _ _
   | exact poly_Mul.mono _ _ _ _
   | exact LeO.none _
   | refine LeO.ite ?_ ?_
   | refine LeO.bind ?_ (fun _ => ?_)
set_option maxHeartbeats 8000000 in
set_option maxRecDepth 100000 in
theorem conclavelaw03_PolyGoes.calls (k : Nat) (a0 : Int) (A1_0 : Option Addr) (c1_0 : Nat) (l1_0 : List Int) (A1_1 : Option Addr) (c1_1 : Nat) (l1_1 : List Int) (a2 : Int) (r : Bool) (w : World) (hr1_0 : Kd.C (Kd.int .u64) w A1_0 l1_0.length l1_0) (hc1_0 : l1_0.length ≤ c1_0) (hr1_1 : Kd.C (Kd.int .u64) w A1_1 l1_1.length l1_1) (hc1_1 : l1_1.length ≤ c1_1) (h : conclavelaw03_PolyGoes.f k a0 l1_0 l1_1 a2 = some r) :
  Calls Try.prog 6 #[.int .u8 a0, .agg #[.slice A1_0 l1_0.length c1_0, .slice A1_1 l1_1.length c1_1], .int .u64 a2] w fun e w' => e = .returned (.bool r) ∧ Below w.heap.size w w' := by
 have hu43 := Try.underlying43
 have HR1_0 := Aside0.mk hr1_0
 have HC1_0 := Aside0.mk hc1_0
 clear hr1_0 hc1_0
 have HR1_1 := Aside0.mk hr1_1
 have HC1_1 := Aside0.mk hc1_1
 clear hr1_1 hc1_1
 have HB := A_ (Below.refl w.heap.size w)
 have H : ((cr3_Bad.f k a0 l1_0 l1_1).bind fun t261 => (if t261 = 0 then ((cr3_Bad.f k a0 (([a2] : List Int)) ([] : List Int)).bind fun t265 => (if t265 = 0 then (conclavelaw03_PolyGoes.j0 k a2 a0 l1_0 l1_1 (decide ((wrap64 ((l1_0.length : Int) * (l1_1.length : Int))) > 4000))) else (conclavelaw03_PolyGoes.j0 k a2 a0 l1_0 l1_1 true))) else (conclavelaw03_PolyGoes.j0 k a2 a0 l1_0 l1_1 true))) = some r := h
 clear h
 have HC4 := Aside0.mk H
 clear H
 go_enter Try.func6, Try.ntmps6
 go_upto_region 3 with (first | ((with_reducible refine gate_dst (N := 4) rfl ?_); (try (refine gate_guard (by rfl) ?_; dsimp only)); refine box_event ?hg (N := 4) ?hd (cs := #[.slice A1_0 l1_0.length c1_0, .slice A1_1 l1_1.length c1_1]) (t := 43) ?hr ?_; (case hd => rfl); (case hg => rfl); (case hr => first | (go_simp; done) | (go_simp; rfl)); intro gb260 hg w5 hbox hb; have n0_ := A_ (below_step hb_ hb); have n1_ := A_ (hbox); have n2_ := A_ ((by rw [hg]; exact (below_size hb_) : w.heap.size ≤ gb260)); have n3_ := A_ ((by rw [hg]; exact (below_size hb_) : w.heap.size ≤ gb260)); clear HB; have HB := n0_; have BK260 := n1_; have GW260 := n2_; have GE260 := n3_; clear n0_ n1_ n2_ n3_; clear hb hbox hg; have hcz6_0 : w5.cell? ⟨gb260, 0, none⟩ = some (.slice A1_0 l1_0.length c1_0) := (blk_cell BK260.out 0).trans rfl; have hcz6_1 : w5.cell? ⟨gb260, 1, none⟩ = some (.slice A1_1 l1_1.length c1_1) := (blk_cell BK260.out 1).trans rfl; have hfz6_0 := blk_frozen BK260.out 0; have hfz6_1 := blk_frozen BK260.out 1))
 repeat (go_quiet (first | ((with_reducible refine gate_dst (N := 4) rfl ?_); (try (refine gate_guard (by rfl) ?_; dsimp only)); refine box_event ?hg (N := 4) ?hd (cs := #[.slice A1_0 l1_0.length c1_0, .slice A1_1 l1_1.length c1_1]) (t := 43) ?hr ?_; (case hd => rfl); (case hg => rfl); (case hr => first | (go_simp; done) | (go_simp; rfl)); intro gb260 hg w5 hbox hb; have n0_ := A_ (below_step hb_ hb); have n1_ := A_ (hbox); have n2_ := A_ ((by rw [hg]; exact (below_size hb_) : w.heap.size ≤ gb260)); have n3_ := A_ ((by rw [hg]; exact (below_size hb_) : w.heap.size ≤ gb260)); clear HB; have HB := n0_; have BK260 := n1_; have GW260 := n2_; have GE260 := n3_; clear n0_ n1_ n2_ n3_; clear hb hbox hg; have hcz6_0 : w5.cell? ⟨gb260, 0, none⟩ = some (.slice A1_0 l1_0.length c1_0) := (blk_cell BK260.out 0).trans rfl; have hcz6_1 : w5.cell? ⟨gb260, 1, none⟩ = some (.slice A1_1 l1_1.length c1_1) := (blk_cell BK260.out 1).trans rfl; have hfz6_0 := blk_frozen BK260.out 0; have hfz6_1 := blk_frozen BK260.out 1)); go_upto_region 3 with (first | ((with_reducible refine gate_dst (N := 4) rfl ?_); (try (refine gate_guard (by rfl) ?_; dsimp only)); refine box_event ?hg (N := 4) ?hd (cs := #[.slice A1_0 l1_0.length c1_0, .slice A1_1 l1_1.length c1_1]) (t := 43) ?hr ?_; (case hd => rfl); (case hg => rfl); (case hr => first | (go_simp; done) | (go_simp; rfl)); intro gb260 hg w5 hbox hb; have n0_ := A_ (below_step hb_ hb); have n1_ := A_ (hbox); have n2_ := A_ ((by rw [hg]; exact (below_size hb_) : w.heap.size ≤ gb260)); have n3_ := A_ ((by rw [hg]; exact (below_size hb_) : w.heap.size ≤ gb260)); clear HB; have HB := n0_; have BK260 := n1_; have GW260 := n2_; have GE260 := n3_; clear n0_ n1_ n2_ n3_; clear hb hbox hg; have hcz6_0 : w5.cell? ⟨gb260, 0, none⟩ = some (.slice A1_0 l1_0.length c1_0) := (blk_cell BK260.out 0).trans rfl; have hcz6_1 : w5.cell? ⟨gb260, 1, none⟩ = some (.slice A1_1 l1_1.length c1_1) := (blk_cell BK260.out 1).trans rfl; have hfz6_0 := blk_frozen BK260.out 0; have hfz6_1 := blk_frozen BK260.out 1)))
 (try simp only [Act.put, List.setIfInBounds_toArray, List.set_cons_zero, List.set_cons_succ])
 go_cut [55] (fun v55 wc => ∃ (kq : Nat) (x55_3 : Bool), v55 = .bool x55_3 ∧ Aside0 (conclavelaw03_PolyGoes.j0 kq a2 a0 l1_0 l1_1 x55_3 = some r) ∧ Aside0 (kq ≤ k) ∧ Aside0 (wc.heap[gb260]? = some (.cells #[(.slice A1_0 l1_0.length c1_0), (.slice A1_1 l1_1.length c1_1)] 43 (0, 0))) ∧ Aside0 (Below w.heap.size w wc))
 case first =>
  have H := HC4.out
  clear HC4
  replace H := Option.bind_eq_some_iff.mp H
  obtain ⟨t261, A70, H⟩ := H
  (try dsimp only at H)
  have A7 := Aside0.mk A70
  clear A70
  by_cases c8 : t261 = 0
  ·rw [if_pos c8] at H
   have c8b0 : (t261 == 0) = true := beq_iff_eq.mpr c8
   have c8b1 : (t261 != 0) = false := bne_eq_false_iff_eq.mpr c8
   clear c8
   (first | rw [c8b0] | rw [c8b1] | (simp only [i64_w, i32_w]; first | rw [c8b0] | rw [c8b1]) | skip)
   obtain ⟨y262, hy262⟩ : ∃ y_ : List Int, y_ = (([a2] : List Int)) := ⟨_, rfl⟩
   replace H : ((cr3_Bad.f k a0 y262 ([] : List Int)).bind fun t265 => (if t265 = 0 then (conclavelaw03_PolyGoes.j0 k a2 a0 l1_0 l1_1 (decide ((wrap64 ((l1_0.length : Int) * (l1_1.length : Int))) > 4000))) else (conclavelaw03_PolyGoes.j0 k a2 a0 l1_0 l1_1 true))) = some r := by first | (rw [hy262]; with_reducible exact H) | (have H2_ := (Option.bind_some _ _).symm.trans H; rw [hy262]; with_reducible exact H2_) | (have H2_ := (Option.bind_some _ _).symm.trans H; with_reducible exact H2_) | with_reducible exact H | (rw [hy262]; exact H) | exact H
   have Ny262 := Aside0.mk hy262
   clear hy262
   replace H := Option.bind_eq_some_iff.mp H
   obtain ⟨t265, A90, H⟩ := H
   replace H : (if t265 = 0 then (conclavelaw03_PolyGoes.j0 k a2 a0 l1_0 l1_1 (decide ((wrap64 ((l1_0.length : Int) * (l1_1.length : Int))) > 4000))) else (conclavelaw03_PolyGoes.j0 k a2 a0 l1_0 l1_1 true)) = some r := H
   have A9 := Aside0.mk A90
   clear A90
   by_cases c10 : t265 = 0
   ·rw [if_pos c10] at H
    have c10b0 : (t265 == 0) = true := beq_iff_eq.mpr c10
    have c10b1 : (t265 != 0) = false := bne_eq_false_iff_eq.mpr c10
    clear c10
    have H' := Aside0.mk H
    clear H
    go_wp2_with (first | (go_at_call 25; (with_reducible refine (cr3_Bad.calls k a0 _ _ l1_0 _ _ l1_1 t261 _ ?side1 ?side2 ?side3 ?side4 A7.out).mono ?_); (case side1 => repeat (first | exact (Kd.C_below HR1_0.out HB.out) | (with_reducible refine Kd.C_alloc ?_ _) | (with_reducible refine Kd.C_drewN ?_ _) | (with_reducible refine Kd.C_drew ?_))); (case side2 => exact HC1_0.out); (case side3 => repeat (first | exact (Kd.C_below HR1_1.out HB.out) | (with_reducible refine Kd.C_alloc ?_ _) | (with_reducible refine Kd.C_drewN ?_ _) | (with_reducible refine Kd.C_drew ?_))); (case side4 => exact HC1_1.out); rintro e w' ⟨rfl, ⟨nd, rfl⟩⟩; (try first | exact ⟨rfl, _, World.drewN_drewN _ _ _⟩ | exact ⟨rfl, _, Eq.trans (World.drewN_drewN _ _ _) (congrArg (World.drewN _) (Nat.add_assoc _ _ _))⟩)) | ((with_reducible refine gate_dst (N := 44) rfl ?_); (try (refine gate_guard (by rfl) ?_; dsimp only)); refine Kd.R_lit (Kd.int .u64) _ 34 ?hg (N := 44) ?hd (xs := ([a2] : List Int)) (inner := [.int .u64 a2]) (ok := fun _ => True) (okp := fun _ => True) ?hr ?hp (fun _ hk => hk) trivial (Below.refl _ _) (Nat.le_refl _) (by simp) ?_; (case hd => rfl); (case hg => rfl); (case hr => first | (go_simp; done) | (go_simp; rfl)); (case hp => exact (Reps.one (show Kd.M (Kd.int .u64) _ _ _ a2 [.int .u64 a2] from rfl) (Reps.none _ _))); intro v263 w11 ho12 hb hg_ hnew_; clear hg_ hnew_; (first | rw [← Ny262.out] at ho12 | (simp only [Int.reduceToNat] at ho12; rw [← Ny262.out] at ho12)); have n0_ := A_ (Kd.R_lower ho12 (below_size hs_)); have n1_ := A_ (blk_below (g := gb260) (o := .cells #[.slice A1_0 l1_0.length c1_0, .slice A1_1 l1_1.length c1_1] 43 (0, 0)) (nb_ BK260) hb); have n2_ := A_ (below_step hs_ hb); clear BK260 HB; have HO264 := n0_; have BK260 := n1_; have HB := n2_; clear n0_ n1_ n2_; clear hb ho12; obtain ⟨Ao13, co13, eo13⟩ := Kd.R_slice HO264.out; subst eo13) | (go_at_call 25; (refine (cr3_Bad.calls k a0 _ _ y262 _ _ ([] : List Int) t265 _ ?side1 ?side2 ?side3 ?side4 A9.out).mono ?_); (case side1 => repeat (first | exact (Kd.R_reads' HO264.out).2.2 | (with_reducible refine Kd.C_alloc ?_ _) | (with_reducible refine Kd.C_drewN ?_ _) | (with_reducible refine Kd.C_drew ?_))); (case side2 => exact (Kd.R_reads' HO264.out).2.1); (case side3 => exact Kd.C_nil _ _); (case side4 => exact Nat.le_refl _); rintro e w' ⟨rfl, ⟨nd, rfl⟩⟩; (try first | exact ⟨rfl, _, World.drewN_drewN _ _ _⟩ | exact ⟨rfl, _, Eq.trans (World.drewN_drewN _ _ _) (congrArg (World.drewN _) (Nat.add_assoc _ _ _))⟩)))
    repeat (go_quiet (first | (go_at_call 25; (with_reducible refine (cr3_Bad.calls k a0 _ _ l1_0 _ _ l1_1 t261 _ ?side1 ?side2 ?side3 ?side4 A7.out).mono ?_); (case side1 => repeat (first | exact (Kd.C_below HR1_0.out HB.out) | (with_reducible refine Kd.C_alloc ?_ _) | (with_reducible refine Kd.C_drewN ?_ _) | (with_reducible refine Kd.C_drew ?_))); (case side2 => exact HC1_0.out); (case side3 => repeat (first | exact (Kd.C_below HR1_1.out HB.out) | (with_reducible refine Kd.C_alloc ?_ _) | (with_reducible refine Kd.C_drewN ?_ _) | (with_reducible refine Kd.C_drew ?_))); (case side4 => exact HC1_1.out); rintro e w' ⟨rfl, ⟨nd, rfl⟩⟩; (try first | exact ⟨rfl, _, World.drewN_drewN _ _ _⟩ | exact ⟨rfl, _, Eq.trans (World.drewN_drewN _ _ _) (congrArg (World.drewN _) (Nat.add_assoc _ _ _))⟩)) | ((with_reducible refine gate_dst (N := 44) rfl ?_); (try (refine gate_guard (by rfl) ?_; dsimp only)); refine Kd.R_lit (Kd.int .u64) _ 34 ?hg (N := 44) ?hd (xs := ([a2] : List Int)) (inner := [.int .u64 a2]) (ok := fun _ => True) (okp := fun _ => True) ?hr ?hp (fun _ hk => hk) trivial (Below.refl _ _) (Nat.le_refl _) (by simp) ?_; (case hd => rfl); (case hg => rfl); (case hr => first | (go_simp; done) | (go_simp; rfl)); (case hp => exact (Reps.one (show Kd.M (Kd.int .u64) _ _ _ a2 [.int .u64 a2] from rfl) (Reps.none _ _))); intro v263 w11 ho12 hb hg_ hnew_; clear hg_ hnew_; (first | rw [← Ny262.out] at ho12 | (simp only [Int.reduceToNat] at ho12; rw [← Ny262.out] at ho12)); have n0_ := A_ (Kd.R_lower ho12 (below_size hs_)); have n1_ := A_ (blk_below (g := gb260) (o := .cells #[.slice A1_0 l1_0.length c1_0, .slice A1_1 l1_1.length c1_1] 43 (0, 0)) (nb_ BK260) hb); have n2_ := A_ (below_step hs_ hb); clear BK260 HB; have HO264 := n0_; have BK260 := n1_; have HB := n2_; clear n0_ n1_ n2_; clear hb ho12; obtain ⟨Ao13, co13, eo13⟩ := Kd.R_slice HO264.out; subst eo13) | (go_at_call 25; (refine (cr3_Bad.calls k a0 _ _ y262 _ _ ([] : List Int) t265 _ ?side1 ?side2 ?side3 ?side4 A9.out).mono ?_); (case side1 => repeat (first | exact (Kd.R_reads' HO264.out).2.2 | (with_reducible refine Kd.C_alloc ?_ _) | (with_reducible refine Kd.C_drewN ?_ _) | (with_reducible refine Kd.C_drew ?_))); (case side2 => exact (Kd.R_reads' HO264.out).2.1); (case side3 => exact Kd.C_nil _ _); (case side4 => exact Nat.le_refl _); rintro e w' ⟨rfl, ⟨nd, rfl⟩⟩; (try first | exact ⟨rfl, _, World.drewN_drewN _ _ _⟩ | exact ⟨rfl, _, Eq.trans (World.drewN_drewN _ _ _) (congrArg (World.drewN _) (Nat.add_assoc _ _ _))⟩))); try go_wp2_with (first | (go_at_call 25; (with_reducible refine (cr3_Bad.calls k a0 _ _ l1_0 _ _ l1_1 t261 _ ?side1 ?side2 ?side3 ?side4 A7.out).mono ?_); (case side1 => repeat (first | exact (Kd.C_below HR1_0.out HB.out) | (with_reducible refine Kd.C_alloc ?_ _) | (with_reducible refine Kd.C_drewN ?_ _) | (with_reducible refine Kd.C_drew ?_))); (case side2 => exact HC1_0.out); (case side3 => repeat (first | exact (Kd.C_below HR1_1.out HB.out) | (with_reducible refine Kd.C_alloc ?_ _) | (with_reducible refine Kd.C_drewN ?_ _) | (with_reducible refine Kd.C_drew ?_))); (case side4 => exact HC1_1.out); rintro e w' ⟨rfl, ⟨nd, rfl⟩⟩; (try first | exact ⟨rfl, _, World.drewN_drewN _ _ _⟩ | exact ⟨rfl, _, Eq.trans (World.drewN_drewN _ _ _) (congrArg (World.drewN _) (Nat.add_assoc _ _ _))⟩)) | ((with_reducible refine gate_dst (N := 44) rfl ?_); (try (refine gate_guard (by rfl) ?_; dsimp only)); refine Kd.R_lit (Kd.int .u64) _ 34 ?hg (N := 44) ?hd (xs := ([a2] : List Int)) (inner := [.int .u64 a2]) (ok := fun _ => True) (okp := fun _ => True) ?hr ?hp (fun _ hk => hk) trivial (Below.refl _ _) (Nat.le_refl _) (by simp) ?_; (case hd => rfl); (case hg => rfl); (case hr => first | (go_simp; done) | (go_simp; rfl)); (case hp => exact (Reps.one (show Kd.M (Kd.int .u64) _ _ _ a2 [.int .u64 a2] from rfl) (Reps.none _ _))); intro v263 w11 ho12 hb hg_ hnew_; clear hg_ hnew_; (first | rw [← Ny262.out] at ho12 | (simp only [Int.reduceToNat] at ho12; rw [← Ny262.out] at ho12)); have n0_ := A_ (Kd.R_lower ho12 (below_size hs_)); have n1_ := A_ (blk_below (g := gb260) (o := .cells #[.slice A1_0 l1_0.length c1_0, .slice A1_1 l1_1.length c1_1] 43 (0, 0)) (nb_ BK260) hb); have n2_ := A_ (below_step hs_ hb); clear BK260 HB; have HO264 := n0_; have BK260 := n1_; have HB := n2_; clear n0_ n1_ n2_; clear hb ho12; obtain ⟨Ao13, co13, eo13⟩ := Kd.R_slice HO264.out; subst eo13) | (go_at_call 25; (refine (cr3_Bad.calls k a0 _ _ y262 _ _ ([] : List Int) t265 _ ?side1 ?side2 ?side3 ?side4 A9.out).mono ?_); (case side1 => repeat (first | exact (Kd.R_reads' HO264.out).2.2 | (with_reducible refine Kd.C_alloc ?_ _) | (with_reducible refine Kd.C_drewN ?_ _) | (with_reducible refine Kd.C_drew ?_))); (case side2 => exact (Kd.R_reads' HO264.out).2.1); (case side3 => exact Kd.C_nil _ _); (case side4 => exact Nat.le_refl _); rintro e w' ⟨rfl, ⟨nd, rfl⟩⟩; (try first | exact ⟨rfl, _, World.drewN_drewN _ _ _⟩ | exact ⟨rfl, _, Eq.trans (World.drewN_drewN _ _ _) (congrArg (World.drewN _) (Nat.add_assoc _ _ _))⟩))))
    go_meet
    case rel => exact ⟨_, (decide ((wrap64 ((l1_0.length : Int) * (l1_1.length : Int))) > 4000)), (fs_), H', ⟨fo_⟩, ⟨mb_ BK260.out⟩, ⟨hs_⟩⟩
   ·rw [if_neg c10] at H
    have c10b0 : (t265 == 0) = false := beq_eq_false_iff_ne.mpr c10
    have c10b1 : (t265 != 0) = true := bne_iff_ne.mpr c10
    have H' := Aside0.mk H
    clear H
    go_wp2_with (first | (go_at_call 25; (with_reducible refine (cr3_Bad.calls k a0 _ _ l1_0 _ _ l1_1 t261 _ ?side1 ?side2 ?side3 ?side4 A7.out).mono ?_); (case side1 => repeat (first | exact (Kd.C_below HR1_0.out HB.out) | (with_reducible refine Kd.C_alloc ?_ _) | (with_reducible refine Kd.C_drewN ?_ _) | (with_reducible refine Kd.C_drew ?_))); (case side2 => exact HC1_0.out); (case side3 => repeat (first | exact (Kd.C_below HR1_1.out HB.out) | (with_reducible refine Kd.C_alloc ?_ _) | (with_reducible refine Kd.C_drewN ?_ _) | (with_reducible refine Kd.C_drew ?_))); (case side4 => exact HC1_1.out); rintro e w' ⟨rfl, ⟨nd, rfl⟩⟩; (try first | exact ⟨rfl, _, World.drewN_drewN _ _ _⟩ | exact ⟨rfl, _, Eq.trans (World.drewN_drewN _ _ _) (congrArg (World.drewN _) (Nat.add_assoc _ _ _))⟩)) | ((with_reducible refine gate_dst (N := 44) rfl ?_); (try (refine gate_guard (by rfl) ?_; dsimp only)); refine Kd.R_lit (Kd.int .u64) _ 34 ?hg (N := 44) ?hd (xs := ([a2] : List Int)) (inner := [.int .u64 a2]) (ok := fun _ => True) (okp := fun _ => True) ?hr ?hp (fun _ hk => hk) trivial (Below.refl _ _) (Nat.le_refl _) (by simp) ?_; (case hd => rfl); (case hg => rfl); (case hr => first | (go_simp; done) | (go_simp; rfl)); (case hp => exact (Reps.one (show Kd.M (Kd.int .u64) _ _ _ a2 [.int .u64 a2] from rfl) (Reps.none _ _))); intro v263 w14 ho15 hb hg_ hnew_; clear hg_ hnew_; (first | rw [← Ny262.out] at ho15 | (simp only [Int.reduceToNat] at ho15; rw [← Ny262.out] at ho15)); have n0_ := A_ (Kd.R_lower ho15 (below_size hs_)); have n1_ := A_ (blk_below (g := gb260) (o := .cells #[.slice A1_0 l1_0.length c1_0, .slice A1_1 l1_1.length c1_1] 43 (0, 0)) (nb_ BK260) hb); have n2_ := A_ (below_step hs_ hb); clear BK260 HB; have HO264 := n0_; have BK260 := n1_; have HB := n2_; clear n0_ n1_ n2_; clear hb ho15; obtain ⟨Ao16, co16, eo16⟩ := Kd.R_slice HO264.out; subst eo16) | (go_at_call 25; (refine (cr3_Bad.calls k a0 _ _ y262 _ _ ([] : List Int) t265 _ ?side1 ?side2 ?side3 ?side4 A9.out).mono ?_); (case side1 => repeat (first | exact (Kd.R_reads' HO264.out).2.2 | (with_reducible refine Kd.C_alloc ?_ _) | (with_reducible refine Kd.C_drewN ?_ _) | (with_reducible refine Kd.C_drew ?_))); (case side2 => exact (Kd.R_reads' HO264.out).2.1); (case side3 => exact Kd.C_nil _ _); (case side4 => exact Nat.le_refl _); rintro e w' ⟨rfl, ⟨nd, rfl⟩⟩; (try first | exact ⟨rfl, _, World.drewN_drewN _ _ _⟩ | exact ⟨rfl, _, Eq.trans (World.drewN_drewN _ _ _) (congrArg (World.drewN _) (Nat.add_assoc _ _ _))⟩)))
    repeat (go_quiet (first | (go_at_call 25; (with_reducible refine (cr3_Bad.calls k a0 _ _ l1_0 _ _ l1_1 t261 _ ?side1 ?side2 ?side3 ?side4 A7.out).mono ?_); (case side1 => repeat (first | exact (Kd.C_below HR1_0.out HB.out) | (with_reducible refine Kd.C_alloc ?_ _) | (with_reducible refine Kd.C_drewN ?_ _) | (with_reducible refine Kd.C_drew ?_))); (case side2 => exact HC1_0.out); (case side3 => repeat (first | exact (Kd.C_below HR1_1.out HB.out) | (with_reducible refine Kd.C_alloc ?_ _) | (with_reducible refine Kd.C_drewN ?_ _) | (with_reducible refine Kd.C_drew ?_))); (case side4 => exact HC1_1.out); rintro e w' ⟨rfl, ⟨nd, rfl⟩⟩; (try first | exact ⟨rfl, _, World.drewN_drewN _ _ _⟩ | exact ⟨rfl, _, Eq.trans (World.drewN_drewN _ _ _) (congrArg (World.drewN _) (Nat.add_assoc _ _ _))⟩)) | ((with_reducible refine gate_dst (N := 44) rfl ?_); (try (refine gate_guard (by rfl) ?_; dsimp only)); refine Kd.R_lit (Kd.int .u64) _ 34 ?hg (N := 44) ?hd (xs := ([a2] : List Int)) (inner := [.int .u64 a2]) (ok := fun _ => True) (okp := fun _ => True) ?hr ?hp (fun _ hk => hk) trivial (Below.refl _ _) (Nat.le_refl _) (by simp) ?_; (case hd => rfl); (case hg => rfl); (case hr => first | (go_simp; done) | (go_simp; rfl)); (case hp => exact (Reps.one (show Kd.M (Kd.int .u64) _ _ _ a2 [.int .u64 a2] from rfl) (Reps.none _ _))); intro v263 w14 ho15 hb hg_ hnew_; clear hg_ hnew_; (first | rw [← Ny262.out] at ho15 | (simp only [Int.reduceToNat] at ho15; rw [← Ny262.out] at ho15)); have n0_ := A_ (Kd.R_lower ho15 (below_size hs_)); have n1_ := A_ (blk_below (g := gb260) (o := .cells #[.slice A1_0 l1_0.length c1_0, .slice A1_1 l1_1.length c1_1] 43 (0, 0)) (nb_ BK260) hb); have n2_ := A_ (below_step hs_ hb); clear BK260 HB; have HO264 := n0_; have BK260 := n1_; have HB := n2_; clear n0_ n1_ n2_; clear hb ho15; obtain ⟨Ao16, co16, eo16⟩ := Kd.R_slice HO264.out; subst eo16) | (go_at_call 25; (refine (cr3_Bad.calls k a0 _ _ y262 _ _ ([] : List Int) t265 _ ?side1 ?side2 ?side3 ?side4 A9.out).mono ?_); (case side1 => repeat (first | exact (Kd.R_reads' HO264.out).2.2 | (with_reducible refine Kd.C_alloc ?_ _) | (with_reducible refine Kd.C_drewN ?_ _) | (with_reducible refine Kd.C_drew ?_))); (case side2 => exact (Kd.R_reads' HO264.out).2.1); (case side3 => exact Kd.C_nil _ _); (case side4 => exact Nat.le_refl _); rintro e w' ⟨rfl, ⟨nd, rfl⟩⟩; (try first | exact ⟨rfl, _, World.drewN_drewN _ _ _⟩ | exact ⟨rfl, _, Eq.trans (World.drewN_drewN _ _ _) (congrArg (World.drewN _) (Nat.add_assoc _ _ _))⟩))); try go_wp2_with (first | (go_at_call 25; (with_reducible refine (cr3_Bad.calls k a0 _ _ l1_0 _ _ l1_1 t261 _ ?side1 ?side2 ?side3 ?side4 A7.out).mono ?_); (case side1 => repeat (first | exact (Kd.C_below HR1_0.out HB.out) | (with_reducible refine Kd.C_alloc ?_ _) | (with_reducible refine Kd.C_drewN ?_ _) | (with_reducible refine Kd.C_drew ?_))); (case side2 => exact HC1_0.out); (case side3 => repeat (first | exact (Kd.C_below HR1_1.out HB.out) | (with_reducible refine Kd.C_alloc ?_ _) | (with_reducible refine Kd.C_drewN ?_ _) | (with_reducible refine Kd.C_drew ?_))); (case side4 => exact HC1_1.out); rintro e w' ⟨rfl, ⟨nd, rfl⟩⟩; (try first | exact ⟨rfl, _, World.drewN_drewN _ _ _⟩ | exact ⟨rfl, _, Eq.trans (World.drewN_drewN _ _ _) (congrArg (World.drewN _) (Nat.add_assoc _ _ _))⟩)) | ((with_reducible refine gate_dst (N := 44) rfl ?_); (try (refine gate_guard (by rfl) ?_; dsimp only)); refine Kd.R_lit (Kd.int .u64) _ 34 ?hg (N := 44) ?hd (xs := ([a2] : List Int)) (inner := [.int .u64 a2]) (ok := fun _ => True) (okp := fun _ => True) ?hr ?hp (fun _ hk => hk) trivial (Below.refl _ _) (Nat.le_refl _) (by simp) ?_; (case hd => rfl); (case hg => rfl); (case hr => first | (go_simp; done) | (go_simp; rfl)); (case hp => exact (Reps.one (show Kd.M (Kd.int .u64) _ _ _ a2 [.int .u64 a2] from rfl) (Reps.none _ _))); intro v263 w14 ho15 hb hg_ hnew_; clear hg_ hnew_; (first | rw [← Ny262.out] at ho15 | (simp only [Int.reduceToNat] at ho15; rw [← Ny262.out] at ho15)); have n0_ := A_ (Kd.R_lower ho15 (below_size hs_)); have n1_ := A_ (blk_below (g := gb260) (o := .cells #[.slice A1_0 l1_0.length c1_0, .slice A1_1 l1_1.length c1_1] 43 (0, 0)) (nb_ BK260) hb); have n2_ := A_ (below_step hs_ hb); clear BK260 HB; have HO264 := n0_; have BK260 := n1_; have HB := n2_; clear n0_ n1_ n2_; clear hb ho15; obtain ⟨Ao16, co16, eo16⟩ := Kd.R_slice HO264.out; subst eo16) | (go_at_call 25; (refine (cr3_Bad.calls k a0 _ _ y262 _ _ ([] : List Int) t265 _ ?side1 ?side2 ?side3 ?side4 A9.out).mono ?_); (case side1 => repeat (first | exact (Kd.R_reads' HO264.out).2.2 | (with_reducible refine Kd.C_alloc ?_ _) | (with_reducible refine Kd.C_drewN ?_ _) | (with_reducible refine Kd.C_drew ?_))); (case side2 => exact (Kd.R_reads' HO264.out).2.1); (case side3 => exact Kd.C_nil _ _); (case side4 => exact Nat.le_refl _); rintro e w' ⟨rfl, ⟨nd, rfl⟩⟩; (try first | exact ⟨rfl, _, World.drewN_drewN _ _ _⟩ | exact ⟨rfl, _, Eq.trans (World.drewN_drewN _ _ _) (congrArg (World.drewN _) (Nat.add_assoc _ _ _))⟩))))
    go_meet
    case rel => exact ⟨_, (true), (fs_), H', ⟨fo_⟩, ⟨mb_ BK260.out⟩, ⟨hs_⟩⟩
  ·rw [if_neg c8] at H
   have c8b0 : (t261 == 0) = false := beq_eq_false_iff_ne.mpr c8
   have c8b1 : (t261 != 0) = true := bne_iff_ne.mpr c8
   (first | rw [c8b0] | rw [c8b1] | (simp only [i64_w, i32_w]; first | rw [c8b0] | rw [c8b1]) | skip)
   have H' := Aside0.mk H
   clear H
   go_wp2_with (first | (go_at_call 25; (with_reducible refine (cr3_Bad.calls k a0 _ _ l1_0 _ _ l1_1 t261 _ ?side1 ?side2 ?side3 ?side4 A7.out).mono ?_); (case side1 => repeat (first | exact (Kd.C_below HR1_0.out HB.out) | (with_reducible refine Kd.C_alloc ?_ _) | (with_reducible refine Kd.C_drewN ?_ _) | (with_reducible refine Kd.C_drew ?_))); (case side2 => exact HC1_0.out); (case side3 => repeat (first | exact (Kd.C_below HR1_1.out HB.out) | (with_reducible refine Kd.C_alloc ?_ _) | (with_reducible refine Kd.C_drewN ?_ _) | (with_reducible refine Kd.C_drew ?_))); (case side4 => exact HC1_1.out); rintro e w' ⟨rfl, ⟨nd, rfl⟩⟩; (try first | exact ⟨rfl, _, World.drewN_drewN _ _ _⟩ | exact ⟨rfl, _, Eq.trans (World.drewN_drewN _ _ _) (congrArg (World.drewN _) (Nat.add_assoc _ _ _))⟩)))
   repeat (go_quiet (first | (go_at_call 25; (with_reducible refine (cr3_Bad.calls k a0 _ _ l1_0 _ _ l1_1 t261 _ ?side1 ?side2 ?side3 ?side4 A7.out).mono ?_); (case side1 => repeat (first | exact (Kd.C_below HR1_0.out HB.out) | (with_reducible refine Kd.C_alloc ?_ _) | (with_reducible refine Kd.C_drewN ?_ _) | (with_reducible refine Kd.C_drew ?_))); (case side2 => exact HC1_0.out); (case side3 => repeat (first | exact (Kd.C_below HR1_1.out HB.out) | (with_reducible refine Kd.C_alloc ?_ _) | (with_reducible refine Kd.C_drewN ?_ _) | (with_reducible refine Kd.C_drew ?_))); (case side4 => exact HC1_1.out); rintro e w' ⟨rfl, ⟨nd, rfl⟩⟩; (try first | exact ⟨rfl, _, World.drewN_drewN _ _ _⟩ | exact ⟨rfl, _, Eq.trans (World.drewN_drewN _ _ _) (congrArg (World.drewN _) (Nat.add_assoc _ _ _))⟩))); try go_wp2_with (first | (go_at_call 25; (with_reducible refine (cr3_Bad.calls k a0 _ _ l1_0 _ _ l1_1 t261 _ ?side1 ?side2 ?side3 ?side4 A7.out).mono ?_); (case side1 => repeat (first | exact (Kd.C_below HR1_0.out HB.out) | (with_reducible refine Kd.C_alloc ?_ _) | (with_reducible refine Kd.C_drewN ?_ _) | (with_reducible refine Kd.C_drew ?_))); (case side2 => exact HC1_0.out); (case side3 => repeat (first | exact (Kd.C_below HR1_1.out HB.out) | (with_reducible refine Kd.C_alloc ?_ _) | (with_reducible refine Kd.C_drewN ?_ _) | (with_reducible refine Kd.C_drew ?_))); (case side4 => exact HC1_1.out); rintro e w' ⟨rfl, ⟨nd, rfl⟩⟩; (try first | exact ⟨rfl, _, World.drewN_drewN _ _ _⟩ | exact ⟨rfl, _, Eq.trans (World.drewN_drewN _ _ _) (congrArg (World.drewN _) (Nat.add_assoc _ _ _))⟩))))
   go_meet
   case rel => exact ⟨_, (true), (fs_), H', ⟨fo_⟩, ⟨mb_ BK260.out⟩, ⟨hs_⟩⟩
 case rest =>
  clear HC4
  try clear c1
  try clear p2
  try clear c6
  try clear p6
  try clear c8
  try clear c8b0
  try clear c8b1
  try clear c10
  try clear c10b0
  try clear c10b1
  try clear hcz6_0
  try clear hcz6_1
  try clear hfz6_0
  try clear hfz6_1
  obtain ⟨kq, x55_3, rfl, HA, HJ3, BK260, HB⟩ := hcut
  cases kq with
  | zero => exact absurd HA.out (by simp [conclavelaw03_PolyGoes.j0])
  | succ kj3 =>
   have H := HA.out
   clear HA
   simp only [conclavelaw03_PolyGoes.j0] at H
   by_cases c17 : x55_3 = true
   ·subst c17
    have H1 : ((poly_Eval.f kj3 0 l1_0 a2).bind fun bt266 => ((conclavelaw03_anchored.f kj3).bind fun t268 => (if t268 = true then (some (bt266.2 == 2)) else (none)))) = some r := by rw [if_pos rfl] at H; exact H
    clear H
    have H := H1
    clear H1
    replace H := Option.bind_eq_some_iff.mp H
    obtain ⟨⟨t266, t267⟩, A180, H⟩ := H
    replace H : ((conclavelaw03_anchored.f kj3).bind fun t268 => (if t268 = true then (some (t267 == 2)) else (none))) = some r := H
    have A18 := Aside0.mk A180
    clear A180
    replace H := Option.bind_eq_some_iff.mp H
    obtain ⟨t268, A190, H⟩ := H
    replace H : (if t268 = true then (some (t267 == 2)) else (none)) = some r := H
    have A19 := Aside0.mk A190
    clear A190
    by_cases c20 : t268 = true
    ·subst c20
     have H1 : (some (t267 == 2)) = some r := by rw [if_pos rfl] at H; exact H
     clear H
     have H := H1
     clear H1
     obtain rfl := Option.some.inj H
     go_wp2_with (first | (go_at_call 22; (with_reducible refine (poly_Eval.calls kj3 0 _ _ l1_0 a2 t266 t267 _ ?side1 ?side2 A18.out).mono ?_); (case side1 => repeat (first | exact (Kd.C_below HR1_0.out HB.out) | (with_reducible refine Kd.C_alloc ?_ _) | (with_reducible refine Kd.C_drewN ?_ _) | (with_reducible refine Kd.C_drew ?_))); (case side2 => exact HC1_0.out); rintro e w21 ⟨rfl, hb⟩; have n0_ := A_ (blk_below (g := gb260) (o := .cells #[.slice A1_0 l1_0.length c1_0, .slice A1_1 l1_1.length c1_1] 43 (0, 0)) (nb_ BK260) hb); have n1_ := A_ (below_step hs_ hb); clear BK260 HB; have BK260 := n0_; have HB := n1_; clear n0_ n1_; (try clear hb); (try clear hb2); (try clear hk); (try clear hi)) | (go_at_call 24; (with_reducible refine (conclavelaw03_anchored.calls kj3  true _ A19.out).mono ?_); rintro e w22 ⟨rfl, hb⟩; have n0_ := A_ (blk_below (g := gb260) (o := .cells #[.slice A1_0 l1_0.length c1_0, .slice A1_1 l1_1.length c1_1] 43 (0, 0)) (nb_ BK260) hb); have n1_ := A_ (below_step hs_ hb); clear BK260 HB; have BK260 := n0_; have HB := n1_; clear n0_ n1_; (try clear hb); (try clear hb2); (try clear hk); (try clear hi)))
     repeat (go_quiet (first | (go_at_call 22; (with_reducible refine (poly_Eval.calls kj3 0 _ _ l1_0 a2 t266 t267 _ ?side1 ?side2 A18.out).mono ?_); (case side1 => repeat (first | exact (Kd.C_below HR1_0.out HB.out) | (with_reducible refine Kd.C_alloc ?_ _) | (with_reducible refine Kd.C_drewN ?_ _) | (with_reducible refine Kd.C_drew ?_))); (case side2 => exact HC1_0.out); rintro e w21 ⟨rfl, hb⟩; have n0_ := A_ (blk_below (g := gb260) (o := .cells #[.slice A1_0 l1_0.length c1_0, .slice A1_1 l1_1.length c1_1] 43 (0, 0)) (nb_ BK260) hb); have n1_ := A_ (below_step hs_ hb); clear BK260 HB; have BK260 := n0_; have HB := n1_; clear n0_ n1_; (try clear hb); (try clear hb2); (try clear hk); (try clear hi)) | (go_at_call 24; (with_reducible refine (conclavelaw03_anchored.calls kj3  true _ A19.out).mono ?_); rintro e w22 ⟨rfl, hb⟩; have n0_ := A_ (blk_below (g := gb260) (o := .cells #[.slice A1_0 l1_0.length c1_0, .slice A1_1 l1_1.length c1_1] 43 (0, 0)) (nb_ BK260) hb); have n1_ := A_ (below_step hs_ hb); clear BK260 HB; have BK260 := n0_; have HB := n1_; clear n0_ n1_; (try clear hb); (try clear hb2); (try clear hk); (try clear hi))); try go_wp2_with (first | (go_at_call 22; (with_reducible refine (poly_Eval.calls kj3 0 _ _ l1_0 a2 t266 t267 _ ?side1 ?side2 A18.out).mono ?_); (case side1 => repeat (first | exact (Kd.C_below HR1_0.out HB.out) | (with_reducible refine Kd.C_alloc ?_ _) | (with_reducible refine Kd.C_drewN ?_ _) | (with_reducible refine Kd.C_drew ?_))); (case side2 => exact HC1_0.out); rintro e w21 ⟨rfl, hb⟩; have n0_ := A_ (blk_below (g := gb260) (o := .cells #[.slice A1_0 l1_0.length c1_0, .slice A1_1 l1_1.length c1_1] 43 (0, 0)) (nb_ BK260) hb); have n1_ := A_ (below_step hs_ hb); clear BK260 HB; have BK260 := n0_; have HB := n1_; clear n0_ n1_; (try clear hb); (try clear hb2); (try clear hk); (try clear hi)) | (go_at_call 24; (with_reducible refine (conclavelaw03_anchored.calls kj3  true _ A19.out).mono ?_); rintro e w22 ⟨rfl, hb⟩; have n0_ := A_ (blk_below (g := gb260) (o := .cells #[.slice A1_0 l1_0.length c1_0, .slice A1_1 l1_1.length c1_1] 43 (0, 0)) (nb_ BK260) hb); have n1_ := A_ (below_step hs_ hb); clear BK260 HB; have BK260 := n0_; have HB := n1_; clear n0_ n1_; (try clear hb); (try clear hb2); (try clear hk); (try clear hi))))
     go_ret
     exact ⟨fr_, hs_⟩
    ·replace c20 := Bool.eq_false_iff.mpr c20
     subst c20
     have H1 : (none) = some r := by rw [if_neg (show ¬ (false = true) by decide)] at H; exact H
     clear H
     have H := H1
     clear H1
     exact absurd H (by simp)
   ·replace c17 := Bool.eq_false_iff.mpr c17
    subst c17
    have H1 : ((poly_Add.f kj3 a0 l1_0 l1_1).bind fun bt269 => ((poly_Mul.f kj3 a0 l1_0 l1_1).bind fun bt273 => ((poly_Into.f kj3 a0 l1_0 l1_1).bind fun bt277 => ((poly_Eval.f kj3 a0 l1_0 a2).bind fun bt281 => ((poly_Eval.f kj3 a0 l1_1 a2).bind fun bt283 => ((poly_Eval.f kj3 a0 bt269.1 a2).bind fun bt285 => ((poly_Eval.f kj3 a0 bt273.1 a2).bind fun bt287 => ((poly_Eval.f kj3 a0 bt277.1 a2).bind fun bt289 => ((poly_Eval.f kj3 a0 l1_0 bt283.1).bind fun bt291 => ((cr1_P.f a0).bind fun t293 => ((conclavelaw03_anchored.f kj3).bind fun t294 => (if t294 = true then (if bt269.2 = 0 then (if bt273.2 = 0 then (if bt277.2 = 0 then (if bt285.2 = 0 then (if bt287.2 = 0 then (if bt289.2 = 0 then (if bt291.2 = 0 then ((cr1_Sum.f t293 bt281.1 bt283.1).bind fun t295 => (if bt285.1 = t295 then ((cr1_Times.f kj3 t293 bt281.1 bt283.1).bind fun t296 => (if bt287.1 = t296 then (some (bt289.1 == bt291.1)) else (none))) else (none))) else (none)) else (none)) else (none)) else (none)) else (none)) else (none)) else (none)) else (none))))))))))))) = some r := by rw [if_neg (show ¬ (false = true) by decide)] at H; exact H
    clear H
    have H := H1
    clear H1
    replace H := Option.bind_eq_some_iff.mp H
    obtain ⟨⟨t269, t270⟩, A230, H⟩ := H
    (try dsimp only at H)
    have A23 := Aside0.mk A230
    clear A230
    replace H := Option.bind_eq_some_iff.mp H
    obtain ⟨⟨t273, t276⟩, A240, H⟩ := H
    (try dsimp only at H)
    have A24 := Aside0.mk A240
    clear A240
    replace H := Option.bind_eq_some_iff.mp H
    obtain ⟨⟨t277, t280⟩, A250, H⟩ := H
    (try dsimp only at H)
    have A25 := Aside0.mk A250
    clear A250
    replace H := Option.bind_eq_some_iff.mp H
    obtain ⟨⟨t281, t282⟩, A260, H⟩ := H
    (try dsimp only at H)
    have A26 := Aside0.mk A260
    clear A260
    replace H := Option.bind_eq_some_iff.mp H
    obtain ⟨⟨t283, t284⟩, A270, H⟩ := H
    (try dsimp only at H)
    have A27 := Aside0.mk A270
    clear A270
    replace H := Option.bind_eq_some_iff.mp H
    obtain ⟨⟨t285, t286⟩, A280, H⟩ := H
    (try dsimp only at H)
    have A28 := Aside0.mk A280
    clear A280
    replace H := Option.bind_eq_some_iff.mp H
    obtain ⟨⟨t287, t288⟩, A290, H⟩ := H
    (try dsimp only at H)
    have A29 := Aside0.mk A290
    clear A290
    replace H := Option.bind_eq_some_iff.mp H
    obtain ⟨⟨t289, t290⟩, A300, H⟩ := H
    (try dsimp only at H)
    have A30 := Aside0.mk A300
    clear A300
    replace H := Option.bind_eq_some_iff.mp H
    obtain ⟨⟨t291, t292⟩, A310, H⟩ := H
    (try dsimp only at H)
    have A31 := Aside0.mk A310
    clear A310
    replace H := Option.bind_eq_some_iff.mp H
    obtain ⟨t293, A320, H⟩ := H
    (try dsimp only at H)
    have A32 := Aside0.mk A320
    clear A320
    replace H := Option.bind_eq_some_iff.mp H
    obtain ⟨t294, A330, H⟩ := H
    (try dsimp only at H)
    have A33 := Aside0.mk A330
    clear A330
    by_cases c34 : t294 = true
    ·subst c34
     have H1 : (if t270 = 0 then (if t276 = 0 then (if t280 = 0 then (if t286 = 0 then (if t288 = 0 then (if t290 = 0 then (if t292 = 0 then ((cr1_Sum.f t293 t281 t283).bind fun t295 => (if t285 = t295 then ((cr1_Times.f kj3 t293 t281 t283).bind fun t296 => (if t287 = t296 then (some (t289 == t291)) else (none))) else (none))) else (none)) else (none)) else (none)) else (none)) else (none)) else (none)) else (none)) = some r := by rw [if_pos rfl] at H; exact H
     clear H
     have H := H1
     clear H1
     by_cases c35 : t270 = 0
     ·rw [if_pos c35] at H
      have c35b0 : (t270 == 0) = true := beq_iff_eq.mpr c35
      have c35b1 : (t270 != 0) = false := bne_eq_false_iff_eq.mpr c35
      clear c35
      by_cases c36 : t276 = 0
      ·rw [if_pos c36] at H
       have c36b0 : (t276 == 0) = true := beq_iff_eq.mpr c36
       have c36b1 : (t276 != 0) = false := bne_eq_false_iff_eq.mpr c36
       clear c36
       by_cases c37 : t280 = 0
       ·rw [if_pos c37] at H
        have c37b0 : (t280 == 0) = true := beq_iff_eq.mpr c37
        have c37b1 : (t280 != 0) = false := bne_eq_false_iff_eq.mpr c37
        clear c37
        by_cases c38 : t286 = 0
        ·rw [if_pos c38] at H
         have c38b0 : (t286 == 0) = true := beq_iff_eq.mpr c38
         have c38b1 : (t286 != 0) = false := bne_eq_false_iff_eq.mpr c38
         clear c38
         by_cases c39 : t288 = 0
         ·rw [if_pos c39] at H
          have c39b0 : (t288 == 0) = true := beq_iff_eq.mpr c39
          have c39b1 : (t288 != 0) = false := bne_eq_false_iff_eq.mpr c39
          clear c39
          by_cases c40 : t290 = 0
          ·rw [if_pos c40] at H
           have c40b0 : (t290 == 0) = true := beq_iff_eq.mpr c40
           have c40b1 : (t290 != 0) = false := bne_eq_false_iff_eq.mpr c40
           clear c40
           by_cases c41 : t292 = 0
           ·rw [if_pos c41] at H
            have c41b0 : (t292 == 0) = true := beq_iff_eq.mpr c41
            have c41b1 : (t292 != 0) = false := bne_eq_false_iff_eq.mpr c41
            clear c41
            replace H := Option.bind_eq_some_iff.mp H
            obtain ⟨t295, A420, H⟩ := H
            replace H : (if t285 = t295 then ((cr1_Times.f kj3 t293 t281 t283).bind fun t296 => (if t287 = t296 then (some (t289 == t291)) else (none))) else (none)) = some r := H
            have A42 := Aside0.mk A420
            clear A420
            by_cases c43 : t285 = t295
            ·rw [if_pos c43] at H
             have c43b0 : (t285 == t295) = true := beq_iff_eq.mpr c43
             have c43b1 : (t285 != t295) = false := bne_eq_false_iff_eq.mpr c43
             clear c43
             replace H := Option.bind_eq_some_iff.mp H
             obtain ⟨t296, A440, H⟩ := H
             replace H : (if t287 = t296 then (some (t289 == t291)) else (none)) = some r := H
             have A44 := Aside0.mk A440
             clear A440
             by_cases c45 : t287 = t296
             ·rw [if_pos c45] at H
              have c45b0 : (t287 == t296) = true := beq_iff_eq.mpr c45
              have c45b1 : (t287 != t296) = false := bne_eq_false_iff_eq.mpr c45
              clear c45
              obtain rfl := Option.some.inj H
              go_wp2_with (first | (go_at_call 14; (with_reducible refine (poly_Add.calls kj3 a0 _ _ l1_0 _ _ l1_1 t269 t270 _ ?side1 ?side2 ?side3 ?side4 A23.out).mono ?_); (case side1 => repeat (first | exact (Kd.C_below HR1_0.out HB.out) | (with_reducible refine Kd.C_alloc ?_ _) | (with_reducible refine Kd.C_drewN ?_ _) | (with_reducible refine Kd.C_drew ?_))); (case side2 => exact HC1_0.out); (case side3 => repeat (first | exact (Kd.C_below HR1_1.out HB.out) | (with_reducible refine Kd.C_alloc ?_ _) | (with_reducible refine Kd.C_drewN ?_ _) | (with_reducible refine Kd.C_drew ?_))); (case side4 => exact HC1_1.out); rintro e w46 ⟨v271, rfl, ho0, hb⟩; have n0_ := A_ (Kd.R_lower ho0 (below_size hs_)); have n1_ := A_ (blk_below (g := gb260) (o := .cells #[.slice A1_0 l1_0.length c1_0, .slice A1_1 l1_1.length c1_1] 43 (0, 0)) (nb_ BK260) hb); have n2_ := A_ (below_step hs_ hb); clear BK260 HB; have HO272 := n0_; have BK260 := n1_; have HB := n2_; clear n0_ n1_ n2_; (try clear hb); (try clear hb2); (try clear hk); (try clear hi); (try clear ho0)) | (go_at_call 18; (with_reducible refine (poly_Mul.calls kj3 a0 (fun k_ => k_ < w.heap.size) _ _ l1_0 (fun k_ => k_ < w.heap.size) _ _ l1_1 t273 t276 _ ?side1 ?side2 A24.out).mono ?_); (case side1 => exact Kd.V_mk HC1_0.out (Kd.F_below (Kd.C_F (Kd.heap_int .u64) HR1_0.out) hs_)); (case side2 => exact Kd.V_mk HC1_1.out (Kd.F_below (Kd.C_F (Kd.heap_int .u64) HR1_1.out) hs_)); rintro e w47 ⟨v274, rfl, ho0, hb⟩; have n0_ := A_ (Kd.R_elder' (nR_ HO272) (Kd.R_base ho0) hb); have n1_ := A_ (Kd.R_lower (Kd.R_new' (Kd.R_mono (ok' := fun k_ => True) ho0 (fun _ hk_ => trivial)) (Kd.R_lt (nR_ HO272))) (below_size hs_)); have n2_ := A_ (blk_below (g := gb260) (o := .cells #[.slice A1_0 l1_0.length c1_0, .slice A1_1 l1_1.length c1_1] 43 (0, 0)) (nb_ BK260) hb); have n3_ := A_ (below_step hs_ hb); clear HO272 BK260 HB; have HO272 := n0_; have HO275 := n1_; have BK260 := n2_; have HB := n3_; clear n0_ n1_ n2_ n3_; (try clear hb); (try clear hb2); (try clear hk); (try clear hi); (try clear ho0)) | (go_at_call 26; (with_reducible refine (poly_Into.calls kj3 a0 (fun k_ => k_ < w.heap.size) _ _ l1_0 (fun k_ => k_ < w.heap.size) _ _ l1_1 t277 t280 _ ?side1 ?side2 A25.out).mono ?_); (case side1 => exact Kd.V_mk HC1_0.out (Kd.F_below (Kd.C_F (Kd.heap_int .u64) HR1_0.out) hs_)); (case side2 => exact Kd.V_mk HC1_1.out (Kd.F_below (Kd.C_F (Kd.heap_int .u64) HR1_1.out) hs_)); rintro e w48 ⟨v278, rfl, ho0, hb⟩; have n0_ := A_ (Kd.R_elder' (nR_ HO272) (Kd.R_base ho0) hb); have n1_ := A_ (Kd.R_elder' (nR_ HO275) (Kd.R_base ho0) hb); have n2_ := A_ (Kd.R_lower (Kd.R_new' (Kd.R_new' (Kd.R_mono (ok' := fun k_ => True) ho0 (fun _ hk_ => trivial)) (Kd.R_lt (nR_ HO272))) (Kd.R_lt (nR_ HO275))) (below_size hs_)); have n3_ := A_ (blk_below (g := gb260) (o := .cells #[.slice A1_0 l1_0.length c1_0, .slice A1_1 l1_1.length c1_1] 43 (0, 0)) (nb_ BK260) hb); have n4_ := A_ (below_step hs_ hb); clear HO272 HO275 BK260 HB; have HO272 := n0_; have HO275 := n1_; have HO279 := n2_; have BK260 := n3_; have HB := n4_; clear n0_ n1_ n2_ n3_ n4_; (try clear hb); (try clear hb2); (try clear hk); (try clear hi); (try clear ho0)) | (go_at_call 22; (with_reducible refine (poly_Eval.calls kj3 a0 _ _ l1_0 a2 t281 t282 _ ?side1 ?side2 A26.out).mono ?_); (case side1 => repeat (first | exact (Kd.C_below HR1_0.out HB.out) | (with_reducible refine Kd.C_alloc ?_ _) | (with_reducible refine Kd.C_drewN ?_ _) | (with_reducible refine Kd.C_drew ?_))); (case side2 => exact HC1_0.out); rintro e w49 ⟨rfl, hb⟩; have n0_ := A_ (Kd.R_below (nR_ HO272) hb); have n1_ := A_ (Kd.R_below (nR_ HO275) hb); have n2_ := A_ (Kd.R_below (nR_ HO279) hb); have n3_ := A_ (blk_below (g := gb260) (o := .cells #[.slice A1_0 l1_0.length c1_0, .slice A1_1 l1_1.length c1_1] 43 (0, 0)) (nb_ BK260) hb); have n4_ := A_ (below_step hs_ hb); clear HO272 HO275 HO279 BK260 HB; have HO272 := n0_; have HO275 := n1_; have HO279 := n2_; have BK260 := n3_; have HB := n4_; clear n0_ n1_ n2_ n3_ n4_; (try clear hb); (try clear hb2); (try clear hk); (try clear hi)) | (go_at_call 22; (with_reducible refine (poly_Eval.calls kj3 a0 _ _ l1_1 a2 t283 t284 _ ?side1 ?side2 A27.out).mono ?_); (case side1 => repeat (first | exact (Kd.C_below HR1_1.out HB.out) | (with_reducible refine Kd.C_alloc ?_ _) | (with_reducible refine Kd.C_drewN ?_ _) | (with_reducible refine Kd.C_drew ?_))); (case side2 => exact HC1_1.out); rintro e w50 ⟨rfl, hb⟩; have n0_ := A_ (Kd.R_below (nR_ HO272) hb); have n1_ := A_ (Kd.R_below (nR_ HO275) hb); have n2_ := A_ (Kd.R_below (nR_ HO279) hb); have n3_ := A_ (blk_below (g := gb260) (o := .cells #[.slice A1_0 l1_0.length c1_0, .slice A1_1 l1_1.length c1_1] 43 (0, 0)) (nb_ BK260) hb); have n4_ := A_ (below_step hs_ hb); clear HO272 HO275 HO279 BK260 HB; have HO272 := n0_; have HO275 := n1_; have HO279 := n2_; have BK260 := n3_; have HB := n4_; clear n0_ n1_ n2_ n3_ n4_; (try clear hb); (try clear hb2); (try clear hk); (try clear hi); obtain ⟨Ao51, co51, eo51⟩ := Kd.R_slice HO272.out; subst eo51) | (go_at_call 22; (with_reducible refine (poly_Eval.calls kj3 a0 _ _ t269 a2 t285 t286 _ ?side1 ?side2 A28.out).mono ?_); (case side1 => repeat (first | exact (Kd.R_reads' HO272.out).2.2 | (with_reducible refine Kd.C_alloc ?_ _) | (with_reducible refine Kd.C_drewN ?_ _) | (with_reducible refine Kd.C_drew ?_))); (case side2 => exact (Kd.R_reads' HO272.out).2.1); rintro e w52 ⟨rfl, hb⟩; have n0_ := A_ (Kd.R_below (nR_ HO272) hb); have n1_ := A_ (Kd.R_below (nR_ HO275) hb); have n2_ := A_ (Kd.R_below (nR_ HO279) hb); have n3_ := A_ (blk_below (g := gb260) (o := .cells #[.slice A1_0 l1_0.length c1_0, .slice A1_1 l1_1.length c1_1] 43 (0, 0)) (nb_ BK260) hb); have n4_ := A_ (below_step hs_ hb); clear HO272 HO275 HO279 BK260 HB; have HO272 := n0_; have HO275 := n1_; have HO279 := n2_; have BK260 := n3_; have HB := n4_; clear n0_ n1_ n2_ n3_ n4_; (try clear hb); (try clear hb2); (try clear hk); (try clear hi); obtain ⟨Ao53, co53, eo53⟩ := Kd.R_slice HO275.out; subst eo53) | (go_at_call 22; (with_reducible refine (poly_Eval.calls kj3 a0 _ _ t273 a2 t287 t288 _ ?side1 ?side2 A29.out).mono ?_); (case side1 => repeat (first | exact (Kd.R_reads' HO275.out).2.2 | (with_reducible refine Kd.C_alloc ?_ _) | (with_reducible refine Kd.C_drewN ?_ _) | (with_reducible refine Kd.C_drew ?_))); (case side2 => exact (Kd.R_reads' HO275.out).2.1); rintro e w54 ⟨rfl, hb⟩; have n0_ := A_ (Kd.R_below (nR_ HO272) hb); have n1_ := A_ (Kd.R_below (nR_ HO275) hb); have n2_ := A_ (Kd.R_below (nR_ HO279) hb); have n3_ := A_ (blk_below (g := gb260) (o := .cells #[.slice A1_0 l1_0.length c1_0, .slice A1_1 l1_1.length c1_1] 43 (0, 0)) (nb_ BK260) hb); have n4_ := A_ (below_step hs_ hb); clear HO272 HO275 HO279 BK260 HB; have HO272 := n0_; have HO275 := n1_; have HO279 := n2_; have BK260 := n3_; have HB := n4_; clear n0_ n1_ n2_ n3_ n4_; (try clear hb); (try clear hb2); (try clear hk); (try clear hi); obtain ⟨Ao55, co55, eo55⟩ := Kd.R_slice HO279.out; subst eo55) | (go_at_call 22; (with_reducible refine (poly_Eval.calls kj3 a0 _ _ t277 a2 t289 t290 _ ?side1 ?side2 A30.out).mono ?_); (case side1 => repeat (first | exact (Kd.R_reads' HO279.out).2.2 | (with_reducible refine Kd.C_alloc ?_ _) | (with_reducible refine Kd.C_drewN ?_ _) | (with_reducible refine Kd.C_drew ?_))); (case side2 => exact (Kd.R_reads' HO279.out).2.1); rintro e w56 ⟨rfl, hb⟩; have n0_ := A_ (Kd.R_below (nR_ HO272) hb); have n1_ := A_ (Kd.R_below (nR_ HO275) hb); have n2_ := A_ (Kd.R_below (nR_ HO279) hb); have n3_ := A_ (blk_below (g := gb260) (o := .cells #[.slice A1_0 l1_0.length c1_0, .slice A1_1 l1_1.length c1_1] 43 (0, 0)) (nb_ BK260) hb); have n4_ := A_ (below_step hs_ hb); clear HO272 HO275 HO279 BK260 HB; have HO272 := n0_; have HO275 := n1_; have HO279 := n2_; have BK260 := n3_; have HB := n4_; clear n0_ n1_ n2_ n3_ n4_; (try clear hb); (try clear hb2); (try clear hk); (try clear hi)) | (go_at_call 22; (with_reducible refine (poly_Eval.calls kj3 a0 _ _ l1_0 t283 t291 t292 _ ?side1 ?side2 A31.out).mono ?_); (case side1 => repeat (first | exact (Kd.C_below HR1_0.out HB.out) | (with_reducible refine Kd.C_alloc ?_ _) | (with_reducible refine Kd.C_drewN ?_ _) | (with_reducible refine Kd.C_drew ?_))); (case side2 => exact HC1_0.out); rintro e w57 ⟨rfl, hb⟩; have n0_ := A_ (Kd.R_below (nR_ HO272) hb); have n1_ := A_ (Kd.R_below (nR_ HO275) hb); have n2_ := A_ (Kd.R_below (nR_ HO279) hb); have n3_ := A_ (blk_below (g := gb260) (o := .cells #[.slice A1_0 l1_0.length c1_0, .slice A1_1 l1_1.length c1_1] 43 (0, 0)) (nb_ BK260) hb); have n4_ := A_ (below_step hs_ hb); clear HO272 HO275 HO279 BK260 HB; have HO272 := n0_; have HO275 := n1_; have HO279 := n2_; have BK260 := n3_; have HB := n4_; clear n0_ n1_ n2_ n3_ n4_; (try clear hb); (try clear hb2); (try clear hk); (try clear hi)) | (go_at_call 27; (with_reducible refine (cr1_P.calls a0 t293 _ A32.out).mono ?_); rintro e w' ⟨rfl, ⟨nd, rfl⟩⟩; (try first | exact ⟨rfl, _, World.drewN_drewN _ _ _⟩ | exact ⟨rfl, _, Eq.trans (World.drewN_drewN _ _ _) (congrArg (World.drewN _) (Nat.add_assoc _ _ _))⟩)) | (go_at_call 24; (with_reducible refine (conclavelaw03_anchored.calls kj3  true _ A33.out).mono ?_); rintro e w58 ⟨rfl, hb⟩; have n0_ := A_ (Kd.R_below (nR_ HO272) hb); have n1_ := A_ (Kd.R_below (nR_ HO275) hb); have n2_ := A_ (Kd.R_below (nR_ HO279) hb); have n3_ := A_ (blk_below (g := gb260) (o := .cells #[.slice A1_0 l1_0.length c1_0, .slice A1_1 l1_1.length c1_1] 43 (0, 0)) (nb_ BK260) hb); have n4_ := A_ (below_step hs_ hb); clear HO272 HO275 HO279 BK260 HB; have HO272 := n0_; have HO275 := n1_; have HO279 := n2_; have BK260 := n3_; have HB := n4_; clear n0_ n1_ n2_ n3_ n4_; (try clear hb); (try clear hb2); (try clear hk); (try clear hi)) | (go_at_call 28; (with_reducible refine (cr1_Sum.calls t293 t281 t283 t295 _ A42.out).mono ?_); rintro e w' ⟨rfl, ⟨nd, rfl⟩⟩; (try first | exact ⟨rfl, _, World.drewN_drewN _ _ _⟩ | exact ⟨rfl, _, Eq.trans (World.drewN_drewN _ _ _) (congrArg (World.drewN _) (Nat.add_assoc _ _ _))⟩)) | (go_at_call 29; (with_reducible refine (cr1_Times.calls kj3 t293 t281 t283 t296 _ A44.out).mono ?_); rintro e w' ⟨rfl, ⟨nd, rfl⟩⟩; (try first | exact ⟨rfl, _, World.drewN_drewN _ _ _⟩ | exact ⟨rfl, _, Eq.trans (World.drewN_drewN _ _ _) (congrArg (World.drewN _) (Nat.add_assoc _ _ _))⟩)))
              repeat (go_quiet (first | (go_at_call 14; (with_reducible refine (poly_Add.calls kj3 a0 _ _ l1_0 _ _ l1_1 t269 t270 _ ?side1 ?side2 ?side3 ?side4 A23.out).mono ?_); (case side1 => repeat (first | exact (Kd.C_below HR1_0.out HB.out) | (with_reducible refine Kd.C_alloc ?_ _) | (with_reducible refine Kd.C_drewN ?_ _) | (with_reducible refine Kd.C_drew ?_))); (case side2 => exact HC1_0.out); (case side3 => repeat (first | exact (Kd.C_below HR1_1.out HB.out) | (with_reducible refine Kd.C_alloc ?_ _) | (with_reducible refine Kd.C_drewN ?_ _) | (with_reducible refine Kd.C_drew ?_))); (case side4 => exact HC1_1.out); rintro e w46 ⟨v271, rfl, ho0, hb⟩; have n0_ := A_ (Kd.R_lower ho0 (below_size hs_)); have n1_ := A_ (blk_below (g := gb260) (o := .cells #[.slice A1_0 l1_0.length c1_0, .slice A1_1 l1_1.length c1_1] 43 (0, 0)) (nb_ BK260) hb); have n2_ := A_ (below_step hs_ hb); clear BK260 HB; have HO272 := n0_; have BK260 := n1_; have HB := n2_; clear n0_ n1_ n2_; (try clear hb); (try clear hb2); (try clear hk); (try clear hi); (try clear ho0)) | (go_at_call 18; (with_reducible refine (poly_Mul.calls kj3 a0 (fun k_ => k_ < w.heap.size) _ _ l1_0 (fun k_ => k_ < w.heap.size) _ _ l1_1 t273 t276 _ ?side1 ?side2 A24.out).mono ?_); (case side1 => exact Kd.V_mk HC1_0.out (Kd.F_below (Kd.C_F (Kd.heap_int .u64) HR1_0.out) hs_)); (case side2 => exact Kd.V_mk HC1_1.out (Kd.F_below (Kd.C_F (Kd.heap_int .u64) HR1_1.out) hs_)); rintro e w47 ⟨v274, rfl, ho0, hb⟩; have n0_ := A_ (Kd.R_elder' (nR_ HO272) (Kd.R_base ho0) hb); have n1_ := A_ (Kd.R_lower (Kd.R_new' (Kd.R_mono (ok' := fun k_ => True) ho0 (fun _ hk_ => trivial)) (Kd.R_lt (nR_ HO272))) (below_size hs_)); have n2_ := A_ (blk_below (g := gb260) (o := .cells #[.slice A1_0 l1_0.length c1_0, .slice A1_1 l1_1.length c1_1] 43 (0, 0)) (nb_ BK260) hb); have n3_ := A_ (below_step hs_ hb); clear HO272 BK260 HB; have HO272 := n0_; have HO275 := n1_; have BK260 := n2_; have HB := n3_; clear n0_ n1_ n2_ n3_; (try clear hb); (try clear hb2); (try clear hk); (try clear hi); (try clear ho0)) | (go_at_call 26; (with_reducible refine (poly_Into.calls kj3 a0 (fun k_ => k_ < w.heap.size) _ _ l1_0 (fun k_ => k_ < w.heap.size) _ _ l1_1 t277 t280 _ ?side1 ?side2 A25.out).mono ?_); (case side1 => exact Kd.V_mk HC1_0.out (Kd.F_below (Kd.C_F (Kd.heap_int .u64) HR1_0.out) hs_)); (case side2 => exact Kd.V_mk HC1_1.out (Kd.F_below (Kd.C_F (Kd.heap_int .u64) HR1_1.out) hs_)); rintro e w48 ⟨v278, rfl, ho0, hb⟩; have n0_ := A_ (Kd.R_elder' (nR_ HO272) (Kd.R_base ho0) hb); have n1_ := A_ (Kd.R_elder' (nR_ HO275) (Kd.R_base ho0) hb); have n2_ := A_ (Kd.R_lower (Kd.R_new' (Kd.R_new' (Kd.R_mono (ok' := fun k_ => True) ho0 (fun _ hk_ => trivial)) (Kd.R_lt (nR_ HO272))) (Kd.R_lt (nR_ HO275))) (below_size hs_)); have n3_ := A_ (blk_below (g := gb260) (o := .cells #[.slice A1_0 l1_0.length c1_0, .slice A1_1 l1_1.length c1_1] 43 (0, 0)) (nb_ BK260) hb); have n4_ := A_ (below_step hs_ hb); clear HO272 HO275 BK260 HB; have HO272 := n0_; have HO275 := n1_; have HO279 := n2_; have BK260 := n3_; have HB := n4_; clear n0_ n1_ n2_ n3_ n4_; (try clear hb); (try clear hb2); (try clear hk); (try clear hi); (try clear ho0)) | (go_at_call 22; (with_reducible refine (poly_Eval.calls kj3 a0 _ _ l1_0 a2 t281 t282 _ ?side1 ?side2 A26.out).mono ?_); (case side1 => repeat (first | exact (Kd.C_below HR1_0.out HB.out) | (with_reducible refine Kd.C_alloc ?_ _) | (with_reducible refine Kd.C_drewN ?_ _) | (with_reducible refine Kd.C_drew ?_))); (case side2 => exact HC1_0.out); rintro e w49 ⟨rfl, hb⟩; have n0_ := A_ (Kd.R_below (nR_ HO272) hb); have n1_ := A_ (Kd.R_below (nR_ HO275) hb); have n2_ := A_ (Kd.R_below (nR_ HO279) hb); have n3_ := A_ (blk_below (g := gb260) (o := .cells #[.slice A1_0 l1_0.length c1_0, .slice A1_1 l1_1.length c1_1] 43 (0, 0)) (nb_ BK260) hb); have n4_ := A_ (below_step hs_ hb); clear HO272 HO275 HO279 BK260 HB; have HO272 := n0_; have HO275 := n1_; have HO279 := n2_; have BK260 := n3_; have HB := n4_; clear n0_ n1_ n2_ n3_ n4_; (try clear hb); (try clear hb2); (try clear hk); (try clear hi)) | (go_at_call 22; (with_reducible refine (poly_Eval.calls kj3 a0 _ _ l1_1 a2 t283 t284 _ ?side1 ?side2 A27.out).mono ?_); (case side1 => repeat (first | exact (Kd.C_below HR1_1.out HB.out) | (with_reducible refine Kd.C_alloc ?_ _) | (with_reducible refine Kd.C_drewN ?_ _) | (with_reducible refine Kd.C_drew ?_))); (case side2 => exact HC1_1.out); rintro e w50 ⟨rfl, hb⟩; have n0_ := A_ (Kd.R_below (nR_ HO272) hb); have n1_ := A_ (Kd.R_below (nR_ HO275) hb); have n2_ := A_ (Kd.R_below (nR_ HO279) hb); have n3_ := A_ (blk_below (g := gb260) (o := .cells #[.slice A1_0 l1_0.length c1_0, .slice A1_1 l1_1.length c1_1] 43 (0, 0)) (nb_ BK260) hb); have n4_ := A_ (below_step hs_ hb); clear HO272 HO275 HO279 BK260 HB; have HO272 := n0_; have HO275 := n1_; have HO279 := n2_; have BK260 := n3_; have HB := n4_; clear n0_ n1_ n2_ n3_ n4_; (try clear hb); (try clear hb2); (try clear hk); (try clear hi); obtain ⟨Ao51, co51, eo51⟩ := Kd.R_slice HO272.out; subst eo51) | (go_at_call 22; (with_reducible refine (poly_Eval.calls kj3 a0 _ _ t269 a2 t285 t286 _ ?side1 ?side2 A28.out).mono ?_); (case side1 => repeat (first | exact (Kd.R_reads' HO272.out).2.2 | (with_reducible refine Kd.C_alloc ?_ _) | (with_reducible refine Kd.C_drewN ?_ _) | (with_reducible refine Kd.C_drew ?_))); (case side2 => exact (Kd.R_reads' HO272.out).2.1); rintro e w52 ⟨rfl, hb⟩; have n0_ := A_ (Kd.R_below (nR_ HO272) hb); have n1_ := A_ (Kd.R_below (nR_ HO275) hb); have n2_ := A_ (Kd.R_below (nR_ HO279) hb); have n3_ := A_ (blk_below (g := gb260) (o := .cells #[.slice A1_0 l1_0.length c1_0, .slice A1_1 l1_1.length c1_1] 43 (0, 0)) (nb_ BK260) hb); have n4_ := A_ (below_step hs_ hb); clear HO272 HO275 HO279 BK260 HB; have HO272 := n0_; have HO275 := n1_; have HO279 := n2_; have BK260 := n3_; have HB := n4_; clear n0_ n1_ n2_ n3_ n4_; (try clear hb); (try clear hb2); (try clear hk); (try clear hi); obtain ⟨Ao53, co53, eo53⟩ := Kd.R_slice HO275.out; subst eo53) | (go_at_call 22; (with_reducible refine (poly_Eval.calls kj3 a0 _ _ t273 a2 t287 t288 _ ?side1 ?side2 A29.out).mono ?_); (case side1 => repeat (first | exact (Kd.R_reads' HO275.out).2.2 | (with_reducible refine Kd.C_alloc ?_ _) | (with_reducible refine Kd.C_drewN ?_ _) | (with_reducible refine Kd.C_drew ?_))); (case side2 => exact (Kd.R_reads' HO275.out).2.1); rintro e w54 ⟨rfl, hb⟩; have n0_ := A_ (Kd.R_below (nR_ HO272) hb); have n1_ := A_ (Kd.R_below (nR_ HO275) hb); have n2_ := A_ (Kd.R_below (nR_ HO279) hb); have n3_ := A_ (blk_below (g := gb260) (o := .cells #[.slice A1_0 l1_0.length c1_0, .slice A1_1 l1_1.length c1_1] 43 (0, 0)) (nb_ BK260) hb); have n4_ := A_ (below_step hs_ hb); clear HO272 HO275 HO279 BK260 HB; have HO272 := n0_; have HO275 := n1_; have HO279 := n2_; have BK260 := n3_; have HB := n4_; clear n0_ n1_ n2_ n3_ n4_; (try clear hb); (try clear hb2); (try clear hk); (try clear hi); obtain ⟨Ao55, co55, eo55⟩ := Kd.R_slice HO279.out; subst eo55) | (go_at_call 22; (with_reducible refine (poly_Eval.calls kj3 a0 _ _ t277 a2 t289 t290 _ ?side1 ?side2 A30.out).mono ?_); (case side1 => repeat (first | exact (Kd.R_reads' HO279.out).2.2 | (with_reducible refine Kd.C_alloc ?_ _) | (with_reducible refine Kd.C_drewN ?_ _) | (with_reducible refine Kd.C_drew ?_))); (case side2 => exact (Kd.R_reads' HO279.out).2.1); rintro e w56 ⟨rfl, hb⟩; have n0_ := A_ (Kd.R_below (nR_ HO272) hb); have n1_ := A_ (Kd.R_below (nR_ HO275) hb); have n2_ := A_ (Kd.R_below (nR_ HO279) hb); have n3_ := A_ (blk_below (g := gb260) (o := .cells #[.slice A1_0 l1_0.length c1_0, .slice A1_1 l1_1.length c1_1] 43 (0, 0)) (nb_ BK260) hb); have n4_ := A_ (below_step hs_ hb); clear HO272 HO275 HO279 BK260 HB; have HO272 := n0_; have HO275 := n1_; have HO279 := n2_; have BK260 := n3_; have HB := n4_; clear n0_ n1_ n2_ n3_ n4_; (try clear hb); (try clear hb2); (try clear hk); (try clear hi)) | (go_at_call 22; (with_reducible refine (poly_Eval.calls kj3 a0 _ _ l1_0 t283 t291 t292 _ ?side1 ?side2 A31.out).mono ?_); (case side1 => repeat (first | exact (Kd.C_below HR1_0.out HB.out) | (with_reducible refine Kd.C_alloc ?_ _) | (with_reducible refine Kd.C_drewN ?_ _) | (with_reducible refine Kd.C_drew ?_))); (case side2 => exact HC1_0.out); rintro e w57 ⟨rfl, hb⟩; have n0_ := A_ (Kd.R_below (nR_ HO272) hb); have n1_ := A_ (Kd.R_below (nR_ HO275) hb); have n2_ := A_ (Kd.R_below (nR_ HO279) hb); have n3_ := A_ (blk_below (g := gb260) (o := .cells #[.slice A1_0 l1_0.length c1_0, .slice A1_1 l1_1.length c1_1] 43 (0, 0)) (nb_ BK260) hb); have n4_ := A_ (below_step hs_ hb); clear HO272 HO275 HO279 BK260 HB; have HO272 := n0_; have HO275 := n1_; have HO279 := n2_; have BK260 := n3_; have HB := n4_; clear n0_ n1_ n2_ n3_ n4_; (try clear hb); (try clear hb2); (try clear hk); (try clear hi)) | (go_at_call 27; (with_reducible refine (cr1_P.calls a0 t293 _ A32.out).mono ?_); rintro e w' ⟨rfl, ⟨nd, rfl⟩⟩; (try first | exact ⟨rfl, _, World.drewN_drewN _ _ _⟩ | exact ⟨rfl, _, Eq.trans (World.drewN_drewN _ _ _) (congrArg (World.drewN _) (Nat.add_assoc _ _ _))⟩)) | (go_at_call 24; (with_reducible refine (conclavelaw03_anchored.calls kj3  true _ A33.out).mono ?_); rintro e w58 ⟨rfl, hb⟩; have n0_ := A_ (Kd.R_below (nR_ HO272) hb); have n1_ := A_ (Kd.R_below (nR_ HO275) hb); have n2_ := A_ (Kd.R_below (nR_ HO279) hb); have n3_ := A_ (blk_below (g := gb260) (o := .cells #[.slice A1_0 l1_0.length c1_0, .slice A1_1 l1_1.length c1_1] 43 (0, 0)) (nb_ BK260) hb); have n4_ := A_ (below_step hs_ hb); clear HO272 HO275 HO279 BK260 HB; have HO272 := n0_; have HO275 := n1_; have HO279 := n2_; have BK260 := n3_; have HB := n4_; clear n0_ n1_ n2_ n3_ n4_; (try clear hb); (try clear hb2); (try clear hk); (try clear hi)) | (go_at_call 28; (with_reducible refine (cr1_Sum.calls t293 t281 t283 t295 _ A42.out).mono ?_); rintro e w' ⟨rfl, ⟨nd, rfl⟩⟩; (try first | exact ⟨rfl, _, World.drewN_drewN _ _ _⟩ | exact ⟨rfl, _, Eq.trans (World.drewN_drewN _ _ _) (congrArg (World.drewN _) (Nat.add_assoc _ _ _))⟩)) | (go_at_call 29; (with_reducible refine (cr1_Times.calls kj3 t293 t281 t283 t296 _ A44.out).mono ?_); rintro e w' ⟨rfl, ⟨nd, rfl⟩⟩; (try first | exact ⟨rfl, _, World.drewN_drewN _ _ _⟩ | exact ⟨rfl, _, Eq.trans (World.drewN_drewN _ _ _) (congrArg (World.drewN _) (Nat.add_assoc _ _ _))⟩))); try go_wp2_with (first | (go_at_call 14; (with_reducible refine (poly_Add.calls kj3 a0 _ _ l1_0 _ _ l1_1 t269 t270 _ ?side1 ?side2 ?side3 ?side4 A23.out).mono ?_); (case side1 => repeat (first | exact (Kd.C_below HR1_0.out HB.out) | (with_reducible refine Kd.C_alloc ?_ _) | (with_reducible refine Kd.C_drewN ?_ _) | (with_reducible refine Kd.C_drew ?_))); (case side2 => exact HC1_0.out); (case side3 => repeat (first | exact (Kd.C_below HR1_1.out HB.out) | (with_reducible refine Kd.C_alloc ?_ _) | (with_reducible refine Kd.C_drewN ?_ _) | (with_reducible refine Kd.C_drew ?_))); (case side4 => exact HC1_1.out); rintro e w46 ⟨v271, rfl, ho0, hb⟩; have n0_ := A_ (Kd.R_lower ho0 (below_size hs_)); have n1_ := A_ (blk_below (g := gb260) (o := .cells #[.slice A1_0 l1_0.length c1_0, .slice A1_1 l1_1.length c1_1] 43 (0, 0)) (nb_ BK260) hb); have n2_ := A_ (below_step hs_ hb); clear BK260 HB; have HO272 := n0_; have BK260 := n1_; have HB := n2_; clear n0_ n1_ n2_; (try clear hb); (try clear hb2); (try clear hk); (try clear hi); (try clear ho0)) | (go_at_call 18; (with_reducible refine (poly_Mul.calls kj3 a0 (fun k_ => k_ < w.heap.size) _ _ l1_0 (fun k_ => k_ < w.heap.size) _ _ l1_1 t273 t276 _ ?side1 ?side2 A24.out).mono ?_); (case side1 => exact Kd.V_mk HC1_0.out (Kd.F_below (Kd.C_F (Kd.heap_int .u64) HR1_0.out) hs_)); (case side2 => exact Kd.V_mk HC1_1.out (Kd.F_below (Kd.C_F (Kd.heap_int .u64) HR1_1.out) hs_)); rintro e w47 ⟨v274, rfl, ho0, hb⟩; have n0_ := A_ (Kd.R_elder' (nR_ HO272) (Kd.R_base ho0) hb); have n1_ := A_ (Kd.R_lower (Kd.R_new' (Kd.R_mono (ok' := fun k_ => True) ho0 (fun _ hk_ => trivial)) (Kd.R_lt (nR_ HO272))) (below_size hs_)); have n2_ := A_ (blk_below (g := gb260) (o := .cells #[.slice A1_0 l1_0.length c1_0, .slice A1_1 l1_1.length c1_1] 43 (0, 0)) (nb_ BK260) hb); have n3_ := A_ (below_step hs_ hb); clear HO272 BK260 HB; have HO272 := n0_; have HO275 := n1_; have BK260 := n2_; have HB := n3_; clear n0_ n1_ n2_ n3_; (try clear hb); (try clear hb2); (try clear hk); (try clear hi); (try clear ho0)) | (go_at_call 26; (with_reducible refine (poly_Into.calls kj3 a0 (fun k_ => k_ < w.heap.size) _ _ l1_0 (fun k_ => k_ < w.heap.size) _ _ l1_1 t277 t280 _ ?side1 ?side2 A25.out).mono ?_); (case side1 => exact Kd.V_mk HC1_0.out (Kd.F_below (Kd.C_F (Kd.heap_int .u64) HR1_0.out) hs_)); (case side2 => exact Kd.V_mk HC1_1.out (Kd.F_below (Kd.C_F (Kd.heap_int .u64) HR1_1.out) hs_)); rintro e w48 ⟨v278, rfl, ho0, hb⟩; have n0_ := A_ (Kd.R_elder' (nR_ HO272) (Kd.R_base ho0) hb); have n1_ := A_ (Kd.R_elder' (nR_ HO275) (Kd.R_base ho0) hb); have n2_ := A_ (Kd.R_lower (Kd.R_new' (Kd.R_new' (Kd.R_mono (ok' := fun k_ => True) ho0 (fun _ hk_ => trivial)) (Kd.R_lt (nR_ HO272))) (Kd.R_lt (nR_ HO275))) (below_size hs_)); have n3_ := A_ (blk_below (g := gb260) (o := .cells #[.slice A1_0 l1_0.length c1_0, .slice A1_1 l1_1.length c1_1] 43 (0, 0)) (nb_ BK260) hb); have n4_ := A_ (below_step hs_ hb); clear HO272 HO275 BK260 HB; have HO272 := n0_; have HO275 := n1_; have HO279 := n2_; have BK260 := n3_; have HB := n4_; clear n0_ n1_ n2_ n3_ n4_; (try clear hb); (try clear hb2); (try clear hk); (try clear hi); (try clear ho0)) | (go_at_call 22; (with_reducible refine (poly_Eval.calls kj3 a0 _ _ l1_0 a2 t281 t282 _ ?side1 ?side2 A26.out).mono ?_); (case side1 => repeat (first | exact (Kd.C_below HR1_0.out HB.out) | (with_reducible refine Kd.C_alloc ?_ _) | (with_reducible refine Kd.C_drewN ?_ _) | (with_reducible refine Kd.C_drew ?_))); (case side2 => exact HC1_0.out); rintro e w49 ⟨rfl, hb⟩; have n0_ := A_ (Kd.R_below (nR_ HO272) hb); have n1_ := A_ (Kd.R_below (nR_ HO275) hb); have n2_ := A_ (Kd.R_below (nR_ HO279) hb); have n3_ := A_ (blk_below (g := gb260) (o := .cells #[.slice A1_0 l1_0.length c1_0, .slice A1_1 l1_1.length c1_1] 43 (0, 0)) (nb_ BK260) hb); have n4_ := A_ (below_step hs_ hb); clear HO272 HO275 HO279 BK260 HB; have HO272 := n0_; have HO275 := n1_; have HO279 := n2_; have BK260 := n3_; have HB := n4_; clear n0_ n1_ n2_ n3_ n4_; (try clear hb); (try clear hb2); (try clear hk); (try clear hi)) | (go_at_call 22; (with_reducible refine (poly_Eval.calls kj3 a0 _ _ l1_1 a2 t283 t284 _ ?side1 ?side2 A27.out).mono ?_); (case side1 => repeat (first | exact (Kd.C_below HR1_1.out HB.out) | (with_reducible refine Kd.C_alloc ?_ _) | (with_reducible refine Kd.C_drewN ?_ _) | (with_reducible refine Kd.C_drew ?_))); (case side2 => exact HC1_1.out); rintro e w50 ⟨rfl, hb⟩; have n0_ := A_ (Kd.R_below (nR_ HO272) hb); have n1_ := A_ (Kd.R_below (nR_ HO275) hb); have n2_ := A_ (Kd.R_below (nR_ HO279) hb); have n3_ := A_ (blk_below (g := gb260) (o := .cells #[.slice A1_0 l1_0.length c1_0, .slice A1_1 l1_1.length c1_1] 43 (0, 0)) (nb_ BK260) hb); have n4_ := A_ (below_step hs_ hb); clear HO272 HO275 HO279 BK260 HB; have HO272 := n0_; have HO275 := n1_; have HO279 := n2_; have BK260 := n3_; have HB := n4_; clear n0_ n1_ n2_ n3_ n4_; (try clear hb); (try clear hb2); (try clear hk); (try clear hi); obtain ⟨Ao51, co51, eo51⟩ := Kd.R_slice HO272.out; subst eo51) | (go_at_call 22; (with_reducible refine (poly_Eval.calls kj3 a0 _ _ t269 a2 t285 t286 _ ?side1 ?side2 A28.out).mono ?_); (case side1 => repeat (first | exact (Kd.R_reads' HO272.out).2.2 | (with_reducible refine Kd.C_alloc ?_ _) | (with_reducible refine Kd.C_drewN ?_ _) | (with_reducible refine Kd.C_drew ?_))); (case side2 => exact (Kd.R_reads' HO272.out).2.1); rintro e w52 ⟨rfl, hb⟩; have n0_ := A_ (Kd.R_below (nR_ HO272) hb); have n1_ := A_ (Kd.R_below (nR_ HO275) hb); have n2_ := A_ (Kd.R_below (nR_ HO279) hb); have n3_ := A_ (blk_below (g := gb260) (o := .cells #[.slice A1_0 l1_0.length c1_0, .slice A1_1 l1_1.length c1_1] 43 (0, 0)) (nb_ BK260) hb); have n4_ := A_ (below_step hs_ hb); clear HO272 HO275 HO279 BK260 HB; have HO272 := n0_; have HO275 := n1_; have HO279 := n2_; have BK260 := n3_; have HB := n4_; clear n0_ n1_ n2_ n3_ n4_; (try clear hb); (try clear hb2); (try clear hk); (try clear hi); obtain ⟨Ao53, co53, eo53⟩ := Kd.R_slice HO275.out; subst eo53) | (go_at_call 22; (with_reducible refine (poly_Eval.calls kj3 a0 _ _ t273 a2 t287 t288 _ ?side1 ?side2 A29.out).mono ?_); (case side1 => repeat (first | exact (Kd.R_reads' HO275.out).2.2 | (with_reducible refine Kd.C_alloc ?_ _) | (with_reducible refine Kd.C_drewN ?_ _) | (with_reducible refine Kd.C_drew ?_))); (case side2 => exact (Kd.R_reads' HO275.out).2.1); rintro e w54 ⟨rfl, hb⟩; have n0_ := A_ (Kd.R_below (nR_ HO272) hb); have n1_ := A_ (Kd.R_below (nR_ HO275) hb); have n2_ := A_ (Kd.R_below (nR_ HO279) hb); have n3_ := A_ (blk_below (g := gb260) (o := .cells #[.slice A1_0 l1_0.length c1_0, .slice A1_1 l1_1.length c1_1] 43 (0, 0)) (nb_ BK260) hb); have n4_ := A_ (below_step hs_ hb); clear HO272 HO275 HO279 BK260 HB; have HO272 := n0_; have HO275 := n1_; have HO279 := n2_; have BK260 := n3_; have HB := n4_; clear n0_ n1_ n2_ n3_ n4_; (try clear hb); (try clear hb2); (try clear hk); (try clear hi); obtain ⟨Ao55, co55, eo55⟩ := Kd.R_slice HO279.out; subst eo55) | (go_at_call 22; (with_reducible refine (poly_Eval.calls kj3 a0 _ _ t277 a2 t289 t290 _ ?side1 ?side2 A30.out).mono ?_); (case side1 => repeat (first | exact (Kd.R_reads' HO279.out).2.2 | (with_reducible refine Kd.C_alloc ?_ _) | (with_reducible refine Kd.C_drewN ?_ _) | (with_reducible refine Kd.C_drew ?_))); (case side2 => exact (Kd.R_reads' HO279.out).2.1); rintro e w56 ⟨rfl, hb⟩; have n0_ := A_ (Kd.R_below (nR_ HO272) hb); have n1_ := A_ (Kd.R_below (nR_ HO275) hb); have n2_ := A_ (Kd.R_below (nR_ HO279) hb); have n3_ := A_ (blk_below (g := gb260) (o := .cells #[.slice A1_0 l1_0.length c1_0, .slice A1_1 l1_1.length c1_1] 43 (0, 0)) (nb_ BK260) hb); have n4_ := A_ (below_step hs_ hb); clear HO272 HO275 HO279 BK260 HB; have HO272 := n0_; have HO275 := n1_; have HO279 := n2_; have BK260 := n3_; have HB := n4_; clear n0_ n1_ n2_ n3_ n4_; (try clear hb); (try clear hb2); (try clear hk); (try clear hi)) | (go_at_call 22; (with_reducible refine (poly_Eval.calls kj3 a0 _ _ l1_0 t283 t291 t292 _ ?side1 ?side2 A31.out).mono ?_); (case side1 => repeat (first | exact (Kd.C_below HR1_0.out HB.out) | (with_reducible refine Kd.C_alloc ?_ _) | (with_reducible refine Kd.C_drewN ?_ _) | (with_reducible refine Kd.C_drew ?_))); (case side2 => exact HC1_0.out); rintro e w57 ⟨rfl, hb⟩; have n0_ := A_ (Kd.R_below (nR_ HO272) hb); have n1_ := A_ (Kd.R_below (nR_ HO275) hb); have n2_ := A_ (Kd.R_below (nR_ HO279) hb); have n3_ := A_ (blk_below (g := gb260) (o := .cells #[.slice A1_0 l1_0.length c1_0, .slice A1_1 l1_1.length c1_1] 43 (0, 0)) (nb_ BK260) hb); have n4_ := A_ (below_step hs_ hb); clear HO272 HO275 HO279 BK260 HB; have HO272 := n0_; have HO275 := n1_; have HO279 := n2_; have BK260 := n3_; have HB := n4_; clear n0_ n1_ n2_ n3_ n4_; (try clear hb); (try clear hb2); (try clear hk); (try clear hi)) | (go_at_call 27; (with_reducible refine (cr1_P.calls a0 t293 _ A32.out).mono ?_); rintro e w' ⟨rfl, ⟨nd, rfl⟩⟩; (try first | exact ⟨rfl, _, World.drewN_drewN _ _ _⟩ | exact ⟨rfl, _, Eq.trans (World.drewN_drewN _ _ _) (congrArg (World.drewN _) (Nat.add_assoc _ _ _))⟩)) | (go_at_call 24; (with_reducible refine (conclavelaw03_anchored.calls kj3  true _ A33.out).mono ?_); rintro e w58 ⟨rfl, hb⟩; have n0_ := A_ (Kd.R_below (nR_ HO272) hb); have n1_ := A_ (Kd.R_below (nR_ HO275) hb); have n2_ := A_ (Kd.R_below (nR_ HO279) hb); have n3_ := A_ (blk_below (g := gb260) (o := .cells #[.slice A1_0 l1_0.length c1_0, .slice A1_1 l1_1.length c1_1] 43 (0, 0)) (nb_ BK260) hb); have n4_ := A_ (below_step hs_ hb); clear HO272 HO275 HO279 BK260 HB; have HO272 := n0_; have HO275 := n1_; have HO279 := n2_; have BK260 := n3_; have HB := n4_; clear n0_ n1_ n2_ n3_ n4_; (try clear hb); (try clear hb2); (try clear hk); (try clear hi)) | (go_at_call 28; (with_reducible refine (cr1_Sum.calls t293 t281 t283 t295 _ A42.out).mono ?_); rintro e w' ⟨rfl, ⟨nd, rfl⟩⟩; (try first | exact ⟨rfl, _, World.drewN_drewN _ _ _⟩ | exact ⟨rfl, _, Eq.trans (World.drewN_drewN _ _ _) (congrArg (World.drewN _) (Nat.add_assoc _ _ _))⟩)) | (go_at_call 29; (with_reducible refine (cr1_Times.calls kj3 t293 t281 t283 t296 _ A44.out).mono ?_); rintro e w' ⟨rfl, ⟨nd, rfl⟩⟩; (try first | exact ⟨rfl, _, World.drewN_drewN _ _ _⟩ | exact ⟨rfl, _, Eq.trans (World.drewN_drewN _ _ _) (congrArg (World.drewN _) (Nat.add_assoc _ _ _))⟩))))
              go_ret
              exact ⟨fr_, hs_⟩
             ·rw [if_neg c45] at H
              exact absurd H (by simp)
            ·rw [if_neg c43] at H
             exact absurd H (by simp)
           ·rw [if_neg c41] at H
            exact absurd H (by simp)
          ·rw [if_neg c40] at H
           exact absurd H (by simp)
         ·rw [if_neg c39] at H
          exact absurd H (by simp)
        ·rw [if_neg c38] at H
         exact absurd H (by simp)
       ·rw [if_neg c37] at H
        exact absurd H (by simp)
      ·rw [if_neg c36] at H
       exact absurd H (by simp)
     ·rw [if_neg c35] at H
      exact absurd H (by simp)
    ·replace c34 := Bool.eq_false_iff.mpr c34
     subst c34
     have H1 : (none) = some r := by rw [if_neg (show ¬ (false = true) by decide)] at H; exact H
     clear H
     have H := H1
     clear H1
     exact absurd H (by simp)
/-- THE ONE PURE STATEMENT of conclavelaw03_PolyGoes: yours. -/
def conclavelaw03_PolyGoes.Pure : Prop := ∀ (a0 : Int) (l1_0 : List Int) (l1_1 : List Int) (a2 : Int), (Lit.int .u8 a0).wf = true → l1_0.length ≤ maxLen → l1_0.length * 8 ≤ 140737488351232 → (∀ x ∈ l1_0, (Lit.int .u64 x).wf = true) → l1_1.length ≤ maxLen → l1_1.length * 8 ≤ 140737488351232 → (∀ x ∈ l1_1, (Lit.int .u64 x).wf = true) → (Lit.int .u64 a2).wf = true → ∃ k, conclavelaw03_PolyGoes.f k a0 l1_0 l1_1 a2 = some true
theorem conclavelaw03_PolyGoes.walk (P : conclavelaw03_PolyGoes.Pure) (a0 : Int) (a1_0 : Option Addr) (len1_0 cap1_0 : Nat) (z1_0 : List Int) (a1_1 : Option Addr) (len1_1 cap1_1 : Nat) (z1_1 : List Int) (a2 : Int) (w : World) (w0 : (Lit.int .u8 a0).wf = true) (w1_0 : (a1_0 = none ∧ len1_0 = 0 ∧ cap1_0 = 0 ∧ z1_0 = []) ∨ ∃ x, a1_0 = some x ∧ len1_0 ≤ cap1_0 ∧ cap1_0 ≤ maxLen ∧ z1_0.length = cap1_0 ∧ (∀ i, i < z1_0.length → w.cell? (x.add i) = some (.int .u64 (z1_0.getD i 0))) ∧ ∀ n ∈ z1_0, (Lit.int .u64 n).wf = true) (y1_0 : len1_0 * 8 ≤ 140737488351232) (w1_1 : (a1_1 = none ∧ len1_1 = 0 ∧ cap1_1 = 0 ∧ z1_1 = []) ∨ ∃ x, a1_1 = some x ∧ len1_1 ≤ cap1_1 ∧ cap1_1 ≤ maxLen ∧ z1_1.length = cap1_1 ∧ (∀ i, i < z1_1.length → w.cell? (x.add i) = some (.int .u64 (z1_1.getD i 0))) ∧ ∀ n ∈ z1_1, (Lit.int .u64 n).wf = true) (y1_1 : len1_1 * 8 ≤ 140737488351232) (w2 : (Lit.int .u64 a2).wf = true) :
  Calls Try.prog 6 #[.int .u8 a0, .agg #[.slice a1_0 len1_0 cap1_0, .slice a1_1 len1_1 cap1_1], .int .u64 a2] w fun e w' => e = .returned (.bool true) ∧ Below w.heap.size w w' := by
 obtain ⟨l1_0, rfl, hr1_0, hm1_0, hw1_0, hc1_0⟩ := ReadsInt.ofRowC w1_0
 obtain ⟨l1_1, rfl, hr1_1, hm1_1, hw1_1, hc1_1⟩ := ReadsInt.ofRowC w1_1
 obtain ⟨k, h⟩ := P a0 l1_0 l1_1 a2 w0 hm1_0 y1_0 hw1_0 hm1_1 y1_1 hw1_1 w2
 refine (conclavelaw03_PolyGoes.calls k a0 _ _ l1_0 _ _ l1_1 a2 true w (Kd.C_of_reads (d := (0 : Int)) (h1 := fun _ => rfl) hr1_0) hc1_0 (Kd.C_of_reads (d := (0 : Int)) (h1 := fun _ => rfl) hr1_1) hc1_1 h).mono ?_
 rintro e w' ⟨rfl, hd⟩
 exact ⟨rfl, hd⟩
end Go.Proofs.Ytbjanbbjjnoecaa.PPolyGoes
