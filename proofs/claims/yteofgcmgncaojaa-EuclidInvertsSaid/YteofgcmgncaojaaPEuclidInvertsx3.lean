/- The Go functions as Lean functions, each with the proof that its call comes to just that; written by a program of this session, by the words of the print. -/
import Derived.Test.YteofgcmgncaojaaPEuclidInvertsx0
import Derived.Test.YteofgcmgncaojaaPEuclidInvertsx1
import Derived.Test.YteofgcmgncaojaaPEuclidInvertsx2
namespace Go.Proofs.Yteofgcmgncaojaa.PEuclidInverts
open Go.RowKit Go.Proofs.YteofgcmgncaojaaW.PrintWords Go.Proofs.YteofgcmgncaojaaW.PrintLast Go.Proofs.YteofgcmgncaojaaW.PrintMore
attribute [local go_sem] max2_int min2_int max_two min_two max_three min_three max_four min_four   -- for this text's walks alone
set_option linter.unusedVariables false
set_option linter.unusedSimpArgs false
/-! ### field_Inv: function 35 -/
def field_Inv.f (k : Nat) (a0 : Int) (a1 : Int) : Option (Int × Int) := (field_Div.f k a0 1 a1).bind fun bt167 => (some (bt167.1, bt167.2))
theorem field_Inv.mono : ∀ a0 a1 k, LeO (field_Inv.f k a0 a1) (field_Inv.f (k + 1) a0 a1) := by
 intro a0 a1 k
 unfold field_Inv.f
 repeat' first
   | (with_reducible exact field_Div.mono _ _ _ _)
   | (with_reducible exact LeO.refl _)
   | (with_reducible exact LeO.none _)
   | (with_reducible refine LeO.ite ?_ ?_)
   | (with_reducible refine LeO.bind ?_ (fun _ => ?_))
   | exact field_Div.mono _ _ _ _
   | exact LeO.none _
   | refine LeO.ite ?_ ?_
   | refine LeO.bind ?_ (fun _ => ?_)
set_option maxHeartbeats 8000000 in
set_option maxRecDepth 100000 in
theorem field_Inv.calls (k : Nat) (a0 : Int) (a1 : Int) (r1 : Int) (r2 : Int) (w : World) (h : field_Inv.f k a0 a1 = some (r1, r2)) :
  Calls Try.prog 35 #[.int .u8 a0, .int .u64 a1] w fun e w' => e = .returned (.tuple #[.int .u64 r1, .int .i64 r2]) ∧ Below w.heap.size w w' := by
 have HB := A_ (Below.refl w.heap.size w)
 have H : ((field_Div.f k a0 1 a1).bind fun bt167 => (some (bt167.1, bt167.2))) = some (r1, r2) := h
 clear h
 replace H := Option.bind_eq_some_iff.mp H
 obtain ⟨⟨t167, t168⟩, A30, H⟩ := H
 replace H : (some (t167, t168)) = some (r1, r2) := H
 have A3 := Aside0.mk A30
 clear A30
 simp only [Option.some.injEq, Prod.mk.injEq] at H
 obtain ⟨rfl, rfl⟩ := H
 go_enter Try.func35, Try.ntmps35
 go_wp2_with (first | ((with_reducible refine gate_callee (f := 53) rfl ?_); refine goesM_ (some 8) Try.func53 #[.int .u8 a0, .int .u64 1, .int .u64 a1] ?_; (with_reducible refine (field_Div.calls k a0 1 a1 t167 t168 _ A3.out).mono ?_); rintro e w4 ⟨rfl, hb⟩; refine ⟨_, rfl, ?_⟩; have n0_ := A_ (below_step hb_ hb); clear HB; have HB := n0_; clear n0_; (try clear hb)))
 go_ret2
 exact ⟨fr_, hb_⟩
/-! ### poly_may: function 49 -/
def poly_may.l0 : Nat → Int → Int → List (List Int) → Int → Int → Option (Int)
 | 0, _, _, _, _, _ => none
 | k + 1, x0, x5, x11, x12, x13 => if x13 < x12 then (if 0 ≤ x13 then (if x13 < (x11.length : Int) then ((field_In.f k x0 (rd_L1 x11 x13)).bind fun t171 => (if t171 = true then (if ((rd_L1 x11 x13).length : Int) > 4096 then (poly_may.l0 k x0 4 x11 x12 (wrap64 (x13 + 1))) else (poly_may.l0 k x0 x5 x11 x12 (wrap64 (x13 + 1)))) else (some 2))) else (none)) else (none)) else (some x5)
def poly_may.f (k : Nat) (a0 : Int) (l1 : List (List Int)) : Option (Int) := (field_In.f k a0 ([] : List Int)).bind fun t169 => (if t169 = true then (poly_may.l0 k a0 0 l1 (l1.length : Int) 0) else (some 2))
theorem poly_may.mono_l : ∀ k, (∀ y0 y1 y2 y3 y4, LeO (poly_may.l0 k y0 y1 y2 y3 y4) (poly_may.l0 (k + 1) y0 y1 y2 y3 y4))
 | 0 => fun _ _ _ _ _ r h => by simp [poly_may.l0] at h
 | k + 1 => by
  have ih0 := poly_may.mono_l k
  ·intro y0 y1 y2 y3 y4
   unfold poly_may.l0
   repeat' first
   | (with_reducible exact ih0 _ _ _ _ _)
   | (with_reducible exact field_In.mono _ _ _)
   | (with_reducible exact LeO.refl _)
   | (with_reducible exact LeO.none _)
   | (with_reducible refine LeO.ite ?_ ?_)
   | (with_reducible refine LeO.bind ?_ (fun _ => ?_))
   | exact ih0 _ _ _ _ _
   | exact field_In.mono _ _ _
   | exact LeO.none _
   | refine LeO.ite ?_ ?_
   | refine LeO.bind ?_ (fun _ => ?_)
theorem poly_may.mono : ∀ a0 a1 k, LeO (poly_may.f k a0 a1) (poly_may.f (k + 1) a0 a1) := by
 intro a0 a1 k
 have ih0 := poly_may.mono_l k
 unfold poly_may.f
 repeat' first
   | (with_reducible exact ih0 _ _ _ _ _)
   | (with_reducible exact field_In.mono _ _ _)
   | (with_reducible exact LeO.refl _)
   | (with_reducible exact LeO.none _)
   | (with_reducible refine LeO.ite ?_ ?_)
   | (with_reducible refine LeO.bind ?_ (fun _ => ?_))
   | exact ih0 _ _ _ _ _
   | exact field_In.mono _ _ _
   | exact LeO.none _
   | refine LeO.ite ?_ ?_
   | refine LeO.bind ?_ (fun _ => ?_)
set_option maxHeartbeats 8000000 in
set_option maxRecDepth 100000 in
theorem poly_may.calls (k : Nat) (a0 : Int) (A1 : Option Addr) (c1 : Nat) (l1 : List (List Int)) (r : Int) (w : World) (hr1 : Kd.C (Kd.slice 40 (Kd.int .u64)) w A1 l1.length l1) (hc1 : l1.length ≤ c1) (h : poly_may.f k a0 l1 = some r) :
  Calls Try.prog 49 #[.int .u8 a0, .slice A1 l1.length c1] w fun e w' => e = .returned (.int .i64 r) ∧ Below w.heap.size w w' := by
 have HR1 := Aside0.mk hr1
 have HC1 := Aside0.mk hc1
 clear hr1 hc1
 have HB := A_ (Below.refl w.heap.size w)
 have H : ((field_In.f k a0 ([] : List Int)).bind fun t169 => (if t169 = true then (poly_may.l0 k a0 0 l1 (l1.length : Int) 0) else (some 2))) = some r := h
 clear h
 replace H := Option.bind_eq_some_iff.mp H
 obtain ⟨t169, A30, H⟩ := H
 replace H : (if t169 = true then (poly_may.l0 k a0 0 l1 (l1.length : Int) 0) else (some 2)) = some r := H
 have A3 := Aside0.mk A30
 clear A30
 have HC4 := Aside0.mk H
 clear H
 go_enter Try.func49, Try.ntmps49
 go_upto_if 10 with (first | ((with_reducible refine gate_callee (f := 46) rfl ?_); refine goesM_ (some 9) Try.func46 #[.int .u8 a0, .slice none 0 0] ?_; (refine (field_In.calls k a0 _ _ ([] : List Int) t169 _ ?side1 ?side2 A3.out).mono ?_); (case side1 => exact Kd.C_nil _ _); (case side2 => exact Nat.le_refl _); rintro e w5 ⟨rfl, hb⟩; refine ⟨_, rfl, ?_⟩; have n0_ := A_ (below_step hb_ hb); clear HB; have HB := n0_; clear n0_; (try clear hb)))
 (try simp only [Act.put, List.setIfInBounds_toArray, List.set_cons_zero, List.set_cons_succ])
 have H := HC4.out
 clear HC4
 by_cases c6 : t169 = true
 ·subst c6
  have H1 : (poly_may.l0 k a0 0 l1 (l1.length : Int) 0) = some r := by rw [if_pos rfl] at H; exact H
  clear H
  have H := H1
  clear H1
  have H' := Aside0.mk H
  clear H
  go_wp2
  go_loopg [5, 13] k (fun kq v5 v13 w' => ∃ (x5_1 : Int) (x13_1 : Int), v5 = .int .i64 x5_1 ∧ v13 = .int .i64 x13_1 ∧ Aside0 (poly_may.l0 kq a0 x5_1 l1 (l1.length : Int) x13_1 = some r) ∧ Aside0 (kq ≤ k) ∧ Aside0 (Below w.heap.size w w'))
  case atStart => exact ⟨(0), (0), (fs_), (fs_), H', ⟨Nat.le_refl _⟩, ⟨by repeat (first | (with_reducible first | exact HB.out | apply below_alloc | apply pw_below_drewN | apply below_drew1) | exact HB.out)⟩⟩
  case round =>
   clear H'
   try clear c1
   try clear p2
   try clear c4
   try clear c6
   obtain ⟨x5_1, x13_1, rfl, rfl, HA, HK1, HB⟩ := hrel
   cases gk with
   | zero => exact absurd HA.out (by simp [poly_may.l0])
   | succ k1 =>
    have H := HA.out
    clear HA
    simp only [poly_may.l0] at H
    by_cases c7 : x13_1 < (l1.length : Int)
    ·rw [if_pos c7] at H
     have c7b0 : decide (x13_1 < (l1.length : Int)) = true := decide_eq_true c7
     clear c7
     (first | rw [c7b0] | (simp only [i64_w, i32_w]; first | rw [c7b0]) | skip)
     by_cases c8 : 0 ≤ x13_1
     ·rw [if_pos c8] at H
      have c8b0 : decide (0 ≤ x13_1) = true := decide_eq_true c8
      clear c8
      by_cases c9 : x13_1 < (l1.length : Int)
      ·rw [if_pos c9] at H
       have c9b0 : decide (x13_1 < (l1.length : Int)) = true := decide_eq_true c9
       clear c9
       replace H := Option.bind_eq_some_iff.mp H
       obtain ⟨t171, A100, H⟩ := H
       replace H : (if t171 = true then (if ((rd_L1 l1 x13_1).length : Int) > 4096 then (poly_may.l0 k1 a0 4 l1 (l1.length : Int) (wrap64 (x13_1 + 1))) else (poly_may.l0 k1 a0 x5_1 l1 (l1.length : Int) (wrap64 (x13_1 + 1)))) else (some 2)) = some r := H
       have A10 := Aside0.mk A100
       clear A100
       have HC11 := Aside0.mk H
       clear H
       have p170 : 0 ≤ (x13_1 : Int) := of_decide_eq_true (by first | (with_reducible assumption) | assumption)
       have q170 : x13_1 < (l1.length : Int) := of_decide_eq_true (by first | (with_reducible assumption) | assumption)
       obtain ⟨ad170, A170_0, c170_0, e170, hx170_0, hl170_0, hi170_0⟩ := at_L1 HR1.out x13_1 p170 q170
       cases e170
       replace hx170_0 := (HB.out.cell (World.block_lt_of_cell? w _ hx170_0)).trans hx170_0
       have HR170_0 := Aside0.mk hi170_0
       have HC170_0 := Aside0.mk hl170_0
       clear hi170_0 hl170_0
       replace p170 := eq_true p170
       replace q170 := eq_true q170
       go_upto_if 20 with (first | ((with_reducible refine gate_callee (f := 46) rfl ?_); refine goesM_ (some 19) Try.func46 #[.int .u8 a0, .slice A170_0 (rd_L1 l1 x13_1).length c170_0] ?_; (with_reducible refine (field_In.calls k1 a0 _ _ (rd_L1 l1 x13_1) t171 _ ?side1 ?side2 A10.out).mono ?_); (case side1 => repeat (first | exact (Kd.C_below HR170_0.out HB.out) | (with_reducible refine Kd.C_alloc ?_ _) | (with_reducible refine Kd.C_drewN ?_ _) | (with_reducible refine Kd.C_drew ?_))); (case side2 => exact HC170_0.out); rintro e w12 ⟨rfl, hb⟩; refine ⟨_, rfl, ?_⟩; have n0_ := A_ (below_step hb_ hb); clear HB; have HB := n0_; clear n0_; (try clear hb)))
       (try simp only [Act.put, List.setIfInBounds_toArray, List.set_cons_zero, List.set_cons_succ])
       have H := HC11.out
       clear HC11
       by_cases c13 : t171 = true
       ·subst c13
        have H1 : (if ((rd_L1 l1 x13_1).length : Int) > 4096 then (poly_may.l0 k1 a0 4 l1 (l1.length : Int) (wrap64 (x13_1 + 1))) else (poly_may.l0 k1 a0 x5_1 l1 (l1.length : Int) (wrap64 (x13_1 + 1)))) = some r := by rw [if_pos rfl] at H; exact H
        clear H
        have H := H1
        clear H1
        by_cases c14 : ((rd_L1 l1 x13_1).length : Int) > 4096
        ·rw [if_pos c14] at H
         have c14b0 : decide (4096 < ((rd_L1 l1 x13_1).length : Int)) = true := decide_eq_true c14
         have c14b1 : decide (4096 < (rd_L1 l1 x13_1).length) = true := decide_eq_true (by omega)
         clear c14
         (first | rw [c14b0] | rw [c14b1] | (simp only [i64_w, i32_w]; first | rw [c14b0] | rw [c14b1]) | skip)
         have H' := Aside0.mk H
         clear H
         go_wp2
         go_roundg k1
         case measure => have := HK1.out; omega
         case rel => exact ⟨(4), (wrap64 (x13_1 + 1)), (fs_), (fs_), H', ⟨by have := HK1.out; omega⟩, ⟨by repeat (first | (with_reducible first | exact HB.out | apply below_alloc | apply pw_below_drewN | apply below_drew1) | exact HB.out)⟩⟩
        ·rw [if_neg c14] at H
         have c14b0 : decide (4096 < ((rd_L1 l1 x13_1).length : Int)) = false := decide_eq_false c14
         have c14b1 : decide (4096 < (rd_L1 l1 x13_1).length) = false := decide_eq_false (by omega)
         clear c14
         (first | rw [c14b0] | rw [c14b1] | (simp only [i64_w, i32_w]; first | rw [c14b0] | rw [c14b1]) | skip)
         have H' := Aside0.mk H
         clear H
         go_wp2
         go_roundg k1
         case measure => have := HK1.out; omega
         case rel => exact ⟨(x5_1), (wrap64 (x13_1 + 1)), (fs_), (fs_), H', ⟨by have := HK1.out; omega⟩, ⟨by repeat (first | (with_reducible first | exact HB.out | apply below_alloc | apply pw_below_drewN | apply below_drew1) | exact HB.out)⟩⟩
       ·replace c13 := Bool.eq_false_iff.mpr c13
        subst c13
        have H1 : (some 2) = some r := by rw [if_neg (show ¬ (false = true) by decide)] at H; exact H
        clear H
        have H := H1
        clear H1
        obtain rfl := Option.some.inj H
        go_wp2
        go_ret
        exact ⟨fr_, hb_⟩
      ·rw [if_neg c9] at H
       exact absurd H (by simp)
     ·rw [if_neg c8] at H
      exact absurd H (by simp)
    ·rw [if_neg c7] at H
     have c7b0 : decide (x13_1 < (l1.length : Int)) = false := decide_eq_false c7
     clear c7
     (first | rw [c7b0] | (simp only [i64_w, i32_w]; first | rw [c7b0]) | skip)
     obtain rfl := Option.some.inj H
     go_wp2
     go_ret
     exact ⟨fr_, hb_⟩
 ·replace c6 := Bool.eq_false_iff.mpr c6
  subst c6
  have H1 : (some 2) = some r := by rw [if_neg (show ¬ (false = true) by decide)] at H; exact H
  clear H
  have H := H1
  clear H1
  obtain rfl := Option.some.inj H
  go_wp2
  go_ret
  exact ⟨fr_, hb_⟩
/-! ### field_Mul: function 58 -/
def field_Mul.f (k : Nat) (a0 : Int) (a1 : Int) (a2 : Int) : Option (Int × Int) := (field_asked.f k a0 (([a1, a2] : List Int))).bind fun bt175 => (if bt175.2.2 = 0 then ((field_reckoner_mul.f bt175.1 bt175.2.1 a1 a2).bind fun t179 => (some (t179, 0))) else (some (0, bt175.2.2)))
theorem field_Mul.mono : ∀ a0 a1 a2 k, LeO (field_Mul.f k a0 a1 a2) (field_Mul.f (k + 1) a0 a1 a2) := by
 intro a0 a1 a2 k
 unfold field_Mul.f
 repeat' first
   | (with_reducible exact field_asked.mono _ _ _)
   | (with_reducible exact LeO.refl _)
   | (with_reducible exact LeO.none _)
   | (with_reducible refine LeO.ite ?_ ?_)
   | (with_reducible refine LeO.bind ?_ (fun _ => ?_))
   | exact field_asked.mono _ _ _
   | exact LeO.none _
   | refine LeO.ite ?_ ?_
   | refine LeO.bind ?_ (fun _ => ?_)
set_option maxHeartbeats 8000000 in
set_option maxRecDepth 100000 in
theorem field_Mul.calls (k : Nat) (a0 : Int) (a1 : Int) (a2 : Int) (r1 : Int) (r2 : Int) (w : World) (h : field_Mul.f k a0 a1 a2 = some (r1, r2)) :
  Calls Try.prog 58 #[.int .u8 a0, .int .u64 a1, .int .u64 a2] w fun e w' => e = .returned (.tuple #[.int .u64 r1, .int .i64 r2]) ∧ Below w.heap.size w w' := by
 have hu83 := Try.underlying83
 have HB := A_ (Below.refl w.heap.size w)
 have H : ((field_asked.f k a0 (([a1, a2] : List Int))).bind fun bt175 => (if bt175.2.2 = 0 then ((field_reckoner_mul.f bt175.1 bt175.2.1 a1 a2).bind fun t179 => (some (t179, 0))) else (some (0, bt175.2.2)))) = some (r1, r2) := h
 clear h
 obtain ⟨y172, hy172⟩ : ∃ y_ : List Int, y_ = (([a1, a2] : List Int)) := ⟨_, rfl⟩
 replace H : ((field_asked.f k a0 y172).bind fun bt175 => (if bt175.2.2 = 0 then ((field_reckoner_mul.f bt175.1 bt175.2.1 a1 a2).bind fun t179 => (some (t179, 0))) else (some (0, bt175.2.2)))) = some (r1, r2) := by first | (rw [hy172]; with_reducible exact H) | (have H2_ := (Option.bind_some _ _).symm.trans H; rw [hy172]; with_reducible exact H2_) | (have H2_ := (Option.bind_some _ _).symm.trans H; with_reducible exact H2_) | with_reducible exact H | (rw [hy172]; exact H) | exact H
 have Ny172 := Aside0.mk hy172
 clear hy172
 replace H := Option.bind_eq_some_iff.mp H
 obtain ⟨⟨t175, t176, t177⟩, A40, H⟩ := H
 replace H : (if t177 = 0 then ((field_reckoner_mul.f t175 t176 a1 a2).bind fun t179 => (some (t179, 0))) else (some (0, t177))) = some (r1, r2) := H
 have A4 := Aside0.mk A40
 clear A40
 have HC5 := Aside0.mk H
 clear H
 go_enter Try.func58, Try.ntmps58
 go_upto_if 19 with (first | ((with_reducible refine gate_dst (N := 14) rfl ?_); refine Kd.R_lit (Kd.int .u64) _ 40 ?hg (N := 14) ?hd (xs := ([a1, a2] : List Int)) (inner := [.int .u64 a1, .int .u64 a2]) (ok := fun _ => True) (okp := fun _ => True) ?hr ?hp (fun _ hk => hk) trivial (Below.refl _ _) (Nat.le_refl _) (by simp) ?_; (case hd => rfl); (case hg => rfl); (case hr => first | (go_simp; done) | (go_simp; rfl)); (case hp => exact (Reps.one (show Kd.M (Kd.int .u64) _ _ _ a1 [.int .u64 a1] from rfl) (Reps.one (show Kd.M (Kd.int .u64) _ _ _ a2 [.int .u64 a2] from rfl) (Reps.none _ _)))); intro v173 w6 ho7 hb hg_ hnew_; clear hg_ hnew_; (first | rw [← Ny172.out] at ho7 | (simp only [Int.reduceToNat] at ho7; rw [← Ny172.out] at ho7)); have n0_ := A_ (Kd.R_lower ho7 (below_size hb_)); have n1_ := A_ (below_step hb_ hb); clear HB; have HO174 := n0_; have HB := n1_; clear n0_ n1_; clear hb ho7; obtain ⟨Ao8, co8, eo8⟩ := Kd.R_slice HO174.out; subst eo8) | ((with_reducible refine gate_callee (f := 57) rfl ?_); refine goesM_ (some 15) Try.func57 #[.int .u8 a0, .slice Ao8 y172.length co8] ?_; (with_reducible refine (field_asked.calls k a0 _ _ y172 t175 t176 t177 _ ?side1 ?side2 A4.out).mono ?_); (case side1 => repeat (first | exact (Kd.R_reads' HO174.out).2.2 | (with_reducible refine Kd.C_alloc ?_ _) | (with_reducible refine Kd.C_drewN ?_ _) | (with_reducible refine Kd.C_drew ?_))); (case side2 => exact (Kd.R_reads' HO174.out).2.1); rintro e w9 ⟨rfl, hb⟩; refine ⟨_, rfl, ?_⟩; have n0_ := A_ (Kd.R_below (nR_ HO174) hb); have n1_ := A_ (below_step hb_ hb); clear HO174 HB; have HO174 := n0_; have HB := n1_; clear n0_ n1_; (try clear hb)) | ((with_reducible refine gate_dst (N := 8) rfl ?_); refine box_event ?hg (N := 8) ?hd (cs := #[.int .u64 0, .bool false]) (t := 83) ?hr ?_; (case hd => rfl); (case hg => rfl); (case hr => first | (go_simp; done) | (go_simp; rfl)); intro gb178 hg w10 hbox hb; have n0_ := A_ (Kd.R_below (nR_ HO174) hb); have n1_ := A_ (below_step hb_ hb); have n2_ := A_ (hbox); have n3_ := A_ ((by rw [hg]; exact (below_size hb_) : w.heap.size ≤ gb178)); have n4_ := A_ ((by rw [hg]; exact (below_size hb_) : w.heap.size ≤ gb178)); clear HO174 HB; have HO174 := n0_; have HB := n1_; have BK178 := n2_; have GW178 := n3_; have GE178 := n4_; clear n0_ n1_ n2_ n3_ n4_; clear hb hbox hg; have hcz11_0 : w10.cell? ⟨gb178, 0, none⟩ = some (.int .u64 0) := (blk_cell BK178.out 0).trans rfl; have hcz11_1 : w10.cell? ⟨gb178, 1, none⟩ = some (.bool false) := (blk_cell BK178.out 1).trans rfl; have hfz11_0 := blk_frozen BK178.out 0; have hfz11_1 := blk_frozen BK178.out 1))
 (try simp only [Act.put, List.setIfInBounds_toArray, List.set_cons_zero, List.set_cons_succ])
 have H := HC5.out
 clear HC5
 by_cases c12 : t177 = 0
 ·rw [if_pos c12] at H
  have c12b0 : (t177 == 0) = true := beq_iff_eq.mpr c12
  have c12b1 : (t177 != 0) = false := bne_eq_false_iff_eq.mpr c12
  clear c12
  (first | rw [c12b0] | rw [c12b1] | (simp only [i64_w, i32_w]; first | rw [c12b0] | rw [c12b1]) | skip)
  replace H := Option.bind_eq_some_iff.mp H
  obtain ⟨t179, A130, H⟩ := H
  replace H : (some (t179, 0)) = some (r1, r2) := H
  have A13 := Aside0.mk A130
  clear A130
  simp only [Option.some.injEq, Prod.mk.injEq] at H
  obtain ⟨rfl, rfl⟩ := H
  have hcz14_0 : w10.cell? ⟨gb178, 0, none⟩ = some (.int .u64 0) := (blk_cell BK178.out 0).trans rfl
  have hcz14_1 : w10.cell? ⟨gb178, 1, none⟩ = some (.bool false) := (blk_cell BK178.out 1).trans rfl
  have hfz14_0 := blk_frozen BK178.out 0
  have hfz14_1 := blk_frozen BK178.out 1
  go_wp2_with (first | ((with_reducible refine gate_callee (f := 62) rfl ?_); refine goesM_ (some 24) Try.func62 #[.agg #[.int .u64 t175, .bool t176], .int .u64 a1, .int .u64 a2] ?_; (with_reducible refine (field_reckoner_mul.calls t175 t176 a1 a2 t179 _ A13.out).mono ?_); rintro e w15 ⟨rfl, hb⟩; refine ⟨_, rfl, ?_⟩; have n0_ := A_ (Kd.R_below (by (with_reducible repeat (first | apply Kd.R_alloc | apply Kd.R_drewN | apply Kd.R_drew)); exact (Kd.R_mono (Kd.R_far (p := ⟨gb178, 1, none⟩) (Kd.R_far (p := ⟨gb178, 0, none⟩) (Kd.R_types HO174.out BK178.out (by decide)) (fun _ hk => hk.2) (.int .u64 t175)) (fun _ hk => hk.2) (.bool t176)) (fun _ h_ => h_.1))) hb); have n1_ := A_ (blk_below (g := gb178) (o := .cells #[.int .u64 t175, .bool t176] 83 (0, 0)) (by (with_reducible repeat (first | refine blk_drewN ?_ _ | refine blk_drew ?_ | refine blk_alloc ?_ _)); refine blk_put (cs := #[.int .u64 t175, .bool false]) ?_ 1 _ rfl; (with_reducible repeat (first | refine blk_drewN ?_ _ | refine blk_drew ?_ | refine blk_alloc ?_ _)); refine blk_put (cs := #[.int .u64 0, .bool false]) ?_ 0 _ rfl; (with_reducible repeat (first | refine blk_drewN ?_ _ | refine blk_drew ?_ | refine blk_alloc ?_ _)); exact BK178.out) hb); have n2_ := A_ (below_step hs_ hb); clear HO174 BK178 HB; have HO174 := n0_; have BK178 := n1_; have HB := n2_; clear n0_ n1_ n2_; (try clear hb)))
  go_ret2
  exact ⟨fr_, hs_⟩
 ·rw [if_neg c12] at H
  have c12b0 : (t177 == 0) = false := beq_eq_false_iff_ne.mpr c12
  have c12b1 : (t177 != 0) = true := bne_iff_ne.mpr c12
  (first | rw [c12b0] | rw [c12b1] | (simp only [i64_w, i32_w]; first | rw [c12b0] | rw [c12b1]) | skip)
  simp only [Option.some.injEq, Prod.mk.injEq] at H
  obtain ⟨rfl, rfl⟩ := H
  go_wp2
  go_ret2
  exact ⟨fr_, hs_⟩
/-! ### poly_reckoner_mul: function 50 -/
def poly_reckoner_mul.f (k : Nat) (a0_0 : Int) (a1 : Int) (a2 : Int) : Option (Int) := (field_Mul.f k a0_0 a1 a2).bind fun bt181 => (some bt181.1)
theorem poly_reckoner_mul.mono : ∀ a0 a1 a2 k, LeO (poly_reckoner_mul.f k a0 a1 a2) (poly_reckoner_mul.f (k + 1) a0 a1 a2) := by
 intro a0 a1 a2 k
 unfold poly_reckoner_mul.f
 repeat' first
   | (with_reducible exact field_Mul.mono _ _ _ _)
   | (with_reducible exact LeO.refl _)
   | (with_reducible exact LeO.none _)
   | (with_reducible refine LeO.ite ?_ ?_)
   | (with_reducible refine LeO.bind ?_ (fun _ => ?_))
   | exact field_Mul.mono _ _ _ _
   | exact LeO.none _
   | refine LeO.ite ?_ ?_
   | refine LeO.bind ?_ (fun _ => ?_)
set_option maxHeartbeats 8000000 in
set_option maxRecDepth 100000 in
theorem poly_reckoner_mul.calls (k : Nat) (a0_0 : Int) (a1 : Int) (a2 : Int) (r : Int) (w : World) (h : poly_reckoner_mul.f k a0_0 a1 a2 = some r) :
  Calls Try.prog 50 #[.agg #[.int .u8 a0_0], .int .u64 a1, .int .u64 a2] w fun e w' => e = .returned (.int .u64 r) ∧ Below w.heap.size w w' := by
 have hu77 := Try.underlying77
 have HB := A_ (Below.refl w.heap.size w)
 have H : ((field_Mul.f k a0_0 a1 a2).bind fun bt181 => (some bt181.1)) = some r := h
 clear h
 replace H := Option.bind_eq_some_iff.mp H
 obtain ⟨⟨t181, t182⟩, A40, H⟩ := H
 replace H : (some t181) = some r := H
 have A4 := Aside0.mk A40
 clear A40
 obtain rfl := Option.some.inj H
 go_enter Try.func50, Try.ntmps50
 go_wp2_with (first | ((with_reducible refine gate_dst (N := 3) rfl ?_); refine box_event ?hg (N := 3) ?hd (cs := #[.int .u8 a0_0]) (t := 77) ?hr ?_; (case hd => rfl); (case hg => rfl); (case hr => first | (go_simp; done) | (go_simp; rfl)); intro gb180 hg w5 hbox hb; have n0_ := A_ (below_step hb_ hb); have n1_ := A_ (hbox); have n2_ := A_ ((by rw [hg]; exact (below_size hb_) : w.heap.size ≤ gb180)); have n3_ := A_ ((by rw [hg]; exact (below_size hb_) : w.heap.size ≤ gb180)); clear HB; have HB := n0_; have BK180 := n1_; have GW180 := n2_; have GE180 := n3_; clear n0_ n1_ n2_ n3_; clear hb hbox hg; have hcz6_0 : w5.cell? ⟨gb180, 0, none⟩ = some (.int .u8 a0_0) := (blk_cell BK180.out 0).trans rfl; have hfz6_0 := blk_frozen BK180.out 0) | ((with_reducible refine gate_callee (f := 58) rfl ?_); refine goesM_ (some 14) Try.func58 #[.int .u8 a0_0, .int .u64 a1, .int .u64 a2] ?_; (with_reducible refine (field_Mul.calls k a0_0 a1 a2 t181 t182 _ A4.out).mono ?_); rintro e w7 ⟨rfl, hb⟩; refine ⟨_, rfl, ?_⟩; have n0_ := A_ (blk_below (g := gb180) (o := .cells #[.int .u8 a0_0] 77 (0, 0)) (nb_ BK180) hb); have n1_ := A_ (below_step hs_ hb); clear BK180 HB; have BK180 := n0_; have HB := n1_; clear n0_ n1_; (try clear hb)))
 go_ret
 exact ⟨fr_, hs_⟩
/-! ### field_Sub: function 59 -/
def field_Sub.f (k : Nat) (a0 : Int) (a1 : Int) (a2 : Int) : Option (Int × Int) := (field_asked.f k a0 (([a1, a2] : List Int))).bind fun bt186 => (if bt186.2.2 = 0 then ((field_reckoner_sub.f bt186.1 bt186.2.1 a1 a2).bind fun t190 => (some (t190, 0))) else (some (0, bt186.2.2)))
theorem field_Sub.mono : ∀ a0 a1 a2 k, LeO (field_Sub.f k a0 a1 a2) (field_Sub.f (k + 1) a0 a1 a2) := by
 intro a0 a1 a2 k
 unfold field_Sub.f
 repeat' first
   | (with_reducible exact field_asked.mono _ _ _)
   | (with_reducible exact LeO.refl _)
   | (with_reducible exact LeO.none _)
   | (with_reducible refine LeO.ite ?_ ?_)
   | (with_reducible refine LeO.bind ?_ (fun _ => ?_))
   | exact field_asked.mono _ _ _
   | exact LeO.none _
   | refine LeO.ite ?_ ?_
   | refine LeO.bind ?_ (fun _ => ?_)
set_option maxHeartbeats 8000000 in
set_option maxRecDepth 100000 in
theorem field_Sub.calls (k : Nat) (a0 : Int) (a1 : Int) (a2 : Int) (r1 : Int) (r2 : Int) (w : World) (h : field_Sub.f k a0 a1 a2 = some (r1, r2)) :
  Calls Try.prog 59 #[.int .u8 a0, .int .u64 a1, .int .u64 a2] w fun e w' => e = .returned (.tuple #[.int .u64 r1, .int .i64 r2]) ∧ Below w.heap.size w w' := by
 have hu83 := Try.underlying83
 have HB := A_ (Below.refl w.heap.size w)
 have H : ((field_asked.f k a0 (([a1, a2] : List Int))).bind fun bt186 => (if bt186.2.2 = 0 then ((field_reckoner_sub.f bt186.1 bt186.2.1 a1 a2).bind fun t190 => (some (t190, 0))) else (some (0, bt186.2.2)))) = some (r1, r2) := h
 clear h
 obtain ⟨y183, hy183⟩ : ∃ y_ : List Int, y_ = (([a1, a2] : List Int)) := ⟨_, rfl⟩
 replace H : ((field_asked.f k a0 y183).bind fun bt186 => (if bt186.2.2 = 0 then ((field_reckoner_sub.f bt186.1 bt186.2.1 a1 a2).bind fun t190 => (some (t190, 0))) else (some (0, bt186.2.2)))) = some (r1, r2) := by first | (rw [hy183]; with_reducible exact H) | (have H2_ := (Option.bind_some _ _).symm.trans H; rw [hy183]; with_reducible exact H2_) | (have H2_ := (Option.bind_some _ _).symm.trans H; with_reducible exact H2_) | with_reducible exact H | (rw [hy183]; exact H) | exact H
 have Ny183 := Aside0.mk hy183
 clear hy183
 replace H := Option.bind_eq_some_iff.mp H
 obtain ⟨⟨t186, t187, t188⟩, A40, H⟩ := H
 replace H : (if t188 = 0 then ((field_reckoner_sub.f t186 t187 a1 a2).bind fun t190 => (some (t190, 0))) else (some (0, t188))) = some (r1, r2) := H
 have A4 := Aside0.mk A40
 clear A40
 have HC5 := Aside0.mk H
 clear H
 go_enter Try.func59, Try.ntmps59
 go_upto_if 19 with (first | ((with_reducible refine gate_dst (N := 14) rfl ?_); refine Kd.R_lit (Kd.int .u64) _ 40 ?hg (N := 14) ?hd (xs := ([a1, a2] : List Int)) (inner := [.int .u64 a1, .int .u64 a2]) (ok := fun _ => True) (okp := fun _ => True) ?hr ?hp (fun _ hk => hk) trivial (Below.refl _ _) (Nat.le_refl _) (by simp) ?_; (case hd => rfl); (case hg => rfl); (case hr => first | (go_simp; done) | (go_simp; rfl)); (case hp => exact (Reps.one (show Kd.M (Kd.int .u64) _ _ _ a1 [.int .u64 a1] from rfl) (Reps.one (show Kd.M (Kd.int .u64) _ _ _ a2 [.int .u64 a2] from rfl) (Reps.none _ _)))); intro v184 w6 ho7 hb hg_ hnew_; clear hg_ hnew_; (first | rw [← Ny183.out] at ho7 | (simp only [Int.reduceToNat] at ho7; rw [← Ny183.out] at ho7)); have n0_ := A_ (Kd.R_lower ho7 (below_size hb_)); have n1_ := A_ (below_step hb_ hb); clear HB; have HO185 := n0_; have HB := n1_; clear n0_ n1_; clear hb ho7; obtain ⟨Ao8, co8, eo8⟩ := Kd.R_slice HO185.out; subst eo8) | ((with_reducible refine gate_callee (f := 57) rfl ?_); refine goesM_ (some 15) Try.func57 #[.int .u8 a0, .slice Ao8 y183.length co8] ?_; (with_reducible refine (field_asked.calls k a0 _ _ y183 t186 t187 t188 _ ?side1 ?side2 A4.out).mono ?_); (case side1 => repeat (first | exact (Kd.R_reads' HO185.out).2.2 | (with_reducible refine Kd.C_alloc ?_ _) | (with_reducible refine Kd.C_drewN ?_ _) | (with_reducible refine Kd.C_drew ?_))); (case side2 => exact (Kd.R_reads' HO185.out).2.1); rintro e w9 ⟨rfl, hb⟩; refine ⟨_, rfl, ?_⟩; have n0_ := A_ (Kd.R_below (nR_ HO185) hb); have n1_ := A_ (below_step hb_ hb); clear HO185 HB; have HO185 := n0_; have HB := n1_; clear n0_ n1_; (try clear hb)) | ((with_reducible refine gate_dst (N := 8) rfl ?_); refine box_event ?hg (N := 8) ?hd (cs := #[.int .u64 0, .bool false]) (t := 83) ?hr ?_; (case hd => rfl); (case hg => rfl); (case hr => first | (go_simp; done) | (go_simp; rfl)); intro gb189 hg w10 hbox hb; have n0_ := A_ (Kd.R_below (nR_ HO185) hb); have n1_ := A_ (below_step hb_ hb); have n2_ := A_ (hbox); have n3_ := A_ ((by rw [hg]; exact (below_size hb_) : w.heap.size ≤ gb189)); have n4_ := A_ ((by rw [hg]; exact (below_size hb_) : w.heap.size ≤ gb189)); clear HO185 HB; have HO185 := n0_; have HB := n1_; have BK189 := n2_; have GW189 := n3_; have GE189 := n4_; clear n0_ n1_ n2_ n3_ n4_; clear hb hbox hg; have hcz11_0 : w10.cell? ⟨gb189, 0, none⟩ = some (.int .u64 0) := (blk_cell BK189.out 0).trans rfl; have hcz11_1 : w10.cell? ⟨gb189, 1, none⟩ = some (.bool false) := (blk_cell BK189.out 1).trans rfl; have hfz11_0 := blk_frozen BK189.out 0; have hfz11_1 := blk_frozen BK189.out 1))
 (try simp only [Act.put, List.setIfInBounds_toArray, List.set_cons_zero, List.set_cons_succ])
 have H := HC5.out
 clear HC5
 by_cases c12 : t188 = 0
 ·rw [if_pos c12] at H
  have c12b0 : (t188 == 0) = true := beq_iff_eq.mpr c12
  have c12b1 : (t188 != 0) = false := bne_eq_false_iff_eq.mpr c12
  clear c12
  (first | rw [c12b0] | rw [c12b1] | (simp only [i64_w, i32_w]; first | rw [c12b0] | rw [c12b1]) | skip)
  replace H := Option.bind_eq_some_iff.mp H
  obtain ⟨t190, A130, H⟩ := H
  replace H : (some (t190, 0)) = some (r1, r2) := H
  have A13 := Aside0.mk A130
  clear A130
  simp only [Option.some.injEq, Prod.mk.injEq] at H
  obtain ⟨rfl, rfl⟩ := H
  have hcz14_0 : w10.cell? ⟨gb189, 0, none⟩ = some (.int .u64 0) := (blk_cell BK189.out 0).trans rfl
  have hcz14_1 : w10.cell? ⟨gb189, 1, none⟩ = some (.bool false) := (blk_cell BK189.out 1).trans rfl
  have hfz14_0 := blk_frozen BK189.out 0
  have hfz14_1 := blk_frozen BK189.out 1
  go_wp2_with (first | ((with_reducible refine gate_callee (f := 66) rfl ?_); refine goesM_ (some 24) Try.func66 #[.agg #[.int .u64 t186, .bool t187], .int .u64 a1, .int .u64 a2] ?_; (with_reducible refine (field_reckoner_sub.calls t186 t187 a1 a2 t190 _ A13.out).mono ?_); rintro e w15 ⟨rfl, hb⟩; refine ⟨_, rfl, ?_⟩; have n0_ := A_ (Kd.R_below (by (with_reducible repeat (first | apply Kd.R_alloc | apply Kd.R_drewN | apply Kd.R_drew)); exact (Kd.R_mono (Kd.R_far (p := ⟨gb189, 1, none⟩) (Kd.R_far (p := ⟨gb189, 0, none⟩) (Kd.R_types HO185.out BK189.out (by decide)) (fun _ hk => hk.2) (.int .u64 t186)) (fun _ hk => hk.2) (.bool t187)) (fun _ h_ => h_.1))) hb); have n1_ := A_ (blk_below (g := gb189) (o := .cells #[.int .u64 t186, .bool t187] 83 (0, 0)) (by (with_reducible repeat (first | refine blk_drewN ?_ _ | refine blk_drew ?_ | refine blk_alloc ?_ _)); refine blk_put (cs := #[.int .u64 t186, .bool false]) ?_ 1 _ rfl; (with_reducible repeat (first | refine blk_drewN ?_ _ | refine blk_drew ?_ | refine blk_alloc ?_ _)); refine blk_put (cs := #[.int .u64 0, .bool false]) ?_ 0 _ rfl; (with_reducible repeat (first | refine blk_drewN ?_ _ | refine blk_drew ?_ | refine blk_alloc ?_ _)); exact BK189.out) hb); have n2_ := A_ (below_step hs_ hb); clear HO185 BK189 HB; have HO185 := n0_; have BK189 := n1_; have HB := n2_; clear n0_ n1_ n2_; (try clear hb)))
  go_ret2
  exact ⟨fr_, hs_⟩
 ·rw [if_neg c12] at H
  have c12b0 : (t188 == 0) = false := beq_eq_false_iff_ne.mpr c12
  have c12b1 : (t188 != 0) = true := bne_iff_ne.mpr c12
  (first | rw [c12b0] | rw [c12b1] | (simp only [i64_w, i32_w]; first | rw [c12b0] | rw [c12b1]) | skip)
  simp only [Option.some.injEq, Prod.mk.injEq] at H
  obtain ⟨rfl, rfl⟩ := H
  go_wp2
  go_ret2
  exact ⟨fr_, hs_⟩
/-! ### poly_reckoner_sub: function 51 -/
def poly_reckoner_sub.f (k : Nat) (a0_0 : Int) (a1 : Int) (a2 : Int) : Option (Int) := (field_Sub.f k a0_0 a1 a2).bind fun bt192 => (some bt192.1)
theorem poly_reckoner_sub.mono : ∀ a0 a1 a2 k, LeO (poly_reckoner_sub.f k a0 a1 a2) (poly_reckoner_sub.f (k + 1) a0 a1 a2) := by
 intro a0 a1 a2 k
 unfold poly_reckoner_sub.f
 repeat' first
   | (with_reducible exact field_Sub.mono _ _ _ _)
   | (with_reducible exact LeO.refl _)
   | (with_reducible exact LeO.none _)
   | (with_reducible refine LeO.ite ?_ ?_)
   | (with_reducible refine LeO.bind ?_ (fun _ => ?_))
   | exact field_Sub.mono _ _ _ _
   | exact LeO.none _
   | refine LeO.ite ?_ ?_
   | refine LeO.bind ?_ (fun _ => ?_)
set_option maxHeartbeats 8000000 in
set_option maxRecDepth 100000 in
theorem poly_reckoner_sub.calls (k : Nat) (a0_0 : Int) (a1 : Int) (a2 : Int) (r : Int) (w : World) (h : poly_reckoner_sub.f k a0_0 a1 a2 = some r) :
  Calls Try.prog 51 #[.agg #[.int .u8 a0_0], .int .u64 a1, .int .u64 a2] w fun e w' => e = .returned (.int .u64 r) ∧ Below w.heap.size w w' := by
 have hu77 := Try.underlying77
 have HB := A_ (Below.refl w.heap.size w)
 have H : ((field_Sub.f k a0_0 a1 a2).bind fun bt192 => (some bt192.1)) = some r := h
 clear h
 replace H := Option.bind_eq_some_iff.mp H
 obtain ⟨⟨t192, t193⟩, A40, H⟩ := H
 replace H : (some t192) = some r := H
 have A4 := Aside0.mk A40
 clear A40
 obtain rfl := Option.some.inj H
 go_enter Try.func51, Try.ntmps51
 go_wp2_with (first | ((with_reducible refine gate_dst (N := 3) rfl ?_); refine box_event ?hg (N := 3) ?hd (cs := #[.int .u8 a0_0]) (t := 77) ?hr ?_; (case hd => rfl); (case hg => rfl); (case hr => first | (go_simp; done) | (go_simp; rfl)); intro gb191 hg w5 hbox hb; have n0_ := A_ (below_step hb_ hb); have n1_ := A_ (hbox); have n2_ := A_ ((by rw [hg]; exact (below_size hb_) : w.heap.size ≤ gb191)); have n3_ := A_ ((by rw [hg]; exact (below_size hb_) : w.heap.size ≤ gb191)); clear HB; have HB := n0_; have BK191 := n1_; have GW191 := n2_; have GE191 := n3_; clear n0_ n1_ n2_ n3_; clear hb hbox hg; have hcz6_0 : w5.cell? ⟨gb191, 0, none⟩ = some (.int .u8 a0_0) := (blk_cell BK191.out 0).trans rfl; have hfz6_0 := blk_frozen BK191.out 0) | ((with_reducible refine gate_callee (f := 59) rfl ?_); refine goesM_ (some 14) Try.func59 #[.int .u8 a0_0, .int .u64 a1, .int .u64 a2] ?_; (with_reducible refine (field_Sub.calls k a0_0 a1 a2 t192 t193 _ A4.out).mono ?_); rintro e w7 ⟨rfl, hb⟩; refine ⟨_, rfl, ?_⟩; have n0_ := A_ (blk_below (g := gb191) (o := .cells #[.int .u8 a0_0] 77 (0, 0)) (nb_ BK191) hb); have n1_ := A_ (below_step hs_ hb); clear BK191 HB; have BK191 := n0_; have HB := n1_; clear n0_ n1_; (try clear hb)))
 go_ret
 exact ⟨fr_, hs_⟩
end Go.Proofs.Yteofgcmgncaojaa.PEuclidInverts
