/- The Go functions as Lean functions, each with the proof that its call comes to just that; written by a program of this session, by the words of the print. -/
import Derived.Test.YteofgcmgncaojaaPEuclidMadex0
import Derived.Test.YteofgcmgncaojaaPEuclidMadex1
import Derived.Test.YteofgcmgncaojaaPEuclidMadex2
import Derived.Test.YteofgcmgncaojaaPEuclidMadex3
namespace Go.Proofs.Yteofgcmgncaojaa.PEuclidMade
open Go.RowKit Go.Proofs.YteofgcmgncaojaaW.PrintWords Go.Proofs.YteofgcmgncaojaaW.PrintLast Go.Proofs.YteofgcmgncaojaaW.PrintMore
attribute [local go_sem] max2_int min2_int max_two min_two max_three min_three max_four min_four   -- for this text's walks alone
set_option linter.unusedVariables false
set_option linter.unusedSimpArgs false
/-! ### poly_may: function 49 -/
def poly_may.l0 : Nat → Int → Int → List (List Int) → Int → Int → Option (Int)
 | 0, _, _, _, _, _ => none
 | k + 1, x0, x5, x11, x12, x13 => if x13 < x12 then (if 0 ≤ x13 then (if x13 < (x11.length : Int) then ((field_In.f k x0 (rd_L1 x11 x13)).bind fun t178 => (if t178 = true then (if ((rd_L1 x11 x13).length : Int) > 4096 then (poly_may.l0 k x0 4 x11 x12 (wrap64 (x13 + 1))) else (poly_may.l0 k x0 x5 x11 x12 (wrap64 (x13 + 1)))) else (some 2))) else (none)) else (none)) else (some x5)
def poly_may.f (k : Nat) (a0 : Int) (l1 : List (List Int)) : Option (Int) := (field_In.f k a0 ([] : List Int)).bind fun t176 => (if t176 = true then (poly_may.l0 k a0 0 l1 (l1.length : Int) 0) else (some 2))
theorem poly_may.mono_l : ∀ k, (∀ y0 y1 y2 y3 y4, LeO (poly_may.l0 k y0 y1 y2 y3 y4) (poly_may.l0 (k + 1) y0 y1 y2 y3 y4))
 | 0 => fun _ _ _ _ _ r h => by simp [poly_may.l0] at h
 | k + 1 => by
  have ih0 := poly_may.mono_l k
  ·intro y0 y1 y2 y3 y4
   unfold poly_may.l0
   repeat' first
   | (with_reducible exact ih0 _ _ _ _ _)
   | (with_reducible exact field_In.mono _ _ _)
   | (with_reducible exact LeO.refl _)
   | (with_reducible exact LeO.none _)
   | (with_reducible refine LeO.ite ?_ ?_)
   | (with_reducible refine LeO.bind ?_ (fun _ => ?_))
   | exact ih0 _ _ _ _ _
   | exact field_In.mono _ _ _
   | exact LeO.none _
   | refine LeO.ite ?_ ?_
   | refine LeO.bind ?_ (fun _ => ?_)
theorem poly_may.mono : ∀ a0 a1 k, LeO (poly_may.f k a0 a1) (poly_may.f (k + 1) a0 a1) := by
 intro a0 a1 k
 have ih0 := poly_may.mono_l k
 unfold poly_may.f
 repeat' first
   | (with_reducible exact ih0 _ _ _ _ _)
   | (with_reducible exact field_In.mono _ _ _)
   | (with_reducible exact LeO.refl _)
   | (with_reducible exact LeO.none _)
   | (with_reducible refine LeO.ite ?_ ?_)
   | (with_reducible refine LeO.bind ?_ (fun _ => ?_))
   | exact ih0 _ _ _ _ _
   | exact field_In.mono _ _ _
   | exact LeO.none _
   | refine LeO.ite ?_ ?_
   | refine LeO.bind ?_ (fun _ => ?_)
set_option maxHeartbeats 8000000 in
set_option maxRecDepth 100000 in
theorem poly_may.calls (k : Nat) (a0 : Int) (A1 : Option Addr) (c1 : Nat) (l1 : List (List Int)) (r : Int) (w : World) (hr1 : Kd.C (Kd.slice 40 (Kd.int .u64)) w A1 l1.length l1) (hc1 : l1.length ≤ c1) (h : poly_may.f k a0 l1 = some r) :
  Calls Try.prog 49 #[.int .u8 a0, .slice A1 l1.length c1] w fun e w' => e = .returned (.int .i64 r) ∧ Below w.heap.size w w' := by
 have HR1 := Aside0.mk hr1
 have HC1 := Aside0.mk hc1
 clear hr1 hc1
 have HB := A_ (Below.refl w.heap.size w)
 have H : ((field_In.f k a0 ([] : List Int)).bind fun t176 => (if t176 = true then (poly_may.l0 k a0 0 l1 (l1.length : Int) 0) else (some 2))) = some r := h
 clear h
 replace H := Option.bind_eq_some_iff.mp H
 obtain ⟨t176, A30, H⟩ := H
 replace H : (if t176 = true then (poly_may.l0 k a0 0 l1 (l1.length : Int) 0) else (some 2)) = some r := H
 have A3 := Aside0.mk A30
 clear A30
 have HC4 := Aside0.mk H
 clear H
 go_enter Try.func49, Try.ntmps49
 go_upto_if 10 with (first | ((with_reducible refine gate_callee (f := 46) rfl ?_); refine goesM_ (some 9) Try.func46 #[.int .u8 a0, .slice none 0 0] ?_; (refine (field_In.calls k a0 _ _ ([] : List Int) t176 _ ?side1 ?side2 A3.out).mono ?_); (case side1 => exact Kd.C_nil _ _); (case side2 => exact Nat.le_refl _); rintro e w5 ⟨rfl, hb⟩; refine ⟨_, rfl, ?_⟩; have n0_ := A_ (below_step hb_ hb); clear HB; have HB := n0_; clear n0_; (try clear hb)))
 (try simp only [Act.put, List.setIfInBounds_toArray, List.set_cons_zero, List.set_cons_succ])
 have H := HC4.out
 clear HC4
 by_cases c6 : t176 = true
 ·subst c6
  have H1 : (poly_may.l0 k a0 0 l1 (l1.length : Int) 0) = some r := by rw [if_pos rfl] at H; exact H
  clear H
  have H := H1
  clear H1
  have H' := Aside0.mk H
  clear H
  go_wp2
  go_loopg [5, 13] k (fun kq v5 v13 w' => ∃ (x5_1 : Int) (x13_1 : Int), v5 = .int .i64 x5_1 ∧ v13 = .int .i64 x13_1 ∧ Aside0 (poly_may.l0 kq a0 x5_1 l1 (l1.length : Int) x13_1 = some r) ∧ Aside0 (kq ≤ k) ∧ Aside0 (Below w.heap.size w w'))
  case atStart => exact ⟨(0), (0), (fs_), (fs_), H', ⟨Nat.le_refl _⟩, ⟨by repeat (first | (with_reducible first | exact HB.out | apply below_alloc | apply pw_below_drewN | apply below_drew1) | exact HB.out)⟩⟩
  case round =>
   clear H'
   try clear c1
   try clear p2
   try clear c4
   try clear c6
   obtain ⟨x5_1, x13_1, rfl, rfl, HA, HK1, HB⟩ := hrel
   cases gk with
   | zero => exact absurd HA.out (by simp [poly_may.l0])
   | succ k1 =>
    have H := HA.out
    clear HA
    simp only [poly_may.l0] at H
    by_cases c7 : x13_1 < (l1.length : Int)
    ·rw [if_pos c7] at H
     have c7b0 : decide (x13_1 < (l1.length : Int)) = true := decide_eq_true c7
     clear c7
     (first | rw [c7b0] | (simp only [i64_w, i32_w]; first | rw [c7b0]) | skip)
     by_cases c8 : 0 ≤ x13_1
     ·rw [if_pos c8] at H
      have c8b0 : decide (0 ≤ x13_1) = true := decide_eq_true c8
      clear c8
      by_cases c9 : x13_1 < (l1.length : Int)
      ·rw [if_pos c9] at H
       have c9b0 : decide (x13_1 < (l1.length : Int)) = true := decide_eq_true c9
       clear c9
       replace H := Option.bind_eq_some_iff.mp H
       obtain ⟨t178, A100, H⟩ := H
       replace H : (if t178 = true then (if ((rd_L1 l1 x13_1).length : Int) > 4096 then (poly_may.l0 k1 a0 4 l1 (l1.length : Int) (wrap64 (x13_1 + 1))) else (poly_may.l0 k1 a0 x5_1 l1 (l1.length : Int) (wrap64 (x13_1 + 1)))) else (some 2)) = some r := H
       have A10 := Aside0.mk A100
       clear A100
       have HC11 := Aside0.mk H
       clear H
       have p177 : 0 ≤ (x13_1 : Int) := of_decide_eq_true (by first | (with_reducible assumption) | assumption)
       have q177 : x13_1 < (l1.length : Int) := of_decide_eq_true (by first | (with_reducible assumption) | assumption)
       obtain ⟨ad177, A177_0, c177_0, e177, hx177_0, hl177_0, hi177_0⟩ := at_L1 HR1.out x13_1 p177 q177
       cases e177
       replace hx177_0 := (HB.out.cell (World.block_lt_of_cell? w _ hx177_0)).trans hx177_0
       have HR177_0 := Aside0.mk hi177_0
       have HC177_0 := Aside0.mk hl177_0
       clear hi177_0 hl177_0
       replace p177 := eq_true p177
       replace q177 := eq_true q177
       go_upto_if 20 with (first | ((with_reducible refine gate_callee (f := 46) rfl ?_); refine goesM_ (some 19) Try.func46 #[.int .u8 a0, .slice A177_0 (rd_L1 l1 x13_1).length c177_0] ?_; (with_reducible refine (field_In.calls k1 a0 _ _ (rd_L1 l1 x13_1) t178 _ ?side1 ?side2 A10.out).mono ?_); (case side1 => repeat (first | exact (Kd.C_below HR177_0.out HB.out) | (with_reducible refine Kd.C_alloc ?_ _) | (with_reducible refine Kd.C_drewN ?_ _) | (with_reducible refine Kd.C_drew ?_))); (case side2 => exact HC177_0.out); rintro e w12 ⟨rfl, hb⟩; refine ⟨_, rfl, ?_⟩; have n0_ := A_ (below_step hb_ hb); clear HB; have HB := n0_; clear n0_; (try clear hb)))
       (try simp only [Act.put, List.setIfInBounds_toArray, List.set_cons_zero, List.set_cons_succ])
       have H := HC11.out
       clear HC11
       by_cases c13 : t178 = true
       ·subst c13
        have H1 : (if ((rd_L1 l1 x13_1).length : Int) > 4096 then (poly_may.l0 k1 a0 4 l1 (l1.length : Int) (wrap64 (x13_1 + 1))) else (poly_may.l0 k1 a0 x5_1 l1 (l1.length : Int) (wrap64 (x13_1 + 1)))) = some r := by rw [if_pos rfl] at H; exact H
        clear H
        have H := H1
        clear H1
        by_cases c14 : ((rd_L1 l1 x13_1).length : Int) > 4096
        ·rw [if_pos c14] at H
         have c14b0 : decide (4096 < ((rd_L1 l1 x13_1).length : Int)) = true := decide_eq_true c14
         have c14b1 : decide (4096 < (rd_L1 l1 x13_1).length) = true := decide_eq_true (by omega)
         clear c14
         (first | rw [c14b0] | rw [c14b1] | (simp only [i64_w, i32_w]; first | rw [c14b0] | rw [c14b1]) | skip)
         have H' := Aside0.mk H
         clear H
         go_wp2
         go_roundg k1
         case measure => have := HK1.out; omega
         case rel => exact ⟨(4), (wrap64 (x13_1 + 1)), (fs_), (fs_), H', ⟨by have := HK1.out; omega⟩, ⟨by repeat (first | (with_reducible first | exact HB.out | apply below_alloc | apply pw_below_drewN | apply below_drew1) | exact HB.out)⟩⟩
        ·rw [if_neg c14] at H
         have c14b0 : decide (4096 < ((rd_L1 l1 x13_1).length : Int)) = false := decide_eq_false c14
         have c14b1 : decide (4096 < (rd_L1 l1 x13_1).length) = false := decide_eq_false (by omega)
         clear c14
         (first | rw [c14b0] | rw [c14b1] | (simp only [i64_w, i32_w]; first | rw [c14b0] | rw [c14b1]) | skip)
         have H' := Aside0.mk H
         clear H
         go_wp2
         go_roundg k1
         case measure => have := HK1.out; omega
         case rel => exact ⟨(x5_1), (wrap64 (x13_1 + 1)), (fs_), (fs_), H', ⟨by have := HK1.out; omega⟩, ⟨by repeat (first | (with_reducible first | exact HB.out | apply below_alloc | apply pw_below_drewN | apply below_drew1) | exact HB.out)⟩⟩
       ·replace c13 := Bool.eq_false_iff.mpr c13
        subst c13
        have H1 : (some 2) = some r := by rw [if_neg (show ¬ (false = true) by decide)] at H; exact H
        clear H
        have H := H1
        clear H1
        obtain rfl := Option.some.inj H
        go_wp2
        go_ret
        exact ⟨fr_, hb_⟩
      ·rw [if_neg c9] at H
       exact absurd H (by simp)
     ·rw [if_neg c8] at H
      exact absurd H (by simp)
    ·rw [if_neg c7] at H
     have c7b0 : decide (x13_1 < (l1.length : Int)) = false := decide_eq_false c7
     clear c7
     (first | rw [c7b0] | (simp only [i64_w, i32_w]; first | rw [c7b0]) | skip)
     obtain rfl := Option.some.inj H
     go_wp2
     go_ret
     exact ⟨fr_, hb_⟩
 ·replace c6 := Bool.eq_false_iff.mpr c6
  subst c6
  have H1 : (some 2) = some r := by rw [if_neg (show ¬ (false = true) by decide)] at H; exact H
  clear H
  have H := H1
  clear H1
  obtain rfl := Option.some.inj H
  go_wp2
  go_ret
  exact ⟨fr_, hb_⟩
/-! ### field_Mul: function 58 -/
def field_Mul.f (k : Nat) (a0 : Int) (a1 : Int) (a2 : Int) : Option (Int × Int) := (field_asked.f k a0 (([a1, a2] : List Int))).bind fun bt182 => (if bt182.2.2 = 0 then ((field_reckoner_mul.f bt182.1 bt182.2.1 a1 a2).bind fun t186 => (some (t186, 0))) else (some (0, bt182.2.2)))
theorem field_Mul.mono : ∀ a0 a1 a2 k, LeO (field_Mul.f k a0 a1 a2) (field_Mul.f (k + 1) a0 a1 a2) := by
 intro a0 a1 a2 k
 unfold field_Mul.f
 repeat' first
   | (with_reducible exact field_asked.mono _ _ _)
   | (with_reducible exact LeO.refl _)
   | (with_reducible exact LeO.none _)
   | (with_reducible refine LeO.ite ?_ ?_)
   | (with_reducible refine LeO.bind ?_ (fun _ => ?_))
   | exact field_asked.mono _ _ _
   | exact LeO.none _
   | refine LeO.ite ?_ ?_
   | refine LeO.bind ?_ (fun _ => ?_)
set_option maxHeartbeats 8000000 in
set_option maxRecDepth 100000 in
theorem field_Mul.calls (k : Nat) (a0 : Int) (a1 : Int) (a2 : Int) (r1 : Int) (r2 : Int) (w : World) (h : field_Mul.f k a0 a1 a2 = some (r1, r2)) :
  Calls Try.prog 58 #[.int .u8 a0, .int .u64 a1, .int .u64 a2] w fun e w' => e = .returned (.tuple #[.int .u64 r1, .int .i64 r2]) ∧ Below w.heap.size w w' := by
 have hu83 := Try.underlying83
 have HB := A_ (Below.refl w.heap.size w)
 have H : ((field_asked.f k a0 (([a1, a2] : List Int))).bind fun bt182 => (if bt182.2.2 = 0 then ((field_reckoner_mul.f bt182.1 bt182.2.1 a1 a2).bind fun t186 => (some (t186, 0))) else (some (0, bt182.2.2)))) = some (r1, r2) := h
 clear h
 obtain ⟨y179, hy179⟩ : ∃ y_ : List Int, y_ = (([a1, a2] : List Int)) := ⟨_, rfl⟩
 replace H : ((field_asked.f k a0 y179).bind fun bt182 => (if bt182.2.2 = 0 then ((field_reckoner_mul.f bt182.1 bt182.2.1 a1 a2).bind fun t186 => (some (t186, 0))) else (some (0, bt182.2.2)))) = some (r1, r2) := by first | (rw [hy179]; with_reducible exact H) | (have H2_ := (Option.bind_some _ _).symm.trans H; rw [hy179]; with_reducible exact H2_) | (have H2_ := (Option.bind_some _ _).symm.trans H; with_reducible exact H2_) | with_reducible exact H | (rw [hy179]; exact H) | exact H
 have Ny179 := Aside0.mk hy179
 clear hy179
 replace H := Option.bind_eq_some_iff.mp H
 obtain ⟨⟨t182, t183, t184⟩, A40, H⟩ := H
 replace H : (if t184 = 0 then ((field_reckoner_mul.f t182 t183 a1 a2).bind fun t186 => (some (t186, 0))) else (some (0, t184))) = some (r1, r2) := H
 have A4 := Aside0.mk A40
 clear A40
 have HC5 := Aside0.mk H
 clear H
 go_enter Try.func58, Try.ntmps58
 go_upto_if 19 with (first | ((with_reducible refine gate_dst (N := 14) rfl ?_); refine Kd.R_lit (Kd.int .u64) _ 40 ?hg (N := 14) ?hd (xs := ([a1, a2] : List Int)) (inner := [.int .u64 a1, .int .u64 a2]) (ok := fun _ => True) (okp := fun _ => True) ?hr ?hp (fun _ hk => hk) trivial (Below.refl _ _) (Nat.le_refl _) (by simp) ?_; (case hd => rfl); (case hg => rfl); (case hr => first | (go_simp; done) | (go_simp; rfl)); (case hp => exact (Reps.one (show Kd.M (Kd.int .u64) _ _ _ a1 [.int .u64 a1] from rfl) (Reps.one (show Kd.M (Kd.int .u64) _ _ _ a2 [.int .u64 a2] from rfl) (Reps.none _ _)))); intro v180 w6 ho7 hb hg_ hnew_; clear hg_ hnew_; (first | rw [← Ny179.out] at ho7 | (simp only [Int.reduceToNat] at ho7; rw [← Ny179.out] at ho7)); have n0_ := A_ (Kd.R_lower ho7 (below_size hb_)); have n1_ := A_ (below_step hb_ hb); clear HB; have HO181 := n0_; have HB := n1_; clear n0_ n1_; clear hb ho7; obtain ⟨Ao8, co8, eo8⟩ := Kd.R_slice HO181.out; subst eo8) | ((with_reducible refine gate_callee (f := 57) rfl ?_); refine goesM_ (some 15) Try.func57 #[.int .u8 a0, .slice Ao8 y179.length co8] ?_; (with_reducible refine (field_asked.calls k a0 _ _ y179 t182 t183 t184 _ ?side1 ?side2 A4.out).mono ?_); (case side1 => repeat (first | exact (Kd.R_reads' HO181.out).2.2 | (with_reducible refine Kd.C_alloc ?_ _) | (with_reducible refine Kd.C_drewN ?_ _) | (with_reducible refine Kd.C_drew ?_))); (case side2 => exact (Kd.R_reads' HO181.out).2.1); rintro e w9 ⟨rfl, hb⟩; refine ⟨_, rfl, ?_⟩; have n0_ := A_ (Kd.R_below (nR_ HO181) hb); have n1_ := A_ (below_step hb_ hb); clear HO181 HB; have HO181 := n0_; have HB := n1_; clear n0_ n1_; (try clear hb)) | ((with_reducible refine gate_dst (N := 8) rfl ?_); refine box_event ?hg (N := 8) ?hd (cs := #[.int .u64 0, .bool false]) (t := 83) ?hr ?_; (case hd => rfl); (case hg => rfl); (case hr => first | (go_simp; done) | (go_simp; rfl)); intro gb185 hg w10 hbox hb; have n0_ := A_ (Kd.R_below (nR_ HO181) hb); have n1_ := A_ (below_step hb_ hb); have n2_ := A_ (hbox); have n3_ := A_ ((by rw [hg]; exact (below_size hb_) : w.heap.size ≤ gb185)); have n4_ := A_ ((by rw [hg]; exact (below_size hb_) : w.heap.size ≤ gb185)); clear HO181 HB; have HO181 := n0_; have HB := n1_; have BK185 := n2_; have GW185 := n3_; have GE185 := n4_; clear n0_ n1_ n2_ n3_ n4_; clear hb hbox hg; have hcz11_0 : w10.cell? ⟨gb185, 0, none⟩ = some (.int .u64 0) := (blk_cell BK185.out 0).trans rfl; have hcz11_1 : w10.cell? ⟨gb185, 1, none⟩ = some (.bool false) := (blk_cell BK185.out 1).trans rfl; have hfz11_0 := blk_frozen BK185.out 0; have hfz11_1 := blk_frozen BK185.out 1))
 (try simp only [Act.put, List.setIfInBounds_toArray, List.set_cons_zero, List.set_cons_succ])
 have H := HC5.out
 clear HC5
 by_cases c12 : t184 = 0
 ·rw [if_pos c12] at H
  have c12b0 : (t184 == 0) = true := beq_iff_eq.mpr c12
  have c12b1 : (t184 != 0) = false := bne_eq_false_iff_eq.mpr c12
  clear c12
  (first | rw [c12b0] | rw [c12b1] | (simp only [i64_w, i32_w]; first | rw [c12b0] | rw [c12b1]) | skip)
  replace H := Option.bind_eq_some_iff.mp H
  obtain ⟨t186, A130, H⟩ := H
  replace H : (some (t186, 0)) = some (r1, r2) := H
  have A13 := Aside0.mk A130
  clear A130
  simp only [Option.some.injEq, Prod.mk.injEq] at H
  obtain ⟨rfl, rfl⟩ := H
  have hcz14_0 : w10.cell? ⟨gb185, 0, none⟩ = some (.int .u64 0) := (blk_cell BK185.out 0).trans rfl
  have hcz14_1 : w10.cell? ⟨gb185, 1, none⟩ = some (.bool false) := (blk_cell BK185.out 1).trans rfl
  have hfz14_0 := blk_frozen BK185.out 0
  have hfz14_1 := blk_frozen BK185.out 1
  go_wp2_with (first | ((with_reducible refine gate_callee (f := 62) rfl ?_); refine goesM_ (some 24) Try.func62 #[.agg #[.int .u64 t182, .bool t183], .int .u64 a1, .int .u64 a2] ?_; (with_reducible refine (field_reckoner_mul.calls t182 t183 a1 a2 t186 _ A13.out).mono ?_); rintro e w15 ⟨rfl, hb⟩; refine ⟨_, rfl, ?_⟩; have n0_ := A_ (Kd.R_below (by (with_reducible repeat (first | apply Kd.R_alloc | apply Kd.R_drewN | apply Kd.R_drew)); exact (Kd.R_mono (Kd.R_far (p := ⟨gb185, 1, none⟩) (Kd.R_far (p := ⟨gb185, 0, none⟩) (Kd.R_types HO181.out BK185.out (by decide)) (fun _ hk => hk.2) (.int .u64 t182)) (fun _ hk => hk.2) (.bool t183)) (fun _ h_ => h_.1))) hb); have n1_ := A_ (blk_below (g := gb185) (o := .cells #[.int .u64 t182, .bool t183] 83 (0, 0)) (by (with_reducible repeat (first | refine blk_drewN ?_ _ | refine blk_drew ?_ | refine blk_alloc ?_ _)); refine blk_put (cs := #[.int .u64 t182, .bool false]) ?_ 1 _ rfl; (with_reducible repeat (first | refine blk_drewN ?_ _ | refine blk_drew ?_ | refine blk_alloc ?_ _)); refine blk_put (cs := #[.int .u64 0, .bool false]) ?_ 0 _ rfl; (with_reducible repeat (first | refine blk_drewN ?_ _ | refine blk_drew ?_ | refine blk_alloc ?_ _)); exact BK185.out) hb); have n2_ := A_ (below_step hs_ hb); clear HO181 BK185 HB; have HO181 := n0_; have BK185 := n1_; have HB := n2_; clear n0_ n1_ n2_; (try clear hb)))
  go_ret2
  exact ⟨fr_, hs_⟩
 ·rw [if_neg c12] at H
  have c12b0 : (t184 == 0) = false := beq_eq_false_iff_ne.mpr c12
  have c12b1 : (t184 != 0) = true := bne_iff_ne.mpr c12
  (first | rw [c12b0] | rw [c12b1] | (simp only [i64_w, i32_w]; first | rw [c12b0] | rw [c12b1]) | skip)
  simp only [Option.some.injEq, Prod.mk.injEq] at H
  obtain ⟨rfl, rfl⟩ := H
  go_wp2
  go_ret2
  exact ⟨fr_, hs_⟩
/-! ### poly_reckoner_mul: function 50 -/
def poly_reckoner_mul.f (k : Nat) (a0_0 : Int) (a1 : Int) (a2 : Int) : Option (Int) := (field_Mul.f k a0_0 a1 a2).bind fun bt188 => (some bt188.1)
theorem poly_reckoner_mul.mono : ∀ a0 a1 a2 k, LeO (poly_reckoner_mul.f k a0 a1 a2) (poly_reckoner_mul.f (k + 1) a0 a1 a2) := by
 intro a0 a1 a2 k
 unfold poly_reckoner_mul.f
 repeat' first
   | (with_reducible exact field_Mul.mono _ _ _ _)
   | (with_reducible exact LeO.refl _)
   | (with_reducible exact LeO.none _)
   | (with_reducible refine LeO.ite ?_ ?_)
   | (with_reducible refine LeO.bind ?_ (fun _ => ?_))
   | exact field_Mul.mono _ _ _ _
   | exact LeO.none _
   | refine LeO.ite ?_ ?_
   | refine LeO.bind ?_ (fun _ => ?_)
set_option maxHeartbeats 8000000 in
set_option maxRecDepth 100000 in
theorem poly_reckoner_mul.calls (k : Nat) (a0_0 : Int) (a1 : Int) (a2 : Int) (r : Int) (w : World) (h : poly_reckoner_mul.f k a0_0 a1 a2 = some r) :
  Calls Try.prog 50 #[.agg #[.int .u8 a0_0], .int .u64 a1, .int .u64 a2] w fun e w' => e = .returned (.int .u64 r) ∧ Below w.heap.size w w' := by
 have hu77 := Try.underlying77
 have HB := A_ (Below.refl w.heap.size w)
 have H : ((field_Mul.f k a0_0 a1 a2).bind fun bt188 => (some bt188.1)) = some r := h
 clear h
 replace H := Option.bind_eq_some_iff.mp H
 obtain ⟨⟨t188, t189⟩, A40, H⟩ := H
 replace H : (some t188) = some r := H
 have A4 := Aside0.mk A40
 clear A40
 obtain rfl := Option.some.inj H
 go_enter Try.func50, Try.ntmps50
 go_wp2_with (first | ((with_reducible refine gate_dst (N := 3) rfl ?_); refine box_event ?hg (N := 3) ?hd (cs := #[.int .u8 a0_0]) (t := 77) ?hr ?_; (case hd => rfl); (case hg => rfl); (case hr => first | (go_simp; done) | (go_simp; rfl)); intro gb187 hg w5 hbox hb; have n0_ := A_ (below_step hb_ hb); have n1_ := A_ (hbox); have n2_ := A_ ((by rw [hg]; exact (below_size hb_) : w.heap.size ≤ gb187)); have n3_ := A_ ((by rw [hg]; exact (below_size hb_) : w.heap.size ≤ gb187)); clear HB; have HB := n0_; have BK187 := n1_; have GW187 := n2_; have GE187 := n3_; clear n0_ n1_ n2_ n3_; clear hb hbox hg; have hcz6_0 : w5.cell? ⟨gb187, 0, none⟩ = some (.int .u8 a0_0) := (blk_cell BK187.out 0).trans rfl; have hfz6_0 := blk_frozen BK187.out 0) | ((with_reducible refine gate_callee (f := 58) rfl ?_); refine goesM_ (some 14) Try.func58 #[.int .u8 a0_0, .int .u64 a1, .int .u64 a2] ?_; (with_reducible refine (field_Mul.calls k a0_0 a1 a2 t188 t189 _ A4.out).mono ?_); rintro e w7 ⟨rfl, hb⟩; refine ⟨_, rfl, ?_⟩; have n0_ := A_ (blk_below (g := gb187) (o := .cells #[.int .u8 a0_0] 77 (0, 0)) (nb_ BK187) hb); have n1_ := A_ (below_step hs_ hb); clear BK187 HB; have BK187 := n0_; have HB := n1_; clear n0_ n1_; (try clear hb)))
 go_ret
 exact ⟨fr_, hs_⟩
/-! ### field_Sub: function 59 -/
def field_Sub.f (k : Nat) (a0 : Int) (a1 : Int) (a2 : Int) : Option (Int × Int) := (field_asked.f k a0 (([a1, a2] : List Int))).bind fun bt193 => (if bt193.2.2 = 0 then ((field_reckoner_sub.f bt193.1 bt193.2.1 a1 a2).bind fun t197 => (some (t197, 0))) else (some (0, bt193.2.2)))
theorem field_Sub.mono : ∀ a0 a1 a2 k, LeO (field_Sub.f k a0 a1 a2) (field_Sub.f (k + 1) a0 a1 a2) := by
 intro a0 a1 a2 k
 unfold field_Sub.f
 repeat' first
   | (with_reducible exact field_asked.mono _ _ _)
   | (with_reducible exact LeO.refl _)
   | (with_reducible exact LeO.none _)
   | (with_reducible refine LeO.ite ?_ ?_)
   | (with_reducible refine LeO.bind ?_ (fun _ => ?_))
   | exact field_asked.mono _ _ _
   | exact LeO.none _
   | refine LeO.ite ?_ ?_
   | refine LeO.bind ?_ (fun _ => ?_)
set_option maxHeartbeats 8000000 in
set_option maxRecDepth 100000 in
theorem field_Sub.calls (k : Nat) (a0 : Int) (a1 : Int) (a2 : Int) (r1 : Int) (r2 : Int) (w : World) (h : field_Sub.f k a0 a1 a2 = some (r1, r2)) :
  Calls Try.prog 59 #[.int .u8 a0, .int .u64 a1, .int .u64 a2] w fun e w' => e = .returned (.tuple #[.int .u64 r1, .int .i64 r2]) ∧ Below w.heap.size w w' := by
 have hu83 := Try.underlying83
 have HB := A_ (Below.refl w.heap.size w)
 have H : ((field_asked.f k a0 (([a1, a2] : List Int))).bind fun bt193 => (if bt193.2.2 = 0 then ((field_reckoner_sub.f bt193.1 bt193.2.1 a1 a2).bind fun t197 => (some (t197, 0))) else (some (0, bt193.2.2)))) = some (r1, r2) := h
 clear h
 obtain ⟨y190, hy190⟩ : ∃ y_ : List Int, y_ = (([a1, a2] : List Int)) := ⟨_, rfl⟩
 replace H : ((field_asked.f k a0 y190).bind fun bt193 => (if bt193.2.2 = 0 then ((field_reckoner_sub.f bt193.1 bt193.2.1 a1 a2).bind fun t197 => (some (t197, 0))) else (some (0, bt193.2.2)))) = some (r1, r2) := by first | (rw [hy190]; with_reducible exact H) | (have H2_ := (Option.bind_some _ _).symm.trans H; rw [hy190]; with_reducible exact H2_) | (have H2_ := (Option.bind_some _ _).symm.trans H; with_reducible exact H2_) | with_reducible exact H | (rw [hy190]; exact H) | exact H
 have Ny190 := Aside0.mk hy190
 clear hy190
 replace H := Option.bind_eq_some_iff.mp H
 obtain ⟨⟨t193, t194, t195⟩, A40, H⟩ := H
 replace H : (if t195 = 0 then ((field_reckoner_sub.f t193 t194 a1 a2).bind fun t197 => (some (t197, 0))) else (some (0, t195))) = some (r1, r2) := H
 have A4 := Aside0.mk A40
 clear A40
 have HC5 := Aside0.mk H
 clear H
 go_enter Try.func59, Try.ntmps59
 go_upto_if 19 with (first | ((with_reducible refine gate_dst (N := 14) rfl ?_); refine Kd.R_lit (Kd.int .u64) _ 40 ?hg (N := 14) ?hd (xs := ([a1, a2] : List Int)) (inner := [.int .u64 a1, .int .u64 a2]) (ok := fun _ => True) (okp := fun _ => True) ?hr ?hp (fun _ hk => hk) trivial (Below.refl _ _) (Nat.le_refl _) (by simp) ?_; (case hd => rfl); (case hg => rfl); (case hr => first | (go_simp; done) | (go_simp; rfl)); (case hp => exact (Reps.one (show Kd.M (Kd.int .u64) _ _ _ a1 [.int .u64 a1] from rfl) (Reps.one (show Kd.M (Kd.int .u64) _ _ _ a2 [.int .u64 a2] from rfl) (Reps.none _ _)))); intro v191 w6 ho7 hb hg_ hnew_; clear hg_ hnew_; (first | rw [← Ny190.out] at ho7 | (simp only [Int.reduceToNat] at ho7; rw [← Ny190.out] at ho7)); have n0_ := A_ (Kd.R_lower ho7 (below_size hb_)); have n1_ := A_ (below_step hb_ hb); clear HB; have HO192 := n0_; have HB := n1_; clear n0_ n1_; clear hb ho7; obtain ⟨Ao8, co8, eo8⟩ := Kd.R_slice HO192.out; subst eo8) | ((with_reducible refine gate_callee (f := 57) rfl ?_); refine goesM_ (some 15) Try.func57 #[.int .u8 a0, .slice Ao8 y190.length co8] ?_; (with_reducible refine (field_asked.calls k a0 _ _ y190 t193 t194 t195 _ ?side1 ?side2 A4.out).mono ?_); (case side1 => repeat (first | exact (Kd.R_reads' HO192.out).2.2 | (with_reducible refine Kd.C_alloc ?_ _) | (with_reducible refine Kd.C_drewN ?_ _) | (with_reducible refine Kd.C_drew ?_))); (case side2 => exact (Kd.R_reads' HO192.out).2.1); rintro e w9 ⟨rfl, hb⟩; refine ⟨_, rfl, ?_⟩; have n0_ := A_ (Kd.R_below (nR_ HO192) hb); have n1_ := A_ (below_step hb_ hb); clear HO192 HB; have HO192 := n0_; have HB := n1_; clear n0_ n1_; (try clear hb)) | ((with_reducible refine gate_dst (N := 8) rfl ?_); refine box_event ?hg (N := 8) ?hd (cs := #[.int .u64 0, .bool false]) (t := 83) ?hr ?_; (case hd => rfl); (case hg => rfl); (case hr => first | (go_simp; done) | (go_simp; rfl)); intro gb196 hg w10 hbox hb; have n0_ := A_ (Kd.R_below (nR_ HO192) hb); have n1_ := A_ (below_step hb_ hb); have n2_ := A_ (hbox); have n3_ := A_ ((by rw [hg]; exact (below_size hb_) : w.heap.size ≤ gb196)); have n4_ := A_ ((by rw [hg]; exact (below_size hb_) : w.heap.size ≤ gb196)); clear HO192 HB; have HO192 := n0_; have HB := n1_; have BK196 := n2_; have GW196 := n3_; have GE196 := n4_; clear n0_ n1_ n2_ n3_ n4_; clear hb hbox hg; have hcz11_0 : w10.cell? ⟨gb196, 0, none⟩ = some (.int .u64 0) := (blk_cell BK196.out 0).trans rfl; have hcz11_1 : w10.cell? ⟨gb196, 1, none⟩ = some (.bool false) := (blk_cell BK196.out 1).trans rfl; have hfz11_0 := blk_frozen BK196.out 0; have hfz11_1 := blk_frozen BK196.out 1))
 (try simp only [Act.put, List.setIfInBounds_toArray, List.set_cons_zero, List.set_cons_succ])
 have H := HC5.out
 clear HC5
 by_cases c12 : t195 = 0
 ·rw [if_pos c12] at H
  have c12b0 : (t195 == 0) = true := beq_iff_eq.mpr c12
  have c12b1 : (t195 != 0) = false := bne_eq_false_iff_eq.mpr c12
  clear c12
  (first | rw [c12b0] | rw [c12b1] | (simp only [i64_w, i32_w]; first | rw [c12b0] | rw [c12b1]) | skip)
  replace H := Option.bind_eq_some_iff.mp H
  obtain ⟨t197, A130, H⟩ := H
  replace H : (some (t197, 0)) = some (r1, r2) := H
  have A13 := Aside0.mk A130
  clear A130
  simp only [Option.some.injEq, Prod.mk.injEq] at H
  obtain ⟨rfl, rfl⟩ := H
  have hcz14_0 : w10.cell? ⟨gb196, 0, none⟩ = some (.int .u64 0) := (blk_cell BK196.out 0).trans rfl
  have hcz14_1 : w10.cell? ⟨gb196, 1, none⟩ = some (.bool false) := (blk_cell BK196.out 1).trans rfl
  have hfz14_0 := blk_frozen BK196.out 0
  have hfz14_1 := blk_frozen BK196.out 1
  go_wp2_with (first | ((with_reducible refine gate_callee (f := 66) rfl ?_); refine goesM_ (some 24) Try.func66 #[.agg #[.int .u64 t193, .bool t194], .int .u64 a1, .int .u64 a2] ?_; (with_reducible refine (field_reckoner_sub.calls t193 t194 a1 a2 t197 _ A13.out).mono ?_); rintro e w15 ⟨rfl, hb⟩; refine ⟨_, rfl, ?_⟩; have n0_ := A_ (Kd.R_below (by (with_reducible repeat (first | apply Kd.R_alloc | apply Kd.R_drewN | apply Kd.R_drew)); exact (Kd.R_mono (Kd.R_far (p := ⟨gb196, 1, none⟩) (Kd.R_far (p := ⟨gb196, 0, none⟩) (Kd.R_types HO192.out BK196.out (by decide)) (fun _ hk => hk.2) (.int .u64 t193)) (fun _ hk => hk.2) (.bool t194)) (fun _ h_ => h_.1))) hb); have n1_ := A_ (blk_below (g := gb196) (o := .cells #[.int .u64 t193, .bool t194] 83 (0, 0)) (by (with_reducible repeat (first | refine blk_drewN ?_ _ | refine blk_drew ?_ | refine blk_alloc ?_ _)); refine blk_put (cs := #[.int .u64 t193, .bool false]) ?_ 1 _ rfl; (with_reducible repeat (first | refine blk_drewN ?_ _ | refine blk_drew ?_ | refine blk_alloc ?_ _)); refine blk_put (cs := #[.int .u64 0, .bool false]) ?_ 0 _ rfl; (with_reducible repeat (first | refine blk_drewN ?_ _ | refine blk_drew ?_ | refine blk_alloc ?_ _)); exact BK196.out) hb); have n2_ := A_ (below_step hs_ hb); clear HO192 BK196 HB; have HO192 := n0_; have BK196 := n1_; have HB := n2_; clear n0_ n1_ n2_; (try clear hb)))
  go_ret2
  exact ⟨fr_, hs_⟩
 ·rw [if_neg c12] at H
  have c12b0 : (t195 == 0) = false := beq_eq_false_iff_ne.mpr c12
  have c12b1 : (t195 != 0) = true := bne_iff_ne.mpr c12
  (first | rw [c12b0] | rw [c12b1] | (simp only [i64_w, i32_w]; first | rw [c12b0] | rw [c12b1]) | skip)
  simp only [Option.some.injEq, Prod.mk.injEq] at H
  obtain ⟨rfl, rfl⟩ := H
  go_wp2
  go_ret2
  exact ⟨fr_, hs_⟩
/-! ### poly_reckoner_sub: function 51 -/
def poly_reckoner_sub.f (k : Nat) (a0_0 : Int) (a1 : Int) (a2 : Int) : Option (Int) := (field_Sub.f k a0_0 a1 a2).bind fun bt199 => (some bt199.1)
theorem poly_reckoner_sub.mono : ∀ a0 a1 a2 k, LeO (poly_reckoner_sub.f k a0 a1 a2) (poly_reckoner_sub.f (k + 1) a0 a1 a2) := by
 intro a0 a1 a2 k
 unfold poly_reckoner_sub.f
 repeat' first
   | (with_reducible exact field_Sub.mono _ _ _ _)
   | (with_reducible exact LeO.refl _)
   | (with_reducible exact LeO.none _)
   | (with_reducible refine LeO.ite ?_ ?_)
   | (with_reducible refine LeO.bind ?_ (fun _ => ?_))
   | exact field_Sub.mono _ _ _ _
   | exact LeO.none _
   | refine LeO.ite ?_ ?_
   | refine LeO.bind ?_ (fun _ => ?_)
set_option maxHeartbeats 8000000 in
set_option maxRecDepth 100000 in
theorem poly_reckoner_sub.calls (k : Nat) (a0_0 : Int) (a1 : Int) (a2 : Int) (r : Int) (w : World) (h : poly_reckoner_sub.f k a0_0 a1 a2 = some r) :
  Calls Try.prog 51 #[.agg #[.int .u8 a0_0], .int .u64 a1, .int .u64 a2] w fun e w' => e = .returned (.int .u64 r) ∧ Below w.heap.size w w' := by
 have hu77 := Try.underlying77
 have HB := A_ (Below.refl w.heap.size w)
 have H : ((field_Sub.f k a0_0 a1 a2).bind fun bt199 => (some bt199.1)) = some r := h
 clear h
 replace H := Option.bind_eq_some_iff.mp H
 obtain ⟨⟨t199, t200⟩, A40, H⟩ := H
 replace H : (some t199) = some r := H
 have A4 := Aside0.mk A40
 clear A40
 obtain rfl := Option.some.inj H
 go_enter Try.func51, Try.ntmps51
 go_wp2_with (first | ((with_reducible refine gate_dst (N := 3) rfl ?_); refine box_event ?hg (N := 3) ?hd (cs := #[.int .u8 a0_0]) (t := 77) ?hr ?_; (case hd => rfl); (case hg => rfl); (case hr => first | (go_simp; done) | (go_simp; rfl)); intro gb198 hg w5 hbox hb; have n0_ := A_ (below_step hb_ hb); have n1_ := A_ (hbox); have n2_ := A_ ((by rw [hg]; exact (below_size hb_) : w.heap.size ≤ gb198)); have n3_ := A_ ((by rw [hg]; exact (below_size hb_) : w.heap.size ≤ gb198)); clear HB; have HB := n0_; have BK198 := n1_; have GW198 := n2_; have GE198 := n3_; clear n0_ n1_ n2_ n3_; clear hb hbox hg; have hcz6_0 : w5.cell? ⟨gb198, 0, none⟩ = some (.int .u8 a0_0) := (blk_cell BK198.out 0).trans rfl; have hfz6_0 := blk_frozen BK198.out 0) | ((with_reducible refine gate_callee (f := 59) rfl ?_); refine goesM_ (some 14) Try.func59 #[.int .u8 a0_0, .int .u64 a1, .int .u64 a2] ?_; (with_reducible refine (field_Sub.calls k a0_0 a1 a2 t199 t200 _ A4.out).mono ?_); rintro e w7 ⟨rfl, hb⟩; refine ⟨_, rfl, ?_⟩; have n0_ := A_ (blk_below (g := gb198) (o := .cells #[.int .u8 a0_0] 77 (0, 0)) (nb_ BK198) hb); have n1_ := A_ (below_step hs_ hb); clear BK198 HB; have BK198 := n0_; have HB := n1_; clear n0_ n1_; (try clear hb)))
 go_ret
 exact ⟨fr_, hs_⟩
end Go.Proofs.Yteofgcmgncaojaa.PEuclidMade
