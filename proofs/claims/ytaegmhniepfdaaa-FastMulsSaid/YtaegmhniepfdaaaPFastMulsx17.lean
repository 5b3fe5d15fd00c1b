/- The Go functions as Lean functions, each with the proof that its call comes to just that; written by a program of this session, by the words of the print. -/
import Derived.Test.YtaegmhniepfdaaaPFastMulsx0
import Derived.Test.YtaegmhniepfdaaaPFastMulsx2
import Derived.Test.YtaegmhniepfdaaaPFastMulsx9
import Derived.Test.YtaegmhniepfdaaaPFastMulsx12
import Derived.Test.YtaegmhniepfdaaaPFastMulsx14
import Derived.Test.YtaegmhniepfdaaaPFastMulsx16
namespace Go.Proofs.Ytaegmhniepfdaaa.PFastMuls
open Go.RowKit Go.Proofs.YtaegmhniepfdaaaW.PrintWords Go.Proofs.YtaegmhniepfdaaaW.PrintLast Go.Proofs.YtaegmhniepfdaaaW.PrintMore
attribute [local go_sem] max2_int min2_int max_two min_two max_three min_three max_four min_four   -- for this text's walks alone
set_option linter.unusedVariables false
set_option linter.unusedSimpArgs false
/-! ### fast_shaped: function 24 -/
def fast_shaped.l0 : Nat → List (List Int) → List (List Int) → Int → Int → Option (Int)
 | 0, _, _, _, _ => none
 | k + 1, x1, x16, x17, x18 => if x18 < x17 then (if 0 ≤ x18 then (if x18 < (x16.length : Int) then ((fast_log.f ((rd_L1 x16 x18).length : Int)).bind fun bt504 => (if bt504.2 = true then (if 0 < (x1.length : Int) then (if ((rd_L1 x16 x18).length : Int) = ((rd_L1 x1 0).length : Int) then (fast_shaped.l0 k x1 x16 x17 (wrap64 (x18 + 1))) else (some 3)) else (none)) else (some 3))) else (none)) else (none)) else (some 0)
def fast_shaped.f (k : Nat) (a0 : Int) (l1 : List (List Int)) : Option (Int) := (fast_may.f k a0 l1).bind fun t502 => (if t502 = 0 then (fast_shaped.l0 k l1 l1 (l1.length : Int) 0) else (some t502))
theorem fast_shaped.mono_l : ∀ k, (∀ y0 y1 y2 y3, LeO (fast_shaped.l0 k y0 y1 y2 y3) (fast_shaped.l0 (k + 1) y0 y1 y2 y3))
 | 0 => fun _ _ _ _ r h => by simp [fast_shaped.l0] at h
 | k + 1 => by
  have ih0 := fast_shaped.mono_l k
  ·intro y0 y1 y2 y3
   unfold fast_shaped.l0
   repeat' first
   | (with_reducible exact ih0 _ _ _ _)
   | (with_reducible exact fast_may.mono _ _ _)
   | (with_reducible exact LeO.refl _)
   | (with_reducible exact LeO.none _)
   | (with_reducible refine LeO.ite ?_ ?_)
   | (with_reducible refine LeO.bind ?_ (fun _ => ?_))
   | exact ih0 _ _ _ _
   | exact fast_may.mono _ _ _
   | exact LeO.none _
   | refine LeO.ite ?_ ?_
   | refine LeO.bind ?_ (fun _ => ?_)
theorem fast_shaped.mono : ∀ a0 a1 k, LeO (fast_shaped.f k a0 a1) (fast_shaped.f (k + 1) a0 a1) := by
 intro a0 a1 k
 have ih0 := fast_shaped.mono_l k
 unfold fast_shaped.f
 repeat' first
   | (with_reducible exact ih0 _ _ _ _)
   | (with_reducible exact fast_may.mono _ _ _)
   | (with_reducible exact LeO.refl _)
   | (with_reducible exact LeO.none _)
   | (with_reducible refine LeO.ite ?_ ?_)
   | (with_reducible refine LeO.bind ?_ (fun _ => ?_))
   | exact ih0 _ _ _ _
   | exact fast_may.mono _ _ _
   | exact LeO.none _
   | refine LeO.ite ?_ ?_
   | refine LeO.bind ?_ (fun _ => ?_)
set_option maxHeartbeats 8000000 in
set_option maxRecDepth 100000 in
theorem fast_shaped.calls (k : Nat) (a0 : Int) (A1 : Option Addr) (c1 : Nat) (l1 : List (List Int)) (r : Int) (w : World) (hr1 : Kd.C (Kd.slice 33 (Kd.int .u64)) w A1 l1.length l1) (hc1 : l1.length ≤ c1) (h : fast_shaped.f k a0 l1 = some r) :
  Calls Try.prog 24 #[.int .u8 a0, .slice A1 l1.length c1] w fun e w' => e = .returned (.int .i64 r) ∧ Below w.heap.size w w' := by
 have HR1 := Aside0.mk hr1
 have HC1 := Aside0.mk hc1
 clear hr1 hc1
 have HB := A_ (Below.refl w.heap.size w)
 have H : ((fast_may.f k a0 l1).bind fun t502 => (if t502 = 0 then (fast_shaped.l0 k l1 l1 (l1.length : Int) 0) else (some t502))) = some r := h
 clear h
 replace H := Option.bind_eq_some_iff.mp H
 obtain ⟨t502, A30, H⟩ := H
 replace H : (if t502 = 0 then (fast_shaped.l0 k l1 l1 (l1.length : Int) 0) else (some t502)) = some r := H
 have A3 := Aside0.mk A30
 clear A30
 have HC4 := Aside0.mk H
 clear H
 go_enter Try.func24, Try.ntmps24
 go_upto_if 14 with (first | ((with_reducible refine gate_callee (f := 35) rfl ?_); refine goesM_ (some 12) Try.func35 #[.int .u8 a0, .slice A1 l1.length c1] ?_; (with_reducible refine (fast_may.calls k a0 _ _ l1 t502 _ ?side1 ?side2 A3.out).mono ?_); (case side1 => exact nC_ HR1.out); (case side2 => exact HC1.out); rintro e w5 ⟨rfl, hb⟩; refine ⟨_, rfl, ?_⟩; have n0_ := A_ (below_step hb_ hb); clear HB; have HB := n0_; clear n0_; (try clear hb)))
 (try simp only [Act.put, List.setIfInBounds_toArray, List.set_cons_zero, List.set_cons_succ])
 have H := HC4.out
 clear HC4
 by_cases c6 : t502 = 0
 ·rw [if_pos c6] at H
  have c6b0 : (t502 == 0) = true := beq_iff_eq.mpr c6
  have c6b1 : (t502 != 0) = false := bne_eq_false_iff_eq.mpr c6
  clear c6
  (first | rw [c6b0] | rw [c6b1] | (simp only [i64_w, i32_w]; first | rw [c6b0] | rw [c6b1]) | skip)
  have H' := Aside0.mk H
  clear H
  go_wp2
  go_loopg [18] k (fun kq v18 w' => ∃ (x18_1 : Int), v18 = .int .i64 x18_1 ∧ Aside0 (fast_shaped.l0 kq l1 l1 (l1.length : Int) x18_1 = some r) ∧ Aside0 (kq ≤ k) ∧ Aside0 (Below w.heap.size w w'))
  case atStart => exact ⟨(0), (fs_), H', ⟨Nat.le_refl _⟩, ⟨by repeat (first | (with_reducible first | exact HB.out | apply below_alloc | apply pw_below_drewN | apply below_drew1) | exact HB.out)⟩⟩
  case round =>
   clear H'
   try clear c1
   try clear c2
   try clear p2
   try clear c3
   try clear c6
   try clear c6b0
   try clear c6b1
   obtain ⟨x18_1, rfl, HA, HK1, HB⟩ := hrel
   cases gk with
   | zero => exact absurd HA.out (by simp [fast_shaped.l0])
   | succ k1 =>
    have H := HA.out
    clear HA
    simp only [fast_shaped.l0] at H
    by_cases c7 : x18_1 < (l1.length : Int)
    ·rw [if_pos c7] at H
     have c7b0 : decide (x18_1 < (l1.length : Int)) = true := decide_eq_true c7
     clear c7
     by_cases c8 : 0 ≤ x18_1
     ·rw [if_pos c8] at H
      have c8b0 : decide (0 ≤ x18_1) = true := decide_eq_true c8
      clear c8
      by_cases c9 : x18_1 < (l1.length : Int)
      ·rw [if_pos c9] at H
       have c9b0 : decide (x18_1 < (l1.length : Int)) = true := decide_eq_true c9
       clear c9
       replace H := Option.bind_eq_some_iff.mp H
       obtain ⟨⟨t504, t505⟩, A100, H⟩ := H
       replace H : (if t505 = true then (if 0 < (l1.length : Int) then (if ((rd_L1 l1 x18_1).length : Int) = ((rd_L1 l1 0).length : Int) then (fast_shaped.l0 k1 l1 l1 (l1.length : Int) (wrap64 (x18_1 + 1))) else (some 3)) else (none)) else (some 3)) = some r := H
       have A10 := Aside0.mk A100
       clear A100
       by_cases c11 : t505 = true
       ·subst c11
        have H1 : (if 0 < (l1.length : Int) then (if ((rd_L1 l1 x18_1).length : Int) = ((rd_L1 l1 0).length : Int) then (fast_shaped.l0 k1 l1 l1 (l1.length : Int) (wrap64 (x18_1 + 1))) else (some 3)) else (none)) = some r := by rw [if_pos rfl] at H; exact H
        clear H
        have H := H1
        clear H1
        by_cases c12 : 0 < (l1.length : Int)
        ·rw [if_pos c12] at H
         have c12b0 : decide (0 < (l1.length : Int)) = true := decide_eq_true c12
         have c12b1 : decide (0 < l1.length) = true := decide_eq_true (by omega)
         clear c12
         have HC13 := Aside0.mk H
         clear H
         have p503 : 0 ≤ (x18_1 : Int) := of_decide_eq_true (by first | (with_reducible assumption) | assumption)
         have q503 : x18_1 < (l1.length : Int) := of_decide_eq_true (by first | (with_reducible assumption) | assumption)
         obtain ⟨ad503, A503_0, c503_0, e503, hx503_0, hl503_0, hi503_0⟩ := at_L1 HR1.out x18_1 p503 q503
         cases e503
         replace hx503_0 := (HB.out.cell (World.block_lt_of_cell? w _ hx503_0)).trans hx503_0
         have HR503_0 := Aside0.mk hi503_0
         have HC503_0 := Aside0.mk hl503_0
         clear hi503_0 hl503_0
         replace p503 := eq_true p503
         replace q503 := eq_true q503
         go_upto_if 38 with (first | ((with_reducible refine gate_callee (f := 38) rfl ?_); refine goesM_ (some 25) Try.func38 #[.int .i64 ((rd_L1 l1 x18_1).length : Int)] ?_; (with_reducible refine (fast_log.calls ((rd_L1 l1 x18_1).length : Int) t504 true _ A10.out).mono ?_); rintro e w' ⟨rfl, ⟨nd, rfl⟩⟩; refine ⟨_, rfl, ?_⟩; have p506 : 0 ≤ (0 : Int) := (by omega); have q506 : 0 < (l1.length : Int) := of_decide_eq_true (by first | (with_reducible assumption) | assumption); obtain ⟨ad506, A506_0, c506_0, e506, hx506_0, hl506_0, hi506_0⟩ := at_L1 HR1.out 0 p506 q506; obtain rfl : ad503 = ad506 := (by injection e506); have qi506 : (0 < l1.length) = True := eq_true (by omega); (try rw [show ((0 : Int)).toNat = 0 from rfl] at hx506_0); (try rw [Addr.add_zero'] at hx506_0); replace hx506_0 := (HB.out.cell (World.block_lt_of_cell? w _ hx506_0)).trans hx506_0; have HR506_0 := Aside0.mk hi506_0; have HC506_0 := Aside0.mk hl506_0; clear hi506_0 hl506_0; replace p506 := eq_true p506; replace q506 := eq_true q506))
         (try simp only [Act.put, List.setIfInBounds_toArray, List.set_cons_zero, List.set_cons_succ])
         have H := HC13.out
         clear HC13
         by_cases c14 : ((rd_L1 l1 x18_1).length : Int) = ((rd_L1 l1 0).length : Int)
         ·rw [if_pos c14] at H
          have c14b0 : (((rd_L1 l1 x18_1).length : Int) == ((rd_L1 l1 0).length : Int)) = true := beq_iff_eq.mpr c14
          have c14b1 : (((rd_L1 l1 x18_1).length : Int) != ((rd_L1 l1 0).length : Int)) = false := bne_eq_false_iff_eq.mpr c14
          have c14b2 : ((rd_L1 l1 x18_1).length == (rd_L1 l1 0).length) = true := by first | simpa using c14 | (simp at c14 ⊢; omega)
          clear c14
          (first | rw [c14b0] | rw [c14b1] | rw [c14b2] | (simp only [i64_w, i32_w]; first | rw [c14b0] | rw [c14b1] | rw [c14b2]) | skip)
          have H' := Aside0.mk H
          clear H
          go_wp2
          go_roundg k1
          case measure => have := HK1.out; omega
          case rel => exact ⟨(wrap64 (x18_1 + 1)), (fs_), H', ⟨by have := HK1.out; omega⟩, ⟨by repeat (first | (with_reducible first | exact HB.out | apply below_alloc | apply pw_below_drewN | apply below_drew1) | exact HB.out)⟩⟩
         ·rw [if_neg c14] at H
          have c14b0 : (((rd_L1 l1 x18_1).length : Int) == ((rd_L1 l1 0).length : Int)) = false := beq_eq_false_iff_ne.mpr c14
          have c14b1 : (((rd_L1 l1 x18_1).length : Int) != ((rd_L1 l1 0).length : Int)) = true := bne_iff_ne.mpr c14
          have c14b2 : ((rd_L1 l1 x18_1).length == (rd_L1 l1 0).length) = false := by first | simpa using c14 | (simp at c14 ⊢; omega)
          (first | rw [c14b0] | rw [c14b1] | rw [c14b2] | (simp only [i64_w, i32_w]; first | rw [c14b0] | rw [c14b1] | rw [c14b2]) | skip)
          obtain rfl := Option.some.inj H
          go_wp2
          go_ret
          exact ⟨fr_, hb_⟩
        ·rw [if_neg c12] at H
         exact absurd H (by simp)
       ·replace c11 := Bool.eq_false_iff.mpr c11
        subst c11
        have H1 : (some 3) = some r := by rw [if_neg (show ¬ (false = true) by decide)] at H; exact H
        clear H
        have H := H1
        clear H1
        obtain rfl := Option.some.inj H
        have p503 : 0 ≤ (x18_1 : Int) := of_decide_eq_true (by first | (with_reducible assumption) | assumption)
        have q503 : x18_1 < (l1.length : Int) := of_decide_eq_true (by first | (with_reducible assumption) | assumption)
        obtain ⟨ad503, A503_0, c503_0, e503, hx503_0, hl503_0, hi503_0⟩ := at_L1 HR1.out x18_1 p503 q503
        cases e503
        replace hx503_0 := (HB.out.cell (World.block_lt_of_cell? w _ hx503_0)).trans hx503_0
        have HR503_0 := Aside0.mk hi503_0
        have HC503_0 := Aside0.mk hl503_0
        clear hi503_0 hl503_0
        replace p503 := eq_true p503
        replace q503 := eq_true q503
        go_wp2_with (first | ((with_reducible refine gate_callee (f := 38) rfl ?_); refine goesM_ (some 25) Try.func38 #[.int .i64 ((rd_L1 l1 x18_1).length : Int)] ?_; (with_reducible refine (fast_log.calls ((rd_L1 l1 x18_1).length : Int) t504 false _ A10.out).mono ?_); rintro e w' ⟨rfl, ⟨nd, rfl⟩⟩; refine ⟨_, rfl, ?_⟩))
        go_ret
        exact ⟨fr_, hb_⟩
      ·rw [if_neg c9] at H
       exact absurd H (by simp)
     ·rw [if_neg c8] at H
      exact absurd H (by simp)
    ·rw [if_neg c7] at H
     have c7b0 : decide (x18_1 < (l1.length : Int)) = false := decide_eq_false c7
     clear c7
     obtain rfl := Option.some.inj H
     go_wp2
     go_ret
     exact ⟨fr_, hb_⟩
 ·rw [if_neg c6] at H
  have c6b0 : (t502 == 0) = false := beq_eq_false_iff_ne.mpr c6
  have c6b1 : (t502 != 0) = true := bne_iff_ne.mpr c6
  (first | rw [c6b0] | rw [c6b1] | (simp only [i64_w, i32_w]; first | rw [c6b0] | rw [c6b1]) | skip)
  obtain rfl := Option.some.inj H
  go_wp2
  go_ret
  exact ⟨fr_, hb_⟩
/-! ### fast_Transform: function 10 -/
def fast_Transform.f (k : Nat) (a0 : Int) (l1 : List Int) : Option (List Int × Int) := (fast_shaped.f k a0 (([l1] : List (List Int)))).bind fun t510 => (if t510 = 0 then ((fast_reckoner_there.f k a0 l1).bind fun t511 => (some (t511, 0))) else (some (([] : List Int), t510)))
theorem fast_Transform.mono : ∀ a0 a1 k, LeO (fast_Transform.f k a0 a1) (fast_Transform.f (k + 1) a0 a1) := by
 intro a0 a1 k
 unfold fast_Transform.f
 repeat' first
   | (with_reducible exact fast_reckoner_there.mono _ _ _)
   | (with_reducible exact fast_shaped.mono _ _ _)
   | (with_reducible exact LeO.refl _)
   | (with_reducible exact LeO.none _)
   | (with_reducible refine LeO.ite ?_ ?_)
   | (with_reducible refine LeO.bind ?_ (fun _ => ?_))
   | exact fast_reckoner_there.mono _ _ _
   | exact fast_shaped.mono _ _ _
   | exact LeO.none _
   | refine LeO.ite ?_ ?_
   | refine LeO.bind ?_ (fun _ => ?_)
set_option maxHeartbeats 8000000 in
set_option maxRecDepth 100000 in
theorem fast_Transform.calls (k : Nat) (a0 : Int) (P1_ : Nat → Prop) (A1 : Option Addr) (c1 : Nat) (l1 : List Int) (r1 : List Int) (r2 : Int) (w : World) (hs1 : Kd.V (Kd.int .u64) 33 w w.heap.size (fun k_ => P1_ k_) (.slice A1 l1.length c1) l1) (h : fast_Transform.f k a0 l1 = some (r1, r2)) :
  Calls Try.prog 10 #[.int .u8 a0, .slice A1 l1.length c1] w fun e w' => ∃ v0_ : Value, e = .returned (.tuple #[v0_, .int .i64 r2]) ∧ Kd.R (Kd.int .u64) 33 w' w.heap.size (fun k_ => (w.heap.size ≤ k_)) v0_ r1 ∧ Below w.heap.size w w' := by
 have hu47 := Try.underlying47
 have HO1 := A_ (show Kd.V (Kd.int .u64) 33 w w.heap.size (fun k_ => (P1_ k_ ∨ w.heap.size ≤ k_)) (.slice A1 l1.length c1) l1 from Kd.V_mono hs1 (fun k_ hk => .inl hk))
 have HB := A_ (Below.refl w.heap.size w)
 have H : ((fast_shaped.f k a0 (([l1] : List (List Int)))).bind fun t510 => (if t510 = 0 then ((fast_reckoner_there.f k a0 l1).bind fun t511 => (some (t511, 0))) else (some (([] : List Int), t510)))) = some (r1, r2) := h
 clear h
 obtain ⟨y507, hy507⟩ : ∃ y_ : List (List Int), y_ = (([l1] : List (List Int))) := ⟨_, rfl⟩
 replace H : ((fast_shaped.f k a0 y507).bind fun t510 => (if t510 = 0 then ((fast_reckoner_there.f k a0 l1).bind fun t511 => (some (t511, 0))) else (some (([] : List Int), t510)))) = some (r1, r2) := by first | (rw [hy507]; with_reducible exact H) | (have H2_ := (Option.bind_some _ _).symm.trans H; rw [hy507]; with_reducible exact H2_) | (have H2_ := (Option.bind_some _ _).symm.trans H; with_reducible exact H2_) | with_reducible exact H | (rw [hy507]; exact H) | exact H
 have Ny507 := Aside0.mk hy507
 clear hy507
 replace H := Option.bind_eq_some_iff.mp H
 obtain ⟨t510, A30, H⟩ := H
 replace H : (if t510 = 0 then ((fast_reckoner_there.f k a0 l1).bind fun t511 => (some (t511, 0))) else (some (([] : List Int), t510))) = some (r1, r2) := H
 have A3 := Aside0.mk A30
 clear A30
 have HC4 := Aside0.mk H
 clear H
 go_enter Try.func10, Try.ntmps10
 go_upto_if 12 with (first | ((with_reducible refine gate_dst (N := 9) rfl ?_); refine Kd.N_lit (Kd.slice 33 (Kd.int .u64)) _ 22 ?hg (N' := 9) ?hd (xs := ([l1] : List (List Int))) (inner := [.slice A1 l1.length c1]) (ok := (fun k_ => (P1_ k_ ∨ w.heap.size ≤ k_))) (okp := (fun k_ => (P1_ k_ ∨ w.heap.size ≤ k_))) ?hr ?hp (fun _ hk => hk) ((show ∀ k_, w.heap.size ≤ k_ → (fun k_ => (P1_ k_ ∨ w.heap.size ≤ k_)) k_ from fun k_ hk => (.inr (Nat.le_trans (below_size hb_) hk))) _ (Nat.le_refl _)) (Below.refl _ _) (Nat.le_refl _) (by simp) ?_; (case hd => rfl); (case hg => rfl); (case hr => first | (go_simp; done) | (go_simp; rfl)); (case hp => exact (Reps.one (show Kd.FK (Kd.slice 33 (Kd.int .u64)) _ _ l1 [.slice A1 l1.length c1] from (Kd.FK_slice_mk (Kd.V_reads' (Kd.V_mono (ok' := (fun k_ => (P1_ k_ ∨ w.heap.size ≤ k_))) (HO1.out) (fun k_ hk => hk))).2.1 (Kd.V_F (Kd.V_mono (ok' := (fun k_ => (P1_ k_ ∨ w.heap.size ≤ k_))) (HO1.out) (fun k_ hk => hk))))) (Reps.none _ _))); intro v508 w5 ho6 hb hg_ hnew_; clear hg_ hnew_; (first | rw [← Ny507.out] at ho6 | (simp only [Int.reduceToNat] at ho6; rw [← Ny507.out] at ho6)); have n0_ := A_ (Kd.V_elder' (nV_ HO1) (Kd.N_base ho6) hb); have n1_ := A_ (Kd.N_lower ho6 (below_size hb_)); have n2_ := A_ (below_step hb_ hb); clear HO1 HB; have HO1 := n0_; have HO509 := n1_; have HB := n2_; clear n0_ n1_ n2_; clear hb ho6; obtain ⟨Ao7, co7, eo7⟩ := Kd.N_slice HO509.out; subst eo7) | ((with_reducible refine gate_callee (f := 24) rfl ?_); refine goesM_ (some 10) Try.func24 #[.int .u8 a0, .slice Ao7 y507.length co7] ?_; (with_reducible refine (fast_shaped.calls k a0 _ _ y507 t510 _ ?side1 ?side2 A3.out).mono ?_); (case side1 => repeat (first | exact (Kd.N_reads' HO509.out).2.2 | (with_reducible refine Kd.C_alloc ?_ _) | (with_reducible refine Kd.C_drewN ?_ _) | (with_reducible refine Kd.C_drew ?_))); (case side2 => exact (Kd.N_reads' HO509.out).2.1); rintro e w8 ⟨rfl, hb⟩; refine ⟨_, rfl, ?_⟩; have n0_ := A_ (Kd.V_below (nV_ HO1) hb); have n1_ := A_ (Kd.N_below (nN_ HO509) hb); have n2_ := A_ (below_step hb_ hb); clear HO1 HO509 HB; have HO1 := n0_; have HO509 := n1_; have HB := n2_; clear n0_ n1_ n2_; (try clear hb)))
 (try simp only [Act.put, List.setIfInBounds_toArray, List.set_cons_zero, List.set_cons_succ])
 have H := HC4.out
 clear HC4
 by_cases c9 : t510 = 0
 ·rw [if_pos c9] at H
  have c9b0 : (t510 == 0) = true := beq_iff_eq.mpr c9
  have c9b1 : (t510 != 0) = false := bne_eq_false_iff_eq.mpr c9
  clear c9
  (first | rw [c9b0] | rw [c9b1] | (simp only [i64_w, i32_w]; first | rw [c9b0] | rw [c9b1]) | skip)
  replace H := Option.bind_eq_some_iff.mp H
  obtain ⟨t511, A100, H⟩ := H
  replace H : (some (t511, 0)) = some (r1, r2) := H
  have A10 := Aside0.mk A100
  clear A100
  simp only [Option.some.injEq, Prod.mk.injEq] at H
  obtain ⟨rfl, rfl⟩ := H
  go_wp2_with (first | ((with_reducible refine gate_callee (f := 25) rfl ?_); refine goesM_ (some 17) Try.func25 #[.agg #[.int .u8 a0], .slice A1 l1.length c1] ?_; (with_reducible refine (fast_reckoner_there.calls k a0 _ _ l1 t511 _ ?side1 ?side2 A10.out).mono ?_); (case side1 => repeat (first | exact (Kd.V_reads' HO1.out).2.2 | (with_reducible refine Kd.C_alloc ?_ _) | (with_reducible refine Kd.C_drewN ?_ _) | (with_reducible refine Kd.C_drew ?_))); (case side2 => exact (Kd.V_reads' HO1.out).2.1); rintro e w11 ⟨v512, rfl, ho0, hb⟩; refine ⟨_, rfl, ?_⟩; have n0_ := A_ (Kd.V_elder' (nV_ HO1) (Kd.R_base ho0) hb); have n1_ := A_ (Kd.N_elder' (nN_ HO509) (Kd.R_base ho0) hb); have n2_ := A_ (Kd.R_lower (Kd.R_newM (M := fun k_ => (w.heap.size ≤ k_)) ho0 (below_size hb_) (fun k_ h_ => h_)) (below_size hb_)); have n3_ := A_ (below_step hb_ hb); clear HO1 HO509 HB; have HO1 := n0_; have HO509 := n1_; have HO513 := n2_; have HB := n3_; clear n0_ n1_ n2_ n3_; (try clear hb); (try clear ho0)))
  go_ret2
  exact ⟨_, fr_, by (with_reducible repeat (first | apply Kd.R_alloc | apply Kd.R_drewN | apply Kd.R_drew)); exact Kd.R_mono HO513.out (fun _ hk => hk.1), hb_⟩
 ·rw [if_neg c9] at H
  have c9b0 : (t510 == 0) = false := beq_eq_false_iff_ne.mpr c9
  have c9b1 : (t510 != 0) = true := bne_iff_ne.mpr c9
  (first | rw [c9b0] | rw [c9b1] | (simp only [i64_w, i32_w]; first | rw [c9b0] | rw [c9b1]) | skip)
  simp only [Option.some.injEq, Prod.mk.injEq] at H
  obtain ⟨rfl, rfl⟩ := H
  go_wp2
  go_ret2
  exact ⟨_, fr_, by first | exact Kd.R_nil _ _ _ _ _ | exact Kd.N_nil _ _ _ _ _ | exact Kd.V_nil _ _ _ _ _ | exact Kd.Q_nil _ _ _ _ _ | exact Kd.S_nil _ _ _ _ _, hb_⟩
/-! ### cr1_Same: function 18 -/
def cr1_Same.l0 : Nat → List Int → List Int → Int → Option (Bool)
 | 0, _, _, _ => none
 | k + 1, x0, x1, x5 => if x5 < (x0.length : Int) then (if 0 ≤ x5 then (if x5 < (x1.length : Int) then (if (rd x0 x5) = (rd x1 x5) then (cr1_Same.l0 k x0 x1 (wrap64 (x5 + 1))) else (some false)) else (none)) else (none)) else (some true)
def cr1_Same.f (k : Nat) (l0 : List Int) (l1 : List Int) : Option (Bool) := if (l0.length : Int) = (l1.length : Int) then (cr1_Same.l0 k l0 l1 0) else (some false)
theorem cr1_Same.mono_l : ∀ k, (∀ y0 y1 y2, LeO (cr1_Same.l0 k y0 y1 y2) (cr1_Same.l0 (k + 1) y0 y1 y2))
 | 0 => fun _ _ _ r h => by simp [cr1_Same.l0] at h
 | k + 1 => by
  have ih0 := cr1_Same.mono_l k
  ·intro y0 y1 y2
   unfold cr1_Same.l0
   repeat' first
   | (with_reducible exact ih0 _ _ _)
   | (with_reducible exact LeO.refl _)
   | (with_reducible exact LeO.none _)
   | (with_reducible refine LeO.ite ?_ ?_)
   | (with_reducible refine LeO.bind ?_ (fun _ => ?_))
   | exact ih0 _ _ _
   | exact LeO.none _
   | refine LeO.ite ?_ ?_
   | refine LeO.bind ?_ (fun _ => ?_)
theorem cr1_Same.mono : ∀ a0 a1 k, LeO (cr1_Same.f k a0 a1) (cr1_Same.f (k + 1) a0 a1) := by
 intro a0 a1 k
 have ih0 := cr1_Same.mono_l k
 unfold cr1_Same.f
 repeat' first
   | (with_reducible exact ih0 _ _ _)
   | (with_reducible exact LeO.refl _)
   | (with_reducible exact LeO.none _)
   | (with_reducible refine LeO.ite ?_ ?_)
   | (with_reducible refine LeO.bind ?_ (fun _ => ?_))
   | exact ih0 _ _ _
   | exact LeO.none _
   | refine LeO.ite ?_ ?_
   | refine LeO.bind ?_ (fun _ => ?_)
set_option maxHeartbeats 8000000 in
set_option maxRecDepth 100000 in
theorem cr1_Same.calls (k : Nat) (A0 : Option Addr) (c0 : Nat) (l0 : List Int) (A1 : Option Addr) (c1 : Nat) (l1 : List Int) (r : Bool) (w : World) (hr0 : Kd.C (Kd.int .u64) w A0 l0.length l0) (hc0 : l0.length ≤ c0) (hr1 : Kd.C (Kd.int .u64) w A1 l1.length l1) (hc1 : l1.length ≤ c1) (h : cr1_Same.f k l0 l1 = some r) :
  Calls Try.prog 18 #[.slice A0 l0.length c0, .slice A1 l1.length c1] w fun e w' => e = .returned (.bool r) ∧ Drawn0 w w' := by
 have HR0 := Aside0.mk hr0
 have HC0 := Aside0.mk hc0
 clear hr0 hc0
 have HR1 := Aside0.mk hr1
 have HC1 := Aside0.mk hc1
 clear hr1 hc1
 have H : (if (l0.length : Int) = (l1.length : Int) then (cr1_Same.l0 k l0 l1 0) else (some false)) = some r := h
 clear h
 by_cases c3 : (l0.length : Int) = (l1.length : Int)
 ·rw [if_pos c3] at H
  have c3b0 : ((l0.length : Int) == (l1.length : Int)) = true := beq_iff_eq.mpr c3
  have c3b1 : ((l0.length : Int) != (l1.length : Int)) = false := bne_eq_false_iff_eq.mpr c3
  have c3b2 : (l0.length == l1.length) = true := by first | simpa using c3 | (simp at c3 ⊢; omega)
  clear c3
  have H' := Aside0.mk H
  clear H
  go_enter Try.func18, Try.ntmps18
  go_wp2
  repeat (go_quiet (fail); try go_wp2)
  go_loopg [5] k (fun kq v5 w' => ∃ (x5_1 : Int), v5 = .int .i64 x5_1 ∧ Aside0 (cr1_Same.l0 kq l0 l1 x5_1 = some r) ∧ Aside0 (kq ≤ k) ∧ Drawn0 w w')
  case atStart => exact ⟨(0), (fs_), H', ⟨Nat.le_refl _⟩, by repeat (first | exact Drawn0.refl _ | apply Drawn0.step)⟩
  case round =>
   clear H'
   try clear c1
   try clear p2
   try clear c3
   try clear c3b0
   try clear c3b1
   try clear c3b2
   obtain ⟨x5_1, rfl, HA, HK1, ⟨m1, rfl⟩⟩ := hrel
   cases gk with
   | zero => exact absurd HA.out (by simp [cr1_Same.l0])
   | succ k1 =>
    have H := HA.out
    clear HA
    simp only [cr1_Same.l0] at H
    by_cases c4 : x5_1 < (l0.length : Int)
    ·rw [if_pos c4] at H
     have c4b0 : decide (x5_1 < (l0.length : Int)) = true := decide_eq_true c4
     clear c4
     by_cases c5 : 0 ≤ x5_1
     ·rw [if_pos c5] at H
      have c5b0 : decide (0 ≤ x5_1) = true := decide_eq_true c5
      clear c5
      by_cases c6 : x5_1 < (l1.length : Int)
      ·rw [if_pos c6] at H
       have c6b0 : decide (x5_1 < (l1.length : Int)) = true := decide_eq_true c6
       clear c6
       by_cases c7 : (rd l0 x5_1) = (rd l1 x5_1)
       ·rw [if_pos c7] at H
        have c7b0 : ((rd l0 x5_1) == (rd l1 x5_1)) = true := beq_iff_eq.mpr c7
        have c7b1 : ((rd l0 x5_1) != (rd l1 x5_1)) = false := bne_eq_false_iff_eq.mpr c7
        clear c7
        have H' := Aside0.mk H
        clear H
        have p514 : 0 ≤ (x5_1 : Int) := of_decide_eq_true (by first | (with_reducible assumption) | assumption)
        have q514 : x5_1 < (l0.length : Int) := of_decide_eq_true (by first | (with_reducible assumption) | assumption)
        obtain ⟨ad514, e514, hx514_0⟩ := Kd.at_int HR0.out x5_1 p514 q514
        cases e514
        replace p514 := eq_true p514
        replace q514 := eq_true q514
        have p515 : 0 ≤ (x5_1 : Int) := of_decide_eq_true (by first | (with_reducible assumption) | assumption)
        have q515 : x5_1 < (l1.length : Int) := of_decide_eq_true (by first | (with_reducible assumption) | assumption)
        obtain ⟨ad515, e515, hx515_0⟩ := Kd.at_int HR1.out x5_1 p515 q515
        cases e515
        replace p515 := eq_true p515
        replace q515 := eq_true q515
        go_wp2
        repeat (go_quiet (fail); try go_wp2)
        go_roundg k1
        case measure => have := HK1.out; omega
        case rel => exact ⟨(wrap64 (x5_1 + 1)), (fs_), H', ⟨by have := HK1.out; omega⟩, by repeat (first | exact Drawn0.refl _ | apply Drawn0.step)⟩
       ·rw [if_neg c7] at H
        have c7b0 : ((rd l0 x5_1) == (rd l1 x5_1)) = false := beq_eq_false_iff_ne.mpr c7
        have c7b1 : ((rd l0 x5_1) != (rd l1 x5_1)) = true := bne_iff_ne.mpr c7
        obtain rfl := Option.some.inj H
        have p514 : 0 ≤ (x5_1 : Int) := of_decide_eq_true (by first | (with_reducible assumption) | assumption)
        have q514 : x5_1 < (l0.length : Int) := of_decide_eq_true (by first | (with_reducible assumption) | assumption)
        obtain ⟨ad514, e514, hx514_0⟩ := Kd.at_int HR0.out x5_1 p514 q514
        cases e514
        replace p514 := eq_true p514
        replace q514 := eq_true q514
        have p515 : 0 ≤ (x5_1 : Int) := of_decide_eq_true (by first | (with_reducible assumption) | assumption)
        have q515 : x5_1 < (l1.length : Int) := of_decide_eq_true (by first | (with_reducible assumption) | assumption)
        obtain ⟨ad515, e515, hx515_0⟩ := Kd.at_int HR1.out x5_1 p515 q515
        cases e515
        replace p515 := eq_true p515
        replace q515 := eq_true q515
        go_wp2
        repeat (go_quiet (fail); try go_wp2)
        go_ret
        exact ⟨fs_, by repeat (first | exact Drawn0.refl _ | apply Drawn0.step)⟩
      ·rw [if_neg c6] at H
       exact absurd H (by simp)
     ·rw [if_neg c5] at H
      exact absurd H (by simp)
    ·rw [if_neg c4] at H
     have c4b0 : decide (x5_1 < (l0.length : Int)) = false := decide_eq_false c4
     clear c4
     obtain rfl := Option.some.inj H
     go_wp2
     repeat (go_quiet (fail); try go_wp2)
     go_ret
     exact ⟨fs_, by repeat (first | exact Drawn0.refl _ | apply Drawn0.step)⟩
 ·rw [if_neg c3] at H
  have c3b0 : ((l0.length : Int) == (l1.length : Int)) = false := beq_eq_false_iff_ne.mpr c3
  have c3b1 : ((l0.length : Int) != (l1.length : Int)) = true := bne_iff_ne.mpr c3
  have c3b2 : (l0.length == l1.length) = false := by first | simpa using c3 | (simp at c3 ⊢; omega)
  obtain rfl := Option.some.inj H
  go_enter Try.func18, Try.ntmps18
  go_wp2
  repeat (go_quiet (fail); try go_wp2)
  go_ret
  exact ⟨fs_, by repeat (first | exact Drawn0.refl _ | apply Drawn0.step)⟩
/-! ### conclavelaw04_anchored: function 17 -/
def conclavelaw04_anchored.f (k : Nat)  : Option (Bool) := (fast_Mul.f k 2 (([1, 2] : List Int)) (([3, 4] : List Int))).bind fun bt522 => ((fast_Transform.f k 1 (([1, 2] : List Int))).bind fun bt529 => ((fast_Transform.f k 1 ([] : List Int)).bind fun bt533 => (if bt522.2 = 0 then (if bt529.2 = 0 then (if bt533.2 = 3 then ((cr1_Same.f k bt522.1 (([3, 10, 8] : List Int))).bind fun t540 => (if t540 = true then ((cr1_Same.f k bt529.1 (([3, 2013265920] : List Int))).bind fun t544 => (some t544)) else (none))) else (none)) else (none)) else (none))))
theorem conclavelaw04_anchored.mono : ∀ k, LeO (conclavelaw04_anchored.f k ) (conclavelaw04_anchored.f (k + 1) ) := by
 intro  k
 unfold conclavelaw04_anchored.f
 repeat' first
   | (with_reducible exact cr1_Same.mono _ _ _)
   | (with_reducible exact fast_Mul.mono _ _ _ _)
   | (with_reducible exact fast_Transform.mono _ _ _)
   | (with_reducible exact LeO.refl _)
   | (with_reducible exact LeO.none _)
   | (with_reducible refine LeO.ite ?_ ?_)
   | (with_reducible refine LeO.bind ?_ (fun _ => ?_))
   | exact cr1_Same.mono _ _ _
   | exact fast_Mul.mono _ _ _ _
   | exact fast_Transform.mono _ _ _
   | exact LeO.none _
   | refine LeO.ite ?_ ?_
   | refine LeO.bind ?_ (fun _ => ?_)
set_option maxHeartbeats 8000000 in
set_option maxRecDepth 100000 in
theorem conclavelaw04_anchored.calls (k : Nat)  (r : Bool) (w : World) (h : conclavelaw04_anchored.f k  = some r) :
  Calls Try.prog 17 #[] w fun e w' => e = .returned (.bool r) ∧ Below w.heap.size w w' := by
 have HB := A_ (Below.refl w.heap.size w)
 have H : ((fast_Mul.f k 2 (([1, 2] : List Int)) (([3, 4] : List Int))).bind fun bt522 => ((fast_Transform.f k 1 (([1, 2] : List Int))).bind fun bt529 => ((fast_Transform.f k 1 ([] : List Int)).bind fun bt533 => (if bt522.2 = 0 then (if bt529.2 = 0 then (if bt533.2 = 3 then ((cr1_Same.f k bt522.1 (([3, 10, 8] : List Int))).bind fun t540 => (if t540 = true then ((cr1_Same.f k bt529.1 (([3, 2013265920] : List Int))).bind fun t544 => (some t544)) else (none))) else (none)) else (none)) else (none))))) = some r := h
 clear h
 obtain ⟨y516, hy516⟩ : ∃ y_ : List Int, y_ = (([1, 2] : List Int)) := ⟨_, rfl⟩
 replace H : ((fast_Mul.f k 2 y516 (([3, 4] : List Int))).bind fun bt522 => ((fast_Transform.f k 1 (([1, 2] : List Int))).bind fun bt529 => ((fast_Transform.f k 1 ([] : List Int)).bind fun bt533 => (if bt522.2 = 0 then (if bt529.2 = 0 then (if bt533.2 = 3 then ((cr1_Same.f k bt522.1 (([3, 10, 8] : List Int))).bind fun t540 => (if t540 = true then ((cr1_Same.f k bt529.1 (([3, 2013265920] : List Int))).bind fun t544 => (some t544)) else (none))) else (none)) else (none)) else (none))))) = some r := by first | (rw [hy516]; with_reducible exact H) | (have H2_ := (Option.bind_some _ _).symm.trans H; rw [hy516]; with_reducible exact H2_) | (have H2_ := (Option.bind_some _ _).symm.trans H; with_reducible exact H2_) | with_reducible exact H | (rw [hy516]; exact H) | exact H
 have Ny516 := Aside0.mk hy516
 clear hy516
 obtain ⟨y519, hy519⟩ : ∃ y_ : List Int, y_ = (([3, 4] : List Int)) := ⟨_, rfl⟩
 replace H : ((fast_Mul.f k 2 y516 y519).bind fun bt522 => ((fast_Transform.f k 1 (([1, 2] : List Int))).bind fun bt529 => ((fast_Transform.f k 1 ([] : List Int)).bind fun bt533 => (if bt522.2 = 0 then (if bt529.2 = 0 then (if bt533.2 = 3 then ((cr1_Same.f k bt522.1 (([3, 10, 8] : List Int))).bind fun t540 => (if t540 = true then ((cr1_Same.f k bt529.1 (([3, 2013265920] : List Int))).bind fun t544 => (some t544)) else (none))) else (none)) else (none)) else (none))))) = some r := by first | (rw [hy519]; with_reducible exact H) | (have H2_ := (Option.bind_some _ _).symm.trans H; rw [hy519]; with_reducible exact H2_) | (have H2_ := (Option.bind_some _ _).symm.trans H; with_reducible exact H2_) | with_reducible exact H | (rw [hy519]; exact H) | exact H
 have Ny519 := Aside0.mk hy519
 clear hy519
 replace H := Option.bind_eq_some_iff.mp H
 obtain ⟨⟨t522, t523⟩, A10, H⟩ := H
 (try dsimp only at H)
 have A1 := Aside0.mk A10
 clear A10
 obtain ⟨y526, hy526⟩ : ∃ y_ : List Int, y_ = (([1, 2] : List Int)) := ⟨_, rfl⟩
 replace H : ((fast_Transform.f k 1 y526).bind fun bt529 => ((fast_Transform.f k 1 ([] : List Int)).bind fun bt533 => (if t523 = 0 then (if bt529.2 = 0 then (if bt533.2 = 3 then ((cr1_Same.f k t522 (([3, 10, 8] : List Int))).bind fun t540 => (if t540 = true then ((cr1_Same.f k bt529.1 (([3, 2013265920] : List Int))).bind fun t544 => (some t544)) else (none))) else (none)) else (none)) else (none)))) = some r := by first | (rw [hy526]; with_reducible exact H) | (have H2_ := (Option.bind_some _ _).symm.trans H; rw [hy526]; with_reducible exact H2_) | (have H2_ := (Option.bind_some _ _).symm.trans H; with_reducible exact H2_) | with_reducible exact H | (rw [hy526]; exact H) | exact H
 have Ny526 := Aside0.mk hy526
 clear hy526
 replace H := Option.bind_eq_some_iff.mp H
 obtain ⟨⟨t529, t532⟩, A20, H⟩ := H
 (try dsimp only at H)
 have A2 := Aside0.mk A20
 clear A20
 replace H := Option.bind_eq_some_iff.mp H
 obtain ⟨⟨t533, t536⟩, A30, H⟩ := H
 replace H : (if t523 = 0 then (if t532 = 0 then (if t536 = 3 then ((cr1_Same.f k t522 (([3, 10, 8] : List Int))).bind fun t540 => (if t540 = true then ((cr1_Same.f k t529 (([3, 2013265920] : List Int))).bind fun t544 => (some t544)) else (none))) else (none)) else (none)) else (none)) = some r := H
 have A3 := Aside0.mk A30
 clear A30
 by_cases c4 : t523 = 0
 ·rw [if_pos c4] at H
  have c4b0 : (t523 == 0) = true := beq_iff_eq.mpr c4
  have c4b1 : (t523 != 0) = false := bne_eq_false_iff_eq.mpr c4
  clear c4
  by_cases c5 : t532 = 0
  ·rw [if_pos c5] at H
   have c5b0 : (t532 == 0) = true := beq_iff_eq.mpr c5
   have c5b1 : (t532 != 0) = false := bne_eq_false_iff_eq.mpr c5
   clear c5
   by_cases c6 : t536 = 3
   ·rw [if_pos c6] at H
    have c6b0 : (t536 == 3) = true := beq_iff_eq.mpr c6
    have c6b1 : (t536 != 3) = false := bne_eq_false_iff_eq.mpr c6
    clear c6
    obtain ⟨y537, hy537⟩ : ∃ y_ : List Int, y_ = (([3, 10, 8] : List Int)) := ⟨_, rfl⟩
    replace H : ((cr1_Same.f k t522 y537).bind fun t540 => (if t540 = true then ((cr1_Same.f k t529 (([3, 2013265920] : List Int))).bind fun t544 => (some t544)) else (none))) = some r := by first | (rw [hy537]; with_reducible exact H) | (have H2_ := (Option.bind_some _ _).symm.trans H; rw [hy537]; with_reducible exact H2_) | (have H2_ := (Option.bind_some _ _).symm.trans H; with_reducible exact H2_) | with_reducible exact H | (rw [hy537]; exact H) | exact H
    have Ny537 := Aside0.mk hy537
    clear hy537
    replace H := Option.bind_eq_some_iff.mp H
    obtain ⟨t540, A70, H⟩ := H
    replace H : (if t540 = true then ((cr1_Same.f k t529 (([3, 2013265920] : List Int))).bind fun t544 => (some t544)) else (none)) = some r := H
    have A7 := Aside0.mk A70
    clear A70
    by_cases c8 : t540 = true
    ·subst c8
     have H1 : ((cr1_Same.f k t529 (([3, 2013265920] : List Int))).bind fun t544 => (some t544)) = some r := by rw [if_pos rfl] at H; exact H
     clear H
     have H := H1
     clear H1
     obtain ⟨y541, hy541⟩ : ∃ y_ : List Int, y_ = (([3, 2013265920] : List Int)) := ⟨_, rfl⟩
     replace H : ((cr1_Same.f k t529 y541).bind fun t544 => (some t544)) = some r := by first | (rw [hy541]; with_reducible exact H) | (have H2_ := (Option.bind_some _ _).symm.trans H; rw [hy541]; with_reducible exact H2_) | (have H2_ := (Option.bind_some _ _).symm.trans H; with_reducible exact H2_) | with_reducible exact H | (rw [hy541]; exact H) | exact H
     have Ny541 := Aside0.mk hy541
     clear hy541
     replace H := Option.bind_eq_some_iff.mp H
     obtain ⟨t544, A90, H⟩ := H
     replace H : (some t544) = some r := H
     have A9 := Aside0.mk A90
     clear A90
     obtain rfl := Option.some.inj H
     go_enter Try.func17, Try.ntmps17
     go_wp2_with (first | ((with_reducible refine gate_dst (N := 8) rfl ?_); (try (refine gate_guard (by rfl) ?_; dsimp only)); refine Kd.R_lit (Kd.int .u64) _ 33 ?hg (N := 8) ?hd (xs := ([1, 2] : List Int)) (inner := [.int .u64 1, .int .u64 2]) (ok := fun _ => True) (okp := fun _ => True) ?hr ?hp (fun _ hk => hk) trivial (Below.refl _ _) (Nat.le_refl _) (by simp) ?_; (case hd => rfl); (case hg => rfl); (case hr => first | (go_simp; done) | (go_simp; rfl)); (case hp => exact (Reps.one (show Kd.M (Kd.int .u64) _ _ _ 1 [.int .u64 1] from rfl) (Reps.one (show Kd.M (Kd.int .u64) _ _ _ 2 [.int .u64 2] from rfl) (Reps.none _ _)))); intro v517 w10 ho11 hb hg_ hnew_; clear hg_ hnew_; (first | rw [← Ny516.out] at ho11 | (simp only [Int.reduceToNat] at ho11; rw [← Ny516.out] at ho11)); have n0_ := A_ (Kd.R_lower ho11 (below_size hb_)); have n1_ := A_ (below_step hb_ hb); clear HB; have HO518 := n0_; have HB := n1_; clear n0_ n1_; clear hb ho11) | ((with_reducible refine gate_dst (N := 9) rfl ?_); (try (refine gate_guard (by rfl) ?_; dsimp only)); refine Kd.R_lit (Kd.int .u64) _ 33 ?hg (N := 9) ?hd (xs := ([3, 4] : List Int)) (inner := [.int .u64 3, .int .u64 4]) (ok := fun _ => True) (okp := fun _ => True) ?hr ?hp (fun _ hk => hk) trivial (Below.refl _ _) (Nat.le_refl _) (by simp) ?_; (case hd => rfl); (case hg => rfl); (case hr => first | (go_simp; done) | (go_simp; rfl)); (case hp => exact (Reps.one (show Kd.M (Kd.int .u64) _ _ _ 3 [.int .u64 3] from rfl) (Reps.one (show Kd.M (Kd.int .u64) _ _ _ 4 [.int .u64 4] from rfl) (Reps.none _ _)))); intro v520 w12 ho13 hb hg_ hnew_; clear hg_ hnew_; (first | rw [← Ny519.out] at ho13 | (simp only [Int.reduceToNat] at ho13; rw [← Ny519.out] at ho13)); have n0_ := A_ (Kd.R_elder' (nR_ HO518) (Kd.R_base ho13) hb); have n1_ := A_ (Kd.R_lower (Kd.R_new' ho13 (Kd.R_lt (nR_ HO518))) (below_size hb_)); have n2_ := A_ (below_step hb_ hb); clear HO518 HB; have HO518 := n0_; have HO521 := n1_; have HB := n2_; clear n0_ n1_ n2_; clear hb ho13; obtain ⟨Ao14, co14, eo14⟩ := Kd.R_slice HO518.out; subst eo14; obtain ⟨Ao15, co15, eo15⟩ := Kd.R_slice HO521.out; subst eo15) | ((with_reducible refine gate_callee (f := 12) rfl ?_); refine goesM_ (some 10) Try.func12 #[.int .u8 2, .slice Ao14 y516.length co14, .slice Ao15 y519.length co15] ?_; (with_reducible refine (fast_Mul.calls k 2 _ _ y516 _ _ y519 t522 t523 _ ?side1 ?side2 ?side3 ?side4 A1.out).mono ?_); (case side1 => repeat (first | exact (Kd.R_reads' HO518.out).2.2 | (with_reducible refine Kd.C_alloc ?_ _) | (with_reducible refine Kd.C_drewN ?_ _) | (with_reducible refine Kd.C_drew ?_))); (case side2 => exact (Kd.R_reads' HO518.out).2.1); (case side3 => repeat (first | exact (Kd.R_reads' HO521.out).2.2 | (with_reducible refine Kd.C_alloc ?_ _) | (with_reducible refine Kd.C_drewN ?_ _) | (with_reducible refine Kd.C_drew ?_))); (case side4 => exact (Kd.R_reads' HO521.out).2.1); rintro e w16 ⟨v524, rfl, ho0, hb⟩; refine ⟨_, rfl, ?_⟩; have n0_ := A_ (Kd.R_elder' (nR_ HO518) (Kd.R_base ho0) hb); have n1_ := A_ (Kd.R_elder' (nR_ HO521) (Kd.R_base ho0) hb); have n2_ := A_ (Kd.R_lower (Kd.R_new' (Kd.R_new' ho0 (Kd.R_lt (nR_ HO518))) (Kd.R_lt (nR_ HO521))) (below_size hb_)); have n3_ := A_ (below_step hb_ hb); clear HO518 HO521 HB; have HO518 := n0_; have HO521 := n1_; have HO525 := n2_; have HB := n3_; clear n0_ n1_ n2_ n3_; (try clear hb); (try clear ho0)) | ((with_reducible refine gate_dst (N := 14) rfl ?_); (try (refine gate_guard (by rfl) ?_; dsimp only)); refine Kd.R_lit (Kd.int .u64) _ 33 ?hg (N := 14) ?hd (xs := ([1, 2] : List Int)) (inner := [.int .u64 1, .int .u64 2]) (ok := fun _ => True) (okp := fun _ => True) ?hr ?hp (fun _ hk => hk) trivial (Below.refl _ _) (Nat.le_refl _) (by simp) ?_; (case hd => rfl); (case hg => rfl); (case hr => first | (go_simp; done) | (go_simp; rfl)); (case hp => exact (Reps.one (show Kd.M (Kd.int .u64) _ _ _ 1 [.int .u64 1] from rfl) (Reps.one (show Kd.M (Kd.int .u64) _ _ _ 2 [.int .u64 2] from rfl) (Reps.none _ _)))); intro v527 w17 ho18 hb hg_ hnew_; clear hg_ hnew_; (first | rw [← Ny526.out] at ho18 | (simp only [Int.reduceToNat] at ho18; rw [← Ny526.out] at ho18)); have n0_ := A_ (Kd.R_elder' (nR_ HO518) (Kd.R_base ho18) hb); have n1_ := A_ (Kd.R_elder' (nR_ HO521) (Kd.R_base ho18) hb); have n2_ := A_ (Kd.R_elder' (nR_ HO525) (Kd.R_base ho18) hb); have n3_ := A_ (Kd.R_lower (Kd.R_new' (Kd.R_new' (Kd.R_new' ho18 (Kd.R_lt (nR_ HO518))) (Kd.R_lt (nR_ HO521))) (Kd.R_lt (nR_ HO525))) (below_size hb_)); have n4_ := A_ (below_step hb_ hb); clear HO518 HO521 HO525 HB; have HO518 := n0_; have HO521 := n1_; have HO525 := n2_; have HO528 := n3_; have HB := n4_; clear n0_ n1_ n2_ n3_ n4_; clear hb ho18; obtain ⟨Ao19, co19, eo19⟩ := Kd.R_slice HO528.out; subst eo19) | ((with_reducible refine gate_callee (f := 10) rfl ?_); refine goesM_ (some 15) Try.func10 #[.int .u8 1, .slice Ao19 y526.length co19] ?_; (with_reducible refine (fast_Transform.calls k 1 (fun k_ => some k_ = (.slice Ao19 y526.length co19 : Value).ownBlock) _ _ y526 t529 t532 _ ?side1 A2.out).mono ?_); (case side1 => exact Kd.R_V (Kd.R_tight rfl (HO528.out))); rintro e w20 ⟨v530, rfl, ho0, hb⟩; refine ⟨_, rfl, ?_⟩; have n0_ := A_ (Kd.R_elder' (nR_ HO518) (Kd.R_base ho0) hb); have n1_ := A_ (Kd.R_elder' (nR_ HO521) (Kd.R_base ho0) hb); have n2_ := A_ (Kd.R_elder' (nR_ HO525) (Kd.R_base ho0) hb); have n3_ := A_ (Kd.R_elder' (nR_ HO528) (Kd.R_base ho0) hb); have n4_ := A_ (Kd.R_lower (Kd.R_new' (Kd.R_new' (Kd.R_new' (Kd.R_new' (Kd.R_mono (ok' := fun k_ => True) ho0 (fun _ hk_ => trivial)) (Kd.R_lt (nR_ HO518))) (Kd.R_lt (nR_ HO521))) (Kd.R_lt (nR_ HO525))) (Kd.R_lt (nR_ HO528))) (below_size hb_)); have n5_ := A_ (below_step hb_ hb); clear HO518 HO521 HO525 HO528 HB; have HO518 := n0_; have HO521 := n1_; have HO525 := n2_; have HO528 := n3_; have HO531 := n4_; have HB := n5_; clear n0_ n1_ n2_ n3_ n4_ n5_; (try clear hb); (try clear ho0)) | ((with_reducible refine gate_callee (f := 10) rfl ?_); refine goesM_ (some 19) Try.func10 #[.int .u8 1, .slice none 0 0] ?_; (refine (fast_Transform.calls k 1 (fun k_ => False) _ _ ([] : List Int) t533 t536 _ ?side1 A3.out).mono ?_); (case side1 => exact Kd.V_nil _ _ _ _ _); rintro e w21 ⟨v534, rfl, ho0, hb⟩; refine ⟨_, rfl, ?_⟩; have n0_ := A_ (Kd.R_elder' (nR_ HO518) (Kd.R_base ho0) hb); have n1_ := A_ (Kd.R_elder' (nR_ HO521) (Kd.R_base ho0) hb); have n2_ := A_ (Kd.R_elder' (nR_ HO525) (Kd.R_base ho0) hb); have n3_ := A_ (Kd.R_elder' (nR_ HO528) (Kd.R_base ho0) hb); have n4_ := A_ (Kd.R_elder' (nR_ HO531) (Kd.R_base ho0) hb); have n5_ := A_ (Kd.R_lower (Kd.R_new' (Kd.R_new' (Kd.R_new' (Kd.R_new' (Kd.R_new' (Kd.R_mono (ok' := fun k_ => True) ho0 (fun _ hk_ => trivial)) (Kd.R_lt (nR_ HO518))) (Kd.R_lt (nR_ HO521))) (Kd.R_lt (nR_ HO525))) (Kd.R_lt (nR_ HO528))) (Kd.R_lt (nR_ HO531))) (below_size hb_)); have n6_ := A_ (below_step hb_ hb); clear HO518 HO521 HO525 HO528 HO531 HB; have HO518 := n0_; have HO521 := n1_; have HO525 := n2_; have HO528 := n3_; have HO531 := n4_; have HO535 := n5_; have HB := n6_; clear n0_ n1_ n2_ n3_ n4_ n5_ n6_; (try clear hb); (try clear ho0)) | ((with_reducible refine gate_dst (N := 34) rfl ?_); (try (refine gate_guard (by rfl) ?_; dsimp only)); refine Kd.R_lit (Kd.int .u64) _ 33 ?hg (N := 34) ?hd (xs := ([3, 10, 8] : List Int)) (inner := [.int .u64 3, .int .u64 10, .int .u64 8]) (ok := fun _ => True) (okp := fun _ => True) ?hr ?hp (fun _ hk => hk) trivial (Below.refl _ _) (Nat.le_refl _) (by simp) ?_; (case hd => rfl); (case hg => rfl); (case hr => first | (go_simp; done) | (go_simp; rfl)); (case hp => exact (Reps.one (show Kd.M (Kd.int .u64) _ _ _ 3 [.int .u64 3] from rfl) (Reps.one (show Kd.M (Kd.int .u64) _ _ _ 10 [.int .u64 10] from rfl) (Reps.one (show Kd.M (Kd.int .u64) _ _ _ 8 [.int .u64 8] from rfl) (Reps.none _ _))))); intro v538 w22 ho23 hb hg_ hnew_; clear hg_ hnew_; (first | rw [← Ny537.out] at ho23 | (simp only [Int.reduceToNat] at ho23; rw [← Ny537.out] at ho23)); have n0_ := A_ (Kd.R_elder' (nR_ HO518) (Kd.R_base ho23) hb); have n1_ := A_ (Kd.R_elder' (nR_ HO521) (Kd.R_base ho23) hb); have n2_ := A_ (Kd.R_elder' (nR_ HO525) (Kd.R_base ho23) hb); have n3_ := A_ (Kd.R_elder' (nR_ HO528) (Kd.R_base ho23) hb); have n4_ := A_ (Kd.R_elder' (nR_ HO531) (Kd.R_base ho23) hb); have n5_ := A_ (Kd.R_elder' (nR_ HO535) (Kd.R_base ho23) hb); have n6_ := A_ (Kd.R_lower (Kd.R_new' (Kd.R_new' (Kd.R_new' (Kd.R_new' (Kd.R_new' (Kd.R_new' ho23 (Kd.R_lt (nR_ HO518))) (Kd.R_lt (nR_ HO521))) (Kd.R_lt (nR_ HO525))) (Kd.R_lt (nR_ HO528))) (Kd.R_lt (nR_ HO531))) (Kd.R_lt (nR_ HO535))) (below_size hb_)); have n7_ := A_ (below_step hb_ hb); clear HO518 HO521 HO525 HO528 HO531 HO535 HB; have HO518 := n0_; have HO521 := n1_; have HO525 := n2_; have HO528 := n3_; have HO531 := n4_; have HO535 := n5_; have HO539 := n6_; have HB := n7_; clear n0_ n1_ n2_ n3_ n4_ n5_ n6_ n7_; clear hb ho23; obtain ⟨Ao24, co24, eo24⟩ := Kd.R_slice HO525.out; subst eo24; obtain ⟨Ao25, co25, eo25⟩ := Kd.R_slice HO539.out; subst eo25) | (go_at_call 18; (with_reducible refine (cr1_Same.calls k _ _ t522 _ _ y537 true _ ?side1 ?side2 ?side3 ?side4 A7.out).mono ?_); (case side1 => repeat (first | exact (Kd.R_reads' HO525.out).2.2 | (with_reducible refine Kd.C_alloc ?_ _) | (with_reducible refine Kd.C_drewN ?_ _) | (with_reducible refine Kd.C_drew ?_))); (case side2 => exact (Kd.R_reads' HO525.out).2.1); (case side3 => repeat (first | exact (Kd.R_reads' HO539.out).2.2 | (with_reducible refine Kd.C_alloc ?_ _) | (with_reducible refine Kd.C_drewN ?_ _) | (with_reducible refine Kd.C_drew ?_))); (case side4 => exact (Kd.R_reads' HO539.out).2.1); rintro e w' ⟨rfl, ⟨nd, rfl⟩⟩) | ((with_reducible refine gate_dst (N := 39) rfl ?_); (try (refine gate_guard (by rfl) ?_; dsimp only)); refine Kd.R_lit (Kd.int .u64) _ 33 ?hg (N := 39) ?hd (xs := ([3, 2013265920] : List Int)) (inner := [.int .u64 3, .int .u64 2013265920]) (ok := fun _ => True) (okp := fun _ => True) ?hr ?hp (fun _ hk => hk) trivial (Below.refl _ _) (Nat.le_refl _) (by simp) ?_; (case hd => rfl); (case hg => rfl); (case hr => first | (go_simp; done) | (go_simp; rfl)); (case hp => exact (Reps.one (show Kd.M (Kd.int .u64) _ _ _ 3 [.int .u64 3] from rfl) (Reps.one (show Kd.M (Kd.int .u64) _ _ _ 2013265920 [.int .u64 2013265920] from rfl) (Reps.none _ _)))); intro v542 w26 ho27 hb hg_ hnew_; clear hg_ hnew_; (first | rw [← Ny541.out] at ho27 | (simp only [Int.reduceToNat] at ho27; rw [← Ny541.out] at ho27)); have n0_ := A_ (Kd.R_elder' (nR_ HO518) (Kd.R_base ho27) hb); have n1_ := A_ (Kd.R_elder' (nR_ HO521) (Kd.R_base ho27) hb); have n2_ := A_ (Kd.R_elder' (nR_ HO525) (Kd.R_base ho27) hb); have n3_ := A_ (Kd.R_elder' (nR_ HO528) (Kd.R_base ho27) hb); have n4_ := A_ (Kd.R_elder' (nR_ HO531) (Kd.R_base ho27) hb); have n5_ := A_ (Kd.R_elder' (nR_ HO535) (Kd.R_base ho27) hb); have n6_ := A_ (Kd.R_elder' (nR_ HO539) (Kd.R_base ho27) hb); have n7_ := A_ (Kd.R_lower (Kd.R_new' (Kd.R_new' (Kd.R_new' (Kd.R_new' (Kd.R_new' (Kd.R_new' (Kd.R_new' ho27 (Kd.R_lt (nR_ HO518))) (Kd.R_lt (nR_ HO521))) (Kd.R_lt (nR_ HO525))) (Kd.R_lt (nR_ HO528))) (Kd.R_lt (nR_ HO531))) (Kd.R_lt (nR_ HO535))) (Kd.R_lt (nR_ HO539))) (below_size hb_)); have n8_ := A_ (below_step hb_ hb); clear HO518 HO521 HO525 HO528 HO531 HO535 HO539 HB; have HO518 := n0_; have HO521 := n1_; have HO525 := n2_; have HO528 := n3_; have HO531 := n4_; have HO535 := n5_; have HO539 := n6_; have HO543 := n7_; have HB := n8_; clear n0_ n1_ n2_ n3_ n4_ n5_ n6_ n7_ n8_; clear hb ho27; obtain ⟨Ao28, co28, eo28⟩ := Kd.R_slice HO531.out; subst eo28; obtain ⟨Ao29, co29, eo29⟩ := Kd.R_slice HO543.out; subst eo29) | (go_at_call 18; (with_reducible refine (cr1_Same.calls k _ _ t529 _ _ y541 t544 _ ?side1 ?side2 ?side3 ?side4 A9.out).mono ?_); (case side1 => repeat (first | exact (Kd.R_reads' HO531.out).2.2 | (with_reducible refine Kd.C_alloc ?_ _) | (with_reducible refine Kd.C_drewN ?_ _) | (with_reducible refine Kd.C_drew ?_))); (case side2 => exact (Kd.R_reads' HO531.out).2.1); (case side3 => repeat (first | exact (Kd.R_reads' HO543.out).2.2 | (with_reducible refine Kd.C_alloc ?_ _) | (with_reducible refine Kd.C_drewN ?_ _) | (with_reducible refine Kd.C_drew ?_))); (case side4 => exact (Kd.R_reads' HO543.out).2.1); rintro e w' ⟨rfl, ⟨nd, rfl⟩⟩))
     go_ret
     exact ⟨fr_, hb_⟩
    ·replace c8 := Bool.eq_false_iff.mpr c8
     subst c8
     have H1 : (none) = some r := by rw [if_neg (show ¬ (false = true) by decide)] at H; exact H
     clear H
     have H := H1
     clear H1
     exact absurd H (by simp)
   ·rw [if_neg c6] at H
    exact absurd H (by simp)
  ·rw [if_neg c5] at H
   exact absurd H (by simp)
 ·rw [if_neg c4] at H
  exact absurd H (by simp)
/-! ### conclavelaw04_FastMuls: function 5 -/
def conclavelaw04_FastMuls.f (k : Nat) (a0 : Int) (l1 : List Int) (l2 : List Int) : Option (Bool) := (fast_Kara.f k a0 l1 l2).bind fun bt545 => ((fast_Mul.f k a0 l1 l2).bind fun bt549 => ((cr3_Mul.f k a0 l1 l2).bind fun bt553 => ((cr1_Same.f k bt545.1 bt553.1).bind fun t557 => (if t557 = true then (if bt545.2 = bt553.2 then ((cr1_Same.f k bt549.1 bt553.1).bind fun t558 => (if t558 = true then (if bt549.2 = bt553.2 then ((conclavelaw04_anchored.f k).bind fun t559 => (some t559)) else (none)) else (none))) else (none)) else (none)))))
theorem conclavelaw04_FastMuls.mono : ∀ a0 a1 a2 k, LeO (conclavelaw04_FastMuls.f k a0 a1 a2) (conclavelaw04_FastMuls.f (k + 1) a0 a1 a2) := by
 intro a0 a1 a2 k
 unfold conclavelaw04_FastMuls.f
 repeat' first
   | (with_reducible exact conclavelaw04_anchored.mono _)
   | (with_reducible exact cr1_Same.mono _ _ _)
   | (with_reducible exact cr3_Mul.mono _ _ _ _)
   | (with_reducible exact fast_Kara.mono _ _ _ _)
   | (with_reducible exact fast_Mul.mono _ _ _ _)
   | (with_reducible exact LeO.refl _)
   | (with_reducible exact LeO.none _)
   | (with_reducible refine LeO.ite ?_ ?_)
   | (with_reducible refine LeO.bind ?_ (fun _ => ?_))
   | exact conclavelaw04_anchored.mono _
   | exact cr1_Same.mono _ _ _
   | exact cr3_Mul.mono _ _ _ _
   | exact fast_Kara.mono _ _ _ _
   | exact fast_Mul.mono _ _ _ _
   | exact LeO.none _
   | refine LeO.ite ?_ ?_
   | refine LeO.bind ?_ (fun _ => ?_)
set_option maxHeartbeats 8000000 in
set_option maxRecDepth 100000 in
theorem conclavelaw04_FastMuls.calls (k : Nat) (a0 : Int) (A1 : Option Addr) (c1 : Nat) (l1 : List Int) (A2 : Option Addr) (c2 : Nat) (l2 : List Int) (r : Bool) (w : World) (hr1 : Kd.C (Kd.int .u64) w A1 l1.length l1) (hc1 : l1.length ≤ c1) (hr2 : Kd.C (Kd.int .u64) w A2 l2.length l2) (hc2 : l2.length ≤ c2) (h : conclavelaw04_FastMuls.f k a0 l1 l2 = some r) :
  Calls Try.prog 5 #[.int .u8 a0, .slice A1 l1.length c1, .slice A2 l2.length c2] w fun e w' => e = .returned (.bool r) ∧ Below w.heap.size w w' := by
 have HR1 := Aside0.mk hr1
 have HC1 := Aside0.mk hc1
 clear hr1 hc1
 have HR2 := Aside0.mk hr2
 have HC2 := Aside0.mk hc2
 clear hr2 hc2
 have HB := A_ (Below.refl w.heap.size w)
 have H : ((fast_Kara.f k a0 l1 l2).bind fun bt545 => ((fast_Mul.f k a0 l1 l2).bind fun bt549 => ((cr3_Mul.f k a0 l1 l2).bind fun bt553 => ((cr1_Same.f k bt545.1 bt553.1).bind fun t557 => (if t557 = true then (if bt545.2 = bt553.2 then ((cr1_Same.f k bt549.1 bt553.1).bind fun t558 => (if t558 = true then (if bt549.2 = bt553.2 then ((conclavelaw04_anchored.f k).bind fun t559 => (some t559)) else (none)) else (none))) else (none)) else (none)))))) = some r := h
 clear h
 replace H := Option.bind_eq_some_iff.mp H
 obtain ⟨⟨t545, t546⟩, A40, H⟩ := H
 (try dsimp only at H)
 have A4 := Aside0.mk A40
 clear A40
 replace H := Option.bind_eq_some_iff.mp H
 obtain ⟨⟨t549, t550⟩, A50, H⟩ := H
 (try dsimp only at H)
 have A5 := Aside0.mk A50
 clear A50
 replace H := Option.bind_eq_some_iff.mp H
 obtain ⟨⟨t553, t554⟩, A60, H⟩ := H
 (try dsimp only at H)
 have A6 := Aside0.mk A60
 clear A60
 replace H := Option.bind_eq_some_iff.mp H
 obtain ⟨t557, A70, H⟩ := H
 replace H : (if t557 = true then (if t546 = t554 then ((cr1_Same.f k t549 t553).bind fun t558 => (if t558 = true then (if t550 = t554 then ((conclavelaw04_anchored.f k).bind fun t559 => (some t559)) else (none)) else (none))) else (none)) else (none)) = some r := H
 have A7 := Aside0.mk A70
 clear A70
 by_cases c8 : t557 = true
 ·subst c8
  have H1 : (if t546 = t554 then ((cr1_Same.f k t549 t553).bind fun t558 => (if t558 = true then (if t550 = t554 then ((conclavelaw04_anchored.f k).bind fun t559 => (some t559)) else (none)) else (none))) else (none)) = some r := by rw [if_pos rfl] at H; exact H
  clear H
  have H := H1
  clear H1
  by_cases c9 : t546 = t554
  ·rw [if_pos c9] at H
   have c9b0 : (t546 == t554) = true := beq_iff_eq.mpr c9
   have c9b1 : (t546 != t554) = false := bne_eq_false_iff_eq.mpr c9
   clear c9
   replace H := Option.bind_eq_some_iff.mp H
   obtain ⟨t558, A100, H⟩ := H
   replace H : (if t558 = true then (if t550 = t554 then ((conclavelaw04_anchored.f k).bind fun t559 => (some t559)) else (none)) else (none)) = some r := H
   have A10 := Aside0.mk A100
   clear A100
   by_cases c11 : t558 = true
   ·subst c11
    have H1 : (if t550 = t554 then ((conclavelaw04_anchored.f k).bind fun t559 => (some t559)) else (none)) = some r := by rw [if_pos rfl] at H; exact H
    clear H
    have H := H1
    clear H1
    by_cases c12 : t550 = t554
    ·rw [if_pos c12] at H
     have c12b0 : (t550 == t554) = true := beq_iff_eq.mpr c12
     have c12b1 : (t550 != t554) = false := bne_eq_false_iff_eq.mpr c12
     clear c12
     replace H := Option.bind_eq_some_iff.mp H
     obtain ⟨t559, A130, H⟩ := H
     replace H : (some t559) = some r := H
     have A13 := Aside0.mk A130
     clear A130
     obtain rfl := Option.some.inj H
     go_enter Try.func5, Try.ntmps5
     go_wp2_with (first | ((with_reducible refine gate_callee (f := 13) rfl ?_); refine goesM_ (some 19) Try.func13 #[.int .u8 a0, .slice A1 l1.length c1, .slice A2 l2.length c2] ?_; (with_reducible refine (fast_Kara.calls k a0 _ _ l1 _ _ l2 t545 t546 _ ?side1 ?side2 ?side3 ?side4 A4.out).mono ?_); (case side1 => exact nC_ HR1.out); (case side2 => exact HC1.out); (case side3 => exact nC_ HR2.out); (case side4 => exact HC2.out); rintro e w14 ⟨v547, rfl, ho0, hb⟩; refine ⟨_, rfl, ?_⟩; have n0_ := A_ (Kd.R_lower ho0 (below_size hb_)); have n1_ := A_ (below_step hb_ hb); clear HB; have HO548 := n0_; have HB := n1_; clear n0_ n1_; (try clear hb); (try clear ho0)) | ((with_reducible refine gate_callee (f := 12) rfl ?_); refine goesM_ (some 26) Try.func12 #[.int .u8 a0, .slice A1 l1.length c1, .slice A2 l2.length c2] ?_; (with_reducible refine (fast_Mul.calls k a0 _ _ l1 _ _ l2 t549 t550 _ ?side1 ?side2 ?side3 ?side4 A5.out).mono ?_); (case side1 => repeat (first | exact (Kd.C_below HR1.out HB.out) | (with_reducible refine Kd.C_alloc ?_ _) | (with_reducible refine Kd.C_drewN ?_ _) | (with_reducible refine Kd.C_drew ?_))); (case side2 => exact HC1.out); (case side3 => repeat (first | exact (Kd.C_below HR2.out HB.out) | (with_reducible refine Kd.C_alloc ?_ _) | (with_reducible refine Kd.C_drewN ?_ _) | (with_reducible refine Kd.C_drew ?_))); (case side4 => exact HC2.out); rintro e w15 ⟨v551, rfl, ho0, hb⟩; refine ⟨_, rfl, ?_⟩; have n0_ := A_ (Kd.R_elder' (nR_ HO548) (Kd.R_base ho0) hb); have n1_ := A_ (Kd.R_lower (Kd.R_new' ho0 (Kd.R_lt (nR_ HO548))) (below_size hb_)); have n2_ := A_ (below_step hb_ hb); clear HO548 HB; have HO548 := n0_; have HO552 := n1_; have HB := n2_; clear n0_ n1_ n2_; (try clear hb); (try clear ho0)) | ((with_reducible refine gate_callee (f := 16) rfl ?_); refine goesM_ (some 33) Try.func16 #[.int .u8 a0, .slice A1 l1.length c1, .slice A2 l2.length c2] ?_; (with_reducible refine (cr3_Mul.calls k a0 _ _ l1 _ _ l2 t553 t554 _ ?side1 ?side2 ?side3 ?side4 A6.out).mono ?_); (case side1 => repeat (first | exact (Kd.C_below HR1.out HB.out) | (with_reducible refine Kd.C_alloc ?_ _) | (with_reducible refine Kd.C_drewN ?_ _) | (with_reducible refine Kd.C_drew ?_))); (case side2 => exact HC1.out); (case side3 => repeat (first | exact (Kd.C_below HR2.out HB.out) | (with_reducible refine Kd.C_alloc ?_ _) | (with_reducible refine Kd.C_drewN ?_ _) | (with_reducible refine Kd.C_drew ?_))); (case side4 => exact HC2.out); rintro e w16 ⟨v555, rfl, ho0, hb⟩; refine ⟨_, rfl, ?_⟩; have n0_ := A_ (Kd.R_elder' (nR_ HO548) (Kd.R_base ho0) hb); have n1_ := A_ (Kd.R_elder' (nR_ HO552) (Kd.R_base ho0) hb); have n2_ := A_ (Kd.R_lower (Kd.R_new' (Kd.R_new' ho0 (Kd.R_lt (nR_ HO548))) (Kd.R_lt (nR_ HO552))) (below_size hb_)); have n3_ := A_ (below_step hb_ hb); clear HO548 HO552 HB; have HO548 := n0_; have HO552 := n1_; have HO556 := n2_; have HB := n3_; clear n0_ n1_ n2_ n3_; (try clear hb); (try clear ho0); obtain ⟨Ao17, co17, eo17⟩ := Kd.R_slice HO548.out; subst eo17; obtain ⟨Ao18, co18, eo18⟩ := Kd.R_slice HO556.out; subst eo18) | ((with_reducible refine gate_callee (f := 18) rfl ?_); refine goesM_ (some 38) Try.func18 #[.slice Ao17 t545.length co17, .slice Ao18 t553.length co18] ?_; (with_reducible refine (cr1_Same.calls k _ _ t545 _ _ t553 true _ ?side1 ?side2 ?side3 ?side4 A7.out).mono ?_); (case side1 => repeat (first | exact (Kd.R_reads' HO548.out).2.2 | (with_reducible refine Kd.C_alloc ?_ _) | (with_reducible refine Kd.C_drewN ?_ _) | (with_reducible refine Kd.C_drew ?_))); (case side2 => exact (Kd.R_reads' HO548.out).2.1); (case side3 => repeat (first | exact (Kd.R_reads' HO556.out).2.2 | (with_reducible refine Kd.C_alloc ?_ _) | (with_reducible refine Kd.C_drewN ?_ _) | (with_reducible refine Kd.C_drew ?_))); (case side4 => exact (Kd.R_reads' HO556.out).2.1); rintro e w' ⟨rfl, ⟨nd, rfl⟩⟩; refine ⟨_, rfl, ?_⟩; obtain ⟨Ao19, co19, eo19⟩ := Kd.R_slice HO552.out; subst eo19) | (go_at_call 18; (with_reducible refine (cr1_Same.calls k _ _ t549 _ _ t553 true _ ?side1 ?side2 ?side3 ?side4 A10.out).mono ?_); (case side1 => repeat (first | exact (Kd.R_reads' HO552.out).2.2 | (with_reducible refine Kd.C_alloc ?_ _) | (with_reducible refine Kd.C_drewN ?_ _) | (with_reducible refine Kd.C_drew ?_))); (case side2 => exact (Kd.R_reads' HO552.out).2.1); (case side3 => repeat (first | exact (Kd.R_reads' HO556.out).2.2 | (with_reducible refine Kd.C_alloc ?_ _) | (with_reducible refine Kd.C_drewN ?_ _) | (with_reducible refine Kd.C_drew ?_))); (case side4 => exact (Kd.R_reads' HO556.out).2.1); rintro e w' ⟨rfl, ⟨nd, rfl⟩⟩) | (go_at_call 17; (with_reducible refine (conclavelaw04_anchored.calls k  t559 _ A13.out).mono ?_); rintro e w20 ⟨rfl, hb⟩; have n0_ := A_ (Kd.R_below (nR_ HO548) hb); have n1_ := A_ (Kd.R_below (nR_ HO552) hb); have n2_ := A_ (Kd.R_below (nR_ HO556) hb); have n3_ := A_ (below_step hb_ hb); clear HO548 HO552 HO556 HB; have HO548 := n0_; have HO552 := n1_; have HO556 := n2_; have HB := n3_; clear n0_ n1_ n2_ n3_; (try clear hb)))
     go_ret
     exact ⟨fr_, hb_⟩
    ·rw [if_neg c12] at H
     exact absurd H (by simp)
   ·replace c11 := Bool.eq_false_iff.mpr c11
    subst c11
    have H1 : (none) = some r := by rw [if_neg (show ¬ (false = true) by decide)] at H; exact H
    clear H
    have H := H1
    clear H1
    exact absurd H (by simp)
  ·rw [if_neg c9] at H
   exact absurd H (by simp)
 ·replace c8 := Bool.eq_false_iff.mpr c8
  subst c8
  have H1 : (none) = some r := by rw [if_neg (show ¬ (false = true) by decide)] at H; exact H
  clear H
  have H := H1
  clear H1
  exact absurd H (by simp)
/-- THE ONE PURE STATEMENT of conclavelaw04_FastMuls: yours. -/
def conclavelaw04_FastMuls.Pure : Prop := ∀ (a0 : Int) (l1 : List Int) (l2 : List Int), (Lit.int .u8 a0).wf = true → l1.length ≤ maxLen → l1.length * 8 ≤ 140737488351232 → (∀ x ∈ l1, (Lit.int .u64 x).wf = true) → l2.length ≤ maxLen → l2.length * 8 ≤ 140737488351232 → (∀ x ∈ l2, (Lit.int .u64 x).wf = true) → ∃ k, conclavelaw04_FastMuls.f k a0 l1 l2 = some true
theorem conclavelaw04_FastMuls.walk (P : conclavelaw04_FastMuls.Pure) (a0 : Int) (a1 : Option Addr) (len1 cap1 : Nat) (z1 : List Int) (a2 : Option Addr) (len2 cap2 : Nat) (z2 : List Int) (w : World) (w0 : (Lit.int .u8 a0).wf = true) (w1 : (a1 = none ∧ len1 = 0 ∧ cap1 = 0 ∧ z1 = []) ∨ ∃ x, a1 = some x ∧ len1 ≤ cap1 ∧ cap1 ≤ maxLen ∧ z1.length = cap1 ∧ (∀ i, i < z1.length → w.cell? (x.add i) = some (.int .u64 (z1.getD i 0))) ∧ ∀ n ∈ z1, (Lit.int .u64 n).wf = true) (y1 : len1 * 8 ≤ 140737488351232) (w2 : (a2 = none ∧ len2 = 0 ∧ cap2 = 0 ∧ z2 = []) ∨ ∃ x, a2 = some x ∧ len2 ≤ cap2 ∧ cap2 ≤ maxLen ∧ z2.length = cap2 ∧ (∀ i, i < z2.length → w.cell? (x.add i) = some (.int .u64 (z2.getD i 0))) ∧ ∀ n ∈ z2, (Lit.int .u64 n).wf = true) (y2 : len2 * 8 ≤ 140737488351232) :
  Calls Try.prog 5 #[.int .u8 a0, .slice a1 len1 cap1, .slice a2 len2 cap2] w fun e w' => e = .returned (.bool true) ∧ Below w.heap.size w w' := by
 obtain ⟨l1, rfl, hr1, hm1, hw1, hc1⟩ := ReadsInt.ofRowC w1
 obtain ⟨l2, rfl, hr2, hm2, hw2, hc2⟩ := ReadsInt.ofRowC w2
 obtain ⟨k, h⟩ := P a0 l1 l2 w0 hm1 y1 hw1 hm2 y2 hw2
 refine (conclavelaw04_FastMuls.calls k a0 _ _ l1 _ _ l2 true w (Kd.C_of_reads (d := (0 : Int)) (h1 := fun _ => rfl) hr1) hc1 (Kd.C_of_reads (d := (0 : Int)) (h1 := fun _ => rfl) hr2) hc2 h).mono ?_
 rintro e w' ⟨rfl, hd⟩
 exact ⟨rfl, hd⟩
end Go.Proofs.Ytaegmhniepfdaaa.PFastMuls
