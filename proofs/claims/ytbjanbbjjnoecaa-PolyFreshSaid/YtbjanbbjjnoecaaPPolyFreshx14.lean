/- The Go functions as Lean functions, each with the proof that its call comes to just that; written by a program of this session, by the words of the print. -/
import Derived.Test.YtbjanbbjjnoecaaPPolyFreshx0
import Derived.Test.YtbjanbbjjnoecaaPPolyFreshx1
import Derived.Test.YtbjanbbjjnoecaaPPolyFreshx2
import Derived.Test.YtbjanbbjjnoecaaPPolyFreshx4
import Derived.Test.YtbjanbbjjnoecaaPPolyFreshx6
import Derived.Test.YtbjanbbjjnoecaaPPolyFreshx10
import Derived.Test.YtbjanbbjjnoecaaPPolyFreshx11
import Derived.Test.YtbjanbbjjnoecaaPPolyFreshx13
namespace Go.Proofs.Ytbjanbbjjnoecaa.PPolyFresh
open Go.RowKit Go.Proofs.YtbjanbbjjnoecaaW.PrintWords Go.Proofs.YtbjanbbjjnoecaaW.PrintLast Go.Proofs.YtbjanbbjjnoecaaW.PrintMore
attribute [local go_sem] max2_int min2_int max_two min_two max_three min_three max_four min_four   -- for this text's walks alone
set_option linter.unusedVariables false
set_option linter.unusedSimpArgs false
/-! ### cr1_Spoil: function 34 -/
mutual
def cr1_Spoil.l0 : Nat → List Int → Int → Int → Option (Unit)
 | 0, _, _, _ => none
 | k + 1, x0, x1, x4 => if x4 < (x0.length : Int) then (if 0 ≤ x4 then (cr1_Spoil.l0 k (x0.set (x4 : Int).toNat (IntKind.u64.wrap (x1 + (IntKind.u64.wrap (x4))))) x1 (wrap64 (x4 + 1))) else (none)) else ((some (([x1, x1, x1] : List Int) : List Int)).bind fun y362 => (if x0.length + y362.length < 17592186044416 then (cr1_Spoil.l1 k (x0 ++ y362) x1 0) else (none)))
def cr1_Spoil.l1 : Nat → List Int → Int → Int → Option (Unit)
 | 0, _, _, _ => none
 | k + 1, x0, x1, x5 => if x5 < (x0.length : Int) then (if 0 ≤ x5 then (cr1_Spoil.l1 k (x0.set (x5 : Int).toNat x1) x1 (wrap64 (x5 + 1))) else (none)) else (some ())
end
def cr1_Spoil.f (k : Nat) (l0 : List Int) (a1 : Int) : Option (Unit) := cr1_Spoil.l0 k l0 a1 0
theorem cr1_Spoil.mono_l : ∀ k, (∀ y0 y1 y2, LeO (cr1_Spoil.l0 k y0 y1 y2) (cr1_Spoil.l0 (k + 1) y0 y1 y2)) ∧ (∀ y0 y1 y2, LeO (cr1_Spoil.l1 k y0 y1 y2) (cr1_Spoil.l1 (k + 1) y0 y1 y2))
 | 0 => ⟨fun _ _ _ r h => by simp [cr1_Spoil.l0] at h, fun _ _ _ r h => by simp [cr1_Spoil.l1] at h⟩
 | k + 1 => by
  obtain ⟨ih0, ih1⟩ := cr1_Spoil.mono_l k
  refine ⟨?_, ?_⟩
  ·intro y0 y1 y2
   unfold cr1_Spoil.l0
   repeat' first
   | (with_reducible exact ih0 _ _ _)
   | (with_reducible exact ih1 _ _ _)
   | (with_reducible exact LeO.refl _)
   | (with_reducible exact LeO.none _)
   | (with_reducible refine LeO.ite ?_ ?_)
   | (with_reducible refine LeO.bind ?_ (fun _ => ?_))
   | exact ih0 _ _ _
   | exact ih1 _ _ _
   | exact LeO.none _
   | refine LeO.ite ?_ ?_
   | refine LeO.bind ?_ (fun _ => ?_)
  ·intro y0 y1 y2
   unfold cr1_Spoil.l1
   repeat' first
   | (with_reducible exact ih0 _ _ _)
   | (with_reducible exact ih1 _ _ _)
   | (with_reducible exact LeO.refl _)
   | (with_reducible exact LeO.none _)
   | (with_reducible refine LeO.ite ?_ ?_)
   | (with_reducible refine LeO.bind ?_ (fun _ => ?_))
   | exact ih0 _ _ _
   | exact ih1 _ _ _
   | exact LeO.none _
   | refine LeO.ite ?_ ?_
   | refine LeO.bind ?_ (fun _ => ?_)
theorem cr1_Spoil.mono : ∀ a0 a1 k, LeO (cr1_Spoil.f k a0 a1) (cr1_Spoil.f (k + 1) a0 a1) := by
 intro a0 a1 k
 obtain ⟨ih0, ih1⟩ := cr1_Spoil.mono_l k
 unfold cr1_Spoil.f
 repeat' first
   | (with_reducible exact ih0 _ _ _)
   | (with_reducible exact ih1 _ _ _)
   | (with_reducible exact LeO.refl _)
   | (with_reducible exact LeO.none _)
   | (with_reducible refine LeO.ite ?_ ?_)
   | (with_reducible refine LeO.bind ?_ (fun _ => ?_))
   | exact ih0 _ _ _
   | exact ih1 _ _ _
   | exact LeO.none _
   | refine LeO.ite ?_ ?_
   | refine LeO.bind ?_ (fun _ => ?_)
set_option maxHeartbeats 8000000 in
set_option maxRecDepth 100000 in
theorem cr1_Spoil.calls (k : Nat) (P0_ : Nat → Prop) (u9000_ : Value) (l0 : List Int) (a1 : Int) (w0 w : World) (hB : Below w0.heap.size w0 w) (ho0 : Kd.R (Kd.int .u64) 34 w w0.heap.size P0_ u9000_ l0) (h : cr1_Spoil.f k l0 a1 = some ()) :
  Calls Try.prog 34 #[u9000_, .int .u64 a1] w fun e w' => e = .returned (.tuple #[]) ∧ Below w0.heap.size w0 w' ∧ Kept w w' (fun k_ => P0_ k_) := by
 have HO0 := A_ (show Kd.R (Kd.int .u64) 34 w w0.heap.size (fun k_ => (P0_ k_ ∨ w.heap.size ≤ k_)) u9000_ l0 from Kd.R_mono ho0 (fun k_ hk => (.inl hk)))
 have HK := A_ (Kept.refl w (fun k_ => P0_ k_))
 have HW0 := Aside0.mk hB.size
 have HB := Aside0.mk hB
 clear hB
 have H : (cr1_Spoil.l0 k l0 a1 0) = some () := h
 clear h
 have H' := Aside0.mk H
 clear H
 go_enter Try.func34, Try.ntmps34
 go_wp2
 go_loopg [4] k (fun kq v4 w' => ∃ (x0_1 : List Int) (x4_1 : Int), v4 = .int .i64 x4_1 ∧ Aside0 (cr1_Spoil.l0 kq x0_1 a1 x4_1 = some ()) ∧ Aside0 (kq ≤ k) ∧ Aside0 (Kd.R (Kd.int .u64) 34 w' w0.heap.size (fun k_ => (P0_ k_ ∨ w.heap.size ≤ k_)) u9000_ x0_1) ∧ Aside0 (Kept w w' (fun k_ => P0_ k_)) ∧ Aside0 (Below w0.heap.size w0 w'))
 case atStart => exact ⟨(l0), (0), (fs_), H', ⟨Nat.le_refl _⟩, ⟨mR_ HO0.out⟩, ⟨by repeat (first | (with_reducible first | exact HK.out | apply Kept.alloc | apply Kept.drewN | apply Kept.drew) | exact HK.out)⟩, ⟨by repeat (first | (with_reducible first | exact HB.out | apply below_alloc | apply pw_below_drewN | apply below_drew1) | exact HB.out)⟩⟩
 case round =>
  clear H'
  try clear p2
  obtain ⟨x0_1, x4_1, rfl, HA, HK1, HO_0, HK, HB⟩ := hrel
  cases gk with
  | zero => exact absurd HA.out (by simp [cr1_Spoil.l0])
  | succ k1 =>
   have H := HA.out
   clear HA
   simp only [cr1_Spoil.l0] at H
   by_cases c3 : x4_1 < (x0_1.length : Int)
   ·rw [if_pos c3] at H
    have c3b0 : decide (x4_1 < (x0_1.length : Int)) = true := decide_eq_true c3
    clear c3
    by_cases c4 : 0 ≤ x4_1
    ·rw [if_pos c4] at H
     have c4b0 : decide (0 ≤ x4_1) = true := decide_eq_true c4
     clear c4
     obtain ⟨y361, hy361⟩ : ∃ y_ : List Int, y_ = (x0_1.set (x4_1 : Int).toNat (IntKind.u64.wrap (a1 + (IntKind.u64.wrap (x4_1))))) := ⟨_, rfl⟩
     replace H : (cr1_Spoil.l0 k1 y361 a1 (wrap64 (x4_1 + 1))) = some () := by first | (rw [hy361]; with_reducible exact H) | (have H2_ := (Option.bind_some _ _).symm.trans H; rw [hy361]; with_reducible exact H2_) | (have H2_ := (Option.bind_some _ _).symm.trans H; with_reducible exact H2_) | with_reducible exact H | (rw [hy361]; exact H) | exact H
     have Ny361 := Aside0.mk hy361
     clear hy361
     have H' := Aside0.mk H
     clear H
     obtain ⟨Ao6, co6, eo6⟩ := Kd.R_slice HO_0.out
     subst eo6
     have p5 : 0 ≤ (x4_1 : Int) := of_decide_eq_true (by first | (with_reducible assumption) | assumption)
     have q5 : (x4_1 : Int) < ((x0_1.length : Int) : Int) := of_decide_eq_true (by first | (with_reducible assumption) | assumption)
     obtain ⟨go5, co5, eo5, gb5, gl5, cl5, HG5⟩ := Kd.R_form HO_0.out (by omega)
     (first | cases eo5 | (injection eo5 with ea_ en_ ec_; (first | subst ea_ | (injection ea_ with ea_; subst ea_)); subst ec_; clear en_))
     (try simp only [addr_add0] at *)
     have GB5 := Aside0.mk gb5
     have GG5 := Aside0.mk HG5
     clear gb5 gl5 HG5
     have HMgo5 := A_ (show (P0_ go5 ∨ w.heap.size ≤ go5) from (HO_0.out.1 _ rfl))
     obtain ⟨hx5_0, hf5_0⟩ := Kd.R_celln 0 HO_0.out (x4_1 : Int) p5 q5
     replace p5 := eq_true p5
     replace q5 := eq_true q5
     have HP7 := Kd.R_putg HO_0.out (x4_1 : Int) (IntKind.u64.wrap (a1 + (IntKind.u64.wrap (x4_1))))
     go_wp2_with (first | ((with_reducible refine gate_store (t := 34) (p := 18) rfl ?_); refine store_event (t := 34) (p := 18) (v := ?vo_w8) (w1 := (wr.setCell ⟨go5, (x4_1 : Int).toNat, none⟩ (.int .u64 (IntKind.u64.wrap (a1 + (IntKind.u64.wrap (x4_1))))))) ?hg ?ho ?hn ?hr ?_; (case ho => rfl); (case hg => rfl); (case hn => rfl); (case hr => first | (go_simp; done) | (go_simp; rfl)); intro w8 hw; have hg : wr.grownBy w8 (some go5) := (by rw [hw]; exact HP7.2); have hp_ : Kd.R (Kd.int .u64) 34 w8 w0.heap.size (fun k_ => (P0_ k_ ∨ w.heap.size ≤ k_)) (.slice (some ⟨go5, 0, none⟩) x0_1.length co6) y361 := (by rw [hw, Ny361.out]; exact HP7.1); clear HP7; have n0_ := A_ (hp_); have n1_ := A_ ((by rw [hw]; exact below_set (HB.out) GB5.out : Below w0.heap.size w0 w8)); have n2_ := A_ (Kept.of_grown (S := (fun k_ => P0_ k_)) hg (by repeat (first | (with_reducible first | exact HK.out | apply Kept.alloc | apply Kept.drewN | apply Kept.drew) | exact HK.out)) (fun k_ e_ => (HO_0.out.1 k_ e_))); clear HO_0 HB HK; have HO_0 := n0_; have HB := n1_; have HK := n2_; clear n0_ n1_ n2_; clear hg hw hp_))
     go_roundg k1
     case measure => have := HK1.out; omega
     case rel => exact ⟨(y361), (wrap64 (x4_1 + 1)), (fs_), H', ⟨by have := HK1.out; omega⟩, ⟨mR_ HO_0.out⟩, ⟨by repeat (first | (with_reducible first | exact HK.out | apply Kept.alloc | apply Kept.drewN | apply Kept.drew) | exact HK.out)⟩, ⟨by repeat (first | (with_reducible first | exact HB.out | apply below_alloc | apply pw_below_drewN | apply below_drew1) | exact HB.out)⟩⟩
    ·rw [if_neg c4] at H
     exact absurd H (by simp)
   ·rw [if_neg c3] at H
    have c3b0 : decide (x4_1 < (x0_1.length : Int)) = false := decide_eq_false c3
    clear c3
    obtain ⟨y362, hy362⟩ : ∃ y_ : List Int, y_ = (([a1, a1, a1] : List Int)) := ⟨_, rfl⟩
    replace H : (if x0_1.length + y362.length < 17592186044416 then (cr1_Spoil.l1 k1 (x0_1 ++ y362) a1 0) else (none)) = some () := by first | (rw [hy362]; with_reducible exact H) | (have H2_ := (Option.bind_some _ _).symm.trans H; rw [hy362]; with_reducible exact H2_) | (have H2_ := (Option.bind_some _ _).symm.trans H; with_reducible exact H2_) | with_reducible exact H | (rw [hy362]; exact H) | exact H
    have Ny362 := Aside0.mk hy362
    clear hy362
    by_cases c9 : x0_1.length + y362.length < 17592186044416
    ·rw [if_pos c9] at H
     have LMc9 := Aside0.mk c9
     clear c9
     obtain ⟨y365, hy365⟩ : ∃ y_ : List Int, y_ = (x0_1 ++ y362) := ⟨_, rfl⟩
     replace H : (cr1_Spoil.l1 k1 y365 a1 0) = some () := by first | (rw [hy365]; with_reducible exact H) | (have H2_ := (Option.bind_some _ _).symm.trans H; rw [hy365]; with_reducible exact H2_) | (have H2_ := (Option.bind_some _ _).symm.trans H; with_reducible exact H2_) | with_reducible exact H | (rw [hy365]; exact H) | exact H
     have Ny365 := Aside0.mk hy365
     clear hy365
     have H' := Aside0.mk H
     clear H
     obtain ⟨Ao10, co10, eo10⟩ := Kd.R_slice HO_0.out
     subst eo10
     go_wp2_with (first | ((with_reducible refine gate_dst (N := 23) rfl ?_); refine Kd.R_lit (Kd.int .u64) _ 34 ?hg (N := 23) ?hd (xs := ([a1, a1, a1] : List Int)) (inner := [.int .u64 a1, .int .u64 a1, .int .u64 a1]) (ok := fun _ => True) (okp := fun _ => True) ?hr ?hp (fun _ hk => hk) trivial (Below.refl _ _) (Nat.le_refl _) (by simp) ?_; (case hd => rfl); (case hg => rfl); (case hr => first | (go_simp; done) | (go_simp; rfl)); (case hp => exact (Reps.one (show Kd.M (Kd.int .u64) _ _ _ a1 [.int .u64 a1] from rfl) (Reps.one (show Kd.M (Kd.int .u64) _ _ _ a1 [.int .u64 a1] from rfl) (Reps.one (show Kd.M (Kd.int .u64) _ _ _ a1 [.int .u64 a1] from rfl) (Reps.none _ _))))); intro v363 w11 ho12 hb hg_ hnew_; clear hg_ hnew_; (first | rw [← Ny362.out] at ho12 | (simp only [Int.reduceToNat] at ho12; rw [← Ny362.out] at ho12)); have n0_ := A_ (Kd.R_elder' (nR_ HO_0) (Kd.R_base ho12) hb); have n1_ := A_ (Kd.R_lower (Kd.R_new' (Kd.R_newM (M := fun k_ => (P0_ k_ ∨ w.heap.size ≤ k_)) ho12 (by first | exact HK.out.1 | exact (show Kept w _ (fun k_ => P0_ k_) from by repeat (first | (with_reducible first | exact HK.out | apply Kept.alloc | apply Kept.drewN | apply Kept.drew) | exact HK.out)).1) (fun k_ h_ => .inr h_)) (Kd.R_lt (nR_ HO_0))) (below_size hb_)); have n2_ := A_ (Kept.below (S := (fun k_ => P0_ k_)) (by repeat (first | (with_reducible first | exact HK.out | apply Kept.alloc | apply Kept.drewN | apply Kept.drew) | exact HK.out)) hb); have n3_ := A_ (below_step hb_ hb); clear HO_0 HK HB; have HO_0 := n0_; have HO364 := n1_; have HK := n2_; have HB := n3_; clear n0_ n1_ n2_ n3_; clear hb ho12; obtain ⟨Ao14, co14, eo14⟩ := Kd.R_slice HO364.out; subst eo14) | ((with_reducible refine gate_builtin (b := .append) (xs := #[.tmp 19, .tmp 23]) rfl ?_); at_builtin; refine Kd.R_append_rows (Kd.int .u64) (w0 := w0) w0.heap.size rfl (.tmp 19) (.tmp 23) 22 34 (.int .u64 0) 8 rfl Try.underlying22 info34 rfl (by decide) (by omega) (.slice Ao10 x0_1.length co10) x0_1 y362 _ _ _ (fun k_ => (P0_ k_ ∨ w.heap.size ≤ k_) ∧ some k_ ≠ (.slice Ao14 y362.length co14 : Value).ownBlock) (fun _ => False) rfl rfl ?aO ?aR (fun _ _ h => h) (fun _ h => h.elim) ?aF ?aB ?aS ?aL ?_; (case aR => repeat (first | exact (Kd.R_reads' HO364.out).2.2 | (with_reducible refine Kd.C_alloc ?_ _) | (with_reducible refine Kd.C_drewN ?_ _) | (with_reducible refine Kd.C_drew ?_))); (case aB => exact hb_); (case aF => exact (fun k_ hk => ⟨(.inr (Nat.le_trans (by first | exact HK.out.1 | exact (show Kept w _ (fun k_ => P0_ k_) from by repeat (first | (with_reducible first | exact HK.out | apply Kept.alloc | apply Kept.drewN | apply Kept.drew) | exact HK.out)).1) hk)), Kd.fresh' (Kd.R_lt (nR_ HO364)) k_ hk⟩)); (case aO => exact (nR_ HO_0)); (case aS => exact (below_size hb_)); (case aL => have := LMc9.out; omega); intro v366 w13 ho hb hg hat; rw [← Ny365.out] at ho; have n0_ := A_ (Kd.R_after (ok := (fun k_ => (P0_ k_ ∨ w.heap.size ≤ k_))) (by (with_reducible repeat (first | apply Kd.R_alloc | apply Kd.R_drewN | apply Kd.R_drew)); exact Kd.R_mono HO364.out (fun _ hk => ⟨hk.1.1, hk.2⟩)) hg hat); have n1_ := A_ (hb); have n2_ := A_ (Kept.of_grown (S := (fun k_ => P0_ k_)) hg (by repeat (first | (with_reducible first | exact HK.out | apply Kept.alloc | apply Kept.drewN | apply Kept.drew) | exact HK.out)) (fun k_ e_ => (HO_0.out.1 k_ e_).1)); have n3_ := A_ (ho); clear HO364 HB HK HO_0; have HO364 := n0_; have HB := n1_; have HK := n2_; have HO367 := n3_; clear n0_ n1_ n2_ n3_; clear ho hb hg hat))
     go_loopg [5] k1 (fun kq v5 w' => ∃ (x0_2 : List Int) (x5_2 : Int), v5 = .int .i64 x5_2 ∧ Aside0 (cr1_Spoil.l1 kq x0_2 a1 x5_2 = some ()) ∧ Aside0 (kq ≤ k1) ∧ Aside0 (Kd.R (Kd.int .u64) 34 w' w0.heap.size (fun k_ => (P0_ k_ ∨ w.heap.size ≤ k_)) v366 x0_2) ∧ Aside0 (Kept w w' (fun k_ => P0_ k_)) ∧ Aside0 (Below w0.heap.size w0 w'))
     case atStart => exact ⟨(y365), (0), (fs_), H', ⟨Nat.le_refl _⟩, ⟨by (with_reducible repeat (first | apply Kd.R_alloc | apply Kd.R_drewN | apply Kd.R_drew)); exact Kd.R_mono HO367.out (fun _ hk => hk.1)⟩, ⟨by repeat (first | (with_reducible first | exact HK.out | apply Kept.alloc | apply Kept.drewN | apply Kept.drew) | exact HK.out)⟩, ⟨by repeat (first | (with_reducible first | exact HB.out | apply below_alloc | apply pw_below_drewN | apply below_drew1) | exact HB.out)⟩⟩
     case round =>
      clear H'
      try clear p2
      try clear c3
      try clear c3b0
      try clear c4
      try clear c4b0
      try clear p5
      try clear q5
      try clear hx5
      try clear hf5
      try clear p6
      try clear c9
      try clear hx5_0
      try clear p2
      try clear p5
      try clear q5
      obtain ⟨x0_2, x5_2, rfl, HA, HK2, HO_0, HK, HB⟩ := hrel
      cases gk with
      | zero => exact absurd HA.out (by simp [cr1_Spoil.l1])
      | succ k2 =>
       have H := HA.out
       clear HA
       simp only [cr1_Spoil.l1] at H
       by_cases c15 : x5_2 < (x0_2.length : Int)
       ·rw [if_pos c15] at H
        have c15b0 : decide (x5_2 < (x0_2.length : Int)) = true := decide_eq_true c15
        clear c15
        by_cases c16 : 0 ≤ x5_2
        ·rw [if_pos c16] at H
         have c16b0 : decide (0 ≤ x5_2) = true := decide_eq_true c16
         clear c16
         obtain ⟨y368, hy368⟩ : ∃ y_ : List Int, y_ = (x0_2.set (x5_2 : Int).toNat a1) := ⟨_, rfl⟩
         replace H : (cr1_Spoil.l1 k2 y368 a1 (wrap64 (x5_2 + 1))) = some () := by first | (rw [hy368]; with_reducible exact H) | (have H2_ := (Option.bind_some _ _).symm.trans H; rw [hy368]; with_reducible exact H2_) | (have H2_ := (Option.bind_some _ _).symm.trans H; with_reducible exact H2_) | with_reducible exact H | (rw [hy368]; exact H) | exact H
         have Ny368 := Aside0.mk hy368
         clear hy368
         have H' := Aside0.mk H
         clear H
         obtain ⟨Ao18, co18, eo18⟩ := Kd.R_slice HO_0.out
         subst eo18
         have p17 : 0 ≤ (x5_2 : Int) := of_decide_eq_true (by first | (with_reducible assumption) | assumption)
         have q17 : (x5_2 : Int) < ((x0_2.length : Int) : Int) := of_decide_eq_true (by first | (with_reducible assumption) | assumption)
         obtain ⟨go17, co17, eo17, gb17, gl17, cl17, HG17⟩ := Kd.R_form HO_0.out (by omega)
         (first | cases eo17 | (injection eo17 with ea_ en_ ec_; (first | subst ea_ | (injection ea_ with ea_; subst ea_)); subst ec_; clear en_))
         (try simp only [addr_add0] at *)
         have GB17 := Aside0.mk gb17
         have GG17 := Aside0.mk HG17
         clear gb17 gl17 HG17
         have HMgo17 := A_ (show (P0_ go17 ∨ w.heap.size ≤ go17) from (HO_0.out.1 _ rfl))
         obtain ⟨hx17_0, hf17_0⟩ := Kd.R_celln 0 HO_0.out (x5_2 : Int) p17 q17
         replace p17 := eq_true p17
         replace q17 := eq_true q17
         have HP19 := Kd.R_putg HO_0.out (x5_2 : Int) a1
         go_wp2_with (first | ((with_reducible refine gate_store (t := 34) (p := 34) rfl ?_); refine store_event (t := 34) (p := 34) (v := ?vo_w20) (w1 := (wr.setCell ⟨go17, (x5_2 : Int).toNat, none⟩ (.int .u64 a1))) ?hg ?ho ?hn ?hr ?_; (case ho => rfl); (case hg => rfl); (case hn => rfl); (case hr => first | (go_simp; done) | (go_simp; rfl)); intro w20 hw; have hg : wr.grownBy w20 (some go17) := (by rw [hw]; exact HP19.2); have hp_ : Kd.R (Kd.int .u64) 34 w20 w0.heap.size (fun k_ => (P0_ k_ ∨ w.heap.size ≤ k_)) (.slice (some ⟨go17, 0, none⟩) x0_2.length co18) y368 := (by rw [hw, Ny368.out]; exact HP19.1); clear HP19; have n0_ := A_ (hp_); have n1_ := A_ ((by rw [hw]; exact below_set (HB.out) GB17.out : Below w0.heap.size w0 w20)); have n2_ := A_ (Kept.of_grown (S := (fun k_ => P0_ k_)) hg (by repeat (first | (with_reducible first | exact HK.out | apply Kept.alloc | apply Kept.drewN | apply Kept.drew) | exact HK.out)) (fun k_ e_ => (HO_0.out.1 k_ e_))); clear HO_0 HB HK; have HO_0 := n0_; have HB := n1_; have HK := n2_; clear n0_ n1_ n2_; clear hg hw hp_))
         go_roundg k2
         case measure => have := HK1.out; have := HK2.out; omega
         case rel => exact ⟨(y368), (wrap64 (x5_2 + 1)), (fs_), H', ⟨by have := HK1.out; have := HK2.out; omega⟩, ⟨mR_ HO_0.out⟩, ⟨by repeat (first | (with_reducible first | exact HK.out | apply Kept.alloc | apply Kept.drewN | apply Kept.drew) | exact HK.out)⟩, ⟨by repeat (first | (with_reducible first | exact HB.out | apply below_alloc | apply pw_below_drewN | apply below_drew1) | exact HB.out)⟩⟩
        ·rw [if_neg c16] at H
         exact absurd H (by simp)
       ·rw [if_neg c15] at H
        have c15b0 : decide (x5_2 < (x0_2.length : Int)) = false := decide_eq_false c15
        clear c15
        obtain ⟨Ao21, co21, eo21⟩ := Kd.R_slice HO_0.out
        subst eo21
        go_wp2
        first | go_end0 | ((try simp only [Exit.inBlock, Exit.then]); refine bodyPost_ret (results_none rfl _ _ _) rfl ?_)
        exact ⟨fr_, by repeat (first | (with_reducible first | exact HB.out | apply below_alloc | apply pw_below_drewN | apply below_drew1) | exact HB.out), by repeat (first | (with_reducible first | exact HK.out | apply Kept.alloc | apply Kept.drewN | apply Kept.drew) | exact HK.out)⟩
    ·rw [if_neg c9] at H
     exact absurd H (by simp)
/-! ### conclavelaw03_PolyFresh: function 9 -/
def conclavelaw03_PolyFresh.f (k : Nat) (a0 : Int) (l1 : List Int) (l2 : List Int) : Option (Bool) := (cr1_Copy.f l1).bind fun t369 => ((cr1_Copy.f l2).bind fun t372 => ((poly_Add.f k a0 t369 t372).bind fun bt375 => ((poly_Mul.f k a0 t369 t372).bind fun bt379 => ((poly_DivMod.f k a0 t369 t372).bind fun bt383 => ((poly_Into.f k a0 t369 t372).bind fun bt390 => ((poly_Trim.f k t369).bind fun t394 => ((cr1_Spoil.f k bt375.1 3).bind fun _ => ((cr1_Spoil.f k bt379.1 53).bind fun _ => ((cr1_Spoil.f k bt383.1 103).bind fun _ => ((cr1_Spoil.f k bt383.2.1 153).bind fun _ => ((cr1_Spoil.f k bt390.1 203).bind fun _ => ((cr1_Spoil.f k t394 253).bind fun _ => ((poly_Mul.f k a0 t369 t372).bind fun bt398 => ((cr3_Mul.f k a0 l1 l2).bind fun bt402 => ((conclavelaw03_anchored.f k).bind fun t406 => (if t406 = true then ((cr1_Same.f k t369 l1).bind fun t407 => (if t407 = true then ((cr1_Same.f k t372 l2).bind fun t408 => (if t408 = true then ((cr1_Same.f k bt398.1 bt402.1).bind fun t409 => (if t409 = true then (some (bt398.2 == bt402.2)) else (none))) else (none))) else (none))) else (none)))))))))))))))))
theorem conclavelaw03_PolyFresh.mono : ∀ a0 a1 a2 k, LeO (conclavelaw03_PolyFresh.f k a0 a1 a2) (conclavelaw03_PolyFresh.f (k + 1) a0 a1 a2) := by
 intro a0 a1 a2 k
 unfold conclavelaw03_PolyFresh.f
 repeat' first
   | (with_reducible exact conclavelaw03_anchored.mono _)
   | (with_reducible exact cr1_Same.mono _ _ _)
   | (with_reducible exact cr1_Spoil.mono _ _ _)
   | (with_reducible exact cr3_Mul.mono _ _ _ _)
   | (with_reducible exact poly_Add.mono _ _ _ _)
   | (with_reducible exact poly_DivMod.mono _ _ _ _)
   | (with_reducible exact poly_Into.mono _ _ _ _)
   | (with_reducible exact poly_Mul.mono _ _ _ _)
   | (with_reducible exact poly_Trim.mono _ _)
   | (with_reducible exact LeO.refl _)
   | (with_reducible exact LeO.none _)
   | (with_reducible refine LeO.ite ?_ ?_)
   | (with_reducible refine LeO.bind ?_ (fun _ => ?_))
   | exact conclavelaw03_anchored.mono _
   | exact cr1_Same.mono _ _ _
   | exact cr1_Spoil.mono _ _ _
   | exact cr3_Mul.mono _ _ _ _
   | exact poly_Add.mono _ _ _ _
   | exact poly_DivMod.mono _ _ _ _
   | exact poly_Into.mono _ _ _ _
   | exact poly_Mul.mono _ _ _ _
   | exact poly_Trim.mono _ _
   | exact LeO.none _
   | refine LeO.ite ?_ ?_
   | refine LeO.bind ?_ (fun _ => ?_)
set_option maxHeartbeats 8000000 in
set_option maxRecDepth 100000 in
theorem conclavelaw03_PolyFresh.calls (k : Nat) (a0 : Int) (A1 : Option Addr) (c1 : Nat) (l1 : List Int) (A2 : Option Addr) (c2 : Nat) (l2 : List Int) (r : Bool) (w : World) (hr1 : Kd.C (Kd.int .u64) w A1 l1.length l1) (hc1 : l1.length ≤ c1) (hr2 : Kd.C (Kd.int .u64) w A2 l2.length l2) (hc2 : l2.length ≤ c2) (h : conclavelaw03_PolyFresh.f k a0 l1 l2 = some r) :
  Calls Try.prog 9 #[.int .u8 a0, .slice A1 l1.length c1, .slice A2 l2.length c2] w fun e w' => e = .returned (.bool r) ∧ Below w.heap.size w w' := by
 have HR1 := Aside0.mk hr1
 have HC1 := Aside0.mk hc1
 clear hr1 hc1
 have HR2 := Aside0.mk hr2
 have HC2 := Aside0.mk hc2
 clear hr2 hc2
 have HB := A_ (Below.refl w.heap.size w)
 have H : ((cr1_Copy.f l1).bind fun t369 => ((cr1_Copy.f l2).bind fun t372 => ((poly_Add.f k a0 t369 t372).bind fun bt375 => ((poly_Mul.f k a0 t369 t372).bind fun bt379 => ((poly_DivMod.f k a0 t369 t372).bind fun bt383 => ((poly_Into.f k a0 t369 t372).bind fun bt390 => ((poly_Trim.f k t369).bind fun t394 => ((cr1_Spoil.f k bt375.1 3).bind fun _ => ((cr1_Spoil.f k bt379.1 53).bind fun _ => ((cr1_Spoil.f k bt383.1 103).bind fun _ => ((cr1_Spoil.f k bt383.2.1 153).bind fun _ => ((cr1_Spoil.f k bt390.1 203).bind fun _ => ((cr1_Spoil.f k t394 253).bind fun _ => ((poly_Mul.f k a0 t369 t372).bind fun bt398 => ((cr3_Mul.f k a0 l1 l2).bind fun bt402 => ((conclavelaw03_anchored.f k).bind fun t406 => (if t406 = true then ((cr1_Same.f k t369 l1).bind fun t407 => (if t407 = true then ((cr1_Same.f k t372 l2).bind fun t408 => (if t408 = true then ((cr1_Same.f k bt398.1 bt402.1).bind fun t409 => (if t409 = true then (some (bt398.2 == bt402.2)) else (none))) else (none))) else (none))) else (none)))))))))))))))))) = some r := h
 clear h
 replace H := Option.bind_eq_some_iff.mp H
 obtain ⟨t369, A40, H⟩ := H
 (try dsimp only at H)
 have A4 := Aside0.mk A40
 clear A40
 replace H := Option.bind_eq_some_iff.mp H
 obtain ⟨t372, A50, H⟩ := H
 (try dsimp only at H)
 have A5 := Aside0.mk A50
 clear A50
 replace H := Option.bind_eq_some_iff.mp H
 obtain ⟨⟨t375, t376⟩, A60, H⟩ := H
 (try dsimp only at H)
 have A6 := Aside0.mk A60
 clear A60
 replace H := Option.bind_eq_some_iff.mp H
 obtain ⟨⟨t379, t382⟩, A70, H⟩ := H
 (try dsimp only at H)
 have A7 := Aside0.mk A70
 clear A70
 replace H := Option.bind_eq_some_iff.mp H
 obtain ⟨⟨t383, t386, t389⟩, A80, H⟩ := H
 (try dsimp only at H)
 have A8 := Aside0.mk A80
 clear A80
 replace H := Option.bind_eq_some_iff.mp H
 obtain ⟨⟨t390, t393⟩, A90, H⟩ := H
 (try dsimp only at H)
 have A9 := Aside0.mk A90
 clear A90
 replace H := Option.bind_eq_some_iff.mp H
 obtain ⟨t394, A100, H⟩ := H
 (try dsimp only at H)
 have A10 := Aside0.mk A100
 clear A100
 replace H := Option.bind_eq_some_iff.mp H
 obtain ⟨_, A110, H⟩ := H
 (try dsimp only at H)
 have A11 := Aside0.mk A110
 clear A110
 replace H := Option.bind_eq_some_iff.mp H
 obtain ⟨_, A120, H⟩ := H
 (try dsimp only at H)
 have A12 := Aside0.mk A120
 clear A120
 replace H := Option.bind_eq_some_iff.mp H
 obtain ⟨_, A130, H⟩ := H
 (try dsimp only at H)
 have A13 := Aside0.mk A130
 clear A130
 replace H := Option.bind_eq_some_iff.mp H
 obtain ⟨_, A140, H⟩ := H
 (try dsimp only at H)
 have A14 := Aside0.mk A140
 clear A140
 replace H := Option.bind_eq_some_iff.mp H
 obtain ⟨_, A150, H⟩ := H
 (try dsimp only at H)
 have A15 := Aside0.mk A150
 clear A150
 replace H := Option.bind_eq_some_iff.mp H
 obtain ⟨_, A160, H⟩ := H
 (try dsimp only at H)
 have A16 := Aside0.mk A160
 clear A160
 replace H := Option.bind_eq_some_iff.mp H
 obtain ⟨⟨t398, t401⟩, A170, H⟩ := H
 (try dsimp only at H)
 have A17 := Aside0.mk A170
 clear A170
 replace H := Option.bind_eq_some_iff.mp H
 obtain ⟨⟨t402, t403⟩, A180, H⟩ := H
 (try dsimp only at H)
 have A18 := Aside0.mk A180
 clear A180
 replace H := Option.bind_eq_some_iff.mp H
 obtain ⟨t406, A190, H⟩ := H
 (try dsimp only at H)
 have A19 := Aside0.mk A190
 clear A190
 by_cases c20 : t406 = true
 ·subst c20
  have H1 : ((cr1_Same.f k t369 l1).bind fun t407 => (if t407 = true then ((cr1_Same.f k t372 l2).bind fun t408 => (if t408 = true then ((cr1_Same.f k t398 t402).bind fun t409 => (if t409 = true then (some (t401 == t403)) else (none))) else (none))) else (none))) = some r := by rw [if_pos rfl] at H; exact H
  clear H
  have H := H1
  clear H1
  replace H := Option.bind_eq_some_iff.mp H
  obtain ⟨t407, A210, H⟩ := H
  replace H : (if t407 = true then ((cr1_Same.f k t372 l2).bind fun t408 => (if t408 = true then ((cr1_Same.f k t398 t402).bind fun t409 => (if t409 = true then (some (t401 == t403)) else (none))) else (none))) else (none)) = some r := H
  have A21 := Aside0.mk A210
  clear A210
  by_cases c22 : t407 = true
  ·subst c22
   have H1 : ((cr1_Same.f k t372 l2).bind fun t408 => (if t408 = true then ((cr1_Same.f k t398 t402).bind fun t409 => (if t409 = true then (some (t401 == t403)) else (none))) else (none))) = some r := by rw [if_pos rfl] at H; exact H
   clear H
   have H := H1
   clear H1
   replace H := Option.bind_eq_some_iff.mp H
   obtain ⟨t408, A230, H⟩ := H
   replace H : (if t408 = true then ((cr1_Same.f k t398 t402).bind fun t409 => (if t409 = true then (some (t401 == t403)) else (none))) else (none)) = some r := H
   have A23 := Aside0.mk A230
   clear A230
   by_cases c24 : t408 = true
   ·subst c24
    have H1 : ((cr1_Same.f k t398 t402).bind fun t409 => (if t409 = true then (some (t401 == t403)) else (none))) = some r := by rw [if_pos rfl] at H; exact H
    clear H
    have H := H1
    clear H1
    replace H := Option.bind_eq_some_iff.mp H
    obtain ⟨t409, A250, H⟩ := H
    replace H : (if t409 = true then (some (t401 == t403)) else (none)) = some r := H
    have A25 := Aside0.mk A250
    clear A250
    by_cases c26 : t409 = true
    ·subst c26
     have H1 : (some (t401 == t403)) = some r := by rw [if_pos rfl] at H; exact H
     clear H
     have H := H1
     clear H1
     obtain rfl := Option.some.inj H
     go_enter Try.func9, Try.ntmps9
     go_wp2_with (first | ((with_reducible refine gate_callee (f := 33) rfl ?_); refine goesM_ (some 27) Try.func33 #[.slice A1 l1.length c1] ?_; (with_reducible refine (cr1_Copy.calls _ _ l1 t369 _ ?side1 ?side2 A4.out).mono ?_); (case side1 => exact nC_ HR1.out); (case side2 => exact HC1.out); rintro e w27 ⟨v370, rfl, ho0, hb⟩; refine ⟨_, rfl, ?_⟩; have n0_ := A_ (Kd.R_lower ho0 (below_size hb_)); have n1_ := A_ (below_step hb_ hb); clear HB; have HO371 := n0_; have HB := n1_; clear n0_ n1_; (try clear hb); (try clear ho0)) | ((with_reducible refine gate_callee (f := 33) rfl ?_); refine goesM_ (some 29) Try.func33 #[.slice A2 l2.length c2] ?_; (with_reducible refine (cr1_Copy.calls _ _ l2 t372 _ ?side1 ?side2 A5.out).mono ?_); (case side1 => repeat (first | exact (Kd.C_below HR2.out HB.out) | (with_reducible refine Kd.C_alloc ?_ _) | (with_reducible refine Kd.C_drewN ?_ _) | (with_reducible refine Kd.C_drew ?_))); (case side2 => exact HC2.out); rintro e w28 ⟨v373, rfl, ho0, hb⟩; refine ⟨_, rfl, ?_⟩; have n0_ := A_ (Kd.R_elder' (nR_ HO371) (Kd.R_base ho0) hb); have n1_ := A_ (Kd.R_lower (Kd.R_new' ho0 (Kd.R_lt (nR_ HO371))) (below_size hb_)); have n2_ := A_ (below_step hb_ hb); clear HO371 HB; have HO371 := n0_; have HO374 := n1_; have HB := n2_; clear n0_ n1_ n2_; (try clear hb); (try clear ho0); obtain ⟨Ao29, co29, eo29⟩ := Kd.R_slice HO371.out; subst eo29; obtain ⟨Ao30, co30, eo30⟩ := Kd.R_slice HO374.out; subst eo30) | ((with_reducible refine gate_callee (f := 14) rfl ?_); refine goesM_ (some 34) Try.func14 #[.int .u8 a0, .slice Ao29 t369.length co29, .slice Ao30 t372.length co30] ?_; (with_reducible refine (poly_Add.calls k a0 _ _ t369 _ _ t372 t375 t376 _ ?side1 ?side2 ?side3 ?side4 A6.out).mono ?_); (case side1 => repeat (first | exact (Kd.R_reads' HO371.out).2.2 | (with_reducible refine Kd.C_alloc ?_ _) | (with_reducible refine Kd.C_drewN ?_ _) | (with_reducible refine Kd.C_drew ?_))); (case side2 => exact (Kd.R_reads' HO371.out).2.1); (case side3 => repeat (first | exact (Kd.R_reads' HO374.out).2.2 | (with_reducible refine Kd.C_alloc ?_ _) | (with_reducible refine Kd.C_drewN ?_ _) | (with_reducible refine Kd.C_drew ?_))); (case side4 => exact (Kd.R_reads' HO374.out).2.1); rintro e w31 ⟨v377, rfl, ho0, hb⟩; refine ⟨_, rfl, ?_⟩; have n0_ := A_ (Kd.R_elder' (nR_ HO371) (Kd.R_base ho0) hb); have n1_ := A_ (Kd.R_elder' (nR_ HO374) (Kd.R_base ho0) hb); have n2_ := A_ (Kd.R_lower (Kd.R_new' (Kd.R_new' ho0 (Kd.R_lt (nR_ HO371))) (Kd.R_lt (nR_ HO374))) (below_size hb_)); have n3_ := A_ (below_step hb_ hb); clear HO371 HO374 HB; have HO371 := n0_; have HO374 := n1_; have HO378 := n2_; have HB := n3_; clear n0_ n1_ n2_ n3_; (try clear hb); (try clear ho0)) | ((with_reducible refine gate_callee (f := 18) rfl ?_); refine goesM_ (some 41) Try.func18 #[.int .u8 a0, .slice Ao29 t369.length co29, .slice Ao30 t372.length co30] ?_; (with_reducible refine (poly_Mul.calls k a0 (fun k_ => some k_ = (.slice Ao29 t369.length co29 : Value).ownBlock) _ _ t369 (fun k_ => some k_ = (.slice Ao30 t372.length co30 : Value).ownBlock) _ _ t372 t379 t382 _ ?side1 ?side2 A7.out).mono ?_); (case side1 => exact Kd.R_V (Kd.R_tight rfl (HO371.out))); (case side2 => exact Kd.R_V (Kd.R_tight rfl (HO374.out))); rintro e w32 ⟨v380, rfl, ho0, hb⟩; refine ⟨_, rfl, ?_⟩; have n0_ := A_ (Kd.R_elder' (nR_ HO371) (Kd.R_base ho0) hb); have n1_ := A_ (Kd.R_elder' (nR_ HO374) (Kd.R_base ho0) hb); have n2_ := A_ (Kd.R_elder' (nR_ HO378) (Kd.R_base ho0) hb); have n3_ := A_ (Kd.R_lower (Kd.R_new' (Kd.R_new' (Kd.R_new' (Kd.R_mono (ok' := fun k_ => True) ho0 (fun _ hk_ => trivial)) (Kd.R_lt (nR_ HO371))) (Kd.R_lt (nR_ HO374))) (Kd.R_lt (nR_ HO378))) (below_size hb_)); have n4_ := A_ (below_step hb_ hb); clear HO371 HO374 HO378 HB; have HO371 := n0_; have HO374 := n1_; have HO378 := n2_; have HO381 := n3_; have HB := n4_; clear n0_ n1_ n2_ n3_ n4_; (try clear hb); (try clear ho0)) | ((with_reducible refine gate_callee (f := 30) rfl ?_); refine goesM_ (some 48) Try.func30 #[.int .u8 a0, .slice Ao29 t369.length co29, .slice Ao30 t372.length co30] ?_; (with_reducible refine (poly_DivMod.calls k a0 (fun k_ => some k_ = (.slice Ao29 t369.length co29 : Value).ownBlock) _ _ t369 (fun k_ => some k_ = (.slice Ao30 t372.length co30 : Value).ownBlock) _ _ t372 t383 t386 t389 _ ?side1 ?side2 A8.out).mono ?_); (case side1 => exact Kd.R_V (Kd.R_tight rfl (HO371.out))); (case side2 => exact Kd.R_V (Kd.R_tight rfl (HO374.out))); rintro e w33 ⟨v384, v387, rfl, ho0, ho1, hb⟩; refine ⟨_, rfl, ?_⟩; have n0_ := A_ (Kd.R_mono (Kd.R_told (Kd.R_told (Kd.R_old (nR_ HO371) hb) (Kd.R_base ho0)) (Kd.R_base ho1)) (fun _ h_ => h_.1)); have n1_ := A_ (Kd.R_mono (Kd.R_told (Kd.R_told (Kd.R_old (nR_ HO374) hb) (Kd.R_base ho0)) (Kd.R_base ho1)) (fun _ h_ => h_.1)); have n2_ := A_ (Kd.R_mono (Kd.R_told (Kd.R_told (Kd.R_old (nR_ HO378) hb) (Kd.R_base ho0)) (Kd.R_base ho1)) (fun _ h_ => h_.1)); have n3_ := A_ (Kd.R_mono (Kd.R_told (Kd.R_told (Kd.R_old (nR_ HO381) hb) (Kd.R_base ho0)) (Kd.R_base ho1)) (fun _ h_ => h_.1)); have n4_ := A_ (Kd.R_lower (Kd.R_new' (Kd.R_new' (Kd.R_new' (Kd.R_new' (Kd.R_mono (ok' := fun k_ => some k_ ≠ (v387 : Value).ownBlock) ho0 (fun _ hk_ => hk_.2)) (Kd.R_lt (nR_ HO371))) (Kd.R_lt (nR_ HO374))) (Kd.R_lt (nR_ HO378))) (Kd.R_lt (nR_ HO381))) (below_size hb_)); have n5_ := A_ (Kd.R_lower (Kd.R_new' (Kd.R_new' (Kd.R_new' (Kd.R_new' (Kd.R_mono (ok' := fun k_ => some k_ ≠ (v384 : Value).ownBlock) ho1 (fun _ hk_ => hk_.2)) (Kd.R_lt (nR_ HO371))) (Kd.R_lt (nR_ HO374))) (Kd.R_lt (nR_ HO378))) (Kd.R_lt (nR_ HO381))) (below_size hb_)); have n6_ := A_ (below_step hb_ hb); clear HO371 HO374 HO378 HO381 HB; have HO371 := n0_; have HO374 := n1_; have HO378 := n2_; have HO381 := n3_; have HO385 := n4_; have HO388 := n5_; have HB := n6_; clear n0_ n1_ n2_ n3_ n4_ n5_ n6_; (try clear hb); (try clear ho0); (try clear ho1)) | ((with_reducible refine gate_callee (f := 26) rfl ?_); refine goesM_ (some 56) Try.func26 #[.int .u8 a0, .slice Ao29 t369.length co29, .slice Ao30 t372.length co30] ?_; (with_reducible refine (poly_Into.calls k a0 (fun k_ => some k_ = (.slice Ao29 t369.length co29 : Value).ownBlock) _ _ t369 (fun k_ => some k_ = (.slice Ao30 t372.length co30 : Value).ownBlock) _ _ t372 t390 t393 _ ?side1 ?side2 A9.out).mono ?_); (case side1 => exact Kd.R_V (Kd.R_tight rfl (HO371.out))); (case side2 => exact Kd.R_V (Kd.R_tight rfl (HO374.out))); rintro e w34 ⟨v391, rfl, ho0, hb⟩; refine ⟨_, rfl, ?_⟩; have n0_ := A_ (Kd.R_elder' (nR_ HO371) (Kd.R_base ho0) hb); have n1_ := A_ (Kd.R_elder' (nR_ HO374) (Kd.R_base ho0) hb); have n2_ := A_ (Kd.R_elder' (nR_ HO378) (Kd.R_base ho0) hb); have n3_ := A_ (Kd.R_elder' (nR_ HO381) (Kd.R_base ho0) hb); have n4_ := A_ (Kd.R_elder' (nR_ HO385) (Kd.R_base ho0) hb); have n5_ := A_ (Kd.R_elder' (nR_ HO388) (Kd.R_base ho0) hb); have n6_ := A_ (Kd.R_lower (Kd.R_new' (Kd.R_new' (Kd.R_new' (Kd.R_new' (Kd.R_new' (Kd.R_new' (Kd.R_mono (ok' := fun k_ => True) ho0 (fun _ hk_ => trivial)) (Kd.R_lt (nR_ HO371))) (Kd.R_lt (nR_ HO374))) (Kd.R_lt (nR_ HO378))) (Kd.R_lt (nR_ HO381))) (Kd.R_lt (nR_ HO385))) (Kd.R_lt (nR_ HO388))) (below_size hb_)); have n7_ := A_ (below_step hb_ hb); clear HO371 HO374 HO378 HO381 HO385 HO388 HB; have HO371 := n0_; have HO374 := n1_; have HO378 := n2_; have HO381 := n3_; have HO385 := n4_; have HO388 := n5_; have HO392 := n6_; have HB := n7_; clear n0_ n1_ n2_ n3_ n4_ n5_ n6_ n7_; (try clear hb); (try clear ho0)) | ((with_reducible refine gate_callee (f := 11) rfl ?_); refine goesM_ (some 65) Try.func11 #[.slice Ao29 t369.length co29] ?_; (with_reducible refine (poly_Trim.calls k _ _ t369 t394 _ ?side1 ?side2 A10.out).mono ?_); (case side1 => repeat (first | exact (Kd.R_reads' HO371.out).2.2 | (with_reducible refine Kd.C_alloc ?_ _) | (with_reducible refine Kd.C_drewN ?_ _) | (with_reducible refine Kd.C_drew ?_))); (case side2 => exact (Kd.R_reads' HO371.out).2.1); rintro e w35 ⟨v395, rfl, ho0, hb⟩; refine ⟨_, rfl, ?_⟩; have n0_ := A_ (Kd.R_elder' (nR_ HO371) (Kd.R_base ho0) hb); have n1_ := A_ (Kd.R_elder' (nR_ HO374) (Kd.R_base ho0) hb); have n2_ := A_ (Kd.R_elder' (nR_ HO378) (Kd.R_base ho0) hb); have n3_ := A_ (Kd.R_elder' (nR_ HO381) (Kd.R_base ho0) hb); have n4_ := A_ (Kd.R_elder' (nR_ HO385) (Kd.R_base ho0) hb); have n5_ := A_ (Kd.R_elder' (nR_ HO388) (Kd.R_base ho0) hb); have n6_ := A_ (Kd.R_elder' (nR_ HO392) (Kd.R_base ho0) hb); have n7_ := A_ (Kd.R_lower (Kd.R_new' (Kd.R_new' (Kd.R_new' (Kd.R_new' (Kd.R_new' (Kd.R_new' (Kd.R_new' ho0 (Kd.R_lt (nR_ HO371))) (Kd.R_lt (nR_ HO374))) (Kd.R_lt (nR_ HO378))) (Kd.R_lt (nR_ HO381))) (Kd.R_lt (nR_ HO385))) (Kd.R_lt (nR_ HO388))) (Kd.R_lt (nR_ HO392))) (below_size hb_)); have n8_ := A_ (below_step hb_ hb); clear HO371 HO374 HO378 HO381 HO385 HO388 HO392 HB; have HO371 := n0_; have HO374 := n1_; have HO378 := n2_; have HO381 := n3_; have HO385 := n4_; have HO388 := n5_; have HO392 := n6_; have HO396 := n7_; have HB := n8_; clear n0_ n1_ n2_ n3_ n4_ n5_ n6_ n7_ n8_; (try clear hb); (try clear ho0); obtain ⟨Ao36, co36, eo36⟩ := Kd.R_slice HO378.out; subst eo36; obtain ⟨Ao37, co37, eo37⟩ := Kd.R_slice HO381.out; subst eo37; obtain ⟨Ao38, co38, eo38⟩ := Kd.R_slice HO385.out; subst eo38; obtain ⟨Ao39, co39, eo39⟩ := Kd.R_slice HO388.out; subst eo39; obtain ⟨Ao40, co40, eo40⟩ := Kd.R_slice HO392.out; subst eo40; obtain ⟨Ao41, co41, eo41⟩ := Kd.R_slice HO396.out; subst eo41) | ((with_reducible refine gate_dst (N := 66) rfl ?_); refine litbox_event (n := 6) ?hg (N := 66) ?hd (cs := #[.slice Ao36 t375.length co36, .slice Ao37 t379.length co37, .slice Ao38 t383.length co38, .slice Ao39 t386.length co39, .slice Ao40 t390.length co40, .slice Ao41 t394.length co41]) (t := 22) ?hr ?_; (case hd => rfl); (case hg => rfl); (case hr => first | (go_simp; done) | (go_simp; rfl)); intro gb397 hg w42 hbox hb; have n0_ := A_ (Kd.R_below (nR_ HO371) hb); have n1_ := A_ (Kd.R_below (nR_ HO374) hb); have n2_ := A_ (Kd.R_below (nR_ HO378) hb); have n3_ := A_ (Kd.R_below (nR_ HO381) hb); have n4_ := A_ (Kd.R_below (nR_ HO385) hb); have n5_ := A_ (Kd.R_below (nR_ HO388) hb); have n6_ := A_ (Kd.R_below (nR_ HO392) hb); have n7_ := A_ (Kd.R_below (nR_ HO396) hb); have n8_ := A_ (below_step hb_ hb); have n9_ := A_ (hbox); have n10_ := A_ ((by rw [hg]; exact (below_size hb_) : w.heap.size ≤ gb397)); have n11_ := A_ ((by rw [hg]; exact (below_size hb_) : w.heap.size ≤ gb397)); clear HO371 HO374 HO378 HO381 HO385 HO388 HO392 HO396 HB; have HO371 := n0_; have HO374 := n1_; have HO378 := n2_; have HO381 := n3_; have HO385 := n4_; have HO388 := n5_; have HO392 := n6_; have HO396 := n7_; have HB := n8_; have BK397 := n9_; have GW397 := n10_; have GE397 := n11_; clear n0_ n1_ n2_ n3_ n4_ n5_ n6_ n7_ n8_ n9_ n10_ n11_; clear hb hbox hg; have hcz43_0 : w42.cell? ⟨gb397, 0, none⟩ = some (.slice Ao36 t375.length co36) := (blk_cell BK397.out 0).trans rfl; have hcz43_1 : w42.cell? ⟨gb397, 1, none⟩ = some (.slice Ao37 t379.length co37) := (blk_cell BK397.out 1).trans rfl; have hcz43_2 : w42.cell? ⟨gb397, 2, none⟩ = some (.slice Ao38 t383.length co38) := (blk_cell BK397.out 2).trans rfl; have hcz43_3 : w42.cell? ⟨gb397, 3, none⟩ = some (.slice Ao39 t386.length co39) := (blk_cell BK397.out 3).trans rfl; have hcz43_4 : w42.cell? ⟨gb397, 4, none⟩ = some (.slice Ao40 t390.length co40) := (blk_cell BK397.out 4).trans rfl; have hcz43_5 : w42.cell? ⟨gb397, 5, none⟩ = some (.slice Ao41 t394.length co41) := (blk_cell BK397.out 5).trans rfl; have hfz43_0 := blk_frozen BK397.out 0; have hfz43_1 := blk_frozen BK397.out 1; have hfz43_2 := blk_frozen BK397.out 2; have hfz43_3 := blk_frozen BK397.out 3; have hfz43_4 := blk_frozen BK397.out 4; have hfz43_5 := blk_frozen BK397.out 5))
     refine wp_loop_rounds 7 ?_
     rw [rounds_succ]
     go_wp2_with (first | ((with_reducible refine gate_callee (f := 34) rfl ?_); refine goesM_ (some 81) Try.func34 #[.slice Ao36 t375.length co36, .int .u64 3] ?_; (with_reducible refine (cr1_Spoil.calls k (fun k_ => some k_ = (.slice Ao36 t375.length co36 : Value).ownBlock) (.slice Ao36 t375.length co36) t375 3  w _ ?side1 ?side2 A11.out).mono ?_); (case side1 => repeat (first | (with_reducible first | exact HB.out | apply below_alloc | apply pw_below_drewN | apply below_drew1 | refine below_set ?_ GE397.out) | exact HB.out)); (case side2 => exact Kd.R_tight rfl HO378.out); rintro e w44 ⟨rfl, hb, hkp⟩; refine ⟨_, rfl, ?_⟩; have n0_ := A_ (Kd.R_mono (ok' := fun k_ => some k_ ≠ (.slice Ao30 t372.length co30 : Value).ownBlock ∧ some k_ ≠ (.slice Ao37 t379.length co37 : Value).ownBlock ∧ some k_ ≠ (.slice Ao38 t383.length co38 : Value).ownBlock ∧ some k_ ≠ (.slice Ao39 t386.length co39 : Value).ownBlock ∧ some k_ ≠ (.slice Ao40 t390.length co40 : Value).ownBlock ∧ some k_ ≠ (.slice Ao41 t394.length co41 : Value).ownBlock) (Kd.R_keptB (HO371.out) hkp (fun k_ hk_ hs_ => (hk_.1.1.1.1.1.2) hs_)) (fun k_ hk_ => ⟨hk_.1.1.1.1.1.1.1.2, hk_.1.1.1.1.1.2, hk_.1.1.1.1.2, hk_.1.1.1.2, hk_.1.1.2, hk_.1.2⟩)); have n1_ := A_ (Kd.R_mono (ok' := fun k_ => some k_ ≠ (.slice Ao29 t369.length co29 : Value).ownBlock ∧ some k_ ≠ (.slice Ao37 t379.length co37 : Value).ownBlock ∧ some k_ ≠ (.slice Ao38 t383.length co38 : Value).ownBlock ∧ some k_ ≠ (.slice Ao39 t386.length co39 : Value).ownBlock ∧ some k_ ≠ (.slice Ao40 t390.length co40 : Value).ownBlock ∧ some k_ ≠ (.slice Ao41 t394.length co41 : Value).ownBlock) (Kd.R_keptB (HO374.out) hkp (fun k_ hk_ hs_ => (hk_.1.1.1.1.1.2) hs_)) (fun k_ hk_ => ⟨hk_.1.1.1.1.1.1.1.2, hk_.1.1.1.1.1.2, hk_.1.1.1.1.2, hk_.1.1.1.2, hk_.1.1.2, hk_.1.2⟩)); have n2_ := A_ (Kd.R_mono (ok' := fun k_ => some k_ ≠ (.slice Ao29 t369.length co29 : Value).ownBlock ∧ some k_ ≠ (.slice Ao30 t372.length co30 : Value).ownBlock ∧ some k_ ≠ (.slice Ao38 t383.length co38 : Value).ownBlock ∧ some k_ ≠ (.slice Ao39 t386.length co39 : Value).ownBlock ∧ some k_ ≠ (.slice Ao40 t390.length co40 : Value).ownBlock ∧ some k_ ≠ (.slice Ao41 t394.length co41 : Value).ownBlock) (Kd.R_keptB (HO381.out) hkp (fun k_ hk_ hs_ => (hk_.1.1.1.1.2) hs_)) (fun k_ hk_ => ⟨hk_.1.1.1.1.1.1.1.2, hk_.1.1.1.1.1.1.2, hk_.1.1.1.1.2, hk_.1.1.1.2, hk_.1.1.2, hk_.1.2⟩)); have n3_ := A_ (Kd.R_mono (ok' := fun k_ => some k_ ≠ (.slice Ao29 t369.length co29 : Value).ownBlock ∧ some k_ ≠ (.slice Ao30 t372.length co30 : Value).ownBlock ∧ some k_ ≠ (.slice Ao37 t379.length co37 : Value).ownBlock ∧ some k_ ≠ (.slice Ao39 t386.length co39 : Value).ownBlock ∧ some k_ ≠ (.slice Ao40 t390.length co40 : Value).ownBlock ∧ some k_ ≠ (.slice Ao41 t394.length co41 : Value).ownBlock) (Kd.R_keptB (HO385.out) hkp (fun k_ hk_ hs_ => (hk_.1.1.1.2) hs_)) (fun k_ hk_ => ⟨hk_.1.1.1.1.1.1.2, hk_.1.1.1.1.1.2, hk_.1.1.1.2, hk_.1.1.1.1.1.1.1, hk_.1.1.2, hk_.1.2⟩)); have n4_ := A_ (Kd.R_mono (ok' := fun k_ => some k_ ≠ (.slice Ao29 t369.length co29 : Value).ownBlock ∧ some k_ ≠ (.slice Ao30 t372.length co30 : Value).ownBlock ∧ some k_ ≠ (.slice Ao37 t379.length co37 : Value).ownBlock ∧ some k_ ≠ (.slice Ao38 t383.length co38 : Value).ownBlock ∧ some k_ ≠ (.slice Ao40 t390.length co40 : Value).ownBlock ∧ some k_ ≠ (.slice Ao41 t394.length co41 : Value).ownBlock) (Kd.R_keptB (HO388.out) hkp (fun k_ hk_ hs_ => (hk_.1.1.1.2) hs_)) (fun k_ hk_ => ⟨hk_.1.1.1.1.1.1.2, hk_.1.1.1.1.1.2, hk_.1.1.1.2, hk_.1.1.1.1.1.1.1, hk_.1.1.2, hk_.1.2⟩)); have n5_ := A_ (Kd.R_mono (ok' := fun k_ => some k_ ≠ (.slice Ao29 t369.length co29 : Value).ownBlock ∧ some k_ ≠ (.slice Ao30 t372.length co30 : Value).ownBlock ∧ some k_ ≠ (.slice Ao37 t379.length co37 : Value).ownBlock ∧ some k_ ≠ (.slice Ao38 t383.length co38 : Value).ownBlock ∧ some k_ ≠ (.slice Ao39 t386.length co39 : Value).ownBlock ∧ some k_ ≠ (.slice Ao41 t394.length co41 : Value).ownBlock) (Kd.R_keptB (HO392.out) hkp (fun k_ hk_ hs_ => (hk_.1.1.1.1.2) hs_)) (fun k_ hk_ => ⟨hk_.1.1.1.1.1.1.1.2, hk_.1.1.1.1.1.1.2, hk_.1.1.1.1.2, hk_.1.1.1.2, hk_.1.1.2, hk_.1.2⟩)); have n6_ := A_ (Kd.R_mono (ok' := fun k_ => some k_ ≠ (.slice Ao29 t369.length co29 : Value).ownBlock ∧ some k_ ≠ (.slice Ao30 t372.length co30 : Value).ownBlock ∧ some k_ ≠ (.slice Ao37 t379.length co37 : Value).ownBlock ∧ some k_ ≠ (.slice Ao38 t383.length co38 : Value).ownBlock ∧ some k_ ≠ (.slice Ao39 t386.length co39 : Value).ownBlock ∧ some k_ ≠ (.slice Ao40 t390.length co40 : Value).ownBlock) (Kd.R_keptB (HO396.out) hkp (fun k_ hk_ hs_ => (hk_.1.1.1.1.2) hs_)) (fun k_ hk_ => ⟨hk_.1.1.1.1.1.1.1.2, hk_.1.1.1.1.1.1.2, hk_.1.1.1.1.2, hk_.1.1.1.2, hk_.1.1.2, hk_.1.2⟩)); have n7_ := A_ (blk_kept (nb_ BK397) hkp (fun hs_ => (fun e_ => (Kd.R_ne HO378.out BK397.out (by decide)) e_) hs_)); have n8_ := A_ (hb); clear HO371 HO374 HO381 HO385 HO388 HO392 HO396 BK397 HB HO378; have HO371 := n0_; have HO374 := n1_; have HO381 := n2_; have HO385 := n3_; have HO388 := n4_; have HO392 := n5_; have HO396 := n6_; have BK397 := n7_; have HB := n8_; clear n0_ n1_ n2_ n3_ n4_ n5_ n6_ n7_ n8_; (try clear hb); (try clear hkp); have hcz45_0 : w44.cell? ⟨gb397, 0, none⟩ = some (.slice Ao36 t375.length co36) := (blk_cell BK397.out 0).trans rfl; have hcz45_1 : w44.cell? ⟨gb397, 1, none⟩ = some (.slice Ao37 t379.length co37) := (blk_cell BK397.out 1).trans rfl; have hcz45_2 : w44.cell? ⟨gb397, 2, none⟩ = some (.slice Ao38 t383.length co38) := (blk_cell BK397.out 2).trans rfl; have hcz45_3 : w44.cell? ⟨gb397, 3, none⟩ = some (.slice Ao39 t386.length co39) := (blk_cell BK397.out 3).trans rfl; have hcz45_4 : w44.cell? ⟨gb397, 4, none⟩ = some (.slice Ao40 t390.length co40) := (blk_cell BK397.out 4).trans rfl; have hcz45_5 : w44.cell? ⟨gb397, 5, none⟩ = some (.slice Ao41 t394.length co41) := (blk_cell BK397.out 5).trans rfl; have hfz45_0 := blk_frozen BK397.out 0; have hfz45_1 := blk_frozen BK397.out 1; have hfz45_2 := blk_frozen BK397.out 2; have hfz45_3 := blk_frozen BK397.out 3; have hfz45_4 := blk_frozen BK397.out 4; have hfz45_5 := blk_frozen BK397.out 5))
     rw [rounds_succ]
     go_wp2_with (first | ((with_reducible refine gate_callee (f := 34) rfl ?_); refine goesM_ (some 81) Try.func34 #[.slice Ao37 t379.length co37, .int .u64 53] ?_; (with_reducible refine (cr1_Spoil.calls k (fun k_ => some k_ = (.slice Ao37 t379.length co37 : Value).ownBlock) (.slice Ao37 t379.length co37) t379 53  w _ ?side1 ?side2 A12.out).mono ?_); (case side1 => repeat (first | (with_reducible first | exact HB.out | apply below_alloc | apply pw_below_drewN | apply below_drew1 | refine below_set ?_ GE397.out) | exact HB.out)); (case side2 => exact Kd.R_tight rfl HO381.out); rintro e w46 ⟨rfl, hb, hkp⟩; refine ⟨_, rfl, ?_⟩; have n0_ := A_ (Kd.R_mono (ok' := fun k_ => some k_ ≠ (.slice Ao30 t372.length co30 : Value).ownBlock ∧ some k_ ≠ (.slice Ao38 t383.length co38 : Value).ownBlock ∧ some k_ ≠ (.slice Ao39 t386.length co39 : Value).ownBlock ∧ some k_ ≠ (.slice Ao40 t390.length co40 : Value).ownBlock ∧ some k_ ≠ (.slice Ao41 t394.length co41 : Value).ownBlock) (Kd.R_keptB (HO371.out) hkp (fun k_ hk_ hs_ => (hk_.2.1) hs_)) (fun k_ hk_ => ⟨hk_.1.1, hk_.1.2.2.1, hk_.1.2.2.2.1, hk_.1.2.2.2.2.1, hk_.1.2.2.2.2.2⟩)); have n1_ := A_ (Kd.R_mono (ok' := fun k_ => some k_ ≠ (.slice Ao29 t369.length co29 : Value).ownBlock ∧ some k_ ≠ (.slice Ao38 t383.length co38 : Value).ownBlock ∧ some k_ ≠ (.slice Ao39 t386.length co39 : Value).ownBlock ∧ some k_ ≠ (.slice Ao40 t390.length co40 : Value).ownBlock ∧ some k_ ≠ (.slice Ao41 t394.length co41 : Value).ownBlock) (Kd.R_keptB (HO374.out) hkp (fun k_ hk_ hs_ => (hk_.2.1) hs_)) (fun k_ hk_ => ⟨hk_.1.1, hk_.1.2.2.1, hk_.1.2.2.2.1, hk_.1.2.2.2.2.1, hk_.1.2.2.2.2.2⟩)); have n2_ := A_ (Kd.R_mono (ok' := fun k_ => some k_ ≠ (.slice Ao29 t369.length co29 : Value).ownBlock ∧ some k_ ≠ (.slice Ao30 t372.length co30 : Value).ownBlock ∧ some k_ ≠ (.slice Ao39 t386.length co39 : Value).ownBlock ∧ some k_ ≠ (.slice Ao40 t390.length co40 : Value).ownBlock ∧ some k_ ≠ (.slice Ao41 t394.length co41 : Value).ownBlock) (Kd.R_keptB (HO385.out) hkp (fun k_ hk_ hs_ => (hk_.2.2.1) hs_)) (fun k_ hk_ => ⟨hk_.1.1, hk_.1.2.1, hk_.1.2.2.2.1, hk_.1.2.2.2.2.1, hk_.1.2.2.2.2.2⟩)); have n3_ := A_ (Kd.R_mono (ok' := fun k_ => some k_ ≠ (.slice Ao29 t369.length co29 : Value).ownBlock ∧ some k_ ≠ (.slice Ao30 t372.length co30 : Value).ownBlock ∧ some k_ ≠ (.slice Ao38 t383.length co38 : Value).ownBlock ∧ some k_ ≠ (.slice Ao40 t390.length co40 : Value).ownBlock ∧ some k_ ≠ (.slice Ao41 t394.length co41 : Value).ownBlock) (Kd.R_keptB (HO388.out) hkp (fun k_ hk_ hs_ => (hk_.2.2.1) hs_)) (fun k_ hk_ => ⟨hk_.1.1, hk_.1.2.1, hk_.1.2.2.2.1, hk_.1.2.2.2.2.1, hk_.1.2.2.2.2.2⟩)); have n4_ := A_ (Kd.R_mono (ok' := fun k_ => some k_ ≠ (.slice Ao29 t369.length co29 : Value).ownBlock ∧ some k_ ≠ (.slice Ao30 t372.length co30 : Value).ownBlock ∧ some k_ ≠ (.slice Ao38 t383.length co38 : Value).ownBlock ∧ some k_ ≠ (.slice Ao39 t386.length co39 : Value).ownBlock ∧ some k_ ≠ (.slice Ao41 t394.length co41 : Value).ownBlock) (Kd.R_keptB (HO392.out) hkp (fun k_ hk_ hs_ => (hk_.2.2.1) hs_)) (fun k_ hk_ => ⟨hk_.1.1, hk_.1.2.1, hk_.1.2.2.2.1, hk_.1.2.2.2.2.1, hk_.1.2.2.2.2.2⟩)); have n5_ := A_ (Kd.R_mono (ok' := fun k_ => some k_ ≠ (.slice Ao29 t369.length co29 : Value).ownBlock ∧ some k_ ≠ (.slice Ao30 t372.length co30 : Value).ownBlock ∧ some k_ ≠ (.slice Ao38 t383.length co38 : Value).ownBlock ∧ some k_ ≠ (.slice Ao39 t386.length co39 : Value).ownBlock ∧ some k_ ≠ (.slice Ao40 t390.length co40 : Value).ownBlock) (Kd.R_keptB (HO396.out) hkp (fun k_ hk_ hs_ => (hk_.2.2.1) hs_)) (fun k_ hk_ => ⟨hk_.1.1, hk_.1.2.1, hk_.1.2.2.2.1, hk_.1.2.2.2.2.1, hk_.1.2.2.2.2.2⟩)); have n6_ := A_ (blk_kept (nb_ BK397) hkp (fun hs_ => (fun e_ => (Kd.R_ne HO381.out BK397.out (by decide)) e_) hs_)); have n7_ := A_ (hb); clear HO371 HO374 HO385 HO388 HO392 HO396 BK397 HB HO381; have HO371 := n0_; have HO374 := n1_; have HO385 := n2_; have HO388 := n3_; have HO392 := n4_; have HO396 := n5_; have BK397 := n6_; have HB := n7_; clear n0_ n1_ n2_ n3_ n4_ n5_ n6_ n7_; (try clear hb); (try clear hkp); have hcz47_0 : w46.cell? ⟨gb397, 0, none⟩ = some (.slice Ao36 t375.length co36) := (blk_cell BK397.out 0).trans rfl; have hcz47_1 : w46.cell? ⟨gb397, 1, none⟩ = some (.slice Ao37 t379.length co37) := (blk_cell BK397.out 1).trans rfl; have hcz47_2 : w46.cell? ⟨gb397, 2, none⟩ = some (.slice Ao38 t383.length co38) := (blk_cell BK397.out 2).trans rfl; have hcz47_3 : w46.cell? ⟨gb397, 3, none⟩ = some (.slice Ao39 t386.length co39) := (blk_cell BK397.out 3).trans rfl; have hcz47_4 : w46.cell? ⟨gb397, 4, none⟩ = some (.slice Ao40 t390.length co40) := (blk_cell BK397.out 4).trans rfl; have hcz47_5 : w46.cell? ⟨gb397, 5, none⟩ = some (.slice Ao41 t394.length co41) := (blk_cell BK397.out 5).trans rfl; have hfz47_0 := blk_frozen BK397.out 0; have hfz47_1 := blk_frozen BK397.out 1; have hfz47_2 := blk_frozen BK397.out 2; have hfz47_3 := blk_frozen BK397.out 3; have hfz47_4 := blk_frozen BK397.out 4; have hfz47_5 := blk_frozen BK397.out 5))
     rw [rounds_succ]
     go_wp2_with (first | ((with_reducible refine gate_callee (f := 34) rfl ?_); refine goesM_ (some 81) Try.func34 #[.slice Ao38 t383.length co38, .int .u64 103] ?_; (with_reducible refine (cr1_Spoil.calls k (fun k_ => some k_ = (.slice Ao38 t383.length co38 : Value).ownBlock) (.slice Ao38 t383.length co38) t383 103  w _ ?side1 ?side2 A13.out).mono ?_); (case side1 => repeat (first | (with_reducible first | exact HB.out | apply below_alloc | apply pw_below_drewN | apply below_drew1 | refine below_set ?_ GE397.out) | exact HB.out)); (case side2 => exact Kd.R_tight rfl HO385.out); rintro e w48 ⟨rfl, hb, hkp⟩; refine ⟨_, rfl, ?_⟩; have n0_ := A_ (Kd.R_mono (ok' := fun k_ => some k_ ≠ (.slice Ao30 t372.length co30 : Value).ownBlock ∧ some k_ ≠ (.slice Ao39 t386.length co39 : Value).ownBlock ∧ some k_ ≠ (.slice Ao40 t390.length co40 : Value).ownBlock ∧ some k_ ≠ (.slice Ao41 t394.length co41 : Value).ownBlock) (Kd.R_keptB (HO371.out) hkp (fun k_ hk_ hs_ => (hk_.2.1) hs_)) (fun k_ hk_ => ⟨hk_.1.1, hk_.1.2.2.1, hk_.1.2.2.2.1, hk_.1.2.2.2.2⟩)); have n1_ := A_ (Kd.R_mono (ok' := fun k_ => some k_ ≠ (.slice Ao29 t369.length co29 : Value).ownBlock ∧ some k_ ≠ (.slice Ao39 t386.length co39 : Value).ownBlock ∧ some k_ ≠ (.slice Ao40 t390.length co40 : Value).ownBlock ∧ some k_ ≠ (.slice Ao41 t394.length co41 : Value).ownBlock) (Kd.R_keptB (HO374.out) hkp (fun k_ hk_ hs_ => (hk_.2.1) hs_)) (fun k_ hk_ => ⟨hk_.1.1, hk_.1.2.2.1, hk_.1.2.2.2.1, hk_.1.2.2.2.2⟩)); have n2_ := A_ (Kd.R_mono (ok' := fun k_ => some k_ ≠ (.slice Ao29 t369.length co29 : Value).ownBlock ∧ some k_ ≠ (.slice Ao30 t372.length co30 : Value).ownBlock ∧ some k_ ≠ (.slice Ao40 t390.length co40 : Value).ownBlock ∧ some k_ ≠ (.slice Ao41 t394.length co41 : Value).ownBlock) (Kd.R_keptB (HO388.out) hkp (fun k_ hk_ hs_ => (hk_.2.2.1) hs_)) (fun k_ hk_ => ⟨hk_.1.1, hk_.1.2.1, hk_.1.2.2.2.1, hk_.1.2.2.2.2⟩)); have n3_ := A_ (Kd.R_mono (ok' := fun k_ => some k_ ≠ (.slice Ao29 t369.length co29 : Value).ownBlock ∧ some k_ ≠ (.slice Ao30 t372.length co30 : Value).ownBlock ∧ some k_ ≠ (.slice Ao39 t386.length co39 : Value).ownBlock ∧ some k_ ≠ (.slice Ao41 t394.length co41 : Value).ownBlock) (Kd.R_keptB (HO392.out) hkp (fun k_ hk_ hs_ => (hk_.2.2.1) hs_)) (fun k_ hk_ => ⟨hk_.1.1, hk_.1.2.1, hk_.1.2.2.2.1, hk_.1.2.2.2.2⟩)); have n4_ := A_ (Kd.R_mono (ok' := fun k_ => some k_ ≠ (.slice Ao29 t369.length co29 : Value).ownBlock ∧ some k_ ≠ (.slice Ao30 t372.length co30 : Value).ownBlock ∧ some k_ ≠ (.slice Ao39 t386.length co39 : Value).ownBlock ∧ some k_ ≠ (.slice Ao40 t390.length co40 : Value).ownBlock) (Kd.R_keptB (HO396.out) hkp (fun k_ hk_ hs_ => (hk_.2.2.1) hs_)) (fun k_ hk_ => ⟨hk_.1.1, hk_.1.2.1, hk_.1.2.2.2.1, hk_.1.2.2.2.2⟩)); have n5_ := A_ (blk_kept (nb_ BK397) hkp (fun hs_ => (fun e_ => (Kd.R_ne HO385.out BK397.out (by decide)) e_) hs_)); have n6_ := A_ (hb); clear HO371 HO374 HO388 HO392 HO396 BK397 HB HO385; have HO371 := n0_; have HO374 := n1_; have HO388 := n2_; have HO392 := n3_; have HO396 := n4_; have BK397 := n5_; have HB := n6_; clear n0_ n1_ n2_ n3_ n4_ n5_ n6_; (try clear hb); (try clear hkp); have hcz49_0 : w48.cell? ⟨gb397, 0, none⟩ = some (.slice Ao36 t375.length co36) := (blk_cell BK397.out 0).trans rfl; have hcz49_1 : w48.cell? ⟨gb397, 1, none⟩ = some (.slice Ao37 t379.length co37) := (blk_cell BK397.out 1).trans rfl; have hcz49_2 : w48.cell? ⟨gb397, 2, none⟩ = some (.slice Ao38 t383.length co38) := (blk_cell BK397.out 2).trans rfl; have hcz49_3 : w48.cell? ⟨gb397, 3, none⟩ = some (.slice Ao39 t386.length co39) := (blk_cell BK397.out 3).trans rfl; have hcz49_4 : w48.cell? ⟨gb397, 4, none⟩ = some (.slice Ao40 t390.length co40) := (blk_cell BK397.out 4).trans rfl; have hcz49_5 : w48.cell? ⟨gb397, 5, none⟩ = some (.slice Ao41 t394.length co41) := (blk_cell BK397.out 5).trans rfl; have hfz49_0 := blk_frozen BK397.out 0; have hfz49_1 := blk_frozen BK397.out 1; have hfz49_2 := blk_frozen BK397.out 2; have hfz49_3 := blk_frozen BK397.out 3; have hfz49_4 := blk_frozen BK397.out 4; have hfz49_5 := blk_frozen BK397.out 5))
     rw [rounds_succ]
     go_wp2_with (first | ((with_reducible refine gate_callee (f := 34) rfl ?_); refine goesM_ (some 81) Try.func34 #[.slice Ao39 t386.length co39, .int .u64 153] ?_; (with_reducible refine (cr1_Spoil.calls k (fun k_ => some k_ = (.slice Ao39 t386.length co39 : Value).ownBlock) (.slice Ao39 t386.length co39) t386 153  w _ ?side1 ?side2 A14.out).mono ?_); (case side1 => repeat (first | (with_reducible first | exact HB.out | apply below_alloc | apply pw_below_drewN | apply below_drew1 | refine below_set ?_ GE397.out) | exact HB.out)); (case side2 => exact Kd.R_tight rfl HO388.out); rintro e w50 ⟨rfl, hb, hkp⟩; refine ⟨_, rfl, ?_⟩; have n0_ := A_ (Kd.R_mono (ok' := fun k_ => some k_ ≠ (.slice Ao30 t372.length co30 : Value).ownBlock ∧ some k_ ≠ (.slice Ao40 t390.length co40 : Value).ownBlock ∧ some k_ ≠ (.slice Ao41 t394.length co41 : Value).ownBlock) (Kd.R_keptB (HO371.out) hkp (fun k_ hk_ hs_ => (hk_.2.1) hs_)) (fun k_ hk_ => ⟨hk_.1.1, hk_.1.2.2.1, hk_.1.2.2.2⟩)); have n1_ := A_ (Kd.R_mono (ok' := fun k_ => some k_ ≠ (.slice Ao29 t369.length co29 : Value).ownBlock ∧ some k_ ≠ (.slice Ao40 t390.length co40 : Value).ownBlock ∧ some k_ ≠ (.slice Ao41 t394.length co41 : Value).ownBlock) (Kd.R_keptB (HO374.out) hkp (fun k_ hk_ hs_ => (hk_.2.1) hs_)) (fun k_ hk_ => ⟨hk_.1.1, hk_.1.2.2.1, hk_.1.2.2.2⟩)); have n2_ := A_ (Kd.R_mono (ok' := fun k_ => some k_ ≠ (.slice Ao29 t369.length co29 : Value).ownBlock ∧ some k_ ≠ (.slice Ao30 t372.length co30 : Value).ownBlock ∧ some k_ ≠ (.slice Ao41 t394.length co41 : Value).ownBlock) (Kd.R_keptB (HO392.out) hkp (fun k_ hk_ hs_ => (hk_.2.2.1) hs_)) (fun k_ hk_ => ⟨hk_.1.1, hk_.1.2.1, hk_.1.2.2.2⟩)); have n3_ := A_ (Kd.R_mono (ok' := fun k_ => some k_ ≠ (.slice Ao29 t369.length co29 : Value).ownBlock ∧ some k_ ≠ (.slice Ao30 t372.length co30 : Value).ownBlock ∧ some k_ ≠ (.slice Ao40 t390.length co40 : Value).ownBlock) (Kd.R_keptB (HO396.out) hkp (fun k_ hk_ hs_ => (hk_.2.2.1) hs_)) (fun k_ hk_ => ⟨hk_.1.1, hk_.1.2.1, hk_.1.2.2.2⟩)); have n4_ := A_ (blk_kept (nb_ BK397) hkp (fun hs_ => (fun e_ => (Kd.R_ne HO388.out BK397.out (by decide)) e_) hs_)); have n5_ := A_ (hb); clear HO371 HO374 HO392 HO396 BK397 HB HO388; have HO371 := n0_; have HO374 := n1_; have HO392 := n2_; have HO396 := n3_; have BK397 := n4_; have HB := n5_; clear n0_ n1_ n2_ n3_ n4_ n5_; (try clear hb); (try clear hkp); have hcz51_0 : w50.cell? ⟨gb397, 0, none⟩ = some (.slice Ao36 t375.length co36) := (blk_cell BK397.out 0).trans rfl; have hcz51_1 : w50.cell? ⟨gb397, 1, none⟩ = some (.slice Ao37 t379.length co37) := (blk_cell BK397.out 1).trans rfl; have hcz51_2 : w50.cell? ⟨gb397, 2, none⟩ = some (.slice Ao38 t383.length co38) := (blk_cell BK397.out 2).trans rfl; have hcz51_3 : w50.cell? ⟨gb397, 3, none⟩ = some (.slice Ao39 t386.length co39) := (blk_cell BK397.out 3).trans rfl; have hcz51_4 : w50.cell? ⟨gb397, 4, none⟩ = some (.slice Ao40 t390.length co40) := (blk_cell BK397.out 4).trans rfl; have hcz51_5 : w50.cell? ⟨gb397, 5, none⟩ = some (.slice Ao41 t394.length co41) := (blk_cell BK397.out 5).trans rfl; have hfz51_0 := blk_frozen BK397.out 0; have hfz51_1 := blk_frozen BK397.out 1; have hfz51_2 := blk_frozen BK397.out 2; have hfz51_3 := blk_frozen BK397.out 3; have hfz51_4 := blk_frozen BK397.out 4; have hfz51_5 := blk_frozen BK397.out 5))
     rw [rounds_succ]
     go_wp2_with (first | ((with_reducible refine gate_callee (f := 34) rfl ?_); refine goesM_ (some 81) Try.func34 #[.slice Ao40 t390.length co40, .int .u64 203] ?_; (with_reducible refine (cr1_Spoil.calls k (fun k_ => some k_ = (.slice Ao40 t390.length co40 : Value).ownBlock) (.slice Ao40 t390.length co40) t390 203  w _ ?side1 ?side2 A15.out).mono ?_); (case side1 => repeat (first | (with_reducible first | exact HB.out | apply below_alloc | apply pw_below_drewN | apply below_drew1 | refine below_set ?_ GE397.out) | exact HB.out)); (case side2 => exact Kd.R_tight rfl HO392.out); rintro e w52 ⟨rfl, hb, hkp⟩; refine ⟨_, rfl, ?_⟩; have n0_ := A_ (Kd.R_mono (ok' := fun k_ => some k_ ≠ (.slice Ao30 t372.length co30 : Value).ownBlock ∧ some k_ ≠ (.slice Ao41 t394.length co41 : Value).ownBlock) (Kd.R_keptB (HO371.out) hkp (fun k_ hk_ hs_ => (hk_.2.1) hs_)) (fun k_ hk_ => ⟨hk_.1.1, hk_.1.2.2⟩)); have n1_ := A_ (Kd.R_mono (ok' := fun k_ => some k_ ≠ (.slice Ao29 t369.length co29 : Value).ownBlock ∧ some k_ ≠ (.slice Ao41 t394.length co41 : Value).ownBlock) (Kd.R_keptB (HO374.out) hkp (fun k_ hk_ hs_ => (hk_.2.1) hs_)) (fun k_ hk_ => ⟨hk_.1.1, hk_.1.2.2⟩)); have n2_ := A_ (Kd.R_mono (ok' := fun k_ => some k_ ≠ (.slice Ao29 t369.length co29 : Value).ownBlock ∧ some k_ ≠ (.slice Ao30 t372.length co30 : Value).ownBlock) (Kd.R_keptB (HO396.out) hkp (fun k_ hk_ hs_ => (hk_.2.2) hs_)) (fun k_ hk_ => ⟨hk_.1.1, hk_.1.2.1⟩)); have n3_ := A_ (blk_kept (nb_ BK397) hkp (fun hs_ => (fun e_ => (Kd.R_ne HO392.out BK397.out (by decide)) e_) hs_)); have n4_ := A_ (hb); clear HO371 HO374 HO396 BK397 HB HO392; have HO371 := n0_; have HO374 := n1_; have HO396 := n2_; have BK397 := n3_; have HB := n4_; clear n0_ n1_ n2_ n3_ n4_; (try clear hb); (try clear hkp); have hcz53_0 : w52.cell? ⟨gb397, 0, none⟩ = some (.slice Ao36 t375.length co36) := (blk_cell BK397.out 0).trans rfl; have hcz53_1 : w52.cell? ⟨gb397, 1, none⟩ = some (.slice Ao37 t379.length co37) := (blk_cell BK397.out 1).trans rfl; have hcz53_2 : w52.cell? ⟨gb397, 2, none⟩ = some (.slice Ao38 t383.length co38) := (blk_cell BK397.out 2).trans rfl; have hcz53_3 : w52.cell? ⟨gb397, 3, none⟩ = some (.slice Ao39 t386.length co39) := (blk_cell BK397.out 3).trans rfl; have hcz53_4 : w52.cell? ⟨gb397, 4, none⟩ = some (.slice Ao40 t390.length co40) := (blk_cell BK397.out 4).trans rfl; have hcz53_5 : w52.cell? ⟨gb397, 5, none⟩ = some (.slice Ao41 t394.length co41) := (blk_cell BK397.out 5).trans rfl; have hfz53_0 := blk_frozen BK397.out 0; have hfz53_1 := blk_frozen BK397.out 1; have hfz53_2 := blk_frozen BK397.out 2; have hfz53_3 := blk_frozen BK397.out 3; have hfz53_4 := blk_frozen BK397.out 4; have hfz53_5 := blk_frozen BK397.out 5))
     rw [rounds_succ]
     go_wp2_with (first | ((with_reducible refine gate_callee (f := 34) rfl ?_); refine goesM_ (some 81) Try.func34 #[.slice Ao41 t394.length co41, .int .u64 253] ?_; (with_reducible refine (cr1_Spoil.calls k (fun k_ => some k_ = (.slice Ao41 t394.length co41 : Value).ownBlock) (.slice Ao41 t394.length co41) t394 253  w _ ?side1 ?side2 A16.out).mono ?_); (case side1 => repeat (first | (with_reducible first | exact HB.out | apply below_alloc | apply pw_below_drewN | apply below_drew1 | refine below_set ?_ GE397.out) | exact HB.out)); (case side2 => exact Kd.R_tight rfl HO396.out); rintro e w54 ⟨rfl, hb, hkp⟩; refine ⟨_, rfl, ?_⟩; have n0_ := A_ (Kd.R_mono (ok' := fun k_ => some k_ ≠ (.slice Ao30 t372.length co30 : Value).ownBlock) (Kd.R_keptB (HO371.out) hkp (fun k_ hk_ hs_ => (hk_.2) hs_)) (fun k_ hk_ => hk_.1.1)); have n1_ := A_ (Kd.R_mono (ok' := fun k_ => some k_ ≠ (.slice Ao29 t369.length co29 : Value).ownBlock) (Kd.R_keptB (HO374.out) hkp (fun k_ hk_ hs_ => (hk_.2) hs_)) (fun k_ hk_ => hk_.1.1)); have n2_ := A_ (blk_kept (nb_ BK397) hkp (fun hs_ => (fun e_ => (Kd.R_ne HO396.out BK397.out (by decide)) e_) hs_)); have n3_ := A_ (hb); clear HO371 HO374 BK397 HB HO396; have HO371 := n0_; have HO374 := n1_; have BK397 := n2_; have HB := n3_; clear n0_ n1_ n2_ n3_; (try clear hb); (try clear hkp)))
     rw [rounds_succ]
     go_wp2_with (first | ((with_reducible refine gate_callee (f := 18) rfl ?_); refine goesM_ (some 86) Try.func18 #[.int .u8 a0, .slice Ao29 t369.length co29, .slice Ao30 t372.length co30] ?_; (with_reducible refine (poly_Mul.calls k a0 (fun k_ => some k_ = (.slice Ao29 t369.length co29 : Value).ownBlock) _ _ t369 (fun k_ => some k_ = (.slice Ao30 t372.length co30 : Value).ownBlock) _ _ t372 t398 t401 _ ?side1 ?side2 A17.out).mono ?_); (case side1 => exact Kd.R_V (Kd.R_tight rfl (Kd.R_types (HO371.out) BK397.out (by decide)))); (case side2 => exact Kd.R_V (Kd.R_tight rfl (Kd.R_types (HO374.out) BK397.out (by decide)))); rintro e w55 ⟨v399, rfl, ho0, hb⟩; refine ⟨_, rfl, ?_⟩; have n0_ := A_ (Kd.R_elder' (nR_ HO371) (Kd.R_base ho0) hb); have n1_ := A_ (Kd.R_elder' (nR_ HO374) (Kd.R_base ho0) hb); have n2_ := A_ (Kd.R_lower (Kd.R_new' (Kd.R_new' (Kd.R_mono (ok' := fun k_ => True) ho0 (fun _ hk_ => trivial)) (Kd.R_lt (nR_ HO371))) (Kd.R_lt (nR_ HO374))) (below_size hs_)); have n3_ := A_ (blk_below (g := gb397) (o := .cells #[.slice Ao36 t375.length co36, .slice Ao37 t379.length co37, .slice Ao38 t383.length co38, .slice Ao39 t386.length co39, .slice Ao40 t390.length co40, .slice Ao41 t394.length co41] 22 (0, 0)) (nb_ BK397) hb); have n4_ := A_ (below_step hs_ hb); clear HO371 HO374 BK397 HB; have HO371 := n0_; have HO374 := n1_; have HO400 := n2_; have BK397 := n3_; have HB := n4_; clear n0_ n1_ n2_ n3_ n4_; (try clear hb); (try clear ho0)) | ((with_reducible refine gate_callee (f := 19) rfl ?_); refine goesM_ (some 93) Try.func19 #[.int .u8 a0, .slice A1 l1.length c1, .slice A2 l2.length c2] ?_; (with_reducible refine (cr3_Mul.calls k a0 _ _ l1 _ _ l2 t402 t403 _ ?side1 ?side2 ?side3 ?side4 A18.out).mono ?_); (case side1 => repeat (first | exact (Kd.C_below HR1.out HB.out) | (with_reducible refine Kd.C_alloc ?_ _) | (with_reducible refine Kd.C_drewN ?_ _) | (with_reducible refine Kd.C_drew ?_))); (case side2 => exact HC1.out); (case side3 => repeat (first | exact (Kd.C_below HR2.out HB.out) | (with_reducible refine Kd.C_alloc ?_ _) | (with_reducible refine Kd.C_drewN ?_ _) | (with_reducible refine Kd.C_drew ?_))); (case side4 => exact HC2.out); rintro e w56 ⟨v404, rfl, ho0, hb⟩; refine ⟨_, rfl, ?_⟩; have n0_ := A_ (Kd.R_elder' (nR_ HO371) (Kd.R_base ho0) hb); have n1_ := A_ (Kd.R_elder' (nR_ HO374) (Kd.R_base ho0) hb); have n2_ := A_ (Kd.R_elder' (nR_ HO400) (Kd.R_base ho0) hb); have n3_ := A_ (Kd.R_lower (Kd.R_new' (Kd.R_new' (Kd.R_new' ho0 (Kd.R_lt (nR_ HO371))) (Kd.R_lt (nR_ HO374))) (Kd.R_lt (nR_ HO400))) (below_size hs_)); have n4_ := A_ (blk_below (g := gb397) (o := .cells #[.slice Ao36 t375.length co36, .slice Ao37 t379.length co37, .slice Ao38 t383.length co38, .slice Ao39 t386.length co39, .slice Ao40 t390.length co40, .slice Ao41 t394.length co41] 22 (0, 0)) (nb_ BK397) hb); have n5_ := A_ (below_step hs_ hb); clear HO371 HO374 HO400 BK397 HB; have HO371 := n0_; have HO374 := n1_; have HO400 := n2_; have HO405 := n3_; have BK397 := n4_; have HB := n5_; clear n0_ n1_ n2_ n3_ n4_ n5_; (try clear hb); (try clear ho0)) | ((with_reducible refine gate_callee (f := 24) rfl ?_); refine goesM_ (some 96) Try.func24 #[] ?_; (with_reducible refine (conclavelaw03_anchored.calls k  true _ A19.out).mono ?_); rintro e w57 ⟨rfl, hb⟩; refine ⟨_, rfl, ?_⟩; have n0_ := A_ (Kd.R_below (nR_ HO371) hb); have n1_ := A_ (Kd.R_below (nR_ HO374) hb); have n2_ := A_ (Kd.R_below (nR_ HO400) hb); have n3_ := A_ (Kd.R_below (nR_ HO405) hb); have n4_ := A_ (blk_below (g := gb397) (o := .cells #[.slice Ao36 t375.length co36, .slice Ao37 t379.length co37, .slice Ao38 t383.length co38, .slice Ao39 t386.length co39, .slice Ao40 t390.length co40, .slice Ao41 t394.length co41] 22 (0, 0)) (nb_ BK397) hb); have n5_ := A_ (below_step hs_ hb); clear HO371 HO374 HO400 HO405 BK397 HB; have HO371 := n0_; have HO374 := n1_; have HO400 := n2_; have HO405 := n3_; have BK397 := n4_; have HB := n5_; clear n0_ n1_ n2_ n3_ n4_ n5_; (try clear hb)) | (go_at_call 10; (with_reducible refine (cr1_Same.calls k _ _ t369 _ _ l1 true _ ?side1 ?side2 ?side3 ?side4 A21.out).mono ?_); (case side1 => repeat (first | exact (Kd.R_reads' HO371.out).2.2 | (with_reducible refine Kd.C_alloc ?_ _) | (with_reducible refine Kd.C_drewN ?_ _) | (with_reducible refine Kd.C_drew ?_))); (case side2 => exact (Kd.R_reads' HO371.out).2.1); (case side3 => repeat (first | exact (Kd.C_below HR1.out HB.out) | (with_reducible refine Kd.C_alloc ?_ _) | (with_reducible refine Kd.C_drewN ?_ _) | (with_reducible refine Kd.C_drew ?_))); (case side4 => exact HC1.out); rintro e w' ⟨rfl, ⟨nd, rfl⟩⟩) | (go_at_call 10; (with_reducible refine (cr1_Same.calls k _ _ t372 _ _ l2 true _ ?side1 ?side2 ?side3 ?side4 A23.out).mono ?_); (case side1 => repeat (first | exact (Kd.R_reads' HO374.out).2.2 | (with_reducible refine Kd.C_alloc ?_ _) | (with_reducible refine Kd.C_drewN ?_ _) | (with_reducible refine Kd.C_drew ?_))); (case side2 => exact (Kd.R_reads' HO374.out).2.1); (case side3 => repeat (first | exact (Kd.C_below HR2.out hs_) | (with_reducible refine Kd.C_alloc ?_ _) | (with_reducible refine Kd.C_drewN ?_ _) | (with_reducible refine Kd.C_drew ?_))); (case side4 => exact HC2.out); rintro e w' ⟨rfl, ⟨nd, rfl⟩⟩; obtain ⟨Ao58, co58, eo58⟩ := Kd.R_slice HO400.out; subst eo58; obtain ⟨Ao59, co59, eo59⟩ := Kd.R_slice HO405.out; subst eo59) | (go_at_call 10; (with_reducible refine (cr1_Same.calls k _ _ t398 _ _ t402 true _ ?side1 ?side2 ?side3 ?side4 A25.out).mono ?_); (case side1 => repeat (first | exact (Kd.R_reads' HO400.out).2.2 | (with_reducible refine Kd.C_alloc ?_ _) | (with_reducible refine Kd.C_drewN ?_ _) | (with_reducible refine Kd.C_drew ?_))); (case side2 => exact (Kd.R_reads' HO400.out).2.1); (case side3 => repeat (first | exact (Kd.R_reads' HO405.out).2.2 | (with_reducible refine Kd.C_alloc ?_ _) | (with_reducible refine Kd.C_drewN ?_ _) | (with_reducible refine Kd.C_drew ?_))); (case side4 => exact (Kd.R_reads' HO405.out).2.1); rintro e w' ⟨rfl, ⟨nd, rfl⟩⟩))
     go_ret
     exact ⟨fr_, hs_⟩
    ·replace c26 := Bool.eq_false_iff.mpr c26
     subst c26
     have H1 : (none) = some r := by rw [if_neg (show ¬ (false = true) by decide)] at H; exact H
     clear H
     have H := H1
     clear H1
     exact absurd H (by simp)
   ·replace c24 := Bool.eq_false_iff.mpr c24
    subst c24
    have H1 : (none) = some r := by rw [if_neg (show ¬ (false = true) by decide)] at H; exact H
    clear H
    have H := H1
    clear H1
    exact absurd H (by simp)
  ·replace c22 := Bool.eq_false_iff.mpr c22
   subst c22
   have H1 : (none) = some r := by rw [if_neg (show ¬ (false = true) by decide)] at H; exact H
   clear H
   have H := H1
   clear H1
   exact absurd H (by simp)
 ·replace c20 := Bool.eq_false_iff.mpr c20
  subst c20
  have H1 : (none) = some r := by rw [if_neg (show ¬ (false = true) by decide)] at H; exact H
  clear H
  have H := H1
  clear H1
  exact absurd H (by simp)
/-- THE ONE PURE STATEMENT of conclavelaw03_PolyFresh: yours. -/
def conclavelaw03_PolyFresh.Pure : Prop := ∀ (a0 : Int) (l1 : List Int) (l2 : List Int), (Lit.int .u8 a0).wf = true → l1.length ≤ maxLen → l1.length * 8 ≤ 140737488351232 → (∀ x ∈ l1, (Lit.int .u64 x).wf = true) → l2.length ≤ maxLen → l2.length * 8 ≤ 140737488351232 → (∀ x ∈ l2, (Lit.int .u64 x).wf = true) → ∃ k, conclavelaw03_PolyFresh.f k a0 l1 l2 = some true
theorem conclavelaw03_PolyFresh.walk (P : conclavelaw03_PolyFresh.Pure) (a0 : Int) (a1 : Option Addr) (len1 cap1 : Nat) (z1 : List Int) (a2 : Option Addr) (len2 cap2 : Nat) (z2 : List Int) (w : World) (w0 : (Lit.int .u8 a0).wf = true) (w1 : (a1 = none ∧ len1 = 0 ∧ cap1 = 0 ∧ z1 = []) ∨ ∃ x, a1 = some x ∧ len1 ≤ cap1 ∧ cap1 ≤ maxLen ∧ z1.length = cap1 ∧ (∀ i, i < z1.length → w.cell? (x.add i) = some (.int .u64 (z1.getD i 0))) ∧ ∀ n ∈ z1, (Lit.int .u64 n).wf = true) (y1 : len1 * 8 ≤ 140737488351232) (w2 : (a2 = none ∧ len2 = 0 ∧ cap2 = 0 ∧ z2 = []) ∨ ∃ x, a2 = some x ∧ len2 ≤ cap2 ∧ cap2 ≤ maxLen ∧ z2.length = cap2 ∧ (∀ i, i < z2.length → w.cell? (x.add i) = some (.int .u64 (z2.getD i 0))) ∧ ∀ n ∈ z2, (Lit.int .u64 n).wf = true) (y2 : len2 * 8 ≤ 140737488351232) :
  Calls Try.prog 9 #[.int .u8 a0, .slice a1 len1 cap1, .slice a2 len2 cap2] w fun e w' => e = .returned (.bool true) ∧ Below w.heap.size w w' := by
 obtain ⟨l1, rfl, hr1, hm1, hw1, hc1⟩ := ReadsInt.ofRowC w1
 obtain ⟨l2, rfl, hr2, hm2, hw2, hc2⟩ := ReadsInt.ofRowC w2
 obtain ⟨k, h⟩ := P a0 l1 l2 w0 hm1 y1 hw1 hm2 y2 hw2
 refine (conclavelaw03_PolyFresh.calls k a0 _ _ l1 _ _ l2 true w (Kd.C_of_reads (d := (0 : Int)) (h1 := fun _ => rfl) hr1) hc1 (Kd.C_of_reads (d := (0 : Int)) (h1 := fun _ => rfl) hr2) hc2 h).mono ?_
 rintro e w' ⟨rfl, hd⟩
 exact ⟨rfl, hd⟩
end Go.Proofs.Ytbjanbbjjnoecaa.PPolyFresh
