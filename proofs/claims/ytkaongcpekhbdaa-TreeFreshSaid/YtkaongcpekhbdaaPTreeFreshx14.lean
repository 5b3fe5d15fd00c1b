/- The Go functions as Lean functions, each with the proof that its call comes to just that; written by a program of this session, by the words of the print. -/
import Derived.Test.YtkaongcpekhbdaaPTreeFreshx0
import Derived.Test.YtkaongcpekhbdaaPTreeFreshx99
import Derived.Test.YtkaongcpekhbdaaMTreeFresh
import Derived.Test.YtkaongcpekhbdaaPTreeFreshx5
import Derived.Test.YtkaongcpekhbdaaPTreeFreshx8
import Derived.Test.YtkaongcpekhbdaaPTreeFreshx12
import Derived.Test.YtkaongcpekhbdaaPTreeFreshx13
namespace Go.Proofs.Ytkaongcpekhbdaa.PTreeFresh
open Go.RowKit Go.Proofs.YtkaongcpekhbdaaW.PrintWords Go.Proofs.YtkaongcpekhbdaaW.PrintLast Go.Proofs.YtkaongcpekhbdaaW.PrintMore
attribute [local go_sem] max2_int min2_int max_two min_two max_three min_three max_four min_four   -- for this text's walks alone
set_option linter.unusedVariables false
set_option linter.unusedSimpArgs false
/-! ### cr1_Spoil: function 30 -/
mutual
def cr1_Spoil.l0 : Nat → List Int → Int → Int → Option (Unit)
 | 0, _, _, _ => none
 | k + 1, x0, x1, x4 => if x4 < (x0.length : Int) then (if 0 ≤ x4 then (cr1_Spoil.l0 k (x0.set (x4 : Int).toNat (IntKind.u64.wrap (x1 + (IntKind.u64.wrap (x4))))) x1 (wrap64 (x4 + 1))) else (none)) else ((some (([x1, x1, x1] : List Int) : List Int)).bind fun y457 => (if x0.length + y457.length < 17592186044416 then (cr1_Spoil.l1 k (x0 ++ y457) x1 0) else (none)))
def cr1_Spoil.l1 : Nat → List Int → Int → Int → Option (Unit)
 | 0, _, _, _ => none
 | k + 1, x0, x1, x5 => if x5 < (x0.length : Int) then (if 0 ≤ x5 then (cr1_Spoil.l1 k (x0.set (x5 : Int).toNat x1) x1 (wrap64 (x5 + 1))) else (none)) else (some ())
end
def cr1_Spoil.f (k : Nat) (l0 : List Int) (a1 : Int) : Option (Unit) := cr1_Spoil.l0 k l0 a1 0
theorem cr1_Spoil.mono_l : ∀ k, (∀ y0 y1 y2, LeO (cr1_Spoil.l0 k y0 y1 y2) (cr1_Spoil.l0 (k + 1) y0 y1 y2)) ∧ (∀ y0 y1 y2, LeO (cr1_Spoil.l1 k y0 y1 y2) (cr1_Spoil.l1 (k + 1) y0 y1 y2))
 | 0 => ⟨fun _ _ _ r h => by simp [cr1_Spoil.l0] at h, fun _ _ _ r h => by simp [cr1_Spoil.l1] at h⟩
 | k + 1 => by
  obtain ⟨ih0, ih1⟩ := cr1_Spoil.mono_l k
  refine ⟨?_, ?_⟩
  ·intro y0 y1 y2
   unfold cr1_Spoil.l0
   repeat' first
   | (with_reducible exact ih0 _ _ _)
   | (with_reducible exact ih1 _ _ _)
   | (with_reducible exact LeO.refl _)
   | (with_reducible exact LeO.none _)
   | (with_reducible refine LeO.ite ?_ ?_)
   | (with_reducible refine LeO.bind ?_ (fun _ => ?_))
   | exact ih0 _ _ _
   | exact ih1 _ _ _
   | exact LeO.none _
   | refine LeO.ite ?_ ?_
   | refine LeO.bind ?_ (fun _ => ?_)
  ·intro y0 y1 y2
   unfold cr1_Spoil.l1
   repeat' first
   | (with_reducible exact ih0 _ _ _)
   | (with_reducible exact ih1 _ _ _)
   | (with_reducible exact LeO.refl _)
   | (with_reducible exact LeO.none _)
   | (with_reducible refine LeO.ite ?_ ?_)
   | (with_reducible refine LeO.bind ?_ (fun _ => ?_))
   | exact ih0 _ _ _
   | exact ih1 _ _ _
   | exact LeO.none _
   | refine LeO.ite ?_ ?_
   | refine LeO.bind ?_ (fun _ => ?_)
theorem cr1_Spoil.mono : ∀ a0 a1 k, LeO (cr1_Spoil.f k a0 a1) (cr1_Spoil.f (k + 1) a0 a1) := by
 intro a0 a1 k
 obtain ⟨ih0, ih1⟩ := cr1_Spoil.mono_l k
 unfold cr1_Spoil.f
 repeat' first
   | (with_reducible exact ih0 _ _ _)
   | (with_reducible exact ih1 _ _ _)
   | (with_reducible exact LeO.refl _)
   | (with_reducible exact LeO.none _)
   | (with_reducible refine LeO.ite ?_ ?_)
   | (with_reducible refine LeO.bind ?_ (fun _ => ?_))
   | exact ih0 _ _ _
   | exact ih1 _ _ _
   | exact LeO.none _
   | refine LeO.ite ?_ ?_
   | refine LeO.bind ?_ (fun _ => ?_)
set_option maxHeartbeats 8000000 in
set_option maxRecDepth 100000 in
theorem cr1_Spoil.callsT (k : Nat) (P0_ : Nat → Prop) (u9000_ : Value) (l0 : List Int) (a1 : Int) (w0 w : World) (hB : Below w0.heap.size w0 w) (ho0 : Kd.R (Kd.int .u64) 49 w w0.heap.size P0_ u9000_ l0) (h : cr1_Spoil.f k l0 a1 = some ()) :
  Calls Try.prog 30 #[u9000_, .int .u64 a1] w fun e w' => e = .returned (.tuple #[]) ∧ Below w0.heap.size w0 w' ∧ Kept w w' (fun k_ => P0_ k_) ∧ ∃ l_ : List Int, Kd.R (Kd.int .u64) 49 w' w0.heap.size P0_ u9000_ l_ ∧ l_.length = l0.length := by
 have HP_ := A_ ho0.1
 have HL_ := A_ (Kd.R_slice ho0)
 have HO0 := A_ (show Kd.R (Kd.int .u64) 49 w w0.heap.size (fun k_ => (P0_ k_ ∨ w.heap.size ≤ k_)) u9000_ l0 from Kd.R_mono ho0 (fun k_ hk => (.inl hk)))
 have HK := A_ (Kept.refl w (fun k_ => P0_ k_))
 have HW0 := Aside0.mk hB.size
 have HB := Aside0.mk hB
 clear hB
 have H : (cr1_Spoil.l0 k l0 a1 0) = some () := h
 clear h
 have H' := Aside0.mk H
 clear H
 go_enter Try.func30, Try.ntmps30
 go_wp2
 go_loopg [4] k (fun kq v4 w' => ∃ (x0_1 : List Int) (x4_1 : Int), v4 = .int .i64 x4_1 ∧ Aside0 (cr1_Spoil.l0 kq x0_1 a1 x4_1 = some ()) ∧ Aside0 (kq ≤ k) ∧ Aside0 (Kd.R (Kd.int .u64) 49 w' w0.heap.size (fun k_ => (P0_ k_ ∨ w.heap.size ≤ k_)) u9000_ x0_1) ∧ Aside0 (Kept w w' (fun k_ => P0_ k_)) ∧ Aside0 (Below w0.heap.size w0 w'))
 case atStart => exact ⟨(l0), (0), (fs_), H', ⟨Nat.le_refl _⟩, ⟨mR_ HO0.out⟩, ⟨by repeat (first | (with_reducible first | exact HK.out | apply Kept.alloc | apply Kept.drewN | apply Kept.drew) | exact HK.out)⟩, ⟨by repeat (first | (with_reducible first | exact HB.out | apply below_alloc | apply pw_below_drewN | apply below_drew1) | exact HB.out)⟩⟩
 case round =>
  clear H'
  try clear p2
  obtain ⟨x0_1, x4_1, rfl, HA, HK1, HO_0, HK, HB⟩ := hrel
  cases gk with
  | zero => exact absurd HA.out (by simp [cr1_Spoil.l0])
  | succ k1 =>
   have H := HA.out
   clear HA
   simp only [cr1_Spoil.l0] at H
   by_cases c3 : x4_1 < (x0_1.length : Int)
   ·rw [if_pos c3] at H
    have c3b0 : decide (x4_1 < (x0_1.length : Int)) = true := decide_eq_true c3
    clear c3
    by_cases c4 : 0 ≤ x4_1
    ·rw [if_pos c4] at H
     have c4b0 : decide (0 ≤ x4_1) = true := decide_eq_true c4
     clear c4
     obtain ⟨y456, hy456⟩ : ∃ y_ : List Int, y_ = (x0_1.set (x4_1 : Int).toNat (IntKind.u64.wrap (a1 + (IntKind.u64.wrap (x4_1))))) := ⟨_, rfl⟩
     replace H : (cr1_Spoil.l0 k1 y456 a1 (wrap64 (x4_1 + 1))) = some () := by first | (rw [hy456]; with_reducible exact H) | (have H2_ := (Option.bind_some _ _).symm.trans H; rw [hy456]; with_reducible exact H2_) | (have H2_ := (Option.bind_some _ _).symm.trans H; with_reducible exact H2_) | with_reducible exact H | (rw [hy456]; exact H) | exact H
     have Ny456 := Aside0.mk hy456
     clear hy456
     have H' := Aside0.mk H
     clear H
     obtain ⟨Ao6, co6, eo6⟩ := Kd.R_slice HO_0.out
     subst eo6
     have p5 : 0 ≤ (x4_1 : Int) := of_decide_eq_true (by first | (with_reducible assumption) | assumption)
     have q5 : (x4_1 : Int) < ((x0_1.length : Int) : Int) := of_decide_eq_true (by first | (with_reducible assumption) | assumption)
     obtain ⟨go5, co5, eo5, gb5, gl5, cl5, HG5⟩ := Kd.R_form HO_0.out (by omega)
     (first | cases eo5 | (injection eo5 with ea_ en_ ec_; (first | subst ea_ | (injection ea_ with ea_; subst ea_)); subst ec_; clear en_))
     (try simp only [addr_add0] at *)
     have GB5 := Aside0.mk gb5
     have GG5 := Aside0.mk HG5
     clear gb5 gl5 HG5
     have HMgo5 := A_ (show (P0_ go5 ∨ w.heap.size ≤ go5) from (HO_0.out.1 _ rfl))
     obtain ⟨hx5_0, hf5_0⟩ := Kd.R_celln 0 HO_0.out (x4_1 : Int) p5 q5
     replace p5 := eq_true p5
     replace q5 := eq_true q5
     have HP7 := Kd.R_putg HO_0.out (x4_1 : Int) (IntKind.u64.wrap (a1 + (IntKind.u64.wrap (x4_1))))
     go_wp2_with (first | ((with_reducible refine gate_store (t := 49) (p := 18) rfl ?_); refine store_event (t := 49) (p := 18) (v := ?vo_w8) (w1 := (wr.setCell ⟨go5, (x4_1 : Int).toNat, none⟩ (.int .u64 (IntKind.u64.wrap (a1 + (IntKind.u64.wrap (x4_1))))))) ?hg ?ho ?hn ?hr ?_; (case ho => rfl); (case hg => rfl); (case hn => rfl); (case hr => first | (go_simp; done) | (go_simp; rfl)); intro w8 hw; have hg : wr.grownBy w8 (some go5) := (by rw [hw]; exact HP7.2); have hp_ : Kd.R (Kd.int .u64) 49 w8 w0.heap.size (fun k_ => (P0_ k_ ∨ w.heap.size ≤ k_)) (.slice (some ⟨go5, 0, none⟩) x0_1.length co6) y456 := (by rw [hw, Ny456.out]; exact HP7.1); clear HP7; have n0_ := A_ (hp_); have n1_ := A_ ((by rw [hw]; exact below_set (HB.out) GB5.out : Below w0.heap.size w0 w8)); have n2_ := A_ (Kept.of_grown (S := (fun k_ => P0_ k_)) hg (by repeat (first | (with_reducible first | exact HK.out | apply Kept.alloc | apply Kept.drewN | apply Kept.drew) | exact HK.out)) (fun k_ e_ => (HO_0.out.1 k_ e_))); clear HO_0 HB HK; have HO_0 := n0_; have HB := n1_; have HK := n2_; clear n0_ n1_ n2_; clear hg hw hp_))
     go_roundg k1
     case measure => have := HK1.out; omega
     case rel => exact ⟨(y456), (wrap64 (x4_1 + 1)), (fs_), H', ⟨by have := HK1.out; omega⟩, ⟨mR_ HO_0.out⟩, ⟨by repeat (first | (with_reducible first | exact HK.out | apply Kept.alloc | apply Kept.drewN | apply Kept.drew) | exact HK.out)⟩, ⟨by repeat (first | (with_reducible first | exact HB.out | apply below_alloc | apply pw_below_drewN | apply below_drew1) | exact HB.out)⟩⟩
    ·rw [if_neg c4] at H
     exact absurd H (by simp)
   ·rw [if_neg c3] at H
    have c3b0 : decide (x4_1 < (x0_1.length : Int)) = false := decide_eq_false c3
    clear c3
    obtain ⟨y457, hy457⟩ : ∃ y_ : List Int, y_ = (([a1, a1, a1] : List Int)) := ⟨_, rfl⟩
    replace H : (if x0_1.length + y457.length < 17592186044416 then (cr1_Spoil.l1 k1 (x0_1 ++ y457) a1 0) else (none)) = some () := by first | (rw [hy457]; with_reducible exact H) | (have H2_ := (Option.bind_some _ _).symm.trans H; rw [hy457]; with_reducible exact H2_) | (have H2_ := (Option.bind_some _ _).symm.trans H; with_reducible exact H2_) | with_reducible exact H | (rw [hy457]; exact H) | exact H
    have Ny457 := Aside0.mk hy457
    clear hy457
    by_cases c9 : x0_1.length + y457.length < 17592186044416
    ·rw [if_pos c9] at H
     have LMc9 := Aside0.mk c9
     clear c9
     obtain ⟨y460, hy460⟩ : ∃ y_ : List Int, y_ = (x0_1 ++ y457) := ⟨_, rfl⟩
     replace H : (cr1_Spoil.l1 k1 y460 a1 0) = some () := by first | (rw [hy460]; with_reducible exact H) | (have H2_ := (Option.bind_some _ _).symm.trans H; rw [hy460]; with_reducible exact H2_) | (have H2_ := (Option.bind_some _ _).symm.trans H; with_reducible exact H2_) | with_reducible exact H | (rw [hy460]; exact H) | exact H
     have Ny460 := Aside0.mk hy460
     clear hy460
     have H' := Aside0.mk H
     clear H
     obtain ⟨Ao10, co10, eo10⟩ := Kd.R_slice HO_0.out
     subst eo10
     go_wp2_with (first | ((with_reducible refine gate_dst (N := 23) rfl ?_); refine Kd.R_lit (Kd.int .u64) _ 49 ?hg (N := 23) ?hd (xs := ([a1, a1, a1] : List Int)) (inner := [.int .u64 a1, .int .u64 a1, .int .u64 a1]) (ok := fun _ => True) (okp := fun _ => True) ?hr ?hp (fun _ hk => hk) trivial (Below.refl _ _) (Nat.le_refl _) (by simp) ?_; (case hd => rfl); (case hg => rfl); (case hr => first | (go_simp; done) | (go_simp; rfl)); (case hp => exact (Reps.one (show Kd.M (Kd.int .u64) _ _ _ a1 [.int .u64 a1] from rfl) (Reps.one (show Kd.M (Kd.int .u64) _ _ _ a1 [.int .u64 a1] from rfl) (Reps.one (show Kd.M (Kd.int .u64) _ _ _ a1 [.int .u64 a1] from rfl) (Reps.none _ _))))); intro v458 w11 ho12 hb hg_ hnew_; clear hg_ hnew_; (first | rw [← Ny457.out] at ho12 | (simp only [Int.reduceToNat] at ho12; rw [← Ny457.out] at ho12)); have n0_ := A_ (Kd.R_elder' (nR_ HO_0) (Kd.R_base ho12) hb); have n1_ := A_ (Kd.R_lower (Kd.R_new' (Kd.R_newM (M := fun k_ => (P0_ k_ ∨ w.heap.size ≤ k_)) ho12 (by first | exact HK.out.1 | exact (show Kept w _ (fun k_ => P0_ k_) from by repeat (first | (with_reducible first | exact HK.out | apply Kept.alloc | apply Kept.drewN | apply Kept.drew) | exact HK.out)).1) (fun k_ h_ => .inr h_)) (Kd.R_lt (nR_ HO_0))) (below_size hb_)); have n2_ := A_ (Kept.below (S := (fun k_ => P0_ k_)) (by repeat (first | (with_reducible first | exact HK.out | apply Kept.alloc | apply Kept.drewN | apply Kept.drew) | exact HK.out)) hb); have n3_ := A_ (below_step hb_ hb); clear HO_0 HK HB; have HO_0 := n0_; have HO459 := n1_; have HK := n2_; have HB := n3_; clear n0_ n1_ n2_ n3_; clear hb ho12; obtain ⟨Ao14, co14, eo14⟩ := Kd.R_slice HO459.out; subst eo14) | ((with_reducible refine gate_builtin (b := .append) (xs := #[.tmp 19, .tmp 23]) rfl ?_); at_builtin; refine R_append_two (w0 := w0) w0.heap.size rfl (.tmp 19) (.tmp 23) 22 (.int .u64 0) 8 rfl Try.underlying22 info49 rfl (by omega) (.slice Ao10 x0_1.length co10) x0_1 y457 _ _ _ (fun k_ => (P0_ k_ ∨ w.heap.size ≤ k_) ∧ some k_ ≠ (.slice Ao14 y457.length co14 : Value).ownBlock) rfl rfl ?aM ?aO ?aR ?aF ?aB ?aS ?aL ?_; (case aM => rw [Ny457.out]; exact Nat.succ_pos _); (case aR => repeat (first | exact (Kd.R_reads' HO459.out).2.2 | (with_reducible refine Kd.C_alloc ?_ _) | (with_reducible refine Kd.C_drewN ?_ _) | (with_reducible refine Kd.C_drew ?_))); (case aB => exact hb_); (case aF => exact (fun k_ hk => ⟨(.inr (Nat.le_trans (by first | exact HK.out.1 | exact (show Kept w _ (fun k_ => P0_ k_) from by repeat (first | (with_reducible first | exact HK.out | apply Kept.alloc | apply Kept.drewN | apply Kept.drew) | exact HK.out)).1) hk)), Kd.fresh' (Kd.R_lt (nR_ HO459)) k_ hk⟩)); (case aO => exact (nR_ HO_0)); (case aS => exact (below_size hb_)); (case aL => have := LMc9.out; omega); intro v461 w13 ho hb hg hat hsp; have HSP := A_ hsp; clear hsp; rw [← Ny460.out] at ho; have n0_ := A_ (Kd.R_after (ok := (fun k_ => (P0_ k_ ∨ w.heap.size ≤ k_))) (by (with_reducible repeat (first | apply Kd.R_alloc | apply Kd.R_drewN | apply Kd.R_drew)); exact Kd.R_mono HO459.out (fun _ hk => ⟨hk.1.1, hk.2⟩)) hg hat); have n1_ := A_ (hb); have n2_ := A_ (Kept.of_grown (S := (fun k_ => P0_ k_)) hg (by repeat (first | (with_reducible first | exact HK.out | apply Kept.alloc | apply Kept.drewN | apply Kept.drew) | exact HK.out)) (fun k_ e_ => (HO_0.out.1 k_ e_).1)); have n3_ := A_ (ho); clear HO459 HB HK HO_0; have HO459 := n0_; have HB := n1_; have HK := n2_; have HO462 := n3_; clear n0_ n1_ n2_ n3_; clear ho hb hg hat))
     go_loopg [5] k1 (fun kq v5 w' => ∃ (x0_2 : List Int) (x5_2 : Int), v5 = .int .i64 x5_2 ∧ Aside0 (cr1_Spoil.l1 kq x0_2 a1 x5_2 = some ()) ∧ Aside0 (kq ≤ k1) ∧ Aside0 (Kd.R (Kd.int .u64) 49 w' w0.heap.size (fun k_ => (P0_ k_ ∨ w.heap.size ≤ k_)) v461 x0_2) ∧ Aside0 (Kept w w' (fun k_ => P0_ k_)) ∧ Aside0 (Below w0.heap.size w0 w') ∧ Aside0 (SpOld w' w0.heap.size (.slice Ao10 x0_1.length co10) v461))
     case atStart => exact ⟨(y460), (0), (fs_), H', ⟨Nat.le_refl _⟩, ⟨by (with_reducible repeat (first | apply Kd.R_alloc | apply Kd.R_drewN | apply Kd.R_drew)); exact Kd.R_mono HO462.out (fun _ hk => hk.1)⟩, ⟨by repeat (first | (with_reducible first | exact HK.out | apply Kept.alloc | apply Kept.drewN | apply Kept.drew) | exact HK.out)⟩, ⟨by repeat (first | (with_reducible first | exact HB.out | apply below_alloc | apply pw_below_drewN | apply below_drew1) | exact HB.out)⟩, ⟨by (with_reducible repeat (first | apply SpOld_alloc | apply SpOld_drewN | apply SpOld_drew)); exact HSP.out⟩⟩
     case round =>
      clear H'
      try clear p2
      try clear c3
      try clear c3b0
      try clear c4
      try clear c4b0
      try clear p5
      try clear q5
      try clear hx5
      try clear hf5
      try clear p6
      try clear c9
      try clear hx5_0
      try clear p2
      try clear p5
      try clear q5
      obtain ⟨x0_2, x5_2, rfl, HA, HK2, HO_0, HK, HB, HSP⟩ := hrel
      cases gk with
      | zero => exact absurd HA.out (by simp [cr1_Spoil.l1])
      | succ k2 =>
       have H := HA.out
       clear HA
       simp only [cr1_Spoil.l1] at H
       by_cases c15 : x5_2 < (x0_2.length : Int)
       ·rw [if_pos c15] at H
        have c15b0 : decide (x5_2 < (x0_2.length : Int)) = true := decide_eq_true c15
        clear c15
        by_cases c16 : 0 ≤ x5_2
        ·rw [if_pos c16] at H
         have c16b0 : decide (0 ≤ x5_2) = true := decide_eq_true c16
         clear c16
         obtain ⟨y463, hy463⟩ : ∃ y_ : List Int, y_ = (x0_2.set (x5_2 : Int).toNat a1) := ⟨_, rfl⟩
         replace H : (cr1_Spoil.l1 k2 y463 a1 (wrap64 (x5_2 + 1))) = some () := by first | (rw [hy463]; with_reducible exact H) | (have H2_ := (Option.bind_some _ _).symm.trans H; rw [hy463]; with_reducible exact H2_) | (have H2_ := (Option.bind_some _ _).symm.trans H; with_reducible exact H2_) | with_reducible exact H | (rw [hy463]; exact H) | exact H
         have Ny463 := Aside0.mk hy463
         clear hy463
         have H' := Aside0.mk H
         clear H
         obtain ⟨Ao18, co18, eo18⟩ := Kd.R_slice HO_0.out
         subst eo18
         have p17 : 0 ≤ (x5_2 : Int) := of_decide_eq_true (by first | (with_reducible assumption) | assumption)
         have q17 : (x5_2 : Int) < ((x0_2.length : Int) : Int) := of_decide_eq_true (by first | (with_reducible assumption) | assumption)
         obtain ⟨go17, co17, eo17, gb17, gl17, cl17, HG17⟩ := Kd.R_form HO_0.out (by omega)
         (first | cases eo17 | (injection eo17 with ea_ en_ ec_; (first | subst ea_ | (injection ea_ with ea_; subst ea_)); subst ec_; clear en_))
         (try simp only [addr_add0] at *)
         have GB17 := Aside0.mk gb17
         have GG17 := Aside0.mk HG17
         clear gb17 gl17 HG17
         have HMgo17 := A_ (show (P0_ go17 ∨ w.heap.size ≤ go17) from (HO_0.out.1 _ rfl))
         obtain ⟨hx17_0, hf17_0⟩ := Kd.R_celln 0 HO_0.out (x5_2 : Int) p17 q17
         replace p17 := eq_true p17
         replace q17 := eq_true q17
         have HP19 := Kd.R_putg HO_0.out (x5_2 : Int) a1
         go_wp2_with (first | ((with_reducible refine gate_store (t := 49) (p := 34) rfl ?_); refine store_event (t := 49) (p := 34) (v := ?vo_w20) (w1 := (wr.setCell ⟨go17, (x5_2 : Int).toNat, none⟩ (.int .u64 a1))) ?hg ?ho ?hn ?hr ?_; (case ho => rfl); (case hg => rfl); (case hn => rfl); (case hr => first | (go_simp; done) | (go_simp; rfl)); intro w20 hw; have hg : wr.grownBy w20 (some go17) := (by rw [hw]; exact HP19.2); have hp_ : Kd.R (Kd.int .u64) 49 w20 w0.heap.size (fun k_ => (P0_ k_ ∨ w.heap.size ≤ k_)) (.slice (some ⟨go17, 0, none⟩) x0_2.length co18) y463 := (by rw [hw, Ny463.out]; exact HP19.1); clear HP19; have n0_ := A_ (hp_); have n1_ := A_ ((by rw [hw]; exact below_set (HB.out) GB17.out : Below w0.heap.size w0 w20)); have n2_ := A_ (Kept.of_grown (S := (fun k_ => P0_ k_)) hg (by repeat (first | (with_reducible first | exact HK.out | apply Kept.alloc | apply Kept.drewN | apply Kept.drew) | exact HK.out)) (fun k_ e_ => (HO_0.out.1 k_ e_))); have n9_ := A_ (SpOld_grown HSP.out hg rfl); clear HSP; have HSP := n9_; clear n9_; clear HO_0 HB HK; have HO_0 := n0_; have HB := n1_; have HK := n2_; clear n0_ n1_ n2_; clear hg hw hp_))
         go_roundg k2
         case measure => have := HK1.out; have := HK2.out; omega
         case rel => exact ⟨(y463), (wrap64 (x5_2 + 1)), (fs_), H', ⟨by have := HK1.out; have := HK2.out; omega⟩, ⟨mR_ HO_0.out⟩, ⟨by repeat (first | (with_reducible first | exact HK.out | apply Kept.alloc | apply Kept.drewN | apply Kept.drew) | exact HK.out)⟩, ⟨by repeat (first | (with_reducible first | exact HB.out | apply below_alloc | apply pw_below_drewN | apply below_drew1) | exact HB.out)⟩, ⟨HSP.out⟩⟩
        ·rw [if_neg c16] at H
         exact absurd H (by simp)
       ·rw [if_neg c15] at H
        have c15b0 : decide (x5_2 < (x0_2.length : Int)) = false := decide_eq_false c15
        clear c15
        obtain ⟨Ao21, co21, eo21⟩ := Kd.R_slice HO_0.out
        subst eo21
        go_wp2
        first | go_end0 | ((try simp only [Exit.inBlock, Exit.then]); refine bodyPost_ret (results_none rfl _ _ _) rfl ?_)
        exact ⟨fr_, by repeat (first | (with_reducible first | exact HB.out | apply below_alloc | apply pw_below_drewN | apply below_drew1) | exact HB.out), by repeat (first | (with_reducible first | exact HK.out | apply Kept.alloc | apply Kept.drewN | apply Kept.drew) | exact HK.out), SpOld_end HSP.out HO_0.out HP_.out HL_.out⟩
    ·rw [if_neg c9] at H
     exact absurd H (by simp)
theorem cr1_Spoil.calls (k : Nat) (P0_ : Nat → Prop) (u9000_ : Value) (l0 : List Int) (a1 : Int) (w0 w : World) (hB : Below w0.heap.size w0 w) (ho0 : Kd.R (Kd.int .u64) 49 w w0.heap.size P0_ u9000_ l0) (h : cr1_Spoil.f k l0 a1 = some ()) :
  Calls Try.prog 30 #[u9000_, .int .u64 a1] w fun e w' => e = .returned (.tuple #[]) ∧ Below w0.heap.size w0 w' ∧ Kept w w' (fun k_ => P0_ k_) := by
 refine (cr1_Spoil.callsT k P0_ u9000_ l0 a1 w0 w hB ho0 h).mono ?_
 rintro e w' ⟨rfl, hb, hk, _⟩
 exact ⟨rfl, hb, hk⟩
/-! ### conclavelaw06_TreeFresh: function 8 -/
def conclavelaw06_TreeFresh.f (k : Nat) (a0 : Int) (l1 : List Int) (l2 : List Int) : Option (Bool) := (cr1_Copy.f l1).bind fun t464 => ((cr1_Copy.f l2).bind fun t467 => ((tree_Tree.f k a0 t467).bind fun bt470 => ((tree_Zero.f k a0 t467).bind fun bt474 => ((tree_Values.f k a0 t464 t467).bind fun bt478 => ((cr1_Copy.f l1).bind fun t482 => ((cr1_Copy.f l1).bind fun t485 => ((some (([t482, t485] : List (List Int)) : List (List Int))).bind fun y488 => ((tree_Remainders.f k a0 t467 y488).bind fun bt491 => (if fresh_ok bt470.1 bt474.1 bt478.1 bt491.1 = true then ((tree_Values.f k a0 t464 t467).bind fun bt495 => ((cr6_Values.f k a0 l1 l2).bind fun bt499 => ((conclavelaw06_anchored.f k).bind fun t503 => (if t503 = true then ((cr1_Same.f k t464 l1).bind fun t504 => (if t504 = true then ((cr1_Same.f k t467 l2).bind fun t505 => (if t505 = true then (if 0 < (y488.length : Int) then ((cr1_Same.f k (rd_L1 y488 0) l1).bind fun t507 => (if t507 = true then ((cr1_Same.f k bt495.1 bt499.1).bind fun t508 => (if t508 = true then (some (bt495.2 == bt499.2)) else (none))) else (none))) else (none)) else (none))) else (none))) else (none))))) else (none))))))))))
theorem conclavelaw06_TreeFresh.mono : ∀ a0 a1 a2 k, LeO (conclavelaw06_TreeFresh.f k a0 a1 a2) (conclavelaw06_TreeFresh.f (k + 1) a0 a1 a2) := by
 intro a0 a1 a2 k
 unfold conclavelaw06_TreeFresh.f
 repeat' first
   | (with_reducible exact conclavelaw06_anchored.mono _)
   | (with_reducible exact cr1_Same.mono _ _ _)
   | (with_reducible exact cr6_Values.mono _ _ _ _)
   | (with_reducible exact tree_Remainders.mono _ _ _ _)
   | (with_reducible exact tree_Tree.mono _ _ _)
   | (with_reducible exact tree_Values.mono _ _ _ _)
   | (with_reducible exact tree_Zero.mono _ _ _)
   | (with_reducible exact LeO.refl _)
   | (with_reducible exact LeO.none _)
   | (with_reducible refine LeO.ite ?_ ?_)
   | (with_reducible refine LeO.bind ?_ (fun _ => ?_))
   | exact conclavelaw06_anchored.mono _
   | exact cr1_Same.mono _ _ _
   | exact cr6_Values.mono _ _ _ _
   | exact tree_Remainders.mono _ _ _ _
   | exact tree_Tree.mono _ _ _
   | exact tree_Values.mono _ _ _ _
   | exact tree_Zero.mono _ _ _
   | exact LeO.none _
   | refine LeO.ite ?_ ?_
   | refine LeO.bind ?_ (fun _ => ?_)
/-! ### What the spoiling calls come to, whatever is in the lists -/
namespace Tot
open Go.Proofs.Ytkaongcpekhbdaa.M
theorem same_loop (a : List Int) (hl : a.length < 4611686018427387904) : ∀ (d i : Nat), i + d = a.length → Ev (fun k => cr1_Same.l0 k a a (i : Int)) true := by
  intro d
  induction d with
  | zero =>
    intro i hi
    refine Ev.step (fun k => by rw [cr1_Same.l0]) ?_
    exact Ev.neg (by omega) (Ev.fix rfl)
  | succ d ih =>
    intro i hi
    refine Ev.step (fun k => by rw [cr1_Same.l0]) ?_
    refine Ev.pos (by omega) (Ev.pos (by omega) (Ev.pos (by omega) (Ev.pos rfl ?_)))
    rw [wrap_succ (by omega) (by omega)]
    exact ih (i + 1) (by omega)
theorem same_k (a : List Int) (hl : a.length < 4000000000000) : ∃ k, cr1_Same.f k a a = some true := by
  have h : Ev (fun k => cr1_Same.f k a a) true := by
    unfold cr1_Same.f
    exact Ev.pos rfl (same_loop a (by omega) a.length 0 (by omega))
  obtain ⟨k, hk⟩ := h
  exact ⟨k, hk k (Nat.le_refl k)⟩
theorem copy_eq (l : List Int) (hn : l.length < 17592186044416) : cr1_Copy.f l = some l := by
  unfold cr1_Copy.f
  simp [hn]
theorem rows_loop (X : List (List Int)) (hX : okR X) : ∀ (d i : Nat), i + d = X.length → Ev (fun k => cr1_CopyRows.l0 k X (X.take i) (i : Int)) X := by
  intro d
  induction d with
  | zero =>
    intro i hi
    refine Ev.step (fun k => by rw [cr1_CopyRows.l0]) ?_
    refine Ev.neg (by omega) (Ev.fix ?_)
    rw [List.take_of_length_le (by omega)]
  | succ d ih =>
    intro i hi
    have hr := okR_row hX (i := (i : Int)) (by omega) (by omega)
    have hl := hX.1
    refine Ev.step (fun k => by rw [cr1_CopyRows.l0]) ?_
    refine Ev.pos (by omega) (Ev.pos (by omega) (Ev.bnd (copy_eq _ (by omega)) (Ev.pos (by rw [List.length_take]; omega) ?_)))
    rw [wrap_succ (by omega) (by omega)]
    have e : X.take i ++ [rd_L1 X (i : Int)] = X.take (i + 1) := by
      unfold rd_L1
      rw [List.take_succ_eq_append_getElem (show i < X.length by omega), List.getD_eq_getElem?_getD, Int.toNat_natCast, List.getElem?_eq_getElem (show i < X.length by omega)]
      rfl
    rw [e]
    exact ih (i + 1) (by omega)
theorem rows_k (X : List (List Int)) (hX : okR X) : ∃ k, cr1_CopyRows.f k X = some X := by
  have h : Ev (fun k => cr1_CopyRows.f k X) X := by
    unfold cr1_CopyRows.f
    have := rows_loop X hX X.length 0 (by omega)
    rw [List.take_zero] at this
    exact this
  obtain ⟨k, hk⟩ := h
  exact ⟨k, hk k (Nat.le_refl k)⟩
theorem spoil_b (m : Int) : ∀ (d : Nat) (l : List Int) (i : Nat), i + d = l.length → l.length < 4611686018427387904 → Ev (fun k => cr1_Spoil.l1 k l m (i : Int)) () := by
  intro d
  induction d with
  | zero =>
    intro l i hi _
    refine Ev.step (fun k => by rw [cr1_Spoil.l1]) ?_
    exact Ev.neg (by omega) (Ev.fix rfl)
  | succ d ih =>
    intro l i hi hn
    refine Ev.step (fun k => by rw [cr1_Spoil.l1]) ?_
    refine Ev.pos (by omega) (Ev.pos (by omega) ?_)
    rw [wrap_succ (by omega) (by omega)]
    exact ih _ (i + 1) (by simp; omega) (by simpa using hn)
theorem spoil_a (m : Int) : ∀ (d : Nat) (l : List Int) (i : Nat), i + d = l.length → l.length < 17592186044410 → Ev (fun k => cr1_Spoil.l0 k l m (i : Int)) () := by
  intro d
  induction d with
  | zero =>
    intro l i hi hn
    refine Ev.step (fun k => by rw [cr1_Spoil.l0]) ?_
    refine Ev.neg (by omega) (Ev.bnd rfl (Ev.pos (by simp; omega) ?_))
    exact spoil_b m _ _ 0 (Nat.zero_add _) (by simp; omega)
  | succ d ih =>
    intro l i hi hn
    refine Ev.step (fun k => by rw [cr1_Spoil.l0]) ?_
    refine Ev.pos (by omega) (Ev.pos (by omega) ?_)
    rw [wrap_succ (by omega) (by omega)]
    exact ih _ (i + 1) (by simp; omega) (by simpa using hn)
theorem spoil_k (l : List Int) (m : Int) (hn : l.length < 4000000000000) : ∃ k, cr1_Spoil.f k l m = some () := by
  have h : Ev (fun k => cr1_Spoil.f k l m) () := by
    unfold cr1_Spoil.f
    exact spoil_a m l.length l 0 (by omega) (by omega)
  obtain ⟨k, hk⟩ := h
  exact ⟨k, hk k (Nat.le_refl k)⟩
end Tot
set_option maxHeartbeats 8000000 in
set_option maxRecDepth 100000 in
theorem conclavelaw06_TreeFresh.calls (k : Nat) (a0 : Int) (A1 : Option Addr) (c1 : Nat) (l1 : List Int) (A2 : Option Addr) (c2 : Nat) (l2 : List Int) (r : Bool) (w : World) (hr1 : Kd.C (Kd.int .u64) w A1 l1.length l1) (hc1 : l1.length ≤ c1) (hr2 : Kd.C (Kd.int .u64) w A2 l2.length l2) (hc2 : l2.length ≤ c2) (h : conclavelaw06_TreeFresh.f k a0 l1 l2 = some r) :
  Calls Try.prog 8 #[.int .u8 a0, .slice A1 l1.length c1, .slice A2 l2.length c2] w fun e w' => e = .returned (.bool r) ∧ Below w.heap.size w w' := by
 have HR1 := Aside0.mk hr1
 have HC1 := Aside0.mk hc1
 clear hr1 hc1
 have HR2 := Aside0.mk hr2
 have HC2 := Aside0.mk hc2
 clear hr2 hc2
 have HB := A_ (Below.refl w.heap.size w)
 have H : ((cr1_Copy.f l1).bind fun t464 => ((cr1_Copy.f l2).bind fun t467 => ((tree_Tree.f k a0 t467).bind fun bt470 => ((tree_Zero.f k a0 t467).bind fun bt474 => ((tree_Values.f k a0 t464 t467).bind fun bt478 => ((cr1_Copy.f l1).bind fun t482 => ((cr1_Copy.f l1).bind fun t485 => ((some (([t482, t485] : List (List Int)) : List (List Int))).bind fun y488 => ((tree_Remainders.f k a0 t467 y488).bind fun bt491 => (if fresh_ok bt470.1 bt474.1 bt478.1 bt491.1 = true then ((tree_Values.f k a0 t464 t467).bind fun bt495 => ((cr6_Values.f k a0 l1 l2).bind fun bt499 => ((conclavelaw06_anchored.f k).bind fun t503 => (if t503 = true then ((cr1_Same.f k t464 l1).bind fun t504 => (if t504 = true then ((cr1_Same.f k t467 l2).bind fun t505 => (if t505 = true then (if 0 < (y488.length : Int) then ((cr1_Same.f k (rd_L1 y488 0) l1).bind fun t507 => (if t507 = true then ((cr1_Same.f k bt495.1 bt499.1).bind fun t508 => (if t508 = true then (some (bt495.2 == bt499.2)) else (none))) else (none))) else (none)) else (none))) else (none))) else (none))))) else (none))))))))))) = some r := h
 clear h
 replace H := Option.bind_eq_some_iff.mp H
 obtain ⟨t464, A40, H⟩ := H
 (try dsimp only at H)
 have A4 := Aside0.mk A40
 clear A40
 replace H := Option.bind_eq_some_iff.mp H
 obtain ⟨t467, A50, H⟩ := H
 (try dsimp only at H)
 have A5 := Aside0.mk A50
 clear A50
 replace H := Option.bind_eq_some_iff.mp H
 obtain ⟨⟨t470, t473⟩, A60, H⟩ := H
 (try dsimp only at H)
 have A6 := Aside0.mk A60
 clear A60
 replace H := Option.bind_eq_some_iff.mp H
 obtain ⟨⟨t474, t477⟩, A70, H⟩ := H
 (try dsimp only at H)
 have A7 := Aside0.mk A70
 clear A70
 replace H := Option.bind_eq_some_iff.mp H
 obtain ⟨⟨t478, t481⟩, A80, H⟩ := H
 (try dsimp only at H)
 have A8 := Aside0.mk A80
 clear A80
 replace H := Option.bind_eq_some_iff.mp H
 obtain ⟨t482, A90, H⟩ := H
 (try dsimp only at H)
 have A9 := Aside0.mk A90
 clear A90
 replace H := Option.bind_eq_some_iff.mp H
 obtain ⟨t485, A100, H⟩ := H
 (try dsimp only at H)
 have A10 := Aside0.mk A100
 clear A100
 obtain ⟨y488, hy488⟩ : ∃ y_ : List (List Int), y_ = (([t482, t485] : List (List Int))) := ⟨_, rfl⟩
 replace H : ((tree_Remainders.f k a0 t467 y488).bind fun bt491 => (if fresh_ok t470 t474 t478 bt491.1 = true then ((tree_Values.f k a0 t464 t467).bind fun bt495 => ((cr6_Values.f k a0 l1 l2).bind fun bt499 => ((conclavelaw06_anchored.f k).bind fun t503 => (if t503 = true then ((cr1_Same.f k t464 l1).bind fun t504 => (if t504 = true then ((cr1_Same.f k t467 l2).bind fun t505 => (if t505 = true then (if 0 < (y488.length : Int) then ((cr1_Same.f k (rd_L1 y488 0) l1).bind fun t507 => (if t507 = true then ((cr1_Same.f k bt495.1 bt499.1).bind fun t508 => (if t508 = true then (some (bt495.2 == bt499.2)) else (none))) else (none))) else (none)) else (none))) else (none))) else (none))))) else (none))) = some r := by first | (rw [hy488]; with_reducible exact H) | (have H2_ := (Option.bind_some _ _).symm.trans H; rw [hy488]; with_reducible exact H2_) | (have H2_ := (Option.bind_some _ _).symm.trans H; with_reducible exact H2_) | with_reducible exact H | (rw [hy488]; exact H) | exact H
 have Ny488 := Aside0.mk hy488
 clear hy488
 replace H := Option.bind_eq_some_iff.mp H
 obtain ⟨⟨t491, t494⟩, A110, H⟩ := H
 (try dsimp only at H)
 have A11 := Aside0.mk A110
 clear A110
 by_cases c12 : fresh_ok t470 t474 t478 t491 = true
 ·rw [if_pos c12] at H
  have c12b0 : fresh_ok t470 t474 t478 t491 = true := c12
  clear c12
  replace H := Option.bind_eq_some_iff.mp H
  obtain ⟨⟨t495, t498⟩, A130, H⟩ := H
  (try dsimp only at H)
  have A13 := Aside0.mk A130
  clear A130
  replace H := Option.bind_eq_some_iff.mp H
  obtain ⟨⟨t499, t500⟩, A140, H⟩ := H
  (try dsimp only at H)
  have A14 := Aside0.mk A140
  clear A140
  replace H := Option.bind_eq_some_iff.mp H
  obtain ⟨t503, A150, H⟩ := H
  (try dsimp only at H)
  have A15 := Aside0.mk A150
  clear A150
  by_cases c16 : t503 = true
  ·subst c16
   have H1 : ((cr1_Same.f k t464 l1).bind fun t504 => (if t504 = true then ((cr1_Same.f k t467 l2).bind fun t505 => (if t505 = true then (if 0 < (y488.length : Int) then ((cr1_Same.f k (rd_L1 y488 0) l1).bind fun t507 => (if t507 = true then ((cr1_Same.f k t495 t499).bind fun t508 => (if t508 = true then (some (t498 == t500)) else (none))) else (none))) else (none)) else (none))) else (none))) = some r := by rw [if_pos rfl] at H; exact H
   clear H
   have H := H1
   clear H1
   replace H := Option.bind_eq_some_iff.mp H
   obtain ⟨t504, A170, H⟩ := H
   (try dsimp only at H)
   have A17 := Aside0.mk A170
   clear A170
   by_cases c18 : t504 = true
   ·subst c18
    have H1 : ((cr1_Same.f k t467 l2).bind fun t505 => (if t505 = true then (if 0 < (y488.length : Int) then ((cr1_Same.f k (rd_L1 y488 0) l1).bind fun t507 => (if t507 = true then ((cr1_Same.f k t495 t499).bind fun t508 => (if t508 = true then (some (t498 == t500)) else (none))) else (none))) else (none)) else (none))) = some r := by rw [if_pos rfl] at H; exact H
    clear H
    have H := H1
    clear H1
    replace H := Option.bind_eq_some_iff.mp H
    obtain ⟨t505, A190, H⟩ := H
    replace H : (if t505 = true then (if 0 < (y488.length : Int) then ((cr1_Same.f k (rd_L1 y488 0) l1).bind fun t507 => (if t507 = true then ((cr1_Same.f k t495 t499).bind fun t508 => (if t508 = true then (some (t498 == t500)) else (none))) else (none))) else (none)) else (none)) = some r := H
    have A19 := Aside0.mk A190
    clear A190
    by_cases c20 : t505 = true
    ·subst c20
     have H1 : (if 0 < (y488.length : Int) then ((cr1_Same.f k (rd_L1 y488 0) l1).bind fun t507 => (if t507 = true then ((cr1_Same.f k t495 t499).bind fun t508 => (if t508 = true then (some (t498 == t500)) else (none))) else (none))) else (none)) = some r := by rw [if_pos rfl] at H; exact H
     clear H
     have H := H1
     clear H1
     by_cases c21 : 0 < (y488.length : Int)
     ·rw [if_pos c21] at H
      have c21b0 : decide (0 < (y488.length : Int)) = true := decide_eq_true c21
      have c21b1 : decide (0 < y488.length) = true := decide_eq_true (by omega)
      clear c21
      replace H := Option.bind_eq_some_iff.mp H
      obtain ⟨t507, A220, H⟩ := H
      replace H : (if t507 = true then ((cr1_Same.f k t495 t499).bind fun t508 => (if t508 = true then (some (t498 == t500)) else (none))) else (none)) = some r := H
      have A22 := Aside0.mk A220
      clear A220
      by_cases c23 : t507 = true
      ·subst c23
       have H1 : ((cr1_Same.f k t495 t499).bind fun t508 => (if t508 = true then (some (t498 == t500)) else (none))) = some r := by rw [if_pos rfl] at H; exact H
       clear H
       have H := H1
       clear H1
       replace H := Option.bind_eq_some_iff.mp H
       obtain ⟨t508, A240, H⟩ := H
       replace H : (if t508 = true then (some (t498 == t500)) else (none)) = some r := H
       have A24 := Aside0.mk A240
       clear A240
       by_cases c25 : t508 = true
       ·subst c25
        have H1 : (some (t498 == t500)) = some r := by rw [if_pos rfl] at H; exact H
        clear H
        have H := H1
        clear H1
        obtain rfl := Option.some.inj H
        go_enter Try.func8, Try.ntmps8
        go_wp2_with (first | (go_at_call 28; (with_reducible refine (cr1_Copy.calls _ _ l1 t485 _ ?side1 ?side2 A10.out).mono ?_); (case side1 => repeat (first | exact (Kd.C_below HR1.out HB.out) | (with_reducible refine Kd.C_alloc ?_ _) | (with_reducible refine Kd.C_drewN ?_ _) | (with_reducible refine Kd.C_drew ?_))); (case side2 => exact HC1.out); rintro e w34 ⟨vm2, rfl, ho0, hb⟩; have mHA_ := A_ (Kd.R_below HA.out hb); clear HA; have HA := mHA_; clear mHA_; have mHBv_ := A_ (Kd.R_below HBv.out hb); clear HBv; have HBv := mHBv_; clear mHBv_; have mHT_ := A_ (Kd.S_below HT.out hb); clear HT; have HT := mHT_; clear mHT_; have mHZ_ := A_ (Kd.R_below HZ.out hb); clear HZ; have HZ := mHZ_; clear mHZ_; have mHV_ := A_ (Kd.R_below HV.out hb); clear HV; have HV := mHV_; clear mHV_; have mHM1_ := A_ (Kd.R_below HM1.out hb); clear HM1; have HM1 := mHM1_; clear mHM1_; have mHB_ := A_ (below_step hb_ hb); clear HB; have HB := mHB_; clear mHB_; have mB_ := A_ (Below.trans HB27.out (hb.mono HB27.out.size)); clear HB27; have HB27 := mB_; clear mB_; have HM2 := A_ (Kd.R_mono (ok' := fun k_ => w32.heap.size ≤ k_) (Kd.R_bound ho0) (fun _ h_ => Nat.le_trans HS4.out h_.2.1)); have HS5 := A_ (Nat.le_trans HS4.out hb.size); clear HS4; have HS4 := HS5; clear HS5; clear ho0 hb; obtain ⟨Am1, cm1, em1⟩ := Kd.R_slice HM1.out; subst em1; obtain ⟨Am2, cm2, em2⟩ := Kd.R_slice HM2.out; subst em2) | (go_at_call 28; (with_reducible refine (cr1_Copy.calls _ _ l1 t482 _ ?side1 ?side2 A9.out).mono ?_); (case side1 => repeat (first | exact (Kd.C_below HR1.out HB.out) | (with_reducible refine Kd.C_alloc ?_ _) | (with_reducible refine Kd.C_drewN ?_ _) | (with_reducible refine Kd.C_drew ?_))); (case side2 => exact HC1.out); rintro e w33 ⟨vm1, rfl, ho0, hb⟩; have mHA_ := A_ (Kd.R_below HA.out hb); clear HA; have HA := mHA_; clear mHA_; have mHBv_ := A_ (Kd.R_below HBv.out hb); clear HBv; have HBv := mHBv_; clear mHBv_; have mHT_ := A_ (Kd.S_below HT.out hb); clear HT; have HT := mHT_; clear mHT_; have mHZ_ := A_ (Kd.R_below HZ.out hb); clear HZ; have HZ := mHZ_; clear mHZ_; have mHV_ := A_ (Kd.R_below HV.out hb); clear HV; have HV := mHV_; clear mHV_; have mHB_ := A_ (below_step hb_ hb); clear HB; have HB := mHB_; clear mHB_; have mB_ := A_ (Below.trans HB27.out (hb.mono HB27.out.size)); clear HB27; have HB27 := mB_; clear mB_; have HM1 := A_ (Kd.R_mono (ok' := fun k_ => w32.heap.size ≤ k_) (Kd.R_bound ho0) (fun _ h_ => h_.2.1)); have HS4 := A_ hb.size; clear ho0 hb) | (go_at_call 28; (with_reducible refine (cr1_Copy.calls _ _ l1 t464 _ ?side1 ?side2 A4.out).mono ?_); (case side1 => exact nC_ HR1.out); (case side2 => exact HC1.out); rintro e w26 ⟨va, rfl, ho0, hb⟩; have mHB_ := A_ (below_step hb_ hb); clear HB; have HB := mHB_; clear mHB_; have HA := A_ ho0; clear ho0 hb) | (go_at_call 28; (with_reducible refine (cr1_Copy.calls _ _ l2 t467 _ ?side1 ?side2 A5.out).mono ?_); (case side1 => repeat (first | exact (Kd.C_below HR2.out HB.out) | (with_reducible refine Kd.C_alloc ?_ _) | (with_reducible refine Kd.C_drewN ?_ _) | (with_reducible refine Kd.C_drew ?_))); (case side2 => exact HC2.out); rintro e w27 ⟨vb, rfl, ho0, hb⟩; have mHA_ := A_ (Kd.R_below HA.out hb); clear HA; have HA := mHA_; clear mHA_; have mHB_ := A_ (below_step hb_ hb); clear HB; have HB := mHB_; clear mHB_; have HBv := A_ ho0; have HBw := HB; have HAl := A_ (Kd.R_lt HA.out); have HBl := A_ (Kd.R_lt ho0); clear ho0 hb; obtain ⟨Ab, cb, eb⟩ := Kd.R_slice HBv.out; subst eb; obtain ⟨Aa, ca, ea⟩ := Kd.R_slice HA.out; subst ea) | (go_at_call 17; (with_reducible refine (tree_Tree.callsT k a0 (fun _ => True) _ _ t467 t470 t473 _ ?side1 A6.out).mono ?_); (case side1 => exact Kd.R_V HBv.out); rintro e w29 ⟨vt, rfl, ht, hb⟩; have mHA_ := A_ (Kd.R_below HA.out hb); clear HA; have HA := mHA_; clear mHA_; have mHBv_ := A_ (Kd.R_below HBv.out hb); clear HBv; have HBv := mHBv_; clear mHBv_; have mHB_ := A_ (below_step hb_ hb); clear HB; have HB := mHB_; clear mHB_; have HT := A_ (Kd.S_mono (ok' := fun k_ => k_ < w29.heap.size) (Kd.S_bound (T_S ht)) (fun _ h_ => h_.2.2.1)); have HS1 := A_ hb.size; have HB27 := A_ hb; clear ht hb) | (go_at_call 15; (with_reducible refine (tree_Zero.callsT k a0 (fun _ => True) _ _ t467 t474 t477 _ ?side1 A7.out).mono ?_); (case side1 => exact Kd.R_V HBv.out); rintro e w30 ⟨vz, rfl, hz, hb⟩; have mHA_ := A_ (Kd.R_below HA.out hb); clear HA; have HA := mHA_; clear mHA_; have mHBv_ := A_ (Kd.R_below HBv.out hb); clear HBv; have HBv := mHBv_; clear mHBv_; have mHT_ := A_ (Kd.S_below HT.out hb); clear HT; have HT := mHT_; clear mHT_; have mHB_ := A_ (below_step hb_ hb); clear HB; have HB := mHB_; clear mHB_; have mB_ := A_ (Below.trans HB27.out (hb.mono HB27.out.size)); clear HB27; have HB27 := mB_; clear mB_; have HZ := A_ (Kd.R_mono (ok' := fun k_ => k_ < w30.heap.size) (Kd.R_bound hz) (fun _ h_ => h_.2.2.1)); have HS2 := A_ hb.size; clear hz hb) | (go_at_call 20; (with_reducible refine (tree_Values.calls k a0 (fun _ => True) _ _ t464 (fun _ => True) _ _ t467 t478 t481 _ ?side1 ?side2 A8.out).mono ?_); (case side1 => exact Kd.R_V HA.out); (case side2 => exact Kd.R_V HBv.out); rintro e w32 ⟨vv, rfl, hv, hb⟩; have mHA_ := A_ (Kd.R_below HA.out hb); clear HA; have HA := mHA_; clear mHA_; have mHBv_ := A_ (Kd.R_below HBv.out hb); clear HBv; have HBv := mHBv_; clear mHBv_; have mHT_ := A_ (Kd.S_below HT.out hb); clear HT; have HT := mHT_; clear mHT_; have mHZ_ := A_ (Kd.R_below HZ.out hb); clear HZ; have HZ := mHZ_; clear mHZ_; have mHB_ := A_ (below_step hb_ hb); clear HB; have HB := mHB_; clear mHB_; have mB_ := A_ (Below.trans HB27.out (hb.mono HB27.out.size)); clear HB27; have HB27 := mB_; clear mB_; have HV := A_ (Kd.R_mono (ok' := fun k_ => k_ < w32.heap.size) (Kd.R_bound hv) (fun _ h_ => h_.2.2.1)); have HS3 := A_ hb.size; clear hv hb) | ((with_reducible refine gate_dst (N := 56) rfl ?_); refine Kd.N_lit (Kd.slice 49 (Kd.int .u64)) _ 22 ?hg (N' := 56) ?hd (xs := ([t482, t485] : List (List Int))) (inner := [.slice Am1 t482.length cm1, .slice Am2 t485.length cm2]) (ok := (fun k_ => w32.heap.size ≤ k_)) (okp := (fun k_ => w32.heap.size ≤ k_)) ?hr ?hp (fun _ hk => hk) HS4.out (Below.refl _ _) (Nat.le_refl _) (by simp) ?_; (case hd => rfl); (case hg => rfl); (case hr => first | (go_simp; done) | (go_simp; rfl)); (case hp => exact (Reps.one (show Kd.FK (Kd.slice 49 (Kd.int .u64)) _ _ t482 [.slice Am1 t482.length cm1] from (Kd.FK_slice_mk (Kd.R_reads' HM1.out).2.1 (Kd.R_F HM1.out))) (Reps.one (show Kd.FK (Kd.slice 49 (Kd.int .u64)) _ _ t485 [.slice Am2 t485.length cm2] from (Kd.FK_slice_mk (Kd.R_reads' HM2.out).2.1 (Kd.R_F HM2.out))) (Reps.none _ _)))); intro vm w37 ho38 hb hg_ hnew_; clear hg_ hnew_; (first | rw [← Ny488.out] at ho38 | (simp only [Int.reduceToNat] at ho38; rw [← Ny488.out] at ho38)); clear HM1 HM2; have mHA_ := A_ (Kd.R_below HA.out hb); clear HA; have HA := mHA_; clear mHA_; have mHBv_ := A_ (Kd.R_below HBv.out hb); clear HBv; have HBv := mHBv_; clear mHBv_; have mHT_ := A_ (Kd.S_below HT.out hb); clear HT; have HT := mHT_; clear mHT_; have mHZ_ := A_ (Kd.R_below HZ.out hb); clear HZ; have HZ := mHZ_; clear mHZ_; have mHV_ := A_ (Kd.R_below HV.out hb); clear HV; have HV := mHV_; clear mHV_; have mHB_ := A_ (below_step hb_ hb); clear HB; have HB := mHB_; clear mHB_; have mB_ := A_ (Below.trans HB27.out (hb.mono HB27.out.size)); clear HB27; have HB27 := mB_; clear mB_; have HM := A_ (Kd.N_bound ho38); have HS5 := A_ (Nat.le_trans HS4.out hb.size); clear HS4; have HS4 := HS5; clear HS5; clear ho38 hb; obtain ⟨Am, cm, em⟩ := Kd.N_slice HM.out; subst em) | (go_at_call 9; (with_reducible refine (tree_Remainders.callsT k a0 (fun _ => True) _ _ t467 (fun k_ => w32.heap.size ≤ k_ ∧ k_ < w37.heap.size) _ _ y488 t491 t494 _ ?side1 ?side2 A11.out).mono ?_); (case side1 => exact Kd.R_V HBv.out); (case side2 => exact Kd.N_V HM.out); rintro e w40 ⟨vr, rfl, hr, hb⟩; have mHA_ := A_ (Kd.R_below HA.out hb); clear HA; have HA := mHA_; clear mHA_; have mHBv_ := A_ (Kd.R_below HBv.out hb); clear HBv; have HBv := mHBv_; clear mHBv_; have mHT_ := A_ (Kd.S_below HT.out hb); clear HT; have HT := mHT_; clear mHT_; have mHZ_ := A_ (Kd.R_below HZ.out hb); clear HZ; have HZ := mHZ_; clear mHZ_; have mHV_ := A_ (Kd.R_below HV.out hb); clear HV; have HV := mHV_; clear mHV_; have mHM_ := A_ (Kd.N_below HM.out hb); clear HM; have HM := mHM_; clear mHM_; have mHB_ := A_ (below_step hb_ hb); clear HB; have HB := mHB_; clear mHB_; have mB_ := A_ (Below.trans HB27.out (hb.mono HB27.out.size)); clear HB27; have HB27 := mB_; clear mB_; have HR := A_ (Kd.S_mono (ok' := fun k_ => w37.heap.size ≤ k_) (Kd.S_bound hr) (fun _ h_ => h_.2.1)); have HS5 := A_ hb.size; clear hr hb))
        repeat (go_quiet (first | (go_at_call 28; (with_reducible refine (cr1_Copy.calls _ _ l1 t485 _ ?side1 ?side2 A10.out).mono ?_); (case side1 => repeat (first | exact (Kd.C_below HR1.out HB.out) | (with_reducible refine Kd.C_alloc ?_ _) | (with_reducible refine Kd.C_drewN ?_ _) | (with_reducible refine Kd.C_drew ?_))); (case side2 => exact HC1.out); rintro e w34 ⟨vm2, rfl, ho0, hb⟩; have mHA_ := A_ (Kd.R_below HA.out hb); clear HA; have HA := mHA_; clear mHA_; have mHBv_ := A_ (Kd.R_below HBv.out hb); clear HBv; have HBv := mHBv_; clear mHBv_; have mHT_ := A_ (Kd.S_below HT.out hb); clear HT; have HT := mHT_; clear mHT_; have mHZ_ := A_ (Kd.R_below HZ.out hb); clear HZ; have HZ := mHZ_; clear mHZ_; have mHV_ := A_ (Kd.R_below HV.out hb); clear HV; have HV := mHV_; clear mHV_; have mHM1_ := A_ (Kd.R_below HM1.out hb); clear HM1; have HM1 := mHM1_; clear mHM1_; have mHB_ := A_ (below_step hb_ hb); clear HB; have HB := mHB_; clear mHB_; have mB_ := A_ (Below.trans HB27.out (hb.mono HB27.out.size)); clear HB27; have HB27 := mB_; clear mB_; have HM2 := A_ (Kd.R_mono (ok' := fun k_ => w32.heap.size ≤ k_) (Kd.R_bound ho0) (fun _ h_ => Nat.le_trans HS4.out h_.2.1)); have HS5 := A_ (Nat.le_trans HS4.out hb.size); clear HS4; have HS4 := HS5; clear HS5; clear ho0 hb; obtain ⟨Am1, cm1, em1⟩ := Kd.R_slice HM1.out; subst em1; obtain ⟨Am2, cm2, em2⟩ := Kd.R_slice HM2.out; subst em2) | (go_at_call 28; (with_reducible refine (cr1_Copy.calls _ _ l1 t482 _ ?side1 ?side2 A9.out).mono ?_); (case side1 => repeat (first | exact (Kd.C_below HR1.out HB.out) | (with_reducible refine Kd.C_alloc ?_ _) | (with_reducible refine Kd.C_drewN ?_ _) | (with_reducible refine Kd.C_drew ?_))); (case side2 => exact HC1.out); rintro e w33 ⟨vm1, rfl, ho0, hb⟩; have mHA_ := A_ (Kd.R_below HA.out hb); clear HA; have HA := mHA_; clear mHA_; have mHBv_ := A_ (Kd.R_below HBv.out hb); clear HBv; have HBv := mHBv_; clear mHBv_; have mHT_ := A_ (Kd.S_below HT.out hb); clear HT; have HT := mHT_; clear mHT_; have mHZ_ := A_ (Kd.R_below HZ.out hb); clear HZ; have HZ := mHZ_; clear mHZ_; have mHV_ := A_ (Kd.R_below HV.out hb); clear HV; have HV := mHV_; clear mHV_; have mHB_ := A_ (below_step hb_ hb); clear HB; have HB := mHB_; clear mHB_; have mB_ := A_ (Below.trans HB27.out (hb.mono HB27.out.size)); clear HB27; have HB27 := mB_; clear mB_; have HM1 := A_ (Kd.R_mono (ok' := fun k_ => w32.heap.size ≤ k_) (Kd.R_bound ho0) (fun _ h_ => h_.2.1)); have HS4 := A_ hb.size; clear ho0 hb) | (go_at_call 28; (with_reducible refine (cr1_Copy.calls _ _ l1 t464 _ ?side1 ?side2 A4.out).mono ?_); (case side1 => exact nC_ HR1.out); (case side2 => exact HC1.out); rintro e w26 ⟨va, rfl, ho0, hb⟩; have mHB_ := A_ (below_step hb_ hb); clear HB; have HB := mHB_; clear mHB_; have HA := A_ ho0; clear ho0 hb) | (go_at_call 28; (with_reducible refine (cr1_Copy.calls _ _ l2 t467 _ ?side1 ?side2 A5.out).mono ?_); (case side1 => repeat (first | exact (Kd.C_below HR2.out HB.out) | (with_reducible refine Kd.C_alloc ?_ _) | (with_reducible refine Kd.C_drewN ?_ _) | (with_reducible refine Kd.C_drew ?_))); (case side2 => exact HC2.out); rintro e w27 ⟨vb, rfl, ho0, hb⟩; have mHA_ := A_ (Kd.R_below HA.out hb); clear HA; have HA := mHA_; clear mHA_; have mHB_ := A_ (below_step hb_ hb); clear HB; have HB := mHB_; clear mHB_; have HBv := A_ ho0; have HBw := HB; have HAl := A_ (Kd.R_lt HA.out); have HBl := A_ (Kd.R_lt ho0); clear ho0 hb; obtain ⟨Ab, cb, eb⟩ := Kd.R_slice HBv.out; subst eb; obtain ⟨Aa, ca, ea⟩ := Kd.R_slice HA.out; subst ea) | (go_at_call 17; (with_reducible refine (tree_Tree.callsT k a0 (fun _ => True) _ _ t467 t470 t473 _ ?side1 A6.out).mono ?_); (case side1 => exact Kd.R_V HBv.out); rintro e w29 ⟨vt, rfl, ht, hb⟩; have mHA_ := A_ (Kd.R_below HA.out hb); clear HA; have HA := mHA_; clear mHA_; have mHBv_ := A_ (Kd.R_below HBv.out hb); clear HBv; have HBv := mHBv_; clear mHBv_; have mHB_ := A_ (below_step hb_ hb); clear HB; have HB := mHB_; clear mHB_; have HT := A_ (Kd.S_mono (ok' := fun k_ => k_ < w29.heap.size) (Kd.S_bound (T_S ht)) (fun _ h_ => h_.2.2.1)); have HS1 := A_ hb.size; have HB27 := A_ hb; clear ht hb) | (go_at_call 15; (with_reducible refine (tree_Zero.callsT k a0 (fun _ => True) _ _ t467 t474 t477 _ ?side1 A7.out).mono ?_); (case side1 => exact Kd.R_V HBv.out); rintro e w30 ⟨vz, rfl, hz, hb⟩; have mHA_ := A_ (Kd.R_below HA.out hb); clear HA; have HA := mHA_; clear mHA_; have mHBv_ := A_ (Kd.R_below HBv.out hb); clear HBv; have HBv := mHBv_; clear mHBv_; have mHT_ := A_ (Kd.S_below HT.out hb); clear HT; have HT := mHT_; clear mHT_; have mHB_ := A_ (below_step hb_ hb); clear HB; have HB := mHB_; clear mHB_; have mB_ := A_ (Below.trans HB27.out (hb.mono HB27.out.size)); clear HB27; have HB27 := mB_; clear mB_; have HZ := A_ (Kd.R_mono (ok' := fun k_ => k_ < w30.heap.size) (Kd.R_bound hz) (fun _ h_ => h_.2.2.1)); have HS2 := A_ hb.size; clear hz hb) | (go_at_call 20; (with_reducible refine (tree_Values.calls k a0 (fun _ => True) _ _ t464 (fun _ => True) _ _ t467 t478 t481 _ ?side1 ?side2 A8.out).mono ?_); (case side1 => exact Kd.R_V HA.out); (case side2 => exact Kd.R_V HBv.out); rintro e w32 ⟨vv, rfl, hv, hb⟩; have mHA_ := A_ (Kd.R_below HA.out hb); clear HA; have HA := mHA_; clear mHA_; have mHBv_ := A_ (Kd.R_below HBv.out hb); clear HBv; have HBv := mHBv_; clear mHBv_; have mHT_ := A_ (Kd.S_below HT.out hb); clear HT; have HT := mHT_; clear mHT_; have mHZ_ := A_ (Kd.R_below HZ.out hb); clear HZ; have HZ := mHZ_; clear mHZ_; have mHB_ := A_ (below_step hb_ hb); clear HB; have HB := mHB_; clear mHB_; have mB_ := A_ (Below.trans HB27.out (hb.mono HB27.out.size)); clear HB27; have HB27 := mB_; clear mB_; have HV := A_ (Kd.R_mono (ok' := fun k_ => k_ < w32.heap.size) (Kd.R_bound hv) (fun _ h_ => h_.2.2.1)); have HS3 := A_ hb.size; clear hv hb) | ((with_reducible refine gate_dst (N := 56) rfl ?_); refine Kd.N_lit (Kd.slice 49 (Kd.int .u64)) _ 22 ?hg (N' := 56) ?hd (xs := ([t482, t485] : List (List Int))) (inner := [.slice Am1 t482.length cm1, .slice Am2 t485.length cm2]) (ok := (fun k_ => w32.heap.size ≤ k_)) (okp := (fun k_ => w32.heap.size ≤ k_)) ?hr ?hp (fun _ hk => hk) HS4.out (Below.refl _ _) (Nat.le_refl _) (by simp) ?_; (case hd => rfl); (case hg => rfl); (case hr => first | (go_simp; done) | (go_simp; rfl)); (case hp => exact (Reps.one (show Kd.FK (Kd.slice 49 (Kd.int .u64)) _ _ t482 [.slice Am1 t482.length cm1] from (Kd.FK_slice_mk (Kd.R_reads' HM1.out).2.1 (Kd.R_F HM1.out))) (Reps.one (show Kd.FK (Kd.slice 49 (Kd.int .u64)) _ _ t485 [.slice Am2 t485.length cm2] from (Kd.FK_slice_mk (Kd.R_reads' HM2.out).2.1 (Kd.R_F HM2.out))) (Reps.none _ _)))); intro vm w37 ho38 hb hg_ hnew_; clear hg_ hnew_; (first | rw [← Ny488.out] at ho38 | (simp only [Int.reduceToNat] at ho38; rw [← Ny488.out] at ho38)); clear HM1 HM2; have mHA_ := A_ (Kd.R_below HA.out hb); clear HA; have HA := mHA_; clear mHA_; have mHBv_ := A_ (Kd.R_below HBv.out hb); clear HBv; have HBv := mHBv_; clear mHBv_; have mHT_ := A_ (Kd.S_below HT.out hb); clear HT; have HT := mHT_; clear mHT_; have mHZ_ := A_ (Kd.R_below HZ.out hb); clear HZ; have HZ := mHZ_; clear mHZ_; have mHV_ := A_ (Kd.R_below HV.out hb); clear HV; have HV := mHV_; clear mHV_; have mHB_ := A_ (below_step hb_ hb); clear HB; have HB := mHB_; clear mHB_; have mB_ := A_ (Below.trans HB27.out (hb.mono HB27.out.size)); clear HB27; have HB27 := mB_; clear mB_; have HM := A_ (Kd.N_bound ho38); have HS5 := A_ (Nat.le_trans HS4.out hb.size); clear HS4; have HS4 := HS5; clear HS5; clear ho38 hb; obtain ⟨Am, cm, em⟩ := Kd.N_slice HM.out; subst em) | (go_at_call 9; (with_reducible refine (tree_Remainders.callsT k a0 (fun _ => True) _ _ t467 (fun k_ => w32.heap.size ≤ k_ ∧ k_ < w37.heap.size) _ _ y488 t491 t494 _ ?side1 ?side2 A11.out).mono ?_); (case side1 => exact Kd.R_V HBv.out); (case side2 => exact Kd.N_V HM.out); rintro e w40 ⟨vr, rfl, hr, hb⟩; have mHA_ := A_ (Kd.R_below HA.out hb); clear HA; have HA := mHA_; clear mHA_; have mHBv_ := A_ (Kd.R_below HBv.out hb); clear HBv; have HBv := mHBv_; clear mHBv_; have mHT_ := A_ (Kd.S_below HT.out hb); clear HT; have HT := mHT_; clear mHT_; have mHZ_ := A_ (Kd.R_below HZ.out hb); clear HZ; have HZ := mHZ_; clear mHZ_; have mHV_ := A_ (Kd.R_below HV.out hb); clear HV; have HV := mHV_; clear mHV_; have mHM_ := A_ (Kd.N_below HM.out hb); clear HM; have HM := mHM_; clear mHM_; have mHB_ := A_ (below_step hb_ hb); clear HB; have HB := mHB_; clear mHB_; have mB_ := A_ (Below.trans HB27.out (hb.mono HB27.out.size)); clear HB27; have HB27 := mB_; clear mB_; have HR := A_ (Kd.S_mono (ok' := fun k_ => w37.heap.size ≤ k_) (Kd.S_bound hr) (fun _ h_ => h_.2.1)); have HS5 := A_ hb.size; clear hr hb)); try go_wp2_with (first | (go_at_call 28; (with_reducible refine (cr1_Copy.calls _ _ l1 t485 _ ?side1 ?side2 A10.out).mono ?_); (case side1 => repeat (first | exact (Kd.C_below HR1.out HB.out) | (with_reducible refine Kd.C_alloc ?_ _) | (with_reducible refine Kd.C_drewN ?_ _) | (with_reducible refine Kd.C_drew ?_))); (case side2 => exact HC1.out); rintro e w34 ⟨vm2, rfl, ho0, hb⟩; have mHA_ := A_ (Kd.R_below HA.out hb); clear HA; have HA := mHA_; clear mHA_; have mHBv_ := A_ (Kd.R_below HBv.out hb); clear HBv; have HBv := mHBv_; clear mHBv_; have mHT_ := A_ (Kd.S_below HT.out hb); clear HT; have HT := mHT_; clear mHT_; have mHZ_ := A_ (Kd.R_below HZ.out hb); clear HZ; have HZ := mHZ_; clear mHZ_; have mHV_ := A_ (Kd.R_below HV.out hb); clear HV; have HV := mHV_; clear mHV_; have mHM1_ := A_ (Kd.R_below HM1.out hb); clear HM1; have HM1 := mHM1_; clear mHM1_; have mHB_ := A_ (below_step hb_ hb); clear HB; have HB := mHB_; clear mHB_; have mB_ := A_ (Below.trans HB27.out (hb.mono HB27.out.size)); clear HB27; have HB27 := mB_; clear mB_; have HM2 := A_ (Kd.R_mono (ok' := fun k_ => w32.heap.size ≤ k_) (Kd.R_bound ho0) (fun _ h_ => Nat.le_trans HS4.out h_.2.1)); have HS5 := A_ (Nat.le_trans HS4.out hb.size); clear HS4; have HS4 := HS5; clear HS5; clear ho0 hb; obtain ⟨Am1, cm1, em1⟩ := Kd.R_slice HM1.out; subst em1; obtain ⟨Am2, cm2, em2⟩ := Kd.R_slice HM2.out; subst em2) | (go_at_call 28; (with_reducible refine (cr1_Copy.calls _ _ l1 t482 _ ?side1 ?side2 A9.out).mono ?_); (case side1 => repeat (first | exact (Kd.C_below HR1.out HB.out) | (with_reducible refine Kd.C_alloc ?_ _) | (with_reducible refine Kd.C_drewN ?_ _) | (with_reducible refine Kd.C_drew ?_))); (case side2 => exact HC1.out); rintro e w33 ⟨vm1, rfl, ho0, hb⟩; have mHA_ := A_ (Kd.R_below HA.out hb); clear HA; have HA := mHA_; clear mHA_; have mHBv_ := A_ (Kd.R_below HBv.out hb); clear HBv; have HBv := mHBv_; clear mHBv_; have mHT_ := A_ (Kd.S_below HT.out hb); clear HT; have HT := mHT_; clear mHT_; have mHZ_ := A_ (Kd.R_below HZ.out hb); clear HZ; have HZ := mHZ_; clear mHZ_; have mHV_ := A_ (Kd.R_below HV.out hb); clear HV; have HV := mHV_; clear mHV_; have mHB_ := A_ (below_step hb_ hb); clear HB; have HB := mHB_; clear mHB_; have mB_ := A_ (Below.trans HB27.out (hb.mono HB27.out.size)); clear HB27; have HB27 := mB_; clear mB_; have HM1 := A_ (Kd.R_mono (ok' := fun k_ => w32.heap.size ≤ k_) (Kd.R_bound ho0) (fun _ h_ => h_.2.1)); have HS4 := A_ hb.size; clear ho0 hb) | (go_at_call 28; (with_reducible refine (cr1_Copy.calls _ _ l1 t464 _ ?side1 ?side2 A4.out).mono ?_); (case side1 => exact nC_ HR1.out); (case side2 => exact HC1.out); rintro e w26 ⟨va, rfl, ho0, hb⟩; have mHB_ := A_ (below_step hb_ hb); clear HB; have HB := mHB_; clear mHB_; have HA := A_ ho0; clear ho0 hb) | (go_at_call 28; (with_reducible refine (cr1_Copy.calls _ _ l2 t467 _ ?side1 ?side2 A5.out).mono ?_); (case side1 => repeat (first | exact (Kd.C_below HR2.out HB.out) | (with_reducible refine Kd.C_alloc ?_ _) | (with_reducible refine Kd.C_drewN ?_ _) | (with_reducible refine Kd.C_drew ?_))); (case side2 => exact HC2.out); rintro e w27 ⟨vb, rfl, ho0, hb⟩; have mHA_ := A_ (Kd.R_below HA.out hb); clear HA; have HA := mHA_; clear mHA_; have mHB_ := A_ (below_step hb_ hb); clear HB; have HB := mHB_; clear mHB_; have HBv := A_ ho0; have HBw := HB; have HAl := A_ (Kd.R_lt HA.out); have HBl := A_ (Kd.R_lt ho0); clear ho0 hb; obtain ⟨Ab, cb, eb⟩ := Kd.R_slice HBv.out; subst eb; obtain ⟨Aa, ca, ea⟩ := Kd.R_slice HA.out; subst ea) | (go_at_call 17; (with_reducible refine (tree_Tree.callsT k a0 (fun _ => True) _ _ t467 t470 t473 _ ?side1 A6.out).mono ?_); (case side1 => exact Kd.R_V HBv.out); rintro e w29 ⟨vt, rfl, ht, hb⟩; have mHA_ := A_ (Kd.R_below HA.out hb); clear HA; have HA := mHA_; clear mHA_; have mHBv_ := A_ (Kd.R_below HBv.out hb); clear HBv; have HBv := mHBv_; clear mHBv_; have mHB_ := A_ (below_step hb_ hb); clear HB; have HB := mHB_; clear mHB_; have HT := A_ (Kd.S_mono (ok' := fun k_ => k_ < w29.heap.size) (Kd.S_bound (T_S ht)) (fun _ h_ => h_.2.2.1)); have HS1 := A_ hb.size; have HB27 := A_ hb; clear ht hb) | (go_at_call 15; (with_reducible refine (tree_Zero.callsT k a0 (fun _ => True) _ _ t467 t474 t477 _ ?side1 A7.out).mono ?_); (case side1 => exact Kd.R_V HBv.out); rintro e w30 ⟨vz, rfl, hz, hb⟩; have mHA_ := A_ (Kd.R_below HA.out hb); clear HA; have HA := mHA_; clear mHA_; have mHBv_ := A_ (Kd.R_below HBv.out hb); clear HBv; have HBv := mHBv_; clear mHBv_; have mHT_ := A_ (Kd.S_below HT.out hb); clear HT; have HT := mHT_; clear mHT_; have mHB_ := A_ (below_step hb_ hb); clear HB; have HB := mHB_; clear mHB_; have mB_ := A_ (Below.trans HB27.out (hb.mono HB27.out.size)); clear HB27; have HB27 := mB_; clear mB_; have HZ := A_ (Kd.R_mono (ok' := fun k_ => k_ < w30.heap.size) (Kd.R_bound hz) (fun _ h_ => h_.2.2.1)); have HS2 := A_ hb.size; clear hz hb) | (go_at_call 20; (with_reducible refine (tree_Values.calls k a0 (fun _ => True) _ _ t464 (fun _ => True) _ _ t467 t478 t481 _ ?side1 ?side2 A8.out).mono ?_); (case side1 => exact Kd.R_V HA.out); (case side2 => exact Kd.R_V HBv.out); rintro e w32 ⟨vv, rfl, hv, hb⟩; have mHA_ := A_ (Kd.R_below HA.out hb); clear HA; have HA := mHA_; clear mHA_; have mHBv_ := A_ (Kd.R_below HBv.out hb); clear HBv; have HBv := mHBv_; clear mHBv_; have mHT_ := A_ (Kd.S_below HT.out hb); clear HT; have HT := mHT_; clear mHT_; have mHZ_ := A_ (Kd.R_below HZ.out hb); clear HZ; have HZ := mHZ_; clear mHZ_; have mHB_ := A_ (below_step hb_ hb); clear HB; have HB := mHB_; clear mHB_; have mB_ := A_ (Below.trans HB27.out (hb.mono HB27.out.size)); clear HB27; have HB27 := mB_; clear mB_; have HV := A_ (Kd.R_mono (ok' := fun k_ => k_ < w32.heap.size) (Kd.R_bound hv) (fun _ h_ => h_.2.2.1)); have HS3 := A_ hb.size; clear hv hb) | ((with_reducible refine gate_dst (N := 56) rfl ?_); refine Kd.N_lit (Kd.slice 49 (Kd.int .u64)) _ 22 ?hg (N' := 56) ?hd (xs := ([t482, t485] : List (List Int))) (inner := [.slice Am1 t482.length cm1, .slice Am2 t485.length cm2]) (ok := (fun k_ => w32.heap.size ≤ k_)) (okp := (fun k_ => w32.heap.size ≤ k_)) ?hr ?hp (fun _ hk => hk) HS4.out (Below.refl _ _) (Nat.le_refl _) (by simp) ?_; (case hd => rfl); (case hg => rfl); (case hr => first | (go_simp; done) | (go_simp; rfl)); (case hp => exact (Reps.one (show Kd.FK (Kd.slice 49 (Kd.int .u64)) _ _ t482 [.slice Am1 t482.length cm1] from (Kd.FK_slice_mk (Kd.R_reads' HM1.out).2.1 (Kd.R_F HM1.out))) (Reps.one (show Kd.FK (Kd.slice 49 (Kd.int .u64)) _ _ t485 [.slice Am2 t485.length cm2] from (Kd.FK_slice_mk (Kd.R_reads' HM2.out).2.1 (Kd.R_F HM2.out))) (Reps.none _ _)))); intro vm w37 ho38 hb hg_ hnew_; clear hg_ hnew_; (first | rw [← Ny488.out] at ho38 | (simp only [Int.reduceToNat] at ho38; rw [← Ny488.out] at ho38)); clear HM1 HM2; have mHA_ := A_ (Kd.R_below HA.out hb); clear HA; have HA := mHA_; clear mHA_; have mHBv_ := A_ (Kd.R_below HBv.out hb); clear HBv; have HBv := mHBv_; clear mHBv_; have mHT_ := A_ (Kd.S_below HT.out hb); clear HT; have HT := mHT_; clear mHT_; have mHZ_ := A_ (Kd.R_below HZ.out hb); clear HZ; have HZ := mHZ_; clear mHZ_; have mHV_ := A_ (Kd.R_below HV.out hb); clear HV; have HV := mHV_; clear mHV_; have mHB_ := A_ (below_step hb_ hb); clear HB; have HB := mHB_; clear mHB_; have mB_ := A_ (Below.trans HB27.out (hb.mono HB27.out.size)); clear HB27; have HB27 := mB_; clear mB_; have HM := A_ (Kd.N_bound ho38); have HS5 := A_ (Nat.le_trans HS4.out hb.size); clear HS4; have HS4 := HS5; clear HS5; clear ho38 hb; obtain ⟨Am, cm, em⟩ := Kd.N_slice HM.out; subst em) | (go_at_call 9; (with_reducible refine (tree_Remainders.callsT k a0 (fun _ => True) _ _ t467 (fun k_ => w32.heap.size ≤ k_ ∧ k_ < w37.heap.size) _ _ y488 t491 t494 _ ?side1 ?side2 A11.out).mono ?_); (case side1 => exact Kd.R_V HBv.out); (case side2 => exact Kd.N_V HM.out); rintro e w40 ⟨vr, rfl, hr, hb⟩; have mHA_ := A_ (Kd.R_below HA.out hb); clear HA; have HA := mHA_; clear mHA_; have mHBv_ := A_ (Kd.R_below HBv.out hb); clear HBv; have HBv := mHBv_; clear mHBv_; have mHT_ := A_ (Kd.S_below HT.out hb); clear HT; have HT := mHT_; clear mHT_; have mHZ_ := A_ (Kd.R_below HZ.out hb); clear HZ; have HZ := mHZ_; clear mHZ_; have mHV_ := A_ (Kd.R_below HV.out hb); clear HV; have HV := mHV_; clear mHV_; have mHM_ := A_ (Kd.N_below HM.out hb); clear HM; have HM := mHM_; clear mHM_; have mHB_ := A_ (below_step hb_ hb); clear HB; have HB := mHB_; clear mHB_; have mB_ := A_ (Below.trans HB27.out (hb.mono HB27.out.size)); clear HB27; have HB27 := mB_; clear mB_; have HR := A_ (Kd.S_mono (ok' := fun k_ => w37.heap.size ≤ k_) (Kd.S_bound hr) (fun _ h_ => h_.2.1)); have HS5 := A_ hb.size; clear hr hb)))
        obtain ⟨At, ct, et⟩ := Kd.S_slice HT.out
        subst et
        obtain ⟨hoT_, hoZ_, hoV_, hoR_⟩ := fresh_parts c12b0
        have HX := Aside0.mk hoT_
        have HZl := Aside0.mk hoZ_
        have HVl := Aside0.mk hoV_
        have HRl := Aside0.mk hoR_
        clear hoT_ hoZ_ hoV_ hoR_
        have HK := A_ (Kept.refl w40 (fun k_ => w27.heap.size ≤ k_ ∧ k_ < w29.heap.size))
        go_loopg [19] (t470.length + 1) (fun g v19 w' => ∃ (x19_1 : Int) (X_1 : List (List (List Int))), v19 = .int .i64 x19_1 ∧ Aside0 (0 ≤ x19_1 ∧ x19_1 ≤ t470.length ∧ (t470.length : Int) + 1 ≤ x19_1 + g) ∧ Aside0 (okT X_1) ∧ Aside0 (Kd.S (sliceS 22 (Kd.slice 49 (Kd.int .u64))) 23 w' w27.heap.size (fun k_ => k_ < w29.heap.size) (.slice At t470.length ct) X_1) ∧ Aside0 (Kept w40 w' (fun k_ => w27.heap.size ≤ k_ ∧ k_ < w29.heap.size)) ∧ Aside0 (Below w27.heap.size w27 w'))
        case atStart => exact ⟨(0), t470, (fs_), ⟨by omega⟩, HX, ⟨mS_ HT.out⟩, ⟨HK.out⟩, ⟨HB27.out⟩⟩
        case round =>
         clear HX HT HK HB27
         obtain ⟨x19_1, X_1, rfl, HI, HX, HT, HK, HB27⟩ := hrel
         have hl1 : X_1.length = t470.length := (Kd.S_reads' HT.out).1.symm
         obtain ⟨i0_, i1_, i2_⟩ := HI.out
         clear HI
         obtain ⟨g1, rfl⟩ : ∃ g1, gk = g1 + 1 := ⟨gk - 1, by omega⟩
         have hb1 := HX.out.1
         by_cases c27 : x19_1 < (t470.length : Int)
         ·have c27b0 : decide (x19_1 < (t470.length : Int)) = true := decide_eq_true c27
          go_wp2
          repeat (go_quiet (fail); try go_wp2)
          go_loopg [20] ((rd_L2 X_1 x19_1).length + 1) (fun g v20 w' => ∃ (x20_2 : Int) (X_2 : List (List (List Int))), v20 = .int .i64 x20_2 ∧ Aside0 (0 ≤ x20_2 ∧ x20_2 ≤ (rd_L2 X_1 x19_1).length ∧ ((rd_L2 X_1 x19_1).length : Int) + 1 ≤ x20_2 + g) ∧ Aside0 ((rd_L2 X_2 x19_1).length = (rd_L2 X_1 x19_1).length) ∧ Aside0 (okT X_2) ∧ Aside0 (Kd.S (sliceS 22 (Kd.slice 49 (Kd.int .u64))) 23 w' w27.heap.size (fun k_ => k_ < w29.heap.size) (.slice At t470.length ct) X_2) ∧ Aside0 (Kept w40 w' (fun k_ => w27.heap.size ≤ k_ ∧ k_ < w29.heap.size)) ∧ Aside0 (Below w27.heap.size w27 w'))
          case atStart => exact ⟨(0), X_1, (fs_), ⟨by omega⟩, ⟨rfl⟩, HX, ⟨mS_ HT.out⟩, ⟨HK.out⟩, ⟨HB27.out⟩⟩
          case round =>
           have hok1 := (okT_row HX.out i0_ (by omega : x19_1 < X_1.length)).1
           clear HX HT HK HB27
           obtain ⟨x20_2, X_2, rfl, HJ, HE, HX, HT, HK, HB27⟩ := hrel
           have hl2 : X_2.length = t470.length := (Kd.S_reads' HT.out).1.symm
           obtain ⟨j0_, j1_, j2_⟩ := HJ.out
           clear HJ
           obtain ⟨g2, rfl⟩ : ∃ g2, gk = g2 + 1 := ⟨gk - 1, by omega⟩
           have hok2 := okT_row HX.out i0_ (by omega : x19_1 < X_2.length)
           have hb2 := hok2.1
           obtain ⟨ad495, A495_0, c495_0, e495, hx495_0, hl495_0, hi495_0, hs495⟩ := S2_at HT.out x19_1 i0_ (by omega)
           cases e495
           have p495 := eq_true i0_
           have q495 := eq_true c27
           by_cases c31 : x20_2 < ((rd_L2 X_2 x19_1).length : Int)
           ·have c31b0 : decide (x20_2 < ((rd_L2 X_2 x19_1).length : Int)) = true := decide_eq_true c31
            obtain ⟨kc, hkc⟩ := Tot.rows_k _ hok2
            obtain ⟨ks, hks⟩ := Tot.spoil_k (rd_L1 (rd_L2 X_2 x19_1) x20_2) 9 (okR_row hok2 j0_ c31)
            obtain ⟨ad496, A496_0, c496_0, e496, hx496_0, hl496_0, hi496_0, hr496⟩ := S1_at hs495 x20_2 j0_ c31
            cases e496
            have p496 := eq_true j0_
            have q496 := eq_true c31
            have HR496 := A_ hr496
            have HS495 := A_ hs495
            clear hr496 hs495
            go_wp2_with (first | (go_at_call 29; (with_reducible refine (cr1_CopyRows.calls kc _ _ (rd_L2 X_2 x19_1) (rd_L2 X_2 x19_1) _ ?side1 ?side2 hkc).mono ?_); (case side1 => exact hi495_0); (case side2 => exact hl495_0); rintro e w33 ⟨vk, rfl, ho0, hb⟩; have HO := A_ (Kd.S_mono (ok' := fun k_ => wr.heap.size ≤ k_) (Kd.S_bound ho0) (fun _ h_ => h_.2.1)); have mA_ := A_ (Kd.S_below HT.out hb); have mB_ := A_ (Kept.below HK.out hb); have mC_ := A_ (Below.trans HB27.out (hb.mono HB27.out.size)); have mD_ := A_ (Kd.R_below HR496.out hb); have mE_ := (hb.cell (World.block_lt_of_cell? _ _ hx495_0)).trans hx495_0; have mF_ := (hb.cell (World.block_lt_of_cell? _ _ hx496_0)).trans hx496_0; have HL496 := A_ (Kd.R_lt HR496.out); clear HT HK HB27 HR496 HS495 hx495_0 hx496_0 hi495_0 hi496_0 ho0 hb; have HT := mA_; have HK := mB_; have HB27 := mC_; have HR496 := mD_; have hx495_0 := mE_; have hx496_0 := mF_; clear mA_ mB_ mC_ mD_ mE_ mF_) | (go_at_call 30; (with_reducible refine (cr1_Spoil.callsT ks (fun k_ => some k_ = (.slice A496_0 (rd_L1 (rd_L2 X_2 x19_1) x20_2).length c496_0 : Value).ownBlock) (.slice A496_0 (rd_L1 (rd_L2 X_2 x19_1) x20_2).length c496_0) (rd_L1 (rd_L2 X_2 x19_1) x20_2) 9 w27 _ ?side1 ?side2 hks).mono ?_); (case side1 => exact HB27.out); (case side2 => exact Kd.R_tight rfl HR496.out); rintro e w34_ ⟨rfl, hb, hkp, ls, hRs, hls⟩; have HSP := A_ hb; have HKP := A_ hkp; have HRS := A_ hRs; have HLS := A_ hls; clear hb hkp hRs hls))
            repeat (go_quiet (first | (go_at_call 29; (with_reducible refine (cr1_CopyRows.calls kc _ _ (rd_L2 X_2 x19_1) (rd_L2 X_2 x19_1) _ ?side1 ?side2 hkc).mono ?_); (case side1 => exact hi495_0); (case side2 => exact hl495_0); rintro e w33 ⟨vk, rfl, ho0, hb⟩; have HO := A_ (Kd.S_mono (ok' := fun k_ => wr.heap.size ≤ k_) (Kd.S_bound ho0) (fun _ h_ => h_.2.1)); have mA_ := A_ (Kd.S_below HT.out hb); have mB_ := A_ (Kept.below HK.out hb); have mC_ := A_ (Below.trans HB27.out (hb.mono HB27.out.size)); have mD_ := A_ (Kd.R_below HR496.out hb); have mE_ := (hb.cell (World.block_lt_of_cell? _ _ hx495_0)).trans hx495_0; have mF_ := (hb.cell (World.block_lt_of_cell? _ _ hx496_0)).trans hx496_0; have HL496 := A_ (Kd.R_lt HR496.out); clear HT HK HB27 HR496 HS495 hx495_0 hx496_0 hi495_0 hi496_0 ho0 hb; have HT := mA_; have HK := mB_; have HB27 := mC_; have HR496 := mD_; have hx495_0 := mE_; have hx496_0 := mF_; clear mA_ mB_ mC_ mD_ mE_ mF_) | (go_at_call 30; (with_reducible refine (cr1_Spoil.callsT ks (fun k_ => some k_ = (.slice A496_0 (rd_L1 (rd_L2 X_2 x19_1) x20_2).length c496_0 : Value).ownBlock) (.slice A496_0 (rd_L1 (rd_L2 X_2 x19_1) x20_2).length c496_0) (rd_L1 (rd_L2 X_2 x19_1) x20_2) 9 w27 _ ?side1 ?side2 hks).mono ?_); (case side1 => exact HB27.out); (case side2 => exact Kd.R_tight rfl HR496.out); rintro e w34_ ⟨rfl, hb, hkp, ls, hRs, hls⟩; have HSP := A_ hb; have HKP := A_ hkp; have HRS := A_ hRs; have HLS := A_ hls; clear hb hkp hRs hls)); try go_wp2_with (first | (go_at_call 29; (with_reducible refine (cr1_CopyRows.calls kc _ _ (rd_L2 X_2 x19_1) (rd_L2 X_2 x19_1) _ ?side1 ?side2 hkc).mono ?_); (case side1 => exact hi495_0); (case side2 => exact hl495_0); rintro e w33 ⟨vk, rfl, ho0, hb⟩; have HO := A_ (Kd.S_mono (ok' := fun k_ => wr.heap.size ≤ k_) (Kd.S_bound ho0) (fun _ h_ => h_.2.1)); have mA_ := A_ (Kd.S_below HT.out hb); have mB_ := A_ (Kept.below HK.out hb); have mC_ := A_ (Below.trans HB27.out (hb.mono HB27.out.size)); have mD_ := A_ (Kd.R_below HR496.out hb); have mE_ := (hb.cell (World.block_lt_of_cell? _ _ hx495_0)).trans hx495_0; have mF_ := (hb.cell (World.block_lt_of_cell? _ _ hx496_0)).trans hx496_0; have HL496 := A_ (Kd.R_lt HR496.out); clear HT HK HB27 HR496 HS495 hx495_0 hx496_0 hi495_0 hi496_0 ho0 hb; have HT := mA_; have HK := mB_; have HB27 := mC_; have HR496 := mD_; have hx495_0 := mE_; have hx496_0 := mF_; clear mA_ mB_ mC_ mD_ mE_ mF_) | (go_at_call 30; (with_reducible refine (cr1_Spoil.callsT ks (fun k_ => some k_ = (.slice A496_0 (rd_L1 (rd_L2 X_2 x19_1) x20_2).length c496_0 : Value).ownBlock) (.slice A496_0 (rd_L1 (rd_L2 X_2 x19_1) x20_2).length c496_0) (rd_L1 (rd_L2 X_2 x19_1) x20_2) 9 w27 _ ?side1 ?side2 hks).mono ?_); (case side1 => exact HB27.out); (case side2 => exact Kd.R_tight rfl HR496.out); rintro e w34_ ⟨rfl, hb, hkp, ls, hRs, hls⟩; have HSP := A_ hb; have HKP := A_ hkp; have HRS := A_ hRs; have HLS := A_ hls; clear hb hkp hRs hls)))
            have hbz := HR496.out
            have HOW := A_ (fun k_ hk_ => ⟨Kd.R_base hbz k_ hk_, hbz.1 k_ hk_⟩ : ∀ k_, (.slice A496_0 (rd_L1 (rd_L2 X_2 x19_1) x20_2).length c496_0 : Value).ownBlock = some k_ → w27.heap.size ≤ k_ ∧ k_ < w29.heap.size)
            clear hbz
            obtain ⟨X_3, hX3⟩ : ∃ X_, X_ = X_2.set x19_1.toNat ((rd_L2 X_2 x19_1).set x20_2.toNat ls) := ⟨_, rfl⟩
            have HT3 := A_ (S2_back HT.out x19_1 i0_ (by omega) hx495_0 x20_2 j0_ c31 hx496_0 HKP.out HRS.out)
            rw [← hX3] at HT3
            have HX3 : Aside0 (okT X_3) := ⟨by rw [hX3]; exact okT_set HX.out _ (okR_set hok2 _ (by rw [HLS.out]; exact okR_row hok2 j0_ c31))⟩
            have HE3 : Aside0 ((rd_L2 X_3 x19_1).length = (rd_L2 X_2 x19_1).length) := ⟨by rw [hX3, rd_L2_set i0_ (by omega), List.length_set]⟩
            have HQ3 : Aside0 (∀ n_ : Int, x20_2 < n_ → rd_L1 (rd_L2 X_3 x19_1) n_ = rd_L1 (rd_L2 X_2 x19_1) n_) := ⟨fun n_ hn_ => by rw [hX3, rd_L2_set i0_ (by omega), rd_L1_set j0_ hn_]⟩
            have HN3 : Aside0 (X_3.length = t470.length) := ⟨by rw [hX3, List.length_set]; exact hl2⟩
            have HK3 := A_ (HK.out.then_ HKP.out (fun k_ hk_ => .inl (HOW.out k_ hk_.symm)))
            have HO3 := A_ (Kd.S_mono (ok' := fun _ => True) (Kd.S_kept HO.out HKP.out (fun k_ hk_ he_ => by have := HL496.out k_ he_.symm; omega)) (fun _ _ => trivial))
            clear hX3 HT HX HK HB27 HO HKP HRS HLS HL496 HR496 hx495_0 hx496_0 hkc hks HOW hl495_0 hl496_0
            go_loopg [22] ((rd_L2 X_2 x19_1).length + 1) (fun g v22 w' => ∃ (x22_3 : Int), v22 = .int .i64 x22_3 ∧ Aside0 (x20_2 < x22_3 ∧ x22_3 ≤ (rd_L2 X_2 x19_1).length ∧ ((rd_L2 X_2 x19_1).length : Int) + 1 ≤ x22_3 + g) ∧ Aside0 (Kd.S (sliceS 22 (Kd.slice 49 (Kd.int .u64))) 23 w' w27.heap.size (fun k_ => k_ < w29.heap.size) (.slice (some ad495) t470.length ct) X_3) ∧ Aside0 (Kd.S (Kd.slice 49 (Kd.int .u64)) 22 w' wr.heap.size (fun _ => True) vk (rd_L2 X_2 x19_1)) ∧ Aside0 (Kept w40 w' (fun k_ => w27.heap.size ≤ k_ ∧ k_ < w29.heap.size)) ∧ Aside0 (Below w27.heap.size w27 w'))
            case atStart => exact ⟨(x20_2 + 1), (by first | rfl | (rw [i64_w, wrap_succ (by omega) (by omega)]) | (simp; done)), ⟨by omega⟩, ⟨mS_ HT3.out⟩, ⟨mS_ HO3.out⟩, ⟨HK3.out⟩, ⟨HSP.out⟩⟩
            case round =>
             clear HT3 HO3 HK3 HSP
             obtain ⟨x22_3, rfl, HN, HT, HO, HK, HB27⟩ := hrel
             obtain ⟨n0_, n1_, n2_⟩ := HN.out
             clear HN
             obtain ⟨g3, rfl⟩ : ∃ g3, gk = g3 + 1 := ⟨gk - 1, by omega⟩
             obtain ⟨ad500, A500_0, c500_0, e500, hx500_0, hl500_0, hi500_0, hs500⟩ := S2_at HT.out x19_1 i0_ (by have := HN3.out; omega)
             obtain rfl : ad495 = ad500 := (by injection e500)
             clear e500
             by_cases c36 : x22_3 < ((rd_L2 X_3 x19_1).length : Int)
             ·have c36b0 : decide (x22_3 < ((rd_L2 X_3 x19_1).length : Int)) = true := decide_eq_true c36
              obtain ⟨ad502, A502_0, c502_0, e502, hx502_0, hl502_0, hi502_0, hr502⟩ := S1_at hs500 x22_3 (by omega) c36
              cases e502
              clear hr502 hs500
              obtain ⟨Ao41, co41, eo41⟩ := Kd.S_slice HO.out
              subst eo41
              have c36' : x22_3 < ((rd_L2 X_2 x19_1).length : Int) := by have := HE3.out; omega
              obtain ⟨ad503, A503_0, c503_0, e503, hx503_0, hl503_0, hi503_0, hr503⟩ := S1_at HO.out x22_3 (by omega) c36'
              cases e503
              clear hr503
              obtain ⟨kS, hkS⟩ : ∃ kS, cr1_Same.f kS (rd_L1 (rd_L2 X_3 x19_1) x22_3) (rd_L1 (rd_L2 X_2 x19_1) x22_3) = some true := by rw [HQ3.out x22_3 n0_]; exact Tot.same_k _ (okR_row hok2 (by omega) c36')
              have p502 : (0 ≤ x22_3) = True := eq_true (by omega)
              have q502 := eq_true c36
              have q503 := eq_true c36'
              go_wp2_with (first | (go_at_call 14; (with_reducible refine (cr1_Same.calls kS _ _ (rd_L1 (rd_L2 X_3 x19_1) x22_3) _ _ (rd_L1 (rd_L2 X_2 x19_1) x22_3) true _ ?side1 ?side2 ?side3 ?side4 hkS).mono ?_); (case side1 => repeat (first | exact hi502_0 | (with_reducible refine Kd.C_alloc ?_ _) | (with_reducible refine Kd.C_drewN ?_ _) | (with_reducible refine Kd.C_drew ?_))); (case side2 => exact hl502_0); (case side3 => repeat (first | exact hi503_0 | (with_reducible refine Kd.C_alloc ?_ _) | (with_reducible refine Kd.C_drewN ?_ _) | (with_reducible refine Kd.C_drew ?_))); (case side4 => exact hl503_0); rintro e w' ⟨rfl, ⟨nd, rfl⟩⟩; (try first | exact ⟨rfl, _, World.drewN_drewN _ _ _⟩ | exact ⟨rfl, _, Eq.trans (World.drewN_drewN _ _ _) (congrArg (World.drewN _) (Nat.add_assoc _ _ _))⟩)))
              repeat (go_quiet (first | (go_at_call 14; (with_reducible refine (cr1_Same.calls kS _ _ (rd_L1 (rd_L2 X_3 x19_1) x22_3) _ _ (rd_L1 (rd_L2 X_2 x19_1) x22_3) true _ ?side1 ?side2 ?side3 ?side4 hkS).mono ?_); (case side1 => repeat (first | exact hi502_0 | (with_reducible refine Kd.C_alloc ?_ _) | (with_reducible refine Kd.C_drewN ?_ _) | (with_reducible refine Kd.C_drew ?_))); (case side2 => exact hl502_0); (case side3 => repeat (first | exact hi503_0 | (with_reducible refine Kd.C_alloc ?_ _) | (with_reducible refine Kd.C_drewN ?_ _) | (with_reducible refine Kd.C_drew ?_))); (case side4 => exact hl503_0); rintro e w' ⟨rfl, ⟨nd, rfl⟩⟩; (try first | exact ⟨rfl, _, World.drewN_drewN _ _ _⟩ | exact ⟨rfl, _, Eq.trans (World.drewN_drewN _ _ _) (congrArg (World.drewN _) (Nat.add_assoc _ _ _))⟩))); try go_wp2_with (first | (go_at_call 14; (with_reducible refine (cr1_Same.calls kS _ _ (rd_L1 (rd_L2 X_3 x19_1) x22_3) _ _ (rd_L1 (rd_L2 X_2 x19_1) x22_3) true _ ?side1 ?side2 ?side3 ?side4 hkS).mono ?_); (case side1 => repeat (first | exact hi502_0 | (with_reducible refine Kd.C_alloc ?_ _) | (with_reducible refine Kd.C_drewN ?_ _) | (with_reducible refine Kd.C_drew ?_))); (case side2 => exact hl502_0); (case side3 => repeat (first | exact hi503_0 | (with_reducible refine Kd.C_alloc ?_ _) | (with_reducible refine Kd.C_drewN ?_ _) | (with_reducible refine Kd.C_drew ?_))); (case side4 => exact hl503_0); rintro e w' ⟨rfl, ⟨nd, rfl⟩⟩; (try first | exact ⟨rfl, _, World.drewN_drewN _ _ _⟩ | exact ⟨rfl, _, Eq.trans (World.drewN_drewN _ _ _) (congrArg (World.drewN _) (Nat.add_assoc _ _ _))⟩))))
              go_roundg g3
              case measure => omega
              case rel => exact ⟨(x22_3 + 1), (by first | rfl | (rw [i64_w, wrap_succ (by omega) (by omega)]) | (simp; done)), ⟨by omega⟩, ⟨mS_ HT.out⟩, ⟨mS_ HO.out⟩, ⟨by repeat (first | (with_reducible first | exact HK.out | apply Kept.alloc | apply Kept.drewN | apply Kept.drew) | exact HK.out)⟩, ⟨by repeat (first | (with_reducible first | exact HB27.out | apply below_alloc | apply pw_below_drewN | apply below_drew1) | exact HB27.out)⟩⟩
             ·have c36b0 : decide (x22_3 < ((rd_L2 X_3 x19_1).length : Int)) = false := decide_eq_false c36
              go_wp2
              repeat (go_quiet (fail); try go_wp2)
              go_roundg g2
              case measure => omega
              case rel => exact ⟨(x20_2 + 1), X_3, (by first | rfl | (rw [i64_w, wrap_succ (by omega) (by omega)]) | (simp; done)), ⟨by have := HE.out; omega⟩, ⟨HE3.out.trans HE.out⟩, HX3, ⟨mS_ HT.out⟩, ⟨by repeat (first | (with_reducible first | exact HK.out | apply Kept.alloc | apply Kept.drewN | apply Kept.drew) | exact HK.out)⟩, ⟨by repeat (first | (with_reducible first | exact HB27.out | apply below_alloc | apply pw_below_drewN | apply below_drew1) | exact HB27.out)⟩⟩
           ·have c31b0 : decide (x20_2 < ((rd_L2 X_2 x19_1).length : Int)) = false := decide_eq_false c31
            go_wp2
            repeat (go_quiet (fail); try go_wp2)
            go_roundg g1
            case measure => omega
            case rel => exact ⟨(x19_1 + 1), X_2, (by first | rfl | (rw [i64_w, wrap_succ (by omega) (by omega)]) | (simp; done)), ⟨by omega⟩, HX, ⟨mS_ HT.out⟩, ⟨by repeat (first | (with_reducible first | exact HK.out | apply Kept.alloc | apply Kept.drewN | apply Kept.drew) | exact HK.out)⟩, ⟨by repeat (first | (with_reducible first | exact HB27.out | apply below_alloc | apply pw_below_drewN | apply below_drew1) | exact HB27.out)⟩⟩
         ·have c27b0 : decide (x19_1 < (t470.length : Int)) = false := decide_eq_false c27
          have s1_ := HS1.out
          have s2_ := HS2.out
          have s3_ := HS3.out
          have s4_ := HS4.out
          have s5_ := HS5.out
          have HZ2 := A_ (Kd.R_lower (Kd.R_kept (Kd.R_bound HZ.out) HK.out (fun k_ hk_ h_ => by have := hk_.2.1; have := h_.2; omega)) s1_)
          have HV2 := A_ (Kd.R_lower (Kd.R_kept (Kd.R_bound HV.out) HK.out (fun k_ hk_ h_ => by have := hk_.2.1; have := h_.2; omega)) (by omega : w27.heap.size ≤ w30.heap.size))
          have HR2 := A_ (Kd.S_lower (Kd.S_kept HR.out HK.out (fun k_ hk_ h_ => by have := h_.2; omega)) (by omega : w27.heap.size ≤ w37.heap.size))
          have HKa := A_ (HK.out.mono (S' := fun k_ => (w27.heap.size ≤ k_ ∧ k_ < w32.heap.size) ∨ w37.heap.size ≤ k_) (fun k_ hk_ => .inl ⟨hk_.1, by have := hk_.2; omega⟩))
          clear HK HT HX HZ HV HR
          have HK := HKa
          clear HKa
          obtain ⟨kz, hkz⟩ := Tot.spoil_k t474 8 HZl.out
          obtain ⟨kv, hkv⟩ := Tot.spoil_k t478 7 HVl.out
          obtain ⟨Az, cz, ez⟩ := Kd.R_slice HZ2.out
          subst ez
          obtain ⟨Av, cv, ev⟩ := Kd.R_slice HV2.out
          subst ev
          obtain ⟨Ar, cr, er⟩ := Kd.S_slice HR2.out
          subst er
          go_wp2_with (first | (go_at_call 30; (with_reducible refine (cr1_Spoil.calls kz (fun k_ => some k_ = (.slice Az t474.length cz : Value).ownBlock) (.slice Az t474.length cz) t474 8 w27 _ ?side1 ?side2 hkz).mono ?_); (case side1 => exact HB27.out); (case side2 => exact Kd.R_tight rfl HZ2.out); rintro e w51 ⟨rfl, hb, hkp⟩; have mA_ := A_ (Kd.R_kept HV2.out hkp (fun k_ hk_ h_ => by have := (HZ2.out.1 k_ h_.symm).1; have := hk_.2.1; omega)); have mB_ := A_ (Kd.S_kept HR2.out hkp (fun k_ hk_ h_ => by have := (HZ2.out.1 k_ h_.symm).1; omega)); have mC_ := A_ (HK.out.then_ hkp (fun k_ hk_ => .inl (.inl ⟨Kd.R_base HZ2.out k_ hk_.symm, by have := (HZ2.out.1 k_ hk_.symm).1; omega⟩))); have mD_ := A_ hb; clear HV2 HR2 HK HB27 HZ2 hb hkp; have HV2 := mA_; have HR2 := mB_; have HK := mC_; have HB27 := mD_; clear mA_ mB_ mC_ mD_) | (go_at_call 30; (with_reducible refine (cr1_Spoil.calls kv (fun k_ => some k_ = (.slice Av t478.length cv : Value).ownBlock) (.slice Av t478.length cv) t478 7 w27 _ ?side1 ?side2 hkv).mono ?_); (case side1 => exact HB27.out); (case side2 => exact Kd.R_tight rfl HV2.out); rintro e w52 ⟨rfl, hb, hkp⟩; have mB_ := A_ (Kd.S_kept HR2.out hkp (fun k_ hk_ h_ => by have := (HV2.out.1 k_ h_.symm).1; omega)); have mC_ := A_ (HK.out.then_ hkp (fun k_ hk_ => .inl (.inl ⟨Kd.R_base HV2.out k_ hk_.symm, by have := (HV2.out.1 k_ hk_.symm).1; omega⟩))); have mD_ := A_ hb; clear HV2 HR2 HK HB27 hb hkp; have HR2 := mB_; have HK := mC_; have HB27 := mD_; clear mB_ mC_ mD_))
          repeat (go_quiet (first | (go_at_call 30; (with_reducible refine (cr1_Spoil.calls kz (fun k_ => some k_ = (.slice Az t474.length cz : Value).ownBlock) (.slice Az t474.length cz) t474 8 w27 _ ?side1 ?side2 hkz).mono ?_); (case side1 => exact HB27.out); (case side2 => exact Kd.R_tight rfl HZ2.out); rintro e w51 ⟨rfl, hb, hkp⟩; have mA_ := A_ (Kd.R_kept HV2.out hkp (fun k_ hk_ h_ => by have := (HZ2.out.1 k_ h_.symm).1; have := hk_.2.1; omega)); have mB_ := A_ (Kd.S_kept HR2.out hkp (fun k_ hk_ h_ => by have := (HZ2.out.1 k_ h_.symm).1; omega)); have mC_ := A_ (HK.out.then_ hkp (fun k_ hk_ => .inl (.inl ⟨Kd.R_base HZ2.out k_ hk_.symm, by have := (HZ2.out.1 k_ hk_.symm).1; omega⟩))); have mD_ := A_ hb; clear HV2 HR2 HK HB27 HZ2 hb hkp; have HV2 := mA_; have HR2 := mB_; have HK := mC_; have HB27 := mD_; clear mA_ mB_ mC_ mD_) | (go_at_call 30; (with_reducible refine (cr1_Spoil.calls kv (fun k_ => some k_ = (.slice Av t478.length cv : Value).ownBlock) (.slice Av t478.length cv) t478 7 w27 _ ?side1 ?side2 hkv).mono ?_); (case side1 => exact HB27.out); (case side2 => exact Kd.R_tight rfl HV2.out); rintro e w52 ⟨rfl, hb, hkp⟩; have mB_ := A_ (Kd.S_kept HR2.out hkp (fun k_ hk_ h_ => by have := (HV2.out.1 k_ h_.symm).1; omega)); have mC_ := A_ (HK.out.then_ hkp (fun k_ hk_ => .inl (.inl ⟨Kd.R_base HV2.out k_ hk_.symm, by have := (HV2.out.1 k_ hk_.symm).1; omega⟩))); have mD_ := A_ hb; clear HV2 HR2 HK HB27 hb hkp; have HR2 := mB_; have HK := mC_; have HB27 := mD_; clear mB_ mC_ mD_)); try go_wp2_with (first | (go_at_call 30; (with_reducible refine (cr1_Spoil.calls kz (fun k_ => some k_ = (.slice Az t474.length cz : Value).ownBlock) (.slice Az t474.length cz) t474 8 w27 _ ?side1 ?side2 hkz).mono ?_); (case side1 => exact HB27.out); (case side2 => exact Kd.R_tight rfl HZ2.out); rintro e w51 ⟨rfl, hb, hkp⟩; have mA_ := A_ (Kd.R_kept HV2.out hkp (fun k_ hk_ h_ => by have := (HZ2.out.1 k_ h_.symm).1; have := hk_.2.1; omega)); have mB_ := A_ (Kd.S_kept HR2.out hkp (fun k_ hk_ h_ => by have := (HZ2.out.1 k_ h_.symm).1; omega)); have mC_ := A_ (HK.out.then_ hkp (fun k_ hk_ => .inl (.inl ⟨Kd.R_base HZ2.out k_ hk_.symm, by have := (HZ2.out.1 k_ hk_.symm).1; omega⟩))); have mD_ := A_ hb; clear HV2 HR2 HK HB27 HZ2 hb hkp; have HV2 := mA_; have HR2 := mB_; have HK := mC_; have HB27 := mD_; clear mA_ mB_ mC_ mD_) | (go_at_call 30; (with_reducible refine (cr1_Spoil.calls kv (fun k_ => some k_ = (.slice Av t478.length cv : Value).ownBlock) (.slice Av t478.length cv) t478 7 w27 _ ?side1 ?side2 hkv).mono ?_); (case side1 => exact HB27.out); (case side2 => exact Kd.R_tight rfl HV2.out); rintro e w52 ⟨rfl, hb, hkp⟩; have mB_ := A_ (Kd.S_kept HR2.out hkp (fun k_ hk_ h_ => by have := (HV2.out.1 k_ h_.symm).1; omega)); have mC_ := A_ (HK.out.then_ hkp (fun k_ hk_ => .inl (.inl ⟨Kd.R_base HV2.out k_ hk_.symm, by have := (HV2.out.1 k_ hk_.symm).1; omega⟩))); have mD_ := A_ hb; clear HV2 HR2 HK HB27 hb hkp; have HR2 := mB_; have HK := mC_; have HB27 := mD_; clear mB_ mC_ mD_)))
          go_loopg [23] (t491.length + 1) (fun g v23 w' => ∃ (x23_1 : Int) (Y_1 : List (List Int)), v23 = .int .i64 x23_1 ∧ Aside0 (0 ≤ x23_1 ∧ x23_1 ≤ t491.length ∧ (t491.length : Int) + 1 ≤ x23_1 + g) ∧ Aside0 (okR Y_1) ∧ Aside0 (Kd.S (Kd.slice 49 (Kd.int .u64)) 22 w' w27.heap.size (fun k_ => w37.heap.size ≤ k_) (.slice Ar t491.length cr) Y_1) ∧ Aside0 (Kept w40 w' (fun k_ => (w27.heap.size ≤ k_ ∧ k_ < w32.heap.size) ∨ w37.heap.size ≤ k_)) ∧ Aside0 (Below w27.heap.size w27 w'))
          case atStart => exact ⟨(0), t491, (fs_), ⟨by omega⟩, HRl, ⟨mS_ HR2.out⟩, ⟨HK.out⟩, ⟨HB27.out⟩⟩
          case round =>
           clear HR2 HK HB27 HRl
           obtain ⟨x23_1, Y_1, rfl, HI, HX, HT, HK, HB27⟩ := hrel
           have hy1 : Y_1.length = t491.length := (Kd.S_reads' HT.out).1.symm
           obtain ⟨r0_, r1_, r2_⟩ := HI.out
           clear HI
           obtain ⟨g4, rfl⟩ : ∃ g4, gk = g4 + 1 := ⟨gk - 1, by omega⟩
           have hb4 := HX.out.1
           by_cases c50 : x23_1 < (t491.length : Int)
           ·have c50b0 : decide (x23_1 < (t491.length : Int)) = true := decide_eq_true c50
            obtain ⟨kr, hkr⟩ := Tot.spoil_k (rd_L1 Y_1 x23_1) 5 (okR_row HX.out r0_ (by omega))
            obtain ⟨ad510, A510_0, c510_0, e510, hx510_0, hl510_0, hi510_0, hr510⟩ := S1_at HT.out x23_1 r0_ (by omega)
            cases e510
            have p510 := eq_true r0_
            have q510 := eq_true c50
            have HR510 := A_ hr510
            clear hr510 hi510_0
            go_wp2_with (first | (go_at_call 30; (with_reducible refine (cr1_Spoil.callsT kr (fun k_ => some k_ = (.slice A510_0 (rd_L1 Y_1 x23_1).length c510_0 : Value).ownBlock) (.slice A510_0 (rd_L1 Y_1 x23_1).length c510_0) (rd_L1 Y_1 x23_1) 5 w27 _ ?side1 ?side2 hkr).mono ?_); (case side1 => exact HB27.out); (case side2 => exact Kd.R_tight rfl HR510.out); rintro e w53 ⟨rfl, hb, hkp, ls, hRs, hls⟩; have mA_ := A_ (S1_back HT.out x23_1 r0_ (by omega) hx510_0 hkp hRs); have mB_ := A_ (okR_set HX.out x23_1.toNat (l := ls) (by rw [hls]; exact okR_row HX.out r0_ (by omega))); have mC_ := A_ (HK.out.then_ hkp (fun k_ hk_ => .inl (.inr (HR510.out.1 k_ hk_.symm)))); have mD_ := A_ hb; clear HT HX HK HB27 HR510 hb hkp hRs hls hx510_0; have HT := mA_; have HX := mB_; have HK := mC_; have HB27 := mD_; clear mA_ mB_ mC_ mD_))
            repeat (go_quiet (first | (go_at_call 30; (with_reducible refine (cr1_Spoil.callsT kr (fun k_ => some k_ = (.slice A510_0 (rd_L1 Y_1 x23_1).length c510_0 : Value).ownBlock) (.slice A510_0 (rd_L1 Y_1 x23_1).length c510_0) (rd_L1 Y_1 x23_1) 5 w27 _ ?side1 ?side2 hkr).mono ?_); (case side1 => exact HB27.out); (case side2 => exact Kd.R_tight rfl HR510.out); rintro e w53 ⟨rfl, hb, hkp, ls, hRs, hls⟩; have mA_ := A_ (S1_back HT.out x23_1 r0_ (by omega) hx510_0 hkp hRs); have mB_ := A_ (okR_set HX.out x23_1.toNat (l := ls) (by rw [hls]; exact okR_row HX.out r0_ (by omega))); have mC_ := A_ (HK.out.then_ hkp (fun k_ hk_ => .inl (.inr (HR510.out.1 k_ hk_.symm)))); have mD_ := A_ hb; clear HT HX HK HB27 HR510 hb hkp hRs hls hx510_0; have HT := mA_; have HX := mB_; have HK := mC_; have HB27 := mD_; clear mA_ mB_ mC_ mD_)); try go_wp2_with (first | (go_at_call 30; (with_reducible refine (cr1_Spoil.callsT kr (fun k_ => some k_ = (.slice A510_0 (rd_L1 Y_1 x23_1).length c510_0 : Value).ownBlock) (.slice A510_0 (rd_L1 Y_1 x23_1).length c510_0) (rd_L1 Y_1 x23_1) 5 w27 _ ?side1 ?side2 hkr).mono ?_); (case side1 => exact HB27.out); (case side2 => exact Kd.R_tight rfl HR510.out); rintro e w53 ⟨rfl, hb, hkp, ls, hRs, hls⟩; have mA_ := A_ (S1_back HT.out x23_1 r0_ (by omega) hx510_0 hkp hRs); have mB_ := A_ (okR_set HX.out x23_1.toNat (l := ls) (by rw [hls]; exact okR_row HX.out r0_ (by omega))); have mC_ := A_ (HK.out.then_ hkp (fun k_ hk_ => .inl (.inr (HR510.out.1 k_ hk_.symm)))); have mD_ := A_ hb; clear HT HX HK HB27 HR510 hb hkp hRs hls hx510_0; have HT := mA_; have HX := mB_; have HK := mC_; have HB27 := mD_; clear mA_ mB_ mC_ mD_)))
            go_roundg g4
            case measure => omega
            case rel => exact ⟨(x23_1 + 1), _, (by first | rfl | (rw [i64_w, wrap_succ (by omega) (by omega)]) | (simp; done)), ⟨by omega⟩, HX, ⟨mS_ HT.out⟩, ⟨by repeat (first | (with_reducible first | exact HK.out | apply Kept.alloc | apply Kept.drewN | apply Kept.drew) | exact HK.out)⟩, ⟨by repeat (first | (with_reducible first | exact HB27.out | apply below_alloc | apply pw_below_drewN | apply below_drew1) | exact HB27.out)⟩⟩
           ·have c50b0 : decide (x23_1 < (t491.length : Int)) = false := decide_eq_false c50
            have HA2 := A_ (Kd.R_kept (Kd.R_tight rfl HA.out) HK.out (fun k_ hk_ h_ => by have := HAl.out k_ hk_.symm; omega))
            have HBv2 := A_ (Kd.R_kept (Kd.R_tight rfl HBv.out) HK.out (fun k_ hk_ h_ => by have := HBl.out k_ hk_.symm; omega))
            have HM2 := A_ (Kd.N_kept HM.out HK.out (fun k_ hk_ h_ => by have := hk_.1; have := hk_.2; omega))
            have HBx := A_ (Below.trans HBw.out (HB27.out.mono HBw.out.size))
            clear HA HBv HM HB HK HB27 HT HX
            have HA := HA2
            have HBv := HBv2
            have HM := HM2
            have HB := HBx
            clear HA2 HBv2 HM2 HBx
            go_wp2_with (first | (go_at_call 20; (with_reducible refine (tree_Values.calls k a0 (fun _ => True) _ _ t464 (fun _ => True) _ _ t467 t495 t498 _ ?side1 ?side2 A13.out).mono ?_); (case side1 => exact Kd.V_mono (Kd.R_V HA.out) (fun _ _ => trivial)); (case side2 => exact Kd.V_mono (Kd.R_V HBv.out) (fun _ _ => trivial)); rintro e w41 ⟨vw, rfl, hw, hb⟩; have mHA_ := A_ (Kd.R_below HA.out hb); clear HA; have HA := mHA_; clear mHA_; have mHBv_ := A_ (Kd.R_below HBv.out hb); clear HBv; have HBv := mHBv_; clear mHBv_; have mHM_ := A_ (Kd.N_below HM.out hb); clear HM; have HM := mHM_; clear mHM_; have mHB_ := A_ (below_step hb_ hb); clear HB; have HB := mHB_; clear mHB_; have HW := A_ hw; clear hw hb) | (go_at_call 21; (with_reducible refine (cr6_Values.calls k a0 _ _ l1 _ _ l2 t499 t500 _ ?side1 ?side2 ?side3 ?side4 A14.out).mono ?_); (case side1 => repeat (first | exact (Kd.C_below HR1.out HB.out) | (with_reducible refine Kd.C_alloc ?_ _) | (with_reducible refine Kd.C_drewN ?_ _) | (with_reducible refine Kd.C_drew ?_))); (case side2 => exact HC1.out); (case side3 => repeat (first | exact (Kd.C_below HR2.out HB.out) | (with_reducible refine Kd.C_alloc ?_ _) | (with_reducible refine Kd.C_drewN ?_ _) | (with_reducible refine Kd.C_drew ?_))); (case side4 => exact HC2.out); rintro e w42 ⟨vx, rfl, hx, hb⟩; have mHA_ := A_ (Kd.R_below HA.out hb); clear HA; have HA := mHA_; clear mHA_; have mHBv_ := A_ (Kd.R_below HBv.out hb); clear HBv; have HBv := mHBv_; clear mHBv_; have mHM_ := A_ (Kd.N_below HM.out hb); clear HM; have HM := mHM_; clear mHM_; have mHW_ := A_ (Kd.R_below HW.out hb); clear HW; have HW := mHW_; clear mHW_; have mHB_ := A_ (below_step hb_ hb); clear HB; have HB := mHB_; clear mHB_; have HXx := A_ hx; clear hx hb; obtain ⟨Ao44, co44, eo44⟩ := Kd.R_slice HW.out; subst eo44; obtain ⟨Ao45, co45, eo45⟩ := Kd.R_slice HXx.out; subst eo45) | (go_at_call 19; (with_reducible refine (conclavelaw06_anchored.calls k true _ A15.out).mono ?_); rintro e w43 ⟨rfl, hb⟩; have mHA_ := A_ (Kd.R_below HA.out hb); clear HA; have HA := mHA_; clear mHA_; have mHBv_ := A_ (Kd.R_below HBv.out hb); clear HBv; have HBv := mHBv_; clear mHBv_; have mHM_ := A_ (Kd.N_below HM.out hb); clear HM; have HM := mHM_; clear mHM_; have mHW_ := A_ (Kd.R_below HW.out hb); clear HW; have HW := mHW_; clear mHW_; have mHXx_ := A_ (Kd.R_below HXx.out hb); clear HXx; have HXx := mHXx_; clear mHXx_; have mHB_ := A_ (below_step hb_ hb); clear HB; have HB := mHB_; clear mHB_; clear hb) | (go_at_call 14; (with_reducible refine (cr1_Same.calls k _ _ t464 _ _ l1 true _ ?side1 ?side2 ?side3 ?side4 A17.out).mono ?_); (case side1 => repeat (first | exact (Kd.R_reads' HA.out).2.2 | (with_reducible refine Kd.C_alloc ?_ _) | (with_reducible refine Kd.C_drewN ?_ _) | (with_reducible refine Kd.C_drew ?_))); (case side2 => exact (Kd.R_reads' HA.out).2.1); (case side3 => repeat (first | exact (Kd.C_below HR1.out HB.out) | (with_reducible refine Kd.C_alloc ?_ _) | (with_reducible refine Kd.C_drewN ?_ _) | (with_reducible refine Kd.C_drew ?_))); (case side4 => exact HC1.out); rintro e w' ⟨rfl, ⟨nd, rfl⟩⟩; (try first | exact ⟨rfl, _, World.drewN_drewN _ _ _⟩ | exact ⟨rfl, _, Eq.trans (World.drewN_drewN _ _ _) (congrArg (World.drewN _) (Nat.add_assoc _ _ _))⟩)) | (go_at_call 14; (with_reducible refine (cr1_Same.calls k _ _ t467 _ _ l2 true _ ?side1 ?side2 ?side3 ?side4 A19.out).mono ?_); (case side1 => repeat (first | exact (Kd.R_reads' HBv.out).2.2 | (with_reducible refine Kd.C_alloc ?_ _) | (with_reducible refine Kd.C_drewN ?_ _) | (with_reducible refine Kd.C_drew ?_))); (case side2 => exact (Kd.R_reads' HBv.out).2.1); (case side3 => repeat (first | exact (Kd.C_below HR2.out hb_) | (with_reducible refine Kd.C_alloc ?_ _) | (with_reducible refine Kd.C_drewN ?_ _) | (with_reducible refine Kd.C_drew ?_))); (case side4 => exact HC2.out); rintro e w' ⟨rfl, ⟨nd, rfl⟩⟩; (try first | exact ⟨rfl, _, World.drewN_drewN _ _ _⟩ | exact ⟨rfl, _, Eq.trans (World.drewN_drewN _ _ _) (congrArg (World.drewN _) (Nat.add_assoc _ _ _))⟩); have p506 : 0 ≤ (0 : Int) := (by omega); have q506 : 0 < (y488.length : Int) := of_decide_eq_true (by first | (with_reducible assumption) | assumption); obtain ⟨ad506, A506_0, c506_0, e506, hx506_0, hl506_0, hi506_0⟩ := at_L1 (Kd.N_reads' HM.out).2.2 0 p506 q506; cases e506; obtain ⟨ce506, hce506, hMe506, hcc506⟩ := Kd.N_get HM.out [] 0 p506 (by first | exact q506 | exact of_decide_eq_true (by first | (with_reducible assumption) | assumption) | (have e_ := (Kd.N_reads' HM.out).1; omega)); obtain ⟨ua506_0, uc506_0, rfl, ul506_0, ge506_0⟩ := Kd.FK_slice_open hMe506; have hv506_0 := hcc506 0 _ rfl; rw [Nat.add_zero, show ((Kd.slice 49 (Kd.int .u64))).sz = 1 from rfl, Nat.mul_one] at hv506_0; replace hv506_0 := Option.some.inj (hv506_0.symm.trans hx506_0); injection hv506_0 with hva_ hvn_ hvc_; rw [hva_] at ge506_0; rw [hvc_] at ul506_0; have HL506_0 := A_ (show Kd.V (Kd.int .u64) 49 _ w.heap.size _ _ (rd_L1 y488 0) from Kd.V_mk ul506_0 ge506_0); clear hva_ hvn_ hvc_ ge506_0 ul506_0; clear hcc506 hce506; have qi506 : (0 < y488.length) = True := eq_true (by omega); (try rw [show ((0 : Int)).toNat = 0 from rfl] at hx506_0); (try rw [Addr.add_zero'] at hx506_0); have HR506_0 := Aside0.mk hi506_0; have HC506_0 := Aside0.mk hl506_0; clear hi506_0 hl506_0; replace p506 := eq_true p506; replace q506 := eq_true q506) | (go_at_call 14; (with_reducible refine (cr1_Same.calls k _ _ (rd_L1 y488 0) _ _ l1 true _ ?side1 ?side2 ?side3 ?side4 A22.out).mono ?_); (case side1 => repeat (first | exact (by repeat (first | (with_reducible exact HR506_0.out) | (with_reducible refine Kd.C_alloc ?_ _) | (with_reducible refine Kd.C_drewN ?_ _) | (with_reducible refine Kd.C_drew ?_) | exact HR506_0.out)) | (with_reducible refine Kd.C_alloc ?_ _) | (with_reducible refine Kd.C_drewN ?_ _) | (with_reducible refine Kd.C_drew ?_))); (case side2 => exact HC506_0.out); (case side3 => repeat (first | exact (Kd.C_below HR1.out hb_) | (with_reducible refine Kd.C_alloc ?_ _) | (with_reducible refine Kd.C_drewN ?_ _) | (with_reducible refine Kd.C_drew ?_))); (case side4 => exact HC1.out); rintro e w' ⟨rfl, ⟨nd, rfl⟩⟩; (try first | exact ⟨rfl, _, World.drewN_drewN _ _ _⟩ | exact ⟨rfl, _, Eq.trans (World.drewN_drewN _ _ _) (congrArg (World.drewN _) (Nat.add_assoc _ _ _))⟩)) | (go_at_call 14; (with_reducible refine (cr1_Same.calls k _ _ t495 _ _ t499 true _ ?side1 ?side2 ?side3 ?side4 A24.out).mono ?_); (case side1 => repeat (first | exact (Kd.R_reads' HW.out).2.2 | (with_reducible refine Kd.C_alloc ?_ _) | (with_reducible refine Kd.C_drewN ?_ _) | (with_reducible refine Kd.C_drew ?_))); (case side2 => exact (Kd.R_reads' HW.out).2.1); (case side3 => repeat (first | exact (Kd.R_reads' HXx.out).2.2 | (with_reducible refine Kd.C_alloc ?_ _) | (with_reducible refine Kd.C_drewN ?_ _) | (with_reducible refine Kd.C_drew ?_))); (case side4 => exact (Kd.R_reads' HXx.out).2.1); rintro e w' ⟨rfl, ⟨nd, rfl⟩⟩; (try first | exact ⟨rfl, _, World.drewN_drewN _ _ _⟩ | exact ⟨rfl, _, Eq.trans (World.drewN_drewN _ _ _) (congrArg (World.drewN _) (Nat.add_assoc _ _ _))⟩)))
            repeat (go_quiet (first | (go_at_call 20; (with_reducible refine (tree_Values.calls k a0 (fun _ => True) _ _ t464 (fun _ => True) _ _ t467 t495 t498 _ ?side1 ?side2 A13.out).mono ?_); (case side1 => exact Kd.V_mono (Kd.R_V HA.out) (fun _ _ => trivial)); (case side2 => exact Kd.V_mono (Kd.R_V HBv.out) (fun _ _ => trivial)); rintro e w41 ⟨vw, rfl, hw, hb⟩; have mHA_ := A_ (Kd.R_below HA.out hb); clear HA; have HA := mHA_; clear mHA_; have mHBv_ := A_ (Kd.R_below HBv.out hb); clear HBv; have HBv := mHBv_; clear mHBv_; have mHM_ := A_ (Kd.N_below HM.out hb); clear HM; have HM := mHM_; clear mHM_; have mHB_ := A_ (below_step hb_ hb); clear HB; have HB := mHB_; clear mHB_; have HW := A_ hw; clear hw hb) | (go_at_call 21; (with_reducible refine (cr6_Values.calls k a0 _ _ l1 _ _ l2 t499 t500 _ ?side1 ?side2 ?side3 ?side4 A14.out).mono ?_); (case side1 => repeat (first | exact (Kd.C_below HR1.out HB.out) | (with_reducible refine Kd.C_alloc ?_ _) | (with_reducible refine Kd.C_drewN ?_ _) | (with_reducible refine Kd.C_drew ?_))); (case side2 => exact HC1.out); (case side3 => repeat (first | exact (Kd.C_below HR2.out HB.out) | (with_reducible refine Kd.C_alloc ?_ _) | (with_reducible refine Kd.C_drewN ?_ _) | (with_reducible refine Kd.C_drew ?_))); (case side4 => exact HC2.out); rintro e w42 ⟨vx, rfl, hx, hb⟩; have mHA_ := A_ (Kd.R_below HA.out hb); clear HA; have HA := mHA_; clear mHA_; have mHBv_ := A_ (Kd.R_below HBv.out hb); clear HBv; have HBv := mHBv_; clear mHBv_; have mHM_ := A_ (Kd.N_below HM.out hb); clear HM; have HM := mHM_; clear mHM_; have mHW_ := A_ (Kd.R_below HW.out hb); clear HW; have HW := mHW_; clear mHW_; have mHB_ := A_ (below_step hb_ hb); clear HB; have HB := mHB_; clear mHB_; have HXx := A_ hx; clear hx hb; obtain ⟨Ao44, co44, eo44⟩ := Kd.R_slice HW.out; subst eo44; obtain ⟨Ao45, co45, eo45⟩ := Kd.R_slice HXx.out; subst eo45) | (go_at_call 19; (with_reducible refine (conclavelaw06_anchored.calls k true _ A15.out).mono ?_); rintro e w43 ⟨rfl, hb⟩; have mHA_ := A_ (Kd.R_below HA.out hb); clear HA; have HA := mHA_; clear mHA_; have mHBv_ := A_ (Kd.R_below HBv.out hb); clear HBv; have HBv := mHBv_; clear mHBv_; have mHM_ := A_ (Kd.N_below HM.out hb); clear HM; have HM := mHM_; clear mHM_; have mHW_ := A_ (Kd.R_below HW.out hb); clear HW; have HW := mHW_; clear mHW_; have mHXx_ := A_ (Kd.R_below HXx.out hb); clear HXx; have HXx := mHXx_; clear mHXx_; have mHB_ := A_ (below_step hb_ hb); clear HB; have HB := mHB_; clear mHB_; clear hb) | (go_at_call 14; (with_reducible refine (cr1_Same.calls k _ _ t464 _ _ l1 true _ ?side1 ?side2 ?side3 ?side4 A17.out).mono ?_); (case side1 => repeat (first | exact (Kd.R_reads' HA.out).2.2 | (with_reducible refine Kd.C_alloc ?_ _) | (with_reducible refine Kd.C_drewN ?_ _) | (with_reducible refine Kd.C_drew ?_))); (case side2 => exact (Kd.R_reads' HA.out).2.1); (case side3 => repeat (first | exact (Kd.C_below HR1.out HB.out) | (with_reducible refine Kd.C_alloc ?_ _) | (with_reducible refine Kd.C_drewN ?_ _) | (with_reducible refine Kd.C_drew ?_))); (case side4 => exact HC1.out); rintro e w' ⟨rfl, ⟨nd, rfl⟩⟩; (try first | exact ⟨rfl, _, World.drewN_drewN _ _ _⟩ | exact ⟨rfl, _, Eq.trans (World.drewN_drewN _ _ _) (congrArg (World.drewN _) (Nat.add_assoc _ _ _))⟩)) | (go_at_call 14; (with_reducible refine (cr1_Same.calls k _ _ t467 _ _ l2 true _ ?side1 ?side2 ?side3 ?side4 A19.out).mono ?_); (case side1 => repeat (first | exact (Kd.R_reads' HBv.out).2.2 | (with_reducible refine Kd.C_alloc ?_ _) | (with_reducible refine Kd.C_drewN ?_ _) | (with_reducible refine Kd.C_drew ?_))); (case side2 => exact (Kd.R_reads' HBv.out).2.1); (case side3 => repeat (first | exact (Kd.C_below HR2.out hb_) | (with_reducible refine Kd.C_alloc ?_ _) | (with_reducible refine Kd.C_drewN ?_ _) | (with_reducible refine Kd.C_drew ?_))); (case side4 => exact HC2.out); rintro e w' ⟨rfl, ⟨nd, rfl⟩⟩; (try first | exact ⟨rfl, _, World.drewN_drewN _ _ _⟩ | exact ⟨rfl, _, Eq.trans (World.drewN_drewN _ _ _) (congrArg (World.drewN _) (Nat.add_assoc _ _ _))⟩); have p506 : 0 ≤ (0 : Int) := (by omega); have q506 : 0 < (y488.length : Int) := of_decide_eq_true (by first | (with_reducible assumption) | assumption); obtain ⟨ad506, A506_0, c506_0, e506, hx506_0, hl506_0, hi506_0⟩ := at_L1 (Kd.N_reads' HM.out).2.2 0 p506 q506; cases e506; obtain ⟨ce506, hce506, hMe506, hcc506⟩ := Kd.N_get HM.out [] 0 p506 (by first | exact q506 | exact of_decide_eq_true (by first | (with_reducible assumption) | assumption) | (have e_ := (Kd.N_reads' HM.out).1; omega)); obtain ⟨ua506_0, uc506_0, rfl, ul506_0, ge506_0⟩ := Kd.FK_slice_open hMe506; have hv506_0 := hcc506 0 _ rfl; rw [Nat.add_zero, show ((Kd.slice 49 (Kd.int .u64))).sz = 1 from rfl, Nat.mul_one] at hv506_0; replace hv506_0 := Option.some.inj (hv506_0.symm.trans hx506_0); injection hv506_0 with hva_ hvn_ hvc_; rw [hva_] at ge506_0; rw [hvc_] at ul506_0; have HL506_0 := A_ (show Kd.V (Kd.int .u64) 49 _ w.heap.size _ _ (rd_L1 y488 0) from Kd.V_mk ul506_0 ge506_0); clear hva_ hvn_ hvc_ ge506_0 ul506_0; clear hcc506 hce506; have qi506 : (0 < y488.length) = True := eq_true (by omega); (try rw [show ((0 : Int)).toNat = 0 from rfl] at hx506_0); (try rw [Addr.add_zero'] at hx506_0); have HR506_0 := Aside0.mk hi506_0; have HC506_0 := Aside0.mk hl506_0; clear hi506_0 hl506_0; replace p506 := eq_true p506; replace q506 := eq_true q506) | (go_at_call 14; (with_reducible refine (cr1_Same.calls k _ _ (rd_L1 y488 0) _ _ l1 true _ ?side1 ?side2 ?side3 ?side4 A22.out).mono ?_); (case side1 => repeat (first | exact (by repeat (first | (with_reducible exact HR506_0.out) | (with_reducible refine Kd.C_alloc ?_ _) | (with_reducible refine Kd.C_drewN ?_ _) | (with_reducible refine Kd.C_drew ?_) | exact HR506_0.out)) | (with_reducible refine Kd.C_alloc ?_ _) | (with_reducible refine Kd.C_drewN ?_ _) | (with_reducible refine Kd.C_drew ?_))); (case side2 => exact HC506_0.out); (case side3 => repeat (first | exact (Kd.C_below HR1.out hb_) | (with_reducible refine Kd.C_alloc ?_ _) | (with_reducible refine Kd.C_drewN ?_ _) | (with_reducible refine Kd.C_drew ?_))); (case side4 => exact HC1.out); rintro e w' ⟨rfl, ⟨nd, rfl⟩⟩; (try first | exact ⟨rfl, _, World.drewN_drewN _ _ _⟩ | exact ⟨rfl, _, Eq.trans (World.drewN_drewN _ _ _) (congrArg (World.drewN _) (Nat.add_assoc _ _ _))⟩)) | (go_at_call 14; (with_reducible refine (cr1_Same.calls k _ _ t495 _ _ t499 true _ ?side1 ?side2 ?side3 ?side4 A24.out).mono ?_); (case side1 => repeat (first | exact (Kd.R_reads' HW.out).2.2 | (with_reducible refine Kd.C_alloc ?_ _) | (with_reducible refine Kd.C_drewN ?_ _) | (with_reducible refine Kd.C_drew ?_))); (case side2 => exact (Kd.R_reads' HW.out).2.1); (case side3 => repeat (first | exact (Kd.R_reads' HXx.out).2.2 | (with_reducible refine Kd.C_alloc ?_ _) | (with_reducible refine Kd.C_drewN ?_ _) | (with_reducible refine Kd.C_drew ?_))); (case side4 => exact (Kd.R_reads' HXx.out).2.1); rintro e w' ⟨rfl, ⟨nd, rfl⟩⟩; (try first | exact ⟨rfl, _, World.drewN_drewN _ _ _⟩ | exact ⟨rfl, _, Eq.trans (World.drewN_drewN _ _ _) (congrArg (World.drewN _) (Nat.add_assoc _ _ _))⟩))); try go_wp2_with (first | (go_at_call 20; (with_reducible refine (tree_Values.calls k a0 (fun _ => True) _ _ t464 (fun _ => True) _ _ t467 t495 t498 _ ?side1 ?side2 A13.out).mono ?_); (case side1 => exact Kd.V_mono (Kd.R_V HA.out) (fun _ _ => trivial)); (case side2 => exact Kd.V_mono (Kd.R_V HBv.out) (fun _ _ => trivial)); rintro e w41 ⟨vw, rfl, hw, hb⟩; have mHA_ := A_ (Kd.R_below HA.out hb); clear HA; have HA := mHA_; clear mHA_; have mHBv_ := A_ (Kd.R_below HBv.out hb); clear HBv; have HBv := mHBv_; clear mHBv_; have mHM_ := A_ (Kd.N_below HM.out hb); clear HM; have HM := mHM_; clear mHM_; have mHB_ := A_ (below_step hb_ hb); clear HB; have HB := mHB_; clear mHB_; have HW := A_ hw; clear hw hb) | (go_at_call 21; (with_reducible refine (cr6_Values.calls k a0 _ _ l1 _ _ l2 t499 t500 _ ?side1 ?side2 ?side3 ?side4 A14.out).mono ?_); (case side1 => repeat (first | exact (Kd.C_below HR1.out HB.out) | (with_reducible refine Kd.C_alloc ?_ _) | (with_reducible refine Kd.C_drewN ?_ _) | (with_reducible refine Kd.C_drew ?_))); (case side2 => exact HC1.out); (case side3 => repeat (first | exact (Kd.C_below HR2.out HB.out) | (with_reducible refine Kd.C_alloc ?_ _) | (with_reducible refine Kd.C_drewN ?_ _) | (with_reducible refine Kd.C_drew ?_))); (case side4 => exact HC2.out); rintro e w42 ⟨vx, rfl, hx, hb⟩; have mHA_ := A_ (Kd.R_below HA.out hb); clear HA; have HA := mHA_; clear mHA_; have mHBv_ := A_ (Kd.R_below HBv.out hb); clear HBv; have HBv := mHBv_; clear mHBv_; have mHM_ := A_ (Kd.N_below HM.out hb); clear HM; have HM := mHM_; clear mHM_; have mHW_ := A_ (Kd.R_below HW.out hb); clear HW; have HW := mHW_; clear mHW_; have mHB_ := A_ (below_step hb_ hb); clear HB; have HB := mHB_; clear mHB_; have HXx := A_ hx; clear hx hb; obtain ⟨Ao44, co44, eo44⟩ := Kd.R_slice HW.out; subst eo44; obtain ⟨Ao45, co45, eo45⟩ := Kd.R_slice HXx.out; subst eo45) | (go_at_call 19; (with_reducible refine (conclavelaw06_anchored.calls k true _ A15.out).mono ?_); rintro e w43 ⟨rfl, hb⟩; have mHA_ := A_ (Kd.R_below HA.out hb); clear HA; have HA := mHA_; clear mHA_; have mHBv_ := A_ (Kd.R_below HBv.out hb); clear HBv; have HBv := mHBv_; clear mHBv_; have mHM_ := A_ (Kd.N_below HM.out hb); clear HM; have HM := mHM_; clear mHM_; have mHW_ := A_ (Kd.R_below HW.out hb); clear HW; have HW := mHW_; clear mHW_; have mHXx_ := A_ (Kd.R_below HXx.out hb); clear HXx; have HXx := mHXx_; clear mHXx_; have mHB_ := A_ (below_step hb_ hb); clear HB; have HB := mHB_; clear mHB_; clear hb) | (go_at_call 14; (with_reducible refine (cr1_Same.calls k _ _ t464 _ _ l1 true _ ?side1 ?side2 ?side3 ?side4 A17.out).mono ?_); (case side1 => repeat (first | exact (Kd.R_reads' HA.out).2.2 | (with_reducible refine Kd.C_alloc ?_ _) | (with_reducible refine Kd.C_drewN ?_ _) | (with_reducible refine Kd.C_drew ?_))); (case side2 => exact (Kd.R_reads' HA.out).2.1); (case side3 => repeat (first | exact (Kd.C_below HR1.out HB.out) | (with_reducible refine Kd.C_alloc ?_ _) | (with_reducible refine Kd.C_drewN ?_ _) | (with_reducible refine Kd.C_drew ?_))); (case side4 => exact HC1.out); rintro e w' ⟨rfl, ⟨nd, rfl⟩⟩; (try first | exact ⟨rfl, _, World.drewN_drewN _ _ _⟩ | exact ⟨rfl, _, Eq.trans (World.drewN_drewN _ _ _) (congrArg (World.drewN _) (Nat.add_assoc _ _ _))⟩)) | (go_at_call 14; (with_reducible refine (cr1_Same.calls k _ _ t467 _ _ l2 true _ ?side1 ?side2 ?side3 ?side4 A19.out).mono ?_); (case side1 => repeat (first | exact (Kd.R_reads' HBv.out).2.2 | (with_reducible refine Kd.C_alloc ?_ _) | (with_reducible refine Kd.C_drewN ?_ _) | (with_reducible refine Kd.C_drew ?_))); (case side2 => exact (Kd.R_reads' HBv.out).2.1); (case side3 => repeat (first | exact (Kd.C_below HR2.out hb_) | (with_reducible refine Kd.C_alloc ?_ _) | (with_reducible refine Kd.C_drewN ?_ _) | (with_reducible refine Kd.C_drew ?_))); (case side4 => exact HC2.out); rintro e w' ⟨rfl, ⟨nd, rfl⟩⟩; (try first | exact ⟨rfl, _, World.drewN_drewN _ _ _⟩ | exact ⟨rfl, _, Eq.trans (World.drewN_drewN _ _ _) (congrArg (World.drewN _) (Nat.add_assoc _ _ _))⟩); have p506 : 0 ≤ (0 : Int) := (by omega); have q506 : 0 < (y488.length : Int) := of_decide_eq_true (by first | (with_reducible assumption) | assumption); obtain ⟨ad506, A506_0, c506_0, e506, hx506_0, hl506_0, hi506_0⟩ := at_L1 (Kd.N_reads' HM.out).2.2 0 p506 q506; cases e506; obtain ⟨ce506, hce506, hMe506, hcc506⟩ := Kd.N_get HM.out [] 0 p506 (by first | exact q506 | exact of_decide_eq_true (by first | (with_reducible assumption) | assumption) | (have e_ := (Kd.N_reads' HM.out).1; omega)); obtain ⟨ua506_0, uc506_0, rfl, ul506_0, ge506_0⟩ := Kd.FK_slice_open hMe506; have hv506_0 := hcc506 0 _ rfl; rw [Nat.add_zero, show ((Kd.slice 49 (Kd.int .u64))).sz = 1 from rfl, Nat.mul_one] at hv506_0; replace hv506_0 := Option.some.inj (hv506_0.symm.trans hx506_0); injection hv506_0 with hva_ hvn_ hvc_; rw [hva_] at ge506_0; rw [hvc_] at ul506_0; have HL506_0 := A_ (show Kd.V (Kd.int .u64) 49 _ w.heap.size _ _ (rd_L1 y488 0) from Kd.V_mk ul506_0 ge506_0); clear hva_ hvn_ hvc_ ge506_0 ul506_0; clear hcc506 hce506; have qi506 : (0 < y488.length) = True := eq_true (by omega); (try rw [show ((0 : Int)).toNat = 0 from rfl] at hx506_0); (try rw [Addr.add_zero'] at hx506_0); have HR506_0 := Aside0.mk hi506_0; have HC506_0 := Aside0.mk hl506_0; clear hi506_0 hl506_0; replace p506 := eq_true p506; replace q506 := eq_true q506) | (go_at_call 14; (with_reducible refine (cr1_Same.calls k _ _ (rd_L1 y488 0) _ _ l1 true _ ?side1 ?side2 ?side3 ?side4 A22.out).mono ?_); (case side1 => repeat (first | exact (by repeat (first | (with_reducible exact HR506_0.out) | (with_reducible refine Kd.C_alloc ?_ _) | (with_reducible refine Kd.C_drewN ?_ _) | (with_reducible refine Kd.C_drew ?_) | exact HR506_0.out)) | (with_reducible refine Kd.C_alloc ?_ _) | (with_reducible refine Kd.C_drewN ?_ _) | (with_reducible refine Kd.C_drew ?_))); (case side2 => exact HC506_0.out); (case side3 => repeat (first | exact (Kd.C_below HR1.out hb_) | (with_reducible refine Kd.C_alloc ?_ _) | (with_reducible refine Kd.C_drewN ?_ _) | (with_reducible refine Kd.C_drew ?_))); (case side4 => exact HC1.out); rintro e w' ⟨rfl, ⟨nd, rfl⟩⟩; (try first | exact ⟨rfl, _, World.drewN_drewN _ _ _⟩ | exact ⟨rfl, _, Eq.trans (World.drewN_drewN _ _ _) (congrArg (World.drewN _) (Nat.add_assoc _ _ _))⟩)) | (go_at_call 14; (with_reducible refine (cr1_Same.calls k _ _ t495 _ _ t499 true _ ?side1 ?side2 ?side3 ?side4 A24.out).mono ?_); (case side1 => repeat (first | exact (Kd.R_reads' HW.out).2.2 | (with_reducible refine Kd.C_alloc ?_ _) | (with_reducible refine Kd.C_drewN ?_ _) | (with_reducible refine Kd.C_drew ?_))); (case side2 => exact (Kd.R_reads' HW.out).2.1); (case side3 => repeat (first | exact (Kd.R_reads' HXx.out).2.2 | (with_reducible refine Kd.C_alloc ?_ _) | (with_reducible refine Kd.C_drewN ?_ _) | (with_reducible refine Kd.C_drew ?_))); (case side4 => exact (Kd.R_reads' HXx.out).2.1); rintro e w' ⟨rfl, ⟨nd, rfl⟩⟩; (try first | exact ⟨rfl, _, World.drewN_drewN _ _ _⟩ | exact ⟨rfl, _, Eq.trans (World.drewN_drewN _ _ _) (congrArg (World.drewN _) (Nat.add_assoc _ _ _))⟩))))
            go_ret
            exact ⟨fr_, hb_⟩
       ·replace c25 := Bool.eq_false_iff.mpr c25
        subst c25
        have H1 : (none) = some r := by rw [if_neg (show ¬ (false = true) by decide)] at H; exact H
        clear H
        have H := H1
        clear H1
        exact absurd H (by simp)
      ·replace c23 := Bool.eq_false_iff.mpr c23
       subst c23
       have H1 : (none) = some r := by rw [if_neg (show ¬ (false = true) by decide)] at H; exact H
       clear H
       have H := H1
       clear H1
       exact absurd H (by simp)
     ·rw [if_neg c21] at H
      exact absurd H (by simp)
    ·replace c20 := Bool.eq_false_iff.mpr c20
     subst c20
     have H1 : (none) = some r := by rw [if_neg (show ¬ (false = true) by decide)] at H; exact H
     clear H
     have H := H1
     clear H1
     exact absurd H (by simp)
   ·replace c18 := Bool.eq_false_iff.mpr c18
    subst c18
    have H1 : (none) = some r := by rw [if_neg (show ¬ (false = true) by decide)] at H; exact H
    clear H
    have H := H1
    clear H1
    exact absurd H (by simp)
  ·replace c16 := Bool.eq_false_iff.mpr c16
   subst c16
   have H1 : (none) = some r := by rw [if_neg (show ¬ (false = true) by decide)] at H; exact H
   clear H
   have H := H1
   clear H1
   exact absurd H (by simp)
 ·rw [if_neg c12] at H
  exact absurd H (by simp)
/-- THE ONE PURE STATEMENT of conclavelaw06_TreeFresh: yours. -/
def conclavelaw06_TreeFresh.Pure : Prop := ∀ (a0 : Int) (l1 : List Int) (l2 : List Int), (Lit.int .u8 a0).wf = true → l1.length ≤ maxLen → l1.length * 8 ≤ 140737488351232 → (∀ x ∈ l1, (Lit.int .u64 x).wf = true) → l2.length ≤ maxLen → l2.length * 8 ≤ 140737488351232 → (∀ x ∈ l2, (Lit.int .u64 x).wf = true) → ∃ k, conclavelaw06_TreeFresh.f k a0 l1 l2 = some true
theorem conclavelaw06_TreeFresh.walk (P : conclavelaw06_TreeFresh.Pure) (a0 : Int) (a1 : Option Addr) (len1 cap1 : Nat) (z1 : List Int) (a2 : Option Addr) (len2 cap2 : Nat) (z2 : List Int) (w : World) (w0 : (Lit.int .u8 a0).wf = true) (w1 : (a1 = none ∧ len1 = 0 ∧ cap1 = 0 ∧ z1 = []) ∨ ∃ x, a1 = some x ∧ len1 ≤ cap1 ∧ cap1 ≤ maxLen ∧ z1.length = cap1 ∧ (∀ i, i < z1.length → w.cell? (x.add i) = some (.int .u64 (z1.getD i 0))) ∧ ∀ n ∈ z1, (Lit.int .u64 n).wf = true) (y1 : len1 * 8 ≤ 140737488351232) (w2 : (a2 = none ∧ len2 = 0 ∧ cap2 = 0 ∧ z2 = []) ∨ ∃ x, a2 = some x ∧ len2 ≤ cap2 ∧ cap2 ≤ maxLen ∧ z2.length = cap2 ∧ (∀ i, i < z2.length → w.cell? (x.add i) = some (.int .u64 (z2.getD i 0))) ∧ ∀ n ∈ z2, (Lit.int .u64 n).wf = true) (y2 : len2 * 8 ≤ 140737488351232) :
  Calls Try.prog 8 #[.int .u8 a0, .slice a1 len1 cap1, .slice a2 len2 cap2] w fun e w' => e = .returned (.bool true) ∧ Below w.heap.size w w' := by
 obtain ⟨l1, rfl, hr1, hm1, hw1, hc1⟩ := ReadsInt.ofRowC w1
 obtain ⟨l2, rfl, hr2, hm2, hw2, hc2⟩ := ReadsInt.ofRowC w2
 obtain ⟨k, h⟩ := P a0 l1 l2 w0 hm1 y1 hw1 hm2 y2 hw2
 refine (conclavelaw06_TreeFresh.calls k a0 _ _ l1 _ _ l2 true w (Kd.C_of_reads (d := (0 : Int)) (h1 := fun _ => rfl) hr1) hc1 (Kd.C_of_reads (d := (0 : Int)) (h1 := fun _ => rfl) hr2) hc2 h).mono ?_
 rintro e w' ⟨rfl, hd⟩
 exact ⟨rfl, hd⟩
end Go.Proofs.Ytkaongcpekhbdaa.PTreeFresh
