/- The Go functions as Lean functions, each with the proof that its call comes to just that; written by a program of this session, by the words of the print. -/
import Derived.Test.YtaegmhniepfdaaaPFastFreshx0
import Derived.Test.YtaegmhniepfdaaaPFastFreshx6
namespace Go.Proofs.Ytaegmhniepfdaaa.PFastFresh
open Go.RowKit Go.Proofs.YtaegmhniepfdaaaW.PrintWords Go.Proofs.YtaegmhniepfdaaaW.PrintLast Go.Proofs.YtaegmhniepfdaaaW.PrintMore
attribute [local go_sem] max2_int min2_int max_two min_two max_three min_three max_four min_four   -- for this text's walks alone
set_option linter.unusedVariables false
set_option linter.unusedSimpArgs false
/-! ### fast_reckoner_put_add: function 50 -/
def fast_reckoner_put_add.l0 : Nat → List Int → Int → Int → List Int → Int → Int → Option (List Int)
 | 0, _, _, _, _, _, _ => none
 | k + 1, x1, x2, x4, x12, x13, x14 => if x14 < x13 then (if 0 ≤ x14 then (if x14 < (x12.length : Int) then (if 0 ≤ (wrap64 (x2 + x14)) then (if (wrap64 (x2 + x14)) < (x1.length : Int) then ((fast_reckoner_add.f k x4 (rd x1 (wrap64 (x2 + x14))) (rd x12 x14)).bind fun t371 => (fast_reckoner_put_add.l0 k (x1.set ((wrap64 (x2 + x14)) : Int).toNat t371) x2 x4 x12 x13 (wrap64 (x14 + 1)))) else (none)) else (none)) else (none)) else (none)) else (some x1)
def fast_reckoner_put_add.f (k : Nat) (a0_0 : Int) (l1 : List Int) (a2 : Int) (l3 : List Int) (a4 : Int) : Option (List Int) := fast_reckoner_put_add.l0 k l1 a2 a4 l3 (l3.length : Int) 0
theorem fast_reckoner_put_add.mono_l : ∀ k, (∀ y0 y1 y2 y3 y4 y5, LeO (fast_reckoner_put_add.l0 k y0 y1 y2 y3 y4 y5) (fast_reckoner_put_add.l0 (k + 1) y0 y1 y2 y3 y4 y5))
 | 0 => fun _ _ _ _ _ _ r h => by simp [fast_reckoner_put_add.l0] at h
 | k + 1 => by
  have ih0 := fast_reckoner_put_add.mono_l k
  ·intro y0 y1 y2 y3 y4 y5
   unfold fast_reckoner_put_add.l0
   repeat' first
   | (with_reducible exact ih0 _ _ _ _ _ _)
   | (with_reducible exact fast_reckoner_add.mono _ _ _ _)
   | (with_reducible exact LeO.refl _)
   | (with_reducible exact LeO.none _)
   | (with_reducible refine LeO.ite ?_ ?_)
   | (with_reducible refine LeO.bind ?_ (fun _ => ?_))
   | exact ih0 _ _ _ _ _ _
   | exact fast_reckoner_add.mono _ _ _ _
   | exact LeO.none _
   | refine LeO.ite ?_ ?_
   | refine LeO.bind ?_ (fun _ => ?_)
theorem fast_reckoner_put_add.mono : ∀ a0 a1 a2 a3 a4 k, LeO (fast_reckoner_put_add.f k a0 a1 a2 a3 a4) (fast_reckoner_put_add.f (k + 1) a0 a1 a2 a3 a4) := by
 intro a0 a1 a2 a3 a4 k
 have ih0 := fast_reckoner_put_add.mono_l k
 unfold fast_reckoner_put_add.f
 repeat' first
   | (with_reducible exact ih0 _ _ _ _ _ _)
   | (with_reducible exact fast_reckoner_add.mono _ _ _ _)
   | (with_reducible exact LeO.refl _)
   | (with_reducible exact LeO.none _)
   | (with_reducible refine LeO.ite ?_ ?_)
   | (with_reducible refine LeO.bind ?_ (fun _ => ?_))
   | exact ih0 _ _ _ _ _ _
   | exact fast_reckoner_add.mono _ _ _ _
   | exact LeO.none _
   | refine LeO.ite ?_ ?_
   | refine LeO.bind ?_ (fun _ => ?_)
set_option maxHeartbeats 8000000 in
set_option maxRecDepth 100000 in
theorem fast_reckoner_put_add.calls (k : Nat) (a0_0 : Int) (P1_ : Nat → Prop) (u9000_ : Value) (l1 : List Int) (a2 : Int) (A3 : Option Addr) (c3 : Nat) (l3 : List Int) (a4 : Int) (r : List Int) (w0 w : World) (hB : Below w0.heap.size w0 w) (ho1 : Kd.R (Kd.int .u64) 33 w w0.heap.size P1_ u9000_ l1) (hr3 : ∀ W_, Kept w W_ (fun k_ => P1_ k_) → Kd.C (Kd.int .u64) W_ A3 l3.length l3) (hc3 : l3.length ≤ c3) (h : fast_reckoner_put_add.f k a0_0 l1 a2 l3 a4 = some r) :
  Calls Try.prog 50 #[.agg #[.int .u8 a0_0], u9000_, .int .i64 a2, .slice A3 l3.length c3, .func (.func 47) #[.agg #[.int .u8 a4]] #[]] w fun e w' => e = .returned (.tuple #[]) ∧ Kd.R (Kd.int .u64) 33 w' w0.heap.size (fun k_ => (P1_ k_ ∨ w.heap.size ≤ k_)) u9000_ r ∧ Below w0.heap.size w0 w' ∧ Kept w w' (fun k_ => P1_ k_) := by
 have hu47 := Try.underlying47
 have HO1 := A_ (show Kd.R (Kd.int .u64) 33 w w0.heap.size (fun k_ => (P1_ k_ ∨ w.heap.size ≤ k_)) u9000_ l1 from Kd.R_mono ho1 (fun k_ hk => (.inl hk)))
 have HR3 := Aside0.mk hr3
 have HC3 := Aside0.mk hc3
 clear hr3 hc3
 have HK := A_ (Kept.refl w (fun k_ => P1_ k_))
 have HW0 := Aside0.mk hB.size
 have HB := Aside0.mk hB
 clear hB
 have H : (fast_reckoner_put_add.l0 k l1 a2 a4 l3 (l3.length : Int) 0) = some r := h
 clear h
 have H' := Aside0.mk H
 clear H
 go_enter Try.func50, Try.ntmps50
 go_wp2_with (first | ((with_reducible refine gate_dst (N := 5) rfl ?_); refine box_event ?hg (N := 5) ?hd (cs := #[.int .u8 a0_0]) (t := 47) ?hr ?_; (case hd => rfl); (case hg => rfl); (case hr => first | (go_simp; done) | (go_simp; rfl)); intro gb368 hg w6 hbox hb; have n0_ := A_ (Kd.R_below (nR_ HO1) hb); have n1_ := A_ (Kept.below (S := (fun k_ => P1_ k_)) (by repeat (first | (with_reducible first | exact HK.out | apply Kept.alloc | apply Kept.drewN | apply Kept.drew) | exact HK.out)) hb); have n2_ := A_ (below_step hb_ hb); have n3_ := A_ (hbox); have n4_ := A_ ((by rw [hg]; exact (by first | exact HK.out.1 | exact (show Kept w _ (fun k_ => P1_ k_) from by repeat (first | (with_reducible first | exact HK.out | apply Kept.alloc | apply Kept.drewN | apply Kept.drew) | exact HK.out)).1) : w.heap.size ≤ gb368)); have n5_ := A_ ((by rw [hg]; exact (below_size hb_) : w0.heap.size ≤ gb368)); clear HO1 HK HB; have HO1 := n0_; have HK := n1_; have HB := n2_; have BK368 := n3_; have GW368 := n4_; have GE368 := n5_; clear n0_ n1_ n2_ n3_ n4_ n5_; clear hb hbox hg))
 go_loopg [14] k (fun kq v14 w' => ∃ (x1_1 : List Int) (x14_1 : Int), v14 = .int .i64 x14_1 ∧ Aside0 (fast_reckoner_put_add.l0 kq x1_1 a2 a4 l3 (l3.length : Int) x14_1 = some r) ∧ Aside0 (kq ≤ k) ∧ Aside0 (Kd.R (Kd.int .u64) 33 w' w0.heap.size (fun k_ => (P1_ k_ ∨ w.heap.size ≤ k_)) u9000_ x1_1) ∧ Aside0 (w'.heap[gb368]? = some (.cells #[.int .u8 a0_0] 47 (0, 0))) ∧ Aside0 (Kept w w' (fun k_ => P1_ k_)) ∧ Aside0 (Below w0.heap.size w0 w'))
 case atStart => exact ⟨(l1), (0), (fs_), H', ⟨Nat.le_refl _⟩, ⟨mR_ HO1.out⟩, ⟨mb_ BK368.out⟩, ⟨by repeat (first | (with_reducible first | exact HK.out | apply Kept.alloc | apply Kept.drewN | apply Kept.drew | refine Kept.setCell ?_ (.inr GW368.out) _) | exact HK.out)⟩, ⟨hs_⟩⟩
 case round =>
  clear H'
  try clear p2
  try clear c3
  obtain ⟨x1_1, x14_1, rfl, HA, HK1, HO_1, BK368, HK, HB⟩ := hrel
  cases gk with
  | zero => exact absurd HA.out (by simp [fast_reckoner_put_add.l0])
  | succ k1 =>
   have H := HA.out
   clear HA
   simp only [fast_reckoner_put_add.l0] at H
   by_cases c7 : x14_1 < (l3.length : Int)
   ·rw [if_pos c7] at H
    have c7b0 : decide (x14_1 < (l3.length : Int)) = true := decide_eq_true c7
    clear c7
    by_cases c8 : 0 ≤ x14_1
    ·rw [if_pos c8] at H
     have c8b0 : decide (0 ≤ x14_1) = true := decide_eq_true c8
     clear c8
     by_cases c9 : x14_1 < (l3.length : Int)
     ·rw [if_pos c9] at H
      have c9b0 : decide (x14_1 < (l3.length : Int)) = true := decide_eq_true c9
      clear c9
      obtain ⟨ji10, hji10⟩ : ∃ j_ : Int, (wrap64 (a2 + x14_1)) = j_ := ⟨_, rfl⟩
      replace H : (if 0 ≤ (ji10) then (if (ji10) < (x1_1.length : Int) then ((fast_reckoner_add.f k1 a4 (rd x1_1 (ji10)) (rd l3 x14_1)).bind fun t371 => (fast_reckoner_put_add.l0 k1 (x1_1.set ((ji10) : Int).toNat t371) a2 a4 l3 (l3.length : Int) (wrap64 (x14_1 + 1)))) else (none)) else (none)) = some r := by first | (rw [hji10] at H; exact H) | (simp only [hji10] at H ⊢; exact H)
      have hji10w : (IntKind.i64.wrap (a2 + x14_1)) = ji10 := (i64_w _).trans hji10
      by_cases c11 : 0 ≤ (ji10)
      ·rw [if_pos c11] at H
       have c11b0 : decide (0 ≤ (ji10)) = true := decide_eq_true c11
       clear c11
       by_cases c12 : (ji10) < (x1_1.length : Int)
       ·rw [if_pos c12] at H
        have c12b0 : decide ((ji10) < (x1_1.length : Int)) = true := decide_eq_true c12
        clear c12
        replace H := Option.bind_eq_some_iff.mp H
        obtain ⟨t371, A130, H⟩ := H
        replace H : (fast_reckoner_put_add.l0 k1 (x1_1.set ((ji10) : Int).toNat t371) a2 a4 l3 (l3.length : Int) (wrap64 (x14_1 + 1))) = some r := H
        have A13 := Aside0.mk A130
        clear A130
        obtain ⟨y372, hy372⟩ : ∃ y_ : List Int, y_ = (x1_1.set ((ji10) : Int).toNat t371) := ⟨_, rfl⟩
        replace H : (fast_reckoner_put_add.l0 k1 y372 a2 a4 l3 (l3.length : Int) (wrap64 (x14_1 + 1))) = some r := by first | (rw [hy372]; with_reducible exact H) | (have H2_ := (Option.bind_some _ _).symm.trans H; rw [hy372]; with_reducible exact H2_) | (have H2_ := (Option.bind_some _ _).symm.trans H; with_reducible exact H2_) | with_reducible exact H | (rw [hy372]; exact H) | exact H
        have Ny372 := Aside0.mk hy372
        clear hy372
        have H' := Aside0.mk H
        clear H
        have p369 : 0 ≤ (x14_1 : Int) := of_decide_eq_true (by first | (with_reducible assumption) | assumption)
        have q369 : x14_1 < (l3.length : Int) := of_decide_eq_true (by first | (with_reducible assumption) | assumption)
        obtain ⟨ad369, e369, hx369_0⟩ := Kd.at_int (Kd.C_kept_now HR3.out HK.out) x14_1 p369 q369
        cases e369
        replace p369 := eq_true p369
        replace q369 := eq_true q369
        obtain ⟨Ao15, co15, eo15⟩ := Kd.R_slice HO_1.out
        subst eo15
        have p370 : 0 ≤ ((ji10) : Int) := of_decide_eq_true (by first | (with_reducible assumption) | assumption)
        have q370 : (ji10) < (x1_1.length : Int) := of_decide_eq_true (by first | (with_reducible assumption) | assumption)
        obtain ⟨ad370, e370, hx370_0⟩ := Kd.at_int (Kd.R_reads' HO_1.out).2.2 (ji10) p370 q370
        cases e370
        replace p370 := eq_true p370
        replace q370 := eq_true q370
        go_wp2_with (first | ((with_reducible refine gate_dst (N := 31) rfl ?_); refine goesV_ (some 31) rfl rfl Try.func47 (by kernel_rfl) rfl #[.agg #[.int .u8 a4], .int .u64 (rd x1_1 (ji10)), .int .u64 (rd l3 x14_1)] rfl rfl (by (try simp only [List.map_toArray, List.map_cons, List.map_nil]); first | done | (simp only [hji10]; rfl) | rfl | (simp only [List.length_drop, List.length_take]; rfl)) ?_; (with_reducible refine (fast_reckoner_add.calls k1 a4 (rd x1_1 (ji10)) (rd l3 x14_1) t371 _ A13.out).mono ?_); rintro e w16 ⟨rfl, hb⟩; refine ⟨_, rfl, ?_⟩; have n0_ := A_ (Kd.R_below (nR_ HO_1) hb); have n1_ := A_ (blk_below (g := gb368) (o := .cells #[.int .u8 a0_0] 47 (0, 0)) (nb_ BK368) hb); have n2_ := A_ (Kept.below (S := (fun k_ => P1_ k_)) (by repeat (first | (with_reducible first | exact HK.out | apply Kept.alloc | apply Kept.drewN | apply Kept.drew | refine Kept.setCell ?_ (.inr GW368.out) _) | exact HK.out)) hb); have n3_ := A_ (below_step hs_ hb); clear HO_1 BK368 HK HB; have HO_1 := n0_; have BK368 := n1_; have HK := n2_; have HB := n3_; clear n0_ n1_ n2_ n3_; (try clear hb); (try clear hb2); (try clear hk); (try clear hi); have p14 : 0 ≤ ((ji10) : Int) := of_decide_eq_true (by first | (with_reducible assumption) | assumption); have q14 : ((ji10) : Int) < ((x1_1.length : Int) : Int) := of_decide_eq_true (by first | (with_reducible assumption) | assumption); obtain ⟨go14, co14, eo14, gb14, gl14, cl14, HG14⟩ := Kd.R_form HO_1.out (by omega); (first | cases eo14 | (injection eo14 with ea_ en_ ec_; (first | subst ea_ | (injection ea_ with ea_; subst ea_)); subst ec_; clear en_)); have GB14 := Aside0.mk gb14; have GG14 := Aside0.mk HG14; clear gb14 gl14 HG14; have HMgo14 := A_ (show (P1_ go14 ∨ w.heap.size ≤ go14) from (HO_1.out.1 _ rfl)); (first | simp only [add_plain] at hx370_0 | skip); obtain ⟨hx14_0, hf14_0⟩ := Kd.R_celln 0 HO_1.out ((ji10) : Int) p14 q14; replace p14 := eq_true p14; replace q14 := eq_true q14; obtain ⟨hy17_, hz17_⟩ := Kd.R_celln 0 HO_1.out ((ji10) : Int) (of_decide_eq_true (by first | (with_reducible assumption) | assumption)) (of_decide_eq_true (by first | (with_reducible assumption) | assumption)); have HP17 := Kd.R_putg HO_1.out ((ji10) : Int) t371) | ((with_reducible refine gate_store (t := 33) (p := 32) rfl ?_); refine store_event (t := 33) (p := 32) (v := ?vo_w18) (w1 := (w16.setCell ⟨go14, ((ji10) : Int).toNat, none⟩ (.int .u64 t371))) ?hg ?ho ?hn ?hr ?_; (case ho => rfl); (case hg => rfl); (case hn => rfl); (case hr => first | (go_simp; done) | (go_simp; rfl)); intro w18 hw; have hg : w16.grownBy w18 (some go14) := (by rw [hw]; exact HP17.2); have hp_ : Kd.R (Kd.int .u64) 33 w18 w0.heap.size (fun k_ => (P1_ k_ ∨ w.heap.size ≤ k_)) (.slice (some ⟨go14, 0, none⟩) x1_1.length co15) y372 := (by rw [hw, Ny372.out]; exact HP17.1); clear HP17; have n0_ := A_ (hp_); have n1_ := A_ (blk_grown (g := gb368) (o := .cells #[.int .u8 a0_0] 47 (0, 0)) (nb_ BK368) hg (Kd.R_ne HO_1.out BK368.out (by decide))); have n2_ := A_ ((by rw [hw]; exact below_set (HB.out) GB14.out : Below w0.heap.size w0 w18)); have n3_ := A_ (Kept.of_grown (S := (fun k_ => P1_ k_)) hg (by repeat (first | (with_reducible first | exact HK.out | apply Kept.alloc | apply Kept.drewN | apply Kept.drew | refine Kept.setCell ?_ (.inr GW368.out) _) | exact HK.out)) (fun k_ e_ => (HO_1.out.1 k_ e_))); clear HO_1 BK368 HB HK; have HO_1 := n0_; have BK368 := n1_; have HB := n2_; have HK := n3_; clear n0_ n1_ n2_ n3_; clear hg hw hp_))
        go_roundg k1
        case measure => have := HK1.out; omega
        case rel => exact ⟨(y372), (wrap64 (x14_1 + 1)), (fs_), H', ⟨by have := HK1.out; omega⟩, ⟨mR_ HO_1.out⟩, ⟨mb_ BK368.out⟩, ⟨by repeat (first | (with_reducible first | exact HK.out | apply Kept.alloc | apply Kept.drewN | apply Kept.drew | refine Kept.setCell ?_ (.inr GW368.out) _) | exact HK.out)⟩, ⟨hs_⟩⟩
       ·rw [if_neg c12] at H
        exact absurd H (by simp)
      ·rw [if_neg c11] at H
       exact absurd H (by simp)
     ·rw [if_neg c9] at H
      exact absurd H (by simp)
    ·rw [if_neg c8] at H
     exact absurd H (by simp)
   ·rw [if_neg c7] at H
    have c7b0 : decide (x14_1 < (l3.length : Int)) = false := decide_eq_false c7
    clear c7
    obtain rfl := Option.some.inj H
    go_wp2
    first | go_end0 | ((try simp only [Exit.inBlock, Exit.then]); refine bodyPost_ret (results_none rfl _ _ _) rfl ?_)
    exact ⟨fr_, nR_ HO_1, by repeat (first | (with_reducible first | exact HB.out | apply below_alloc | apply pw_below_drewN | apply below_drew1 | refine below_set ?_ GE368.out) | exact HB.out), by repeat (first | (with_reducible first | exact HK.out | apply Kept.alloc | apply Kept.drewN | apply Kept.drew | refine Kept.setCell ?_ (.inr GW368.out) _) | exact HK.out)⟩
/-! ### fast_reckoner_sum: function 49 -/
def fast_reckoner_sum.f (k : Nat) (a0_0 : Int) (l1 : List Int) (l2 : List Int) : Option (List Int) := if 0 ≤ (mx (l1.length : Int) (l2.length : Int)) then (if (mx (l1.length : Int) (l2.length : Int) : Int).toNat ≤ 35184372088832 then ((some (List.replicate (mx (l1.length : Int) (l2.length : Int) : Int).toNat 0 : List Int)).bind fun y374 => ((fast_reckoner_put_add.f k a0_0 (l1.take y374.length ++ y374.drop l1.length) 0 l2 a0_0).bind fun t378 => (some t378))) else (none)) else (none)
theorem fast_reckoner_sum.mono : ∀ a0 a1 a2 k, LeO (fast_reckoner_sum.f k a0 a1 a2) (fast_reckoner_sum.f (k + 1) a0 a1 a2) := by
 intro a0 a1 a2 k
 unfold fast_reckoner_sum.f
 repeat' first
   | (with_reducible exact fast_reckoner_put_add.mono _ _ _ _ _ _)
   | (with_reducible exact LeO.refl _)
   | (with_reducible exact LeO.none _)
   | (with_reducible refine LeO.ite ?_ ?_)
   | (with_reducible refine LeO.bind ?_ (fun _ => ?_))
   | exact fast_reckoner_put_add.mono _ _ _ _ _ _
   | exact LeO.none _
   | refine LeO.ite ?_ ?_
   | refine LeO.bind ?_ (fun _ => ?_)
set_option maxHeartbeats 8000000 in
set_option maxRecDepth 100000 in
theorem fast_reckoner_sum.calls (k : Nat) (a0_0 : Int) (A1 : Option Addr) (c1 : Nat) (l1 : List Int) (A2 : Option Addr) (c2 : Nat) (l2 : List Int) (r : List Int) (w : World) (hr1 : Kd.C (Kd.int .u64) w A1 l1.length l1) (hc1 : l1.length ≤ c1) (hr2 : Kd.C (Kd.int .u64) w A2 l2.length l2) (hc2 : l2.length ≤ c2) (h : fast_reckoner_sum.f k a0_0 l1 l2 = some r) :
  Calls Try.prog 49 #[.agg #[.int .u8 a0_0], .slice A1 l1.length c1, .slice A2 l2.length c2] w fun e w' => ∃ v0_ : Value, e = .returned (v0_) ∧ Kd.R (Kd.int .u64) 33 w' w.heap.size (fun _ => True) v0_ r ∧ Below w.heap.size w w' := by
 have hu47 := Try.underlying47
 have HR1 := Aside0.mk hr1
 have HC1 := Aside0.mk hc1
 clear hr1 hc1
 have HR2 := Aside0.mk hr2
 have HC2 := Aside0.mk hc2
 clear hr2 hc2
 have HB := A_ (Below.refl w.heap.size w)
 have H : (if 0 ≤ (mx (l1.length : Int) (l2.length : Int)) then (if (mx (l1.length : Int) (l2.length : Int) : Int).toNat ≤ 35184372088832 then ((some (List.replicate (mx (l1.length : Int) (l2.length : Int) : Int).toNat 0 : List Int)).bind fun y374 => ((fast_reckoner_put_add.f k a0_0 (l1.take y374.length ++ y374.drop l1.length) 0 l2 a0_0).bind fun t378 => (some t378))) else (none)) else (none)) = some r := h
 clear h
 obtain ⟨ji4, hji4⟩ : ∃ j_ : Int, (mx (l1.length : Int) (l2.length : Int)) = j_ := ⟨_, rfl⟩
 replace H : (if 0 ≤ (ji4) then (if (ji4 : Int).toNat ≤ 35184372088832 then ((some (List.replicate (ji4 : Int).toNat 0 : List Int)).bind fun y374 => ((fast_reckoner_put_add.f k a0_0 (l1.take y374.length ++ y374.drop l1.length) 0 l2 a0_0).bind fun t378 => (some t378))) else (none)) else (none)) = some r := by first | (rw [hji4] at H; exact H) | (simp only [hji4] at H ⊢; exact H)
 (try (have hji4l : 0 ≤ ji4 := by (rw [← hji4]; unfold mx; (repeat' split) <;> omega)))
 (try (have hji4m : 0 ≤ ji4 := by omega))
 have hji4N : (if l1.length < l2.length then (l2.length : Int) else (l1.length : Int)) = ji4 := by have h_ := hji4; unfold mx at h_; simp only [Int.ofNat_lt] at h_; exact h_
 have hji4_ : (if (l1.length : Int) < (l2.length : Int) then (l2.length : Int) else (l1.length : Int)) = ji4 := hji4
 by_cases c5 : 0 ≤ (ji4)
 ·rw [if_pos c5] at H
  have c5b0 := eq_true c5
  have c5b1 : decide (0 ≤ (ji4)) = true := decide_eq_true c5
  clear c5
  by_cases c6 : (ji4 : Int).toNat ≤ 35184372088832
  ·rw [if_pos c6] at H
   have c6b0 := eq_true c6
   have c6b1 : decide ((ji4 : Int).toNat ≤ 35184372088832) = true := decide_eq_true c6
   clear c6
   obtain ⟨y374, hy374⟩ : ∃ y_ : List Int, y_ = (List.replicate (ji4 : Int).toNat 0) := ⟨_, rfl⟩
   replace H : ((fast_reckoner_put_add.f k a0_0 (l1.take y374.length ++ y374.drop l1.length) 0 l2 a0_0).bind fun t378 => (some t378)) = some r := by first | (rw [hy374]; with_reducible exact H) | (have H2_ := (Option.bind_some _ _).symm.trans H; rw [hy374]; with_reducible exact H2_) | (have H2_ := (Option.bind_some _ _).symm.trans H; with_reducible exact H2_) | with_reducible exact H | (rw [hy374]; exact H) | exact H
   have Ny374 := Aside0.mk hy374
   clear hy374
   obtain ⟨y377, hy377⟩ : ∃ y_ : List Int, y_ = (l1.take y374.length ++ y374.drop l1.length) := ⟨_, rfl⟩
   replace H : ((fast_reckoner_put_add.f k a0_0 y377 0 l2 a0_0).bind fun t378 => (some t378)) = some r := by first | (rw [hy377]; with_reducible exact H) | (have H2_ := (Option.bind_some _ _).symm.trans H; rw [hy377]; with_reducible exact H2_) | (have H2_ := (Option.bind_some _ _).symm.trans H; with_reducible exact H2_) | with_reducible exact H | (rw [hy377]; exact H) | exact H
   have Ny377 := Aside0.mk hy377
   clear hy377
   replace H := Option.bind_eq_some_iff.mp H
   obtain ⟨t378, A70, H⟩ := H
   replace H : (some t378) = some r := H
   have A7 := Aside0.mk A70
   clear A70
   obtain rfl := Option.some.inj H
   go_enter Try.func49, Try.ntmps49
   go_wp2_with (first | ((with_reducible refine gate_dst (N := 3) rfl ?_); refine box_event ?hg (N := 3) ?hd (cs := #[.int .u8 a0_0]) (t := 47) ?hr ?_; (case hd => rfl); (case hg => rfl); (case hr => first | (go_simp; done) | (go_simp; rfl)); intro gb373 hg w8 hbox hb; have n0_ := A_ (below_step hb_ hb); have n1_ := A_ (hbox); have n2_ := A_ ((by rw [hg]; exact (below_size hb_) : w.heap.size ≤ gb373)); have n3_ := A_ ((by rw [hg]; exact (below_size hb_) : w.heap.size ≤ gb373)); clear HB; have HB := n0_; have BK373 := n1_; have GW373 := n2_; have GE373 := n3_; clear n0_ n1_ n2_ n3_; clear hb hbox hg) | ((with_reducible refine gate_dst (N := 13) rfl ?_); refine Kd.R_make (Kd.int .u64) _ 33 rfl (N := 13) rfl 22 _ _ rfl ji4 rfl rfl Try.underlying22 (.int .u64 0) 8 info33 rfl (by decide) (by omega) 0 (ok := fun _ => True) (okp := fun _ => True) rfl (fun _ hk => hk) trivial (of_decide_eq_true (by first | (with_reducible assumption) | assumption)) (Nat.le_trans (Nat.mul_le_mul_right _ (of_decide_eq_true (by first | (with_reducible assumption) | assumption) : ji4.toNat ≤ 35184372088832)) (by omega)) (Below.refl _ _) (Nat.le_refl _) ?_; intro v375 w9 ho10 hb hg_ hnew_; clear hg_ hnew_; (first | rw [← Ny374.out] at ho10 | (simp only [Int.reduceToNat] at ho10; rw [← Ny374.out] at ho10)); have n0_ := A_ (Kd.R_lower ho10 (below_size hs_)); have n1_ := A_ (blk_below (g := gb373) (o := .cells #[.int .u8 a0_0] 47 (0, 0)) (nb_ BK373) hb); have n2_ := A_ (below_step hs_ hb); clear BK373 HB; have HO376 := n0_; have BK373 := n1_; have HB := n2_; clear n0_ n1_ n2_; clear hb ho10) | ((with_reducible refine gate_builtin (b := .copy) (xs := #[.tmp 14, (.tmp 15)]) rfl ?_); refine R_copyI rfl (.tmp 14) (.tmp 15) 22 rfl 33 Try.underlying22 (by kernel_rfl) (nv := mn (l1.length : Int) (y374.length : Int)) (nR_ HO376) rfl rfl (by repeat (first | exact (Kd.C_below HR1.out HB.out) | (with_reducible refine Kd.C_alloc ?_ _) | (with_reducible refine Kd.C_drewN ?_ _) | (with_reducible refine Kd.C_drew ?_))) (by unfold mn; split <;> omega) ?_; intro w11 hp_ hg hb2; rw [← Ny377.out] at hp_; have n0_ := A_ (blk_grown (g := gb373) (o := .cells #[.int .u8 a0_0] 47 (0, 0)) (nb_ BK373) hg (Kd.R_ne HO376.out BK373.out (by decide))); have n1_ := A_ (hp_); have n2_ := A_ ((Below.trans hs_ hb2 : Below w.heap.size w w11)); clear BK373 HO376 HB; have BK373 := n0_; have HO376 := n1_; have HB := n2_; clear n0_ n1_ n2_; clear hg hb2 hp_; have hcz12_0 : w11.cell? ⟨gb373, 0, none⟩ = some (.int .u8 a0_0) := (blk_cell BK373.out 0).trans rfl; have hfz12_0 := blk_frozen BK373.out 0; obtain ⟨Ao13, co13, eo13⟩ := Kd.R_slice HO376.out; subst eo13) | ((with_reducible refine gate_callee (f := 50) rfl ?_); refine goesM_ (some 22) Try.func50 #[.agg #[.int .u8 a0_0], .slice Ao13 y377.length co13, .int .i64 0, .slice A2 l2.length c2, .func (.func 47) #[.agg #[.int .u8 a0_0]] #[]] ?_; (with_reducible refine (fast_reckoner_put_add.calls k a0_0 (fun k_ => some k_ = (.slice Ao13 y377.length co13 : Value).ownBlock) (.slice Ao13 y377.length co13) y377 0 _ _ l2 a0_0 t378 w _ ?side1 ?side2 ?side3 ?side4 A7.out).mono ?_); (case side1 => repeat (first | (with_reducible first | exact HB.out | apply below_alloc | apply pw_below_drewN | apply below_drew1 | refine below_set ?_ GE373.out) | exact HB.out)); (case side2 => exact Kd.R_tight rfl HO376.out); (case side3 => exact Kd.C_kept_came (Kd.heap_int .u64) HR2.out hs_ (fun k_ hs_ => (fun e_ => Kd.R_base HO376.out k_ e_.symm) hs_)); (case side4 => exact HC2.out); rintro e w14 ⟨rfl, hy0, hb, hkp⟩; refine ⟨_, rfl, ?_⟩; have n0_ := A_ (blk_kept (nb_ BK373) hkp (fun hs_ => (fun e_ => (Kd.R_ne HO376.out BK373.out (by decide)) e_) hs_)); have n1_ := A_ (Kd.R_reok rfl hy0 (fun k_ e_ => HO376.out.1 k_ e_)); have n2_ := A_ (hb); clear BK373 HO376 HB; have BK373 := n0_; have HO376 := n1_; have HB := n2_; clear n0_ n1_ n2_; (try clear hb); (try clear hkp); (try clear hy0)))
   go_ret
   exact ⟨_, by first | rfl | (simp [errW_none, errW_some] <;> rfl) | (simp only [← hji4]; first | rfl | (simp [errW_none, errW_some] <;> rfl)) | (simp [*, errW_none, errW_some] <;> rfl), nR_ HO376, hs_⟩
  ·rw [if_neg c6] at H
   exact absurd H (by simp)
 ·rw [if_neg c5] at H
  exact absurd H (by simp)
/-! ### fast_reckoner_put_sub: function 50 -/
def fast_reckoner_put_sub.l0 : Nat → List Int → Int → Int → List Int → Int → Int → Option (List Int)
 | 0, _, _, _, _, _, _ => none
 | k + 1, x1, x2, x4, x12, x13, x14 => if x14 < x13 then (if 0 ≤ x14 then (if x14 < (x12.length : Int) then (if 0 ≤ (wrap64 (x2 + x14)) then (if (wrap64 (x2 + x14)) < (x1.length : Int) then ((fast_reckoner_sub.f k x4 (rd x1 (wrap64 (x2 + x14))) (rd x12 x14)).bind fun t382 => (fast_reckoner_put_sub.l0 k (x1.set ((wrap64 (x2 + x14)) : Int).toNat t382) x2 x4 x12 x13 (wrap64 (x14 + 1)))) else (none)) else (none)) else (none)) else (none)) else (some x1)
def fast_reckoner_put_sub.f (k : Nat) (a0_0 : Int) (l1 : List Int) (a2 : Int) (l3 : List Int) (a4 : Int) : Option (List Int) := fast_reckoner_put_sub.l0 k l1 a2 a4 l3 (l3.length : Int) 0
theorem fast_reckoner_put_sub.mono_l : ∀ k, (∀ y0 y1 y2 y3 y4 y5, LeO (fast_reckoner_put_sub.l0 k y0 y1 y2 y3 y4 y5) (fast_reckoner_put_sub.l0 (k + 1) y0 y1 y2 y3 y4 y5))
 | 0 => fun _ _ _ _ _ _ r h => by simp [fast_reckoner_put_sub.l0] at h
 | k + 1 => by
  have ih0 := fast_reckoner_put_sub.mono_l k
  ·intro y0 y1 y2 y3 y4 y5
   unfold fast_reckoner_put_sub.l0
   repeat' first
   | (with_reducible exact ih0 _ _ _ _ _ _)
   | (with_reducible exact fast_reckoner_sub.mono _ _ _ _)
   | (with_reducible exact LeO.refl _)
   | (with_reducible exact LeO.none _)
   | (with_reducible refine LeO.ite ?_ ?_)
   | (with_reducible refine LeO.bind ?_ (fun _ => ?_))
   | exact ih0 _ _ _ _ _ _
   | exact fast_reckoner_sub.mono _ _ _ _
   | exact LeO.none _
   | refine LeO.ite ?_ ?_
   | refine LeO.bind ?_ (fun _ => ?_)
theorem fast_reckoner_put_sub.mono : ∀ a0 a1 a2 a3 a4 k, LeO (fast_reckoner_put_sub.f k a0 a1 a2 a3 a4) (fast_reckoner_put_sub.f (k + 1) a0 a1 a2 a3 a4) := by
 intro a0 a1 a2 a3 a4 k
 have ih0 := fast_reckoner_put_sub.mono_l k
 unfold fast_reckoner_put_sub.f
 repeat' first
   | (with_reducible exact ih0 _ _ _ _ _ _)
   | (with_reducible exact fast_reckoner_sub.mono _ _ _ _)
   | (with_reducible exact LeO.refl _)
   | (with_reducible exact LeO.none _)
   | (with_reducible refine LeO.ite ?_ ?_)
   | (with_reducible refine LeO.bind ?_ (fun _ => ?_))
   | exact ih0 _ _ _ _ _ _
   | exact fast_reckoner_sub.mono _ _ _ _
   | exact LeO.none _
   | refine LeO.ite ?_ ?_
   | refine LeO.bind ?_ (fun _ => ?_)
set_option maxHeartbeats 8000000 in
set_option maxRecDepth 100000 in
theorem fast_reckoner_put_sub.calls (k : Nat) (a0_0 : Int) (P1_ : Nat → Prop) (u9000_ : Value) (l1 : List Int) (a2 : Int) (A3 : Option Addr) (c3 : Nat) (l3 : List Int) (a4 : Int) (r : List Int) (w0 w : World) (hB : Below w0.heap.size w0 w) (ho1 : Kd.R (Kd.int .u64) 33 w w0.heap.size P1_ u9000_ l1) (hr3 : ∀ W_, Kept w W_ (fun k_ => P1_ k_) → Kd.C (Kd.int .u64) W_ A3 l3.length l3) (hc3 : l3.length ≤ c3) (h : fast_reckoner_put_sub.f k a0_0 l1 a2 l3 a4 = some r) :
  Calls Try.prog 50 #[.agg #[.int .u8 a0_0], u9000_, .int .i64 a2, .slice A3 l3.length c3, .func (.func 51) #[.agg #[.int .u8 a4]] #[]] w fun e w' => e = .returned (.tuple #[]) ∧ Kd.R (Kd.int .u64) 33 w' w0.heap.size (fun k_ => (P1_ k_ ∨ w.heap.size ≤ k_)) u9000_ r ∧ Below w0.heap.size w0 w' ∧ Kept w w' (fun k_ => P1_ k_) := by
 have hu47 := Try.underlying47
 have HO1 := A_ (show Kd.R (Kd.int .u64) 33 w w0.heap.size (fun k_ => (P1_ k_ ∨ w.heap.size ≤ k_)) u9000_ l1 from Kd.R_mono ho1 (fun k_ hk => (.inl hk)))
 have HR3 := Aside0.mk hr3
 have HC3 := Aside0.mk hc3
 clear hr3 hc3
 have HK := A_ (Kept.refl w (fun k_ => P1_ k_))
 have HW0 := Aside0.mk hB.size
 have HB := Aside0.mk hB
 clear hB
 have H : (fast_reckoner_put_sub.l0 k l1 a2 a4 l3 (l3.length : Int) 0) = some r := h
 clear h
 have H' := Aside0.mk H
 clear H
 go_enter Try.func50, Try.ntmps50
 go_wp2_with (first | ((with_reducible refine gate_dst (N := 5) rfl ?_); refine box_event ?hg (N := 5) ?hd (cs := #[.int .u8 a0_0]) (t := 47) ?hr ?_; (case hd => rfl); (case hg => rfl); (case hr => first | (go_simp; done) | (go_simp; rfl)); intro gb379 hg w6 hbox hb; have n0_ := A_ (Kd.R_below (nR_ HO1) hb); have n1_ := A_ (Kept.below (S := (fun k_ => P1_ k_)) (by repeat (first | (with_reducible first | exact HK.out | apply Kept.alloc | apply Kept.drewN | apply Kept.drew) | exact HK.out)) hb); have n2_ := A_ (below_step hb_ hb); have n3_ := A_ (hbox); have n4_ := A_ ((by rw [hg]; exact (by first | exact HK.out.1 | exact (show Kept w _ (fun k_ => P1_ k_) from by repeat (first | (with_reducible first | exact HK.out | apply Kept.alloc | apply Kept.drewN | apply Kept.drew) | exact HK.out)).1) : w.heap.size ≤ gb379)); have n5_ := A_ ((by rw [hg]; exact (below_size hb_) : w0.heap.size ≤ gb379)); clear HO1 HK HB; have HO1 := n0_; have HK := n1_; have HB := n2_; have BK379 := n3_; have GW379 := n4_; have GE379 := n5_; clear n0_ n1_ n2_ n3_ n4_ n5_; clear hb hbox hg))
 go_loopg [14] k (fun kq v14 w' => ∃ (x1_1 : List Int) (x14_1 : Int), v14 = .int .i64 x14_1 ∧ Aside0 (fast_reckoner_put_sub.l0 kq x1_1 a2 a4 l3 (l3.length : Int) x14_1 = some r) ∧ Aside0 (kq ≤ k) ∧ Aside0 (Kd.R (Kd.int .u64) 33 w' w0.heap.size (fun k_ => (P1_ k_ ∨ w.heap.size ≤ k_)) u9000_ x1_1) ∧ Aside0 (w'.heap[gb379]? = some (.cells #[.int .u8 a0_0] 47 (0, 0))) ∧ Aside0 (Kept w w' (fun k_ => P1_ k_)) ∧ Aside0 (Below w0.heap.size w0 w'))
 case atStart => exact ⟨(l1), (0), (fs_), H', ⟨Nat.le_refl _⟩, ⟨mR_ HO1.out⟩, ⟨mb_ BK379.out⟩, ⟨by repeat (first | (with_reducible first | exact HK.out | apply Kept.alloc | apply Kept.drewN | apply Kept.drew | refine Kept.setCell ?_ (.inr GW379.out) _) | exact HK.out)⟩, ⟨hs_⟩⟩
 case round =>
  clear H'
  try clear p2
  try clear c3
  obtain ⟨x1_1, x14_1, rfl, HA, HK1, HO_1, BK379, HK, HB⟩ := hrel
  cases gk with
  | zero => exact absurd HA.out (by simp [fast_reckoner_put_sub.l0])
  | succ k1 =>
   have H := HA.out
   clear HA
   simp only [fast_reckoner_put_sub.l0] at H
   by_cases c7 : x14_1 < (l3.length : Int)
   ·rw [if_pos c7] at H
    have c7b0 : decide (x14_1 < (l3.length : Int)) = true := decide_eq_true c7
    clear c7
    by_cases c8 : 0 ≤ x14_1
    ·rw [if_pos c8] at H
     have c8b0 : decide (0 ≤ x14_1) = true := decide_eq_true c8
     clear c8
     by_cases c9 : x14_1 < (l3.length : Int)
     ·rw [if_pos c9] at H
      have c9b0 : decide (x14_1 < (l3.length : Int)) = true := decide_eq_true c9
      clear c9
      obtain ⟨ji10, hji10⟩ : ∃ j_ : Int, (wrap64 (a2 + x14_1)) = j_ := ⟨_, rfl⟩
      replace H : (if 0 ≤ (ji10) then (if (ji10) < (x1_1.length : Int) then ((fast_reckoner_sub.f k1 a4 (rd x1_1 (ji10)) (rd l3 x14_1)).bind fun t382 => (fast_reckoner_put_sub.l0 k1 (x1_1.set ((ji10) : Int).toNat t382) a2 a4 l3 (l3.length : Int) (wrap64 (x14_1 + 1)))) else (none)) else (none)) = some r := by first | (rw [hji10] at H; exact H) | (simp only [hji10] at H ⊢; exact H)
      have hji10w : (IntKind.i64.wrap (a2 + x14_1)) = ji10 := (i64_w _).trans hji10
      by_cases c11 : 0 ≤ (ji10)
      ·rw [if_pos c11] at H
       have c11b0 : decide (0 ≤ (ji10)) = true := decide_eq_true c11
       clear c11
       by_cases c12 : (ji10) < (x1_1.length : Int)
       ·rw [if_pos c12] at H
        have c12b0 : decide ((ji10) < (x1_1.length : Int)) = true := decide_eq_true c12
        clear c12
        replace H := Option.bind_eq_some_iff.mp H
        obtain ⟨t382, A130, H⟩ := H
        replace H : (fast_reckoner_put_sub.l0 k1 (x1_1.set ((ji10) : Int).toNat t382) a2 a4 l3 (l3.length : Int) (wrap64 (x14_1 + 1))) = some r := H
        have A13 := Aside0.mk A130
        clear A130
        obtain ⟨y383, hy383⟩ : ∃ y_ : List Int, y_ = (x1_1.set ((ji10) : Int).toNat t382) := ⟨_, rfl⟩
        replace H : (fast_reckoner_put_sub.l0 k1 y383 a2 a4 l3 (l3.length : Int) (wrap64 (x14_1 + 1))) = some r := by first | (rw [hy383]; with_reducible exact H) | (have H2_ := (Option.bind_some _ _).symm.trans H; rw [hy383]; with_reducible exact H2_) | (have H2_ := (Option.bind_some _ _).symm.trans H; with_reducible exact H2_) | with_reducible exact H | (rw [hy383]; exact H) | exact H
        have Ny383 := Aside0.mk hy383
        clear hy383
        have H' := Aside0.mk H
        clear H
        have p380 : 0 ≤ (x14_1 : Int) := of_decide_eq_true (by first | (with_reducible assumption) | assumption)
        have q380 : x14_1 < (l3.length : Int) := of_decide_eq_true (by first | (with_reducible assumption) | assumption)
        obtain ⟨ad380, e380, hx380_0⟩ := Kd.at_int (Kd.C_kept_now HR3.out HK.out) x14_1 p380 q380
        cases e380
        replace p380 := eq_true p380
        replace q380 := eq_true q380
        obtain ⟨Ao15, co15, eo15⟩ := Kd.R_slice HO_1.out
        subst eo15
        have p381 : 0 ≤ ((ji10) : Int) := of_decide_eq_true (by first | (with_reducible assumption) | assumption)
        have q381 : (ji10) < (x1_1.length : Int) := of_decide_eq_true (by first | (with_reducible assumption) | assumption)
        obtain ⟨ad381, e381, hx381_0⟩ := Kd.at_int (Kd.R_reads' HO_1.out).2.2 (ji10) p381 q381
        cases e381
        replace p381 := eq_true p381
        replace q381 := eq_true q381
        go_wp2_with (first | ((with_reducible refine gate_dst (N := 31) rfl ?_); refine goesV_ (some 31) rfl rfl Try.func51 (by kernel_rfl) rfl #[.agg #[.int .u8 a4], .int .u64 (rd x1_1 (ji10)), .int .u64 (rd l3 x14_1)] rfl rfl (by (try simp only [List.map_toArray, List.map_cons, List.map_nil]); first | done | (simp only [hji10]; rfl) | rfl | (simp only [List.length_drop, List.length_take]; rfl)) ?_; (with_reducible refine (fast_reckoner_sub.calls k1 a4 (rd x1_1 (ji10)) (rd l3 x14_1) t382 _ A13.out).mono ?_); rintro e w16 ⟨rfl, hb⟩; refine ⟨_, rfl, ?_⟩; have n0_ := A_ (Kd.R_below (nR_ HO_1) hb); have n1_ := A_ (blk_below (g := gb379) (o := .cells #[.int .u8 a0_0] 47 (0, 0)) (nb_ BK379) hb); have n2_ := A_ (Kept.below (S := (fun k_ => P1_ k_)) (by repeat (first | (with_reducible first | exact HK.out | apply Kept.alloc | apply Kept.drewN | apply Kept.drew | refine Kept.setCell ?_ (.inr GW379.out) _) | exact HK.out)) hb); have n3_ := A_ (below_step hs_ hb); clear HO_1 BK379 HK HB; have HO_1 := n0_; have BK379 := n1_; have HK := n2_; have HB := n3_; clear n0_ n1_ n2_ n3_; (try clear hb); (try clear hb2); (try clear hk); (try clear hi); have p14 : 0 ≤ ((ji10) : Int) := of_decide_eq_true (by first | (with_reducible assumption) | assumption); have q14 : ((ji10) : Int) < ((x1_1.length : Int) : Int) := of_decide_eq_true (by first | (with_reducible assumption) | assumption); obtain ⟨go14, co14, eo14, gb14, gl14, cl14, HG14⟩ := Kd.R_form HO_1.out (by omega); (first | cases eo14 | (injection eo14 with ea_ en_ ec_; (first | subst ea_ | (injection ea_ with ea_; subst ea_)); subst ec_; clear en_)); have GB14 := Aside0.mk gb14; have GG14 := Aside0.mk HG14; clear gb14 gl14 HG14; have HMgo14 := A_ (show (P1_ go14 ∨ w.heap.size ≤ go14) from (HO_1.out.1 _ rfl)); (first | simp only [add_plain] at hx381_0 | skip); obtain ⟨hx14_0, hf14_0⟩ := Kd.R_celln 0 HO_1.out ((ji10) : Int) p14 q14; replace p14 := eq_true p14; replace q14 := eq_true q14; obtain ⟨hy17_, hz17_⟩ := Kd.R_celln 0 HO_1.out ((ji10) : Int) (of_decide_eq_true (by first | (with_reducible assumption) | assumption)) (of_decide_eq_true (by first | (with_reducible assumption) | assumption)); have HP17 := Kd.R_putg HO_1.out ((ji10) : Int) t382) | ((with_reducible refine gate_store (t := 33) (p := 32) rfl ?_); refine store_event (t := 33) (p := 32) (v := ?vo_w18) (w1 := (w16.setCell ⟨go14, ((ji10) : Int).toNat, none⟩ (.int .u64 t382))) ?hg ?ho ?hn ?hr ?_; (case ho => rfl); (case hg => rfl); (case hn => rfl); (case hr => first | (go_simp; done) | (go_simp; rfl)); intro w18 hw; have hg : w16.grownBy w18 (some go14) := (by rw [hw]; exact HP17.2); have hp_ : Kd.R (Kd.int .u64) 33 w18 w0.heap.size (fun k_ => (P1_ k_ ∨ w.heap.size ≤ k_)) (.slice (some ⟨go14, 0, none⟩) x1_1.length co15) y383 := (by rw [hw, Ny383.out]; exact HP17.1); clear HP17; have n0_ := A_ (hp_); have n1_ := A_ (blk_grown (g := gb379) (o := .cells #[.int .u8 a0_0] 47 (0, 0)) (nb_ BK379) hg (Kd.R_ne HO_1.out BK379.out (by decide))); have n2_ := A_ ((by rw [hw]; exact below_set (HB.out) GB14.out : Below w0.heap.size w0 w18)); have n3_ := A_ (Kept.of_grown (S := (fun k_ => P1_ k_)) hg (by repeat (first | (with_reducible first | exact HK.out | apply Kept.alloc | apply Kept.drewN | apply Kept.drew | refine Kept.setCell ?_ (.inr GW379.out) _) | exact HK.out)) (fun k_ e_ => (HO_1.out.1 k_ e_))); clear HO_1 BK379 HB HK; have HO_1 := n0_; have BK379 := n1_; have HB := n2_; have HK := n3_; clear n0_ n1_ n2_ n3_; clear hg hw hp_))
        go_roundg k1
        case measure => have := HK1.out; omega
        case rel => exact ⟨(y383), (wrap64 (x14_1 + 1)), (fs_), H', ⟨by have := HK1.out; omega⟩, ⟨mR_ HO_1.out⟩, ⟨mb_ BK379.out⟩, ⟨by repeat (first | (with_reducible first | exact HK.out | apply Kept.alloc | apply Kept.drewN | apply Kept.drew | refine Kept.setCell ?_ (.inr GW379.out) _) | exact HK.out)⟩, ⟨hs_⟩⟩
       ·rw [if_neg c12] at H
        exact absurd H (by simp)
      ·rw [if_neg c11] at H
       exact absurd H (by simp)
     ·rw [if_neg c9] at H
      exact absurd H (by simp)
    ·rw [if_neg c8] at H
     exact absurd H (by simp)
   ·rw [if_neg c7] at H
    have c7b0 : decide (x14_1 < (l3.length : Int)) = false := decide_eq_false c7
    clear c7
    obtain rfl := Option.some.inj H
    go_wp2
    first | go_end0 | ((try simp only [Exit.inBlock, Exit.then]); refine bodyPost_ret (results_none rfl _ _ _) rfl ?_)
    exact ⟨fr_, nR_ HO_1, by repeat (first | (with_reducible first | exact HB.out | apply below_alloc | apply pw_below_drewN | apply below_drew1 | refine below_set ?_ GE379.out) | exact HB.out), by repeat (first | (with_reducible first | exact HK.out | apply Kept.alloc | apply Kept.drewN | apply Kept.drew | refine Kept.setCell ?_ (.inr GW379.out) _) | exact HK.out)⟩
end Go.Proofs.Ytaegmhniepfdaaa.PFastFresh
