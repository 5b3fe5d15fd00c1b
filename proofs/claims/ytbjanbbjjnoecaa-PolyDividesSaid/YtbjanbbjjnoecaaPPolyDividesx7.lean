/- The Go functions as Lean functions, each with the proof that its call comes to just that; written by a program of this session, by the words of the print. -/
import Derived.Test.YtbjanbbjjnoecaaPPolyDividesx0
import Derived.Test.YtbjanbbjjnoecaaPPolyDividesx1
import Derived.Test.YtbjanbbjjnoecaaPPolyDividesx2
namespace Go.Proofs.Ytbjanbbjjnoecaa.PPolyDivides
open Go.RowKit Go.Proofs.YtbjanbbjjnoecaaW.PrintWords Go.Proofs.YtbjanbbjjnoecaaW.PrintLast Go.Proofs.YtbjanbbjjnoecaaW.PrintMore
attribute [local go_sem] max2_int min2_int max_two min_two max_three min_three max_four min_four   -- for this text's walks alone
set_option linter.unusedVariables false
set_option linter.unusedSimpArgs false
/-! ### slices_Clone_uint64_uint64: function 35, by hand -/
def slices_Clone_uint64_uint64.f (l0 : List Int) : Option (List Int) := if l0.length < 17592186044416 then some l0 else none
set_option maxHeartbeats 8000000 in
set_option maxRecDepth 100000 in
theorem slices_Clone_uint64_uint64.calls (A0 : Option Addr) (c0 : Nat) (l0 : List Int) (r : List Int) (w : World) (hr0 : Kd.C (Kd.int .u64) w A0 l0.length l0) (hc0 : l0.length ≤ c0) (h : slices_Clone_uint64_uint64.f l0 = some r) :
  Calls Try.prog 35 #[.slice A0 l0.length c0] w fun e w' => ∃ v0_ : Value, e = .returned (v0_) ∧ Kd.R (Kd.int .u64) 34 w' w.heap.size (fun _ => True) v0_ r ∧ Below w.heap.size w w' := by
 unfold slices_Clone_uint64_uint64.f at h
 by_cases c2 : l0.length < 17592186044416
 ·rw [if_pos c2] at h
  obtain rfl := Option.some.inj h
  clear h
  have hnil : ∀ (w : World) (A : Option Addr) (n c : Nat), (binOp .eql 22 (.slice A n c) (.slice none 0 0)).run Try.prog w = .ok (.bool A.isNone) w := fun w A n c => Lib.run_eql_slice_nil (P := Try.prog) w 22 34 A n c 0 0 Try.underlying22
  cases A0 with
  | none =>
   have h0 : l0 = [] := by
    cases l0 with
    | nil => rfl
    | cons x l => obtain ⟨_, _, hx⟩ := hr0; obtain ⟨ad, ha, _⟩ := hx (by simp); cases ha
   subst h0
   clear hr0
   go_enter Try.func35, Try.ntmps35
   go_wp2
   go_ret
   exact ⟨_, rfl, Kd.R_nil _ _ _ _ _, Below.refl _ _⟩
  | some ad =>
   have HR0 := Aside0.mk hr0
   have LMc2 := Aside0.mk c2
   clear hr0 hc0 c2
   have HB := A_ (Below.refl w.heap.size w)
   obtain ⟨y113, hy113⟩ : ∃ y_ : List Int, y_ = (([] : List Int)) := ⟨_, rfl⟩
   have Ny113 := Aside0.mk hy113
   clear hy113
   obtain ⟨y116, hy116⟩ : ∃ y_ : List Int, y_ = (y113 ++ l0) := ⟨_, rfl⟩
   have Ny116 := Aside0.mk hy116
   clear hy116
   go_enter Try.func35, Try.ntmps35
   go_wp2_with (first | ((with_reducible refine gate_dst (N := 5) rfl ?_); refine Kd.R_lit (Kd.int .u64) _ 34 ?hg (N := 5) ?hd (xs := ([] : List Int)) (inner := []) (ok := fun _ => True) (okp := fun _ => True) ?hr ?hp (fun _ hk => hk) trivial (Below.refl _ _) (Nat.le_refl _) (by simp) ?_; (case hd => rfl); (case hg => rfl); (case hr => first | (go_simp; done) | (go_simp; rfl)); (case hp => exact (Reps.none _ _)); intro v114 w3 ho4 hb hg_ hnew_; clear hg_ hnew_; (first | rw [← Ny113.out] at ho4 | (simp only [Int.reduceToNat] at ho4; rw [← Ny113.out] at ho4)); have n0_ := A_ (Kd.R_lower ho4 (below_size hb_)); have n1_ := A_ (below_step hb_ hb); clear HB; have HO115 := n0_; have HB := n1_; clear n0_ n1_; clear hb ho4) | ((with_reducible refine gate_builtin (b := .append) (xs := #[.tmp 5, .tmp 6]) rfl ?_); at_builtin; refine Kd.R_append_rows (Kd.int .u64) (w0 := w) w.heap.size rfl (.tmp 5) (.tmp 6) 22 34 (.int .u64 0) 8 rfl Try.underlying22 info34 rfl (by decide) (by omega) v114 y113 l0 _ _ _ (fun _ => True) (fun _ => False) rfl rfl ?aO ?aR (fun _ _ h => h) (fun _ h => h.elim) ?aF ?aB ?aS ?aL ?_; (case aR => repeat (first | exact (Kd.C_below HR0.out HB.out) | (with_reducible refine Kd.C_alloc ?_ _) | (with_reducible refine Kd.C_drewN ?_ _) | (with_reducible refine Kd.C_drew ?_))); (case aB => exact hb_); (case aF => exact (fun _ _ => trivial)); (case aO => exact (nR_ HO115)); (case aS => exact (below_size hb_)); (case aL => have := LMc2.out; have := Ny113.out; subst this; simp; omega); intro v117 w5 ho hb hg hat; rw [← Ny116.out] at ho; have n0_ := A_ (hb); have n1_ := A_ (ho); clear HB HO115; have HB := n0_; have HO118 := n1_; clear n0_ n1_; clear ho hb hg hat))
   go_ret
   have e : y116 = l0 := by rw [Ny116.out, Ny113.out]; rfl
   rw [e] at HO118
   exact ⟨_, rfl, nR_ HO118, hb_⟩
 ·rw [if_neg c2] at h
  cases h
/-! ### poly_Trim: function 11 -/
def poly_Trim.f (k : Nat) (l0 : List Int) : Option (List Int) := (poly_trimmed.f k l0).bind fun t194 => ((slices_Clone_uint64_uint64.f t194).bind fun t197 => (some t197))
theorem poly_Trim.mono : ∀ a0 k, LeO (poly_Trim.f k a0) (poly_Trim.f (k + 1) a0) := by
 intro a0 k
 unfold poly_Trim.f
 repeat' first
   | (with_reducible exact poly_trimmed.mono _ _)
   | (with_reducible exact LeO.refl _)
   | (with_reducible exact LeO.none _)
   | (with_reducible refine LeO.ite ?_ ?_)
   | (with_reducible refine LeO.bind ?_ (fun _ => ?_))
   | exact poly_trimmed.mono _ _
   | exact LeO.none _
   | refine LeO.ite ?_ ?_
   | refine LeO.bind ?_ (fun _ => ?_)
set_option maxHeartbeats 8000000 in
set_option maxRecDepth 100000 in
theorem poly_Trim.calls (k : Nat) (A0 : Option Addr) (c0 : Nat) (l0 : List Int) (r : List Int) (w : World) (hr0 : Kd.C (Kd.int .u64) w A0 l0.length l0) (hc0 : l0.length ≤ c0) (h : poly_Trim.f k l0 = some r) :
  Calls Try.prog 11 #[.slice A0 l0.length c0] w fun e w' => ∃ v0_ : Value, e = .returned (v0_) ∧ Kd.R (Kd.int .u64) 34 w' w.heap.size (fun _ => True) v0_ r ∧ Below w.heap.size w w' := by
 have HR0 := Aside0.mk hr0
 have HC0 := Aside0.mk hc0
 clear hr0 hc0
 have HB := A_ (Below.refl w.heap.size w)
 have H : ((poly_trimmed.f k l0).bind fun t194 => ((slices_Clone_uint64_uint64.f t194).bind fun t197 => (some t197))) = some r := h
 clear h
 replace H := Option.bind_eq_some_iff.mp H
 obtain ⟨t194, A20, H⟩ := H
 replace H : ((slices_Clone_uint64_uint64.f t194).bind fun t197 => (some t197)) = some r := H
 have A2 := Aside0.mk A20
 clear A20
 replace H := Option.bind_eq_some_iff.mp H
 obtain ⟨t197, A30, H⟩ := H
 replace H : (some t197) = some r := H
 have A3 := Aside0.mk A30
 clear A30
 obtain rfl := Option.some.inj H
 go_enter Try.func11, Try.ntmps11
 go_wp2_with (first | ((with_reducible refine gate_callee (f := 36) rfl ?_); refine goesM_ (some 4) Try.func36 #[.slice A0 l0.length c0] ?_; (with_reducible refine (poly_trimmed.calls k (fun k_ => k_ < w.heap.size) _ _ l0 t194 _ ?side1 A2.out).mono ?_); (case side1 => exact Kd.V_mk HC0.out (Kd.F_below (Kd.C_F (Kd.heap_int .u64) HR0.out) hb_)); rintro e w4 ⟨v195, rfl, ho0, hb⟩; refine ⟨_, rfl, ?_⟩; have n0_ := A_ (Kd.V_lower (Kd.V_mono (ok' := fun k_ => True) ho0 (fun k_ hk_ => trivial)) (below_size hb_)); have n1_ := A_ (below_step hb_ hb); clear HB; have HO196 := n0_; have HB := n1_; clear n0_ n1_; (try clear hb); (try clear ho0); obtain ⟨Ao5, co5, eo5⟩ := Kd.V_slice HO196.out; subst eo5) | ((with_reducible refine gate_callee (f := 35) rfl ?_); refine goesM_ (some 5) Try.func35 #[.slice Ao5 t194.length co5] ?_; (with_reducible refine (slices_Clone_uint64_uint64.calls _ _ t194 t197 _ ?side1 ?side2 A3.out).mono ?_); (case side1 => repeat (first | exact (Kd.V_reads' HO196.out).2.2 | (with_reducible refine Kd.C_alloc ?_ _) | (with_reducible refine Kd.C_drewN ?_ _) | (with_reducible refine Kd.C_drew ?_))); (case side2 => exact (Kd.V_reads' HO196.out).2.1); rintro e w6 ⟨v198, rfl, ho0, hb⟩; refine ⟨_, rfl, ?_⟩; have n0_ := A_ (Kd.V_elder' (nV_ HO196) (Kd.R_base ho0) hb); have n1_ := A_ (Kd.R_lower ho0 (below_size hb_)); have n2_ := A_ (below_step hb_ hb); clear HO196 HB; have HO196 := n0_; have HO199 := n1_; have HB := n2_; clear n0_ n1_ n2_; (try clear hb); (try clear ho0)))
 go_ret
 exact ⟨_, fr_, nR_ HO199, hb_⟩
/-! ### field_Sub: function 52 -/
def field_Sub.f (k : Nat) (a0 : Int) (a1 : Int) (a2 : Int) : Option (Int × Int) := (field_asked.f k a0 (([a1, a2] : List Int))).bind fun bt203 => (if bt203.2.2 = 0 then ((field_reckoner_sub.f bt203.1 bt203.2.1 a1 a2).bind fun t207 => (some (t207, 0))) else (some (0, bt203.2.2)))
theorem field_Sub.mono : ∀ a0 a1 a2 k, LeO (field_Sub.f k a0 a1 a2) (field_Sub.f (k + 1) a0 a1 a2) := by
 intro a0 a1 a2 k
 unfold field_Sub.f
 repeat' first
   | (with_reducible exact field_asked.mono _ _ _)
   | (with_reducible exact LeO.refl _)
   | (with_reducible exact LeO.none _)
   | (with_reducible refine LeO.ite ?_ ?_)
   | (with_reducible refine LeO.bind ?_ (fun _ => ?_))
   | exact field_asked.mono _ _ _
   | exact LeO.none _
   | refine LeO.ite ?_ ?_
   | refine LeO.bind ?_ (fun _ => ?_)
set_option maxHeartbeats 8000000 in
set_option maxRecDepth 100000 in
theorem field_Sub.calls (k : Nat) (a0 : Int) (a1 : Int) (a2 : Int) (r1 : Int) (r2 : Int) (w : World) (h : field_Sub.f k a0 a1 a2 = some (r1, r2)) :
  Calls Try.prog 52 #[.int .u8 a0, .int .u64 a1, .int .u64 a2] w fun e w' => e = .returned (.tuple #[.int .u64 r1, .int .i64 r2]) ∧ Below w.heap.size w w' := by
 have hu70 := Try.underlying70
 have HB := A_ (Below.refl w.heap.size w)
 have H : ((field_asked.f k a0 (([a1, a2] : List Int))).bind fun bt203 => (if bt203.2.2 = 0 then ((field_reckoner_sub.f bt203.1 bt203.2.1 a1 a2).bind fun t207 => (some (t207, 0))) else (some (0, bt203.2.2)))) = some (r1, r2) := h
 clear h
 obtain ⟨y200, hy200⟩ : ∃ y_ : List Int, y_ = (([a1, a2] : List Int)) := ⟨_, rfl⟩
 replace H : ((field_asked.f k a0 y200).bind fun bt203 => (if bt203.2.2 = 0 then ((field_reckoner_sub.f bt203.1 bt203.2.1 a1 a2).bind fun t207 => (some (t207, 0))) else (some (0, bt203.2.2)))) = some (r1, r2) := by first | (rw [hy200]; with_reducible exact H) | (have H2_ := (Option.bind_some _ _).symm.trans H; rw [hy200]; with_reducible exact H2_) | (have H2_ := (Option.bind_some _ _).symm.trans H; with_reducible exact H2_) | with_reducible exact H | (rw [hy200]; exact H) | exact H
 have Ny200 := Aside0.mk hy200
 clear hy200
 replace H := Option.bind_eq_some_iff.mp H
 obtain ⟨⟨t203, t204, t205⟩, A40, H⟩ := H
 replace H : (if t205 = 0 then ((field_reckoner_sub.f t203 t204 a1 a2).bind fun t207 => (some (t207, 0))) else (some (0, t205))) = some (r1, r2) := H
 have A4 := Aside0.mk A40
 clear A40
 have HC5 := Aside0.mk H
 clear H
 go_enter Try.func52, Try.ntmps52
 go_upto_if 19 with (first | ((with_reducible refine gate_dst (N := 14) rfl ?_); refine Kd.R_lit (Kd.int .u64) _ 34 ?hg (N := 14) ?hd (xs := ([a1, a2] : List Int)) (inner := [.int .u64 a1, .int .u64 a2]) (ok := fun _ => True) (okp := fun _ => True) ?hr ?hp (fun _ hk => hk) trivial (Below.refl _ _) (Nat.le_refl _) (by simp) ?_; (case hd => rfl); (case hg => rfl); (case hr => first | (go_simp; done) | (go_simp; rfl)); (case hp => exact (Reps.one (show Kd.M (Kd.int .u64) _ _ _ a1 [.int .u64 a1] from rfl) (Reps.one (show Kd.M (Kd.int .u64) _ _ _ a2 [.int .u64 a2] from rfl) (Reps.none _ _)))); intro v201 w6 ho7 hb hg_ hnew_; clear hg_ hnew_; (first | rw [← Ny200.out] at ho7 | (simp only [Int.reduceToNat] at ho7; rw [← Ny200.out] at ho7)); have n0_ := A_ (Kd.R_lower ho7 (below_size hb_)); have n1_ := A_ (below_step hb_ hb); clear HB; have HO202 := n0_; have HB := n1_; clear n0_ n1_; clear hb ho7; obtain ⟨Ao8, co8, eo8⟩ := Kd.R_slice HO202.out; subst eo8) | ((with_reducible refine gate_callee (f := 53) rfl ?_); refine goesM_ (some 15) Try.func53 #[.int .u8 a0, .slice Ao8 y200.length co8] ?_; (with_reducible refine (field_asked.calls k a0 _ _ y200 t203 t204 t205 _ ?side1 ?side2 A4.out).mono ?_); (case side1 => repeat (first | exact (Kd.R_reads' HO202.out).2.2 | (with_reducible refine Kd.C_alloc ?_ _) | (with_reducible refine Kd.C_drewN ?_ _) | (with_reducible refine Kd.C_drew ?_))); (case side2 => exact (Kd.R_reads' HO202.out).2.1); rintro e w9 ⟨rfl, hb⟩; refine ⟨_, rfl, ?_⟩; have n0_ := A_ (Kd.R_below (nR_ HO202) hb); have n1_ := A_ (below_step hb_ hb); clear HO202 HB; have HO202 := n0_; have HB := n1_; clear n0_ n1_; (try clear hb)) | ((with_reducible refine gate_dst (N := 8) rfl ?_); refine box_event ?hg (N := 8) ?hd (cs := #[.int .u64 0, .bool false]) (t := 70) ?hr ?_; (case hd => rfl); (case hg => rfl); (case hr => first | (go_simp; done) | (go_simp; rfl)); intro gb206 hg w10 hbox hb; have n0_ := A_ (Kd.R_below (nR_ HO202) hb); have n1_ := A_ (below_step hb_ hb); have n2_ := A_ (hbox); have n3_ := A_ ((by rw [hg]; exact (below_size hb_) : w.heap.size ≤ gb206)); have n4_ := A_ ((by rw [hg]; exact (below_size hb_) : w.heap.size ≤ gb206)); clear HO202 HB; have HO202 := n0_; have HB := n1_; have BK206 := n2_; have GW206 := n3_; have GE206 := n4_; clear n0_ n1_ n2_ n3_ n4_; clear hb hbox hg; have hcz11_0 : w10.cell? ⟨gb206, 0, none⟩ = some (.int .u64 0) := (blk_cell BK206.out 0).trans rfl; have hcz11_1 : w10.cell? ⟨gb206, 1, none⟩ = some (.bool false) := (blk_cell BK206.out 1).trans rfl; have hfz11_0 := blk_frozen BK206.out 0; have hfz11_1 := blk_frozen BK206.out 1))
 (try simp only [Act.put, List.setIfInBounds_toArray, List.set_cons_zero, List.set_cons_succ])
 have H := HC5.out
 clear HC5
 by_cases c12 : t205 = 0
 ·rw [if_pos c12] at H
  have c12b0 : (t205 == 0) = true := beq_iff_eq.mpr c12
  have c12b1 : (t205 != 0) = false := bne_eq_false_iff_eq.mpr c12
  clear c12
  (first | rw [c12b0] | rw [c12b1] | (simp only [i64_w, i32_w]; first | rw [c12b0] | rw [c12b1]) | skip)
  replace H := Option.bind_eq_some_iff.mp H
  obtain ⟨t207, A130, H⟩ := H
  replace H : (some (t207, 0)) = some (r1, r2) := H
  have A13 := Aside0.mk A130
  clear A130
  simp only [Option.some.injEq, Prod.mk.injEq] at H
  obtain ⟨rfl, rfl⟩ := H
  have hcz14_0 : w10.cell? ⟨gb206, 0, none⟩ = some (.int .u64 0) := (blk_cell BK206.out 0).trans rfl
  have hcz14_1 : w10.cell? ⟨gb206, 1, none⟩ = some (.bool false) := (blk_cell BK206.out 1).trans rfl
  have hfz14_0 := blk_frozen BK206.out 0
  have hfz14_1 := blk_frozen BK206.out 1
  go_wp2_with (first | ((with_reducible refine gate_callee (f := 59) rfl ?_); refine goesM_ (some 24) Try.func59 #[.agg #[.int .u64 t203, .bool t204], .int .u64 a1, .int .u64 a2] ?_; (with_reducible refine (field_reckoner_sub.calls t203 t204 a1 a2 t207 _ A13.out).mono ?_); rintro e w15 ⟨rfl, hb⟩; refine ⟨_, rfl, ?_⟩; have n0_ := A_ (Kd.R_below (by (with_reducible repeat (first | apply Kd.R_alloc | apply Kd.R_drewN | apply Kd.R_drew)); exact (Kd.R_mono (Kd.R_far (p := ⟨gb206, 1, none⟩) (Kd.R_far (p := ⟨gb206, 0, none⟩) (Kd.R_types HO202.out BK206.out (by decide)) (fun _ hk => hk.2) (.int .u64 t203)) (fun _ hk => hk.2) (.bool t204)) (fun _ h_ => h_.1))) hb); have n1_ := A_ (blk_below (g := gb206) (o := .cells #[.int .u64 t203, .bool t204] 70 (0, 0)) (by (with_reducible repeat (first | refine blk_drewN ?_ _ | refine blk_drew ?_ | refine blk_alloc ?_ _)); refine blk_put (cs := #[.int .u64 t203, .bool false]) ?_ 1 _ rfl; (with_reducible repeat (first | refine blk_drewN ?_ _ | refine blk_drew ?_ | refine blk_alloc ?_ _)); refine blk_put (cs := #[.int .u64 0, .bool false]) ?_ 0 _ rfl; (with_reducible repeat (first | refine blk_drewN ?_ _ | refine blk_drew ?_ | refine blk_alloc ?_ _)); exact BK206.out) hb); have n2_ := A_ (below_step hs_ hb); clear HO202 BK206 HB; have HO202 := n0_; have BK206 := n1_; have HB := n2_; clear n0_ n1_ n2_; (try clear hb)))
  go_ret2
  exact ⟨fr_, hs_⟩
 ·rw [if_neg c12] at H
  have c12b0 : (t205 == 0) = false := beq_eq_false_iff_ne.mpr c12
  have c12b1 : (t205 != 0) = true := bne_iff_ne.mpr c12
  (first | rw [c12b0] | rw [c12b1] | (simp only [i64_w, i32_w]; first | rw [c12b0] | rw [c12b1]) | skip)
  simp only [Option.some.injEq, Prod.mk.injEq] at H
  obtain ⟨rfl, rfl⟩ := H
  go_wp2
  go_ret2
  exact ⟨fr_, hs_⟩
/-! ### poly_reckoner_sub: function 40 -/
def poly_reckoner_sub.f (k : Nat) (a0_0 : Int) (a1 : Int) (a2 : Int) : Option (Int) := (field_Sub.f k a0_0 a1 a2).bind fun bt209 => (some bt209.1)
theorem poly_reckoner_sub.mono : ∀ a0 a1 a2 k, LeO (poly_reckoner_sub.f k a0 a1 a2) (poly_reckoner_sub.f (k + 1) a0 a1 a2) := by
 intro a0 a1 a2 k
 unfold poly_reckoner_sub.f
 repeat' first
   | (with_reducible exact field_Sub.mono _ _ _ _)
   | (with_reducible exact LeO.refl _)
   | (with_reducible exact LeO.none _)
   | (with_reducible refine LeO.ite ?_ ?_)
   | (with_reducible refine LeO.bind ?_ (fun _ => ?_))
   | exact field_Sub.mono _ _ _ _
   | exact LeO.none _
   | refine LeO.ite ?_ ?_
   | refine LeO.bind ?_ (fun _ => ?_)
set_option maxHeartbeats 8000000 in
set_option maxRecDepth 100000 in
theorem poly_reckoner_sub.calls (k : Nat) (a0_0 : Int) (a1 : Int) (a2 : Int) (r : Int) (w : World) (h : poly_reckoner_sub.f k a0_0 a1 a2 = some r) :
  Calls Try.prog 40 #[.agg #[.int .u8 a0_0], .int .u64 a1, .int .u64 a2] w fun e w' => e = .returned (.int .u64 r) ∧ Below w.heap.size w w' := by
 have hu57 := Try.underlying57
 have HB := A_ (Below.refl w.heap.size w)
 have H : ((field_Sub.f k a0_0 a1 a2).bind fun bt209 => (some bt209.1)) = some r := h
 clear h
 replace H := Option.bind_eq_some_iff.mp H
 obtain ⟨⟨t209, t210⟩, A40, H⟩ := H
 replace H : (some t209) = some r := H
 have A4 := Aside0.mk A40
 clear A40
 obtain rfl := Option.some.inj H
 go_enter Try.func40, Try.ntmps40
 go_wp2_with (first | ((with_reducible refine gate_dst (N := 3) rfl ?_); refine box_event ?hg (N := 3) ?hd (cs := #[.int .u8 a0_0]) (t := 57) ?hr ?_; (case hd => rfl); (case hg => rfl); (case hr => first | (go_simp; done) | (go_simp; rfl)); intro gb208 hg w5 hbox hb; have n0_ := A_ (below_step hb_ hb); have n1_ := A_ (hbox); have n2_ := A_ ((by rw [hg]; exact (below_size hb_) : w.heap.size ≤ gb208)); have n3_ := A_ ((by rw [hg]; exact (below_size hb_) : w.heap.size ≤ gb208)); clear HB; have HB := n0_; have BK208 := n1_; have GW208 := n2_; have GE208 := n3_; clear n0_ n1_ n2_ n3_; clear hb hbox hg; have hcz6_0 : w5.cell? ⟨gb208, 0, none⟩ = some (.int .u8 a0_0) := (blk_cell BK208.out 0).trans rfl; have hfz6_0 := blk_frozen BK208.out 0) | ((with_reducible refine gate_callee (f := 52) rfl ?_); refine goesM_ (some 14) Try.func52 #[.int .u8 a0_0, .int .u64 a1, .int .u64 a2] ?_; (with_reducible refine (field_Sub.calls k a0_0 a1 a2 t209 t210 _ A4.out).mono ?_); rintro e w7 ⟨rfl, hb⟩; refine ⟨_, rfl, ?_⟩; have n0_ := A_ (blk_below (g := gb208) (o := .cells #[.int .u8 a0_0] 57 (0, 0)) (nb_ BK208) hb); have n1_ := A_ (below_step hs_ hb); clear BK208 HB; have BK208 := n0_; have HB := n1_; clear n0_ n1_; (try clear hb)))
 go_ret
 exact ⟨fr_, hs_⟩
/-! ### field_reckoner_pow: function 68 -/
def field_reckoner_pow.l0 : Nat → Int → Int → Int → Int → Bool → Option (Int)
 | 0, _, _, _, _, _ => none
 | k + 1, x1, x2, x7, x212000, x212001 => if x2 > 0 then (if (Go.bits .and .u64 x2 1) = 1 then ((field_reckoner_mul.f x212000 x212001 x7 x1).bind fun t212 => ((field_reckoner_mul.f x212000 x212001 x1 x1).bind fun t213 => (field_reckoner_pow.l0 k t213 (x2 / 2) t212 x212000 x212001))) else ((field_reckoner_mul.f x212000 x212001 x1 x1).bind fun t214 => (field_reckoner_pow.l0 k t214 (x2 / 2) x7 x212000 x212001))) else (some x7)
def field_reckoner_pow.f (k : Nat) (a0_0 : Int) (a0_1 : Bool) (a1 : Int) (a2 : Int) : Option (Int) := field_reckoner_pow.l0 k a1 a2 1 a0_0 a0_1
theorem field_reckoner_pow.mono_l : ∀ k, (∀ y0 y1 y2 y3 y4, LeO (field_reckoner_pow.l0 k y0 y1 y2 y3 y4) (field_reckoner_pow.l0 (k + 1) y0 y1 y2 y3 y4))
 | 0 => fun _ _ _ _ _ r h => by simp [field_reckoner_pow.l0] at h
 | k + 1 => by
  have ih0 := field_reckoner_pow.mono_l k
  ·intro y0 y1 y2 y3 y4
   unfold field_reckoner_pow.l0
   repeat' first
   | (with_reducible exact ih0 _ _ _ _ _)
   | (with_reducible exact LeO.refl _)
   | (with_reducible exact LeO.none _)
   | (with_reducible refine LeO.ite ?_ ?_)
   | (with_reducible refine LeO.bind ?_ (fun _ => ?_))
   | exact ih0 _ _ _ _ _
   | exact LeO.none _
   | refine LeO.ite ?_ ?_
   | refine LeO.bind ?_ (fun _ => ?_)
theorem field_reckoner_pow.mono : ∀ a0 a1 a2 a3 k, LeO (field_reckoner_pow.f k a0 a1 a2 a3) (field_reckoner_pow.f (k + 1) a0 a1 a2 a3) := by
 intro a0 a1 a2 a3 k
 have ih0 := field_reckoner_pow.mono_l k
 unfold field_reckoner_pow.f
 repeat' first
   | (with_reducible exact ih0 _ _ _ _ _)
   | (with_reducible exact LeO.refl _)
   | (with_reducible exact LeO.none _)
   | (with_reducible refine LeO.ite ?_ ?_)
   | (with_reducible refine LeO.bind ?_ (fun _ => ?_))
   | exact ih0 _ _ _ _ _
   | exact LeO.none _
   | refine LeO.ite ?_ ?_
   | refine LeO.bind ?_ (fun _ => ?_)
set_option maxHeartbeats 8000000 in
set_option maxRecDepth 100000 in
theorem field_reckoner_pow.calls (k : Nat) (a0_0 : Int) (a0_1 : Bool) (a1 : Int) (a2 : Int) (r : Int) (w : World) (h : field_reckoner_pow.f k a0_0 a0_1 a1 a2 = some r) :
  Calls Try.prog 68 #[.agg #[.int .u64 a0_0, .bool a0_1], .int .u64 a1, .int .u64 a2] w fun e w' => e = .returned (.int .u64 r) ∧ Below w.heap.size w w' := by
 have hu70 := Try.underlying70
 have HB := A_ (Below.refl w.heap.size w)
 have H : (field_reckoner_pow.l0 k a1 a2 1 a0_0 a0_1) = some r := h
 clear h
 have H' := Aside0.mk H
 clear H
 go_enter Try.func68, Try.ntmps68
 go_wp2_with (first | ((with_reducible refine gate_dst (N := 3) rfl ?_); refine box_event ?hg (N := 3) ?hd (cs := #[.int .u64 a0_0, .bool a0_1]) (t := 70) ?hr ?_; (case hd => rfl); (case hg => rfl); (case hr => first | (go_simp; done) | (go_simp; rfl)); intro gb211 hg w4 hbox hb; have n0_ := A_ (below_step hb_ hb); have n1_ := A_ (hbox); have n2_ := A_ ((by rw [hg]; exact (below_size hb_) : w.heap.size ≤ gb211)); have n3_ := A_ ((by rw [hg]; exact (below_size hb_) : w.heap.size ≤ gb211)); clear HB; have HB := n0_; have BK211 := n1_; have GW211 := n2_; have GE211 := n3_; clear n0_ n1_ n2_ n3_; clear hb hbox hg))
 go_loopg [1, 2, 7] k (fun kq v1 v2 v7 w' => ∃ (x1_1 : Int) (x2_1 : Int) (x7_1 : Int), v1 = .int .u64 x1_1 ∧ v2 = .int .u64 x2_1 ∧ v7 = .int .u64 x7_1 ∧ Aside0 (field_reckoner_pow.l0 kq x1_1 x2_1 x7_1 a0_0 a0_1 = some r) ∧ Aside0 (kq ≤ k) ∧ Aside0 (w'.heap[gb211]? = some (.cells #[.int .u64 a0_0, .bool a0_1] 70 (0, 0))) ∧ Aside0 (Below w.heap.size w w'))
 case atStart => exact ⟨(a1), (a2), (1), (fs_), (fs_), (fs_), H', ⟨Nat.le_refl _⟩, ⟨mb_ BK211.out⟩, ⟨hs_⟩⟩
 case round =>
  clear H'
  try clear p2
  obtain ⟨x1_1, x2_1, x7_1, rfl, rfl, rfl, HA, HK1, BK211, HB⟩ := hrel
  cases gk with
  | zero => exact absurd HA.out (by simp [field_reckoner_pow.l0])
  | succ k1 =>
   have H := HA.out
   clear HA
   simp only [field_reckoner_pow.l0] at H
   by_cases c5 : x2_1 > 0
   ·rw [if_pos c5] at H
    have c5b0 : decide (0 < x2_1) = true := decide_eq_true c5
    clear c5
    by_cases c6 : (Go.bits .and .u64 x2_1 1) = 1
    ·rw [if_pos c6] at H
     have c6b0 : ((Go.bits .and .u64 x2_1 1) == 1) = true := beq_iff_eq.mpr c6
     have c6b1 : ((Go.bits .and .u64 x2_1 1) != 1) = false := bne_eq_false_iff_eq.mpr c6
     clear c6
     replace H := Option.bind_eq_some_iff.mp H
     obtain ⟨t212, A70, H⟩ := H
     replace H : ((field_reckoner_mul.f a0_0 a0_1 x1_1 x1_1).bind fun t213 => (field_reckoner_pow.l0 k1 t213 (x2_1 / 2) t212 a0_0 a0_1)) = some r := H
     have A7 := Aside0.mk A70
     clear A70
     replace H := Option.bind_eq_some_iff.mp H
     obtain ⟨t213, A80, H⟩ := H
     replace H : (field_reckoner_pow.l0 k1 t213 (x2_1 / 2) t212 a0_0 a0_1) = some r := H
     have A8 := Aside0.mk A80
     clear A80
     have H' := Aside0.mk H
     clear H
     have hcz9_0 : wr.cell? ⟨gb211, 0, none⟩ = some (.int .u64 a0_0) := (blk_cell BK211.out 0).trans rfl
     have hcz9_1 : wr.cell? ⟨gb211, 1, none⟩ = some (.bool a0_1) := (blk_cell BK211.out 1).trans rfl
     have hfz9_0 := blk_frozen BK211.out 0
     have hfz9_1 := blk_frozen BK211.out 1
     go_wp2_with (first | ((with_reducible refine gate_callee (f := 62) rfl ?_); refine goesM_ (some 18) Try.func62 #[.agg #[.int .u64 a0_0, .bool a0_1], .int .u64 x7_1, .int .u64 x1_1] ?_; (with_reducible refine (field_reckoner_mul.calls a0_0 a0_1 x7_1 x1_1 t212 _ A7.out).mono ?_); rintro e w10 ⟨rfl, hb⟩; refine ⟨_, rfl, ?_⟩; have n0_ := A_ (blk_below (g := gb211) (o := .cells #[.int .u64 a0_0, .bool a0_1] 70 (0, 0)) (nb_ BK211) hb); have n1_ := A_ (below_step hs_ hb); clear BK211 HB; have BK211 := n0_; have HB := n1_; clear n0_ n1_; (try clear hb); have hcz11_0 : w10.cell? ⟨gb211, 0, none⟩ = some (.int .u64 a0_0) := (blk_cell BK211.out 0).trans rfl; have hcz11_1 : w10.cell? ⟨gb211, 1, none⟩ = some (.bool a0_1) := (blk_cell BK211.out 1).trans rfl; have hfz11_0 := blk_frozen BK211.out 0; have hfz11_1 := blk_frozen BK211.out 1) | ((with_reducible refine gate_callee (f := 62) rfl ?_); refine goesM_ (some 22) Try.func62 #[.agg #[.int .u64 a0_0, .bool a0_1], .int .u64 x1_1, .int .u64 x1_1] ?_; (with_reducible refine (field_reckoner_mul.calls a0_0 a0_1 x1_1 x1_1 t213 _ A8.out).mono ?_); rintro e w12 ⟨rfl, hb⟩; refine ⟨_, rfl, ?_⟩; have n0_ := A_ (blk_below (g := gb211) (o := .cells #[.int .u64 a0_0, .bool a0_1] 70 (0, 0)) (nb_ BK211) hb); have n1_ := A_ (below_step hs_ hb); clear BK211 HB; have BK211 := n0_; have HB := n1_; clear n0_ n1_; (try clear hb)))
     go_roundg k1
     case measure => have := HK1.out; omega
     case rel => exact ⟨(t213), (x2_1 / 2), (t212), (fs_), (fs_), (fs_), H', ⟨by have := HK1.out; omega⟩, ⟨mb_ BK211.out⟩, ⟨hs_⟩⟩
    ·rw [if_neg c6] at H
     have c6b0 : ((Go.bits .and .u64 x2_1 1) == 1) = false := beq_eq_false_iff_ne.mpr c6
     have c6b1 : ((Go.bits .and .u64 x2_1 1) != 1) = true := bne_iff_ne.mpr c6
     replace H := Option.bind_eq_some_iff.mp H
     obtain ⟨t214, A130, H⟩ := H
     replace H : (field_reckoner_pow.l0 k1 t214 (x2_1 / 2) x7_1 a0_0 a0_1) = some r := H
     have A13 := Aside0.mk A130
     clear A130
     have H' := Aside0.mk H
     clear H
     have hcz14_0 : wr.cell? ⟨gb211, 0, none⟩ = some (.int .u64 a0_0) := (blk_cell BK211.out 0).trans rfl
     have hcz14_1 : wr.cell? ⟨gb211, 1, none⟩ = some (.bool a0_1) := (blk_cell BK211.out 1).trans rfl
     have hfz14_0 := blk_frozen BK211.out 0
     have hfz14_1 := blk_frozen BK211.out 1
     go_wp2_with (first | ((with_reducible refine gate_callee (f := 62) rfl ?_); refine goesM_ (some 22) Try.func62 #[.agg #[.int .u64 a0_0, .bool a0_1], .int .u64 x1_1, .int .u64 x1_1] ?_; (with_reducible refine (field_reckoner_mul.calls a0_0 a0_1 x1_1 x1_1 t214 _ A13.out).mono ?_); rintro e w15 ⟨rfl, hb⟩; refine ⟨_, rfl, ?_⟩; have n0_ := A_ (blk_below (g := gb211) (o := .cells #[.int .u64 a0_0, .bool a0_1] 70 (0, 0)) (nb_ BK211) hb); have n1_ := A_ (below_step hs_ hb); clear BK211 HB; have BK211 := n0_; have HB := n1_; clear n0_ n1_; (try clear hb)))
     go_roundg k1
     case measure => have := HK1.out; omega
     case rel => exact ⟨(t214), (x2_1 / 2), (x7_1), (fs_), (fs_), (fs_), H', ⟨by have := HK1.out; omega⟩, ⟨mb_ BK211.out⟩, ⟨hs_⟩⟩
   ·rw [if_neg c5] at H
    have c5b0 : decide (0 < x2_1) = false := decide_eq_false c5
    clear c5
    obtain rfl := Option.some.inj H
    go_wp2
    go_ret
    exact ⟨fr_, hs_⟩
/-! ### field_reckoner_inv: function 63 -/
def field_reckoner_inv.f (k : Nat) (a0_0 : Int) (a0_1 : Bool) (a1 : Int) : Option (Int) := (field_reckoner_pow.f k a0_0 a0_1 a1 (IntKind.u64.wrap (a0_0 - 2))).bind fun t216 => (some t216)
theorem field_reckoner_inv.mono : ∀ a0 a1 a2 k, LeO (field_reckoner_inv.f k a0 a1 a2) (field_reckoner_inv.f (k + 1) a0 a1 a2) := by
 intro a0 a1 a2 k
 unfold field_reckoner_inv.f
 repeat' first
   | (with_reducible exact field_reckoner_pow.mono _ _ _ _ _)
   | (with_reducible exact LeO.refl _)
   | (with_reducible exact LeO.none _)
   | (with_reducible refine LeO.ite ?_ ?_)
   | (with_reducible refine LeO.bind ?_ (fun _ => ?_))
   | exact field_reckoner_pow.mono _ _ _ _ _
   | exact LeO.none _
   | refine LeO.ite ?_ ?_
   | refine LeO.bind ?_ (fun _ => ?_)
set_option maxHeartbeats 8000000 in
set_option maxRecDepth 100000 in
theorem field_reckoner_inv.calls (k : Nat) (a0_0 : Int) (a0_1 : Bool) (a1 : Int) (r : Int) (w : World) (h : field_reckoner_inv.f k a0_0 a0_1 a1 = some r) :
  Calls Try.prog 63 #[.agg #[.int .u64 a0_0, .bool a0_1], .int .u64 a1] w fun e w' => e = .returned (.int .u64 r) ∧ Below w.heap.size w w' := by
 have hu70 := Try.underlying70
 have HB := A_ (Below.refl w.heap.size w)
 have H : ((field_reckoner_pow.f k a0_0 a0_1 a1 (IntKind.u64.wrap (a0_0 - 2))).bind fun t216 => (some t216)) = some r := h
 clear h
 replace H := Option.bind_eq_some_iff.mp H
 obtain ⟨t216, A30, H⟩ := H
 replace H : (some t216) = some r := H
 have A3 := Aside0.mk A30
 clear A30
 obtain rfl := Option.some.inj H
 go_enter Try.func63, Try.ntmps63
 go_wp2_with (first | ((with_reducible refine gate_dst (N := 2) rfl ?_); refine box_event ?hg (N := 2) ?hd (cs := #[.int .u64 a0_0, .bool a0_1]) (t := 70) ?hr ?_; (case hd => rfl); (case hg => rfl); (case hr => first | (go_simp; done) | (go_simp; rfl)); intro gb215 hg w4 hbox hb; have n0_ := A_ (below_step hb_ hb); have n1_ := A_ (hbox); have n2_ := A_ ((by rw [hg]; exact (below_size hb_) : w.heap.size ≤ gb215)); have n3_ := A_ ((by rw [hg]; exact (below_size hb_) : w.heap.size ≤ gb215)); clear HB; have HB := n0_; have BK215 := n1_; have GW215 := n2_; have GE215 := n3_; clear n0_ n1_ n2_ n3_; clear hb hbox hg; have hcz5_0 : w4.cell? ⟨gb215, 0, none⟩ = some (.int .u64 a0_0) := (blk_cell BK215.out 0).trans rfl; have hcz5_1 : w4.cell? ⟨gb215, 1, none⟩ = some (.bool a0_1) := (blk_cell BK215.out 1).trans rfl; have hfz5_0 := blk_frozen BK215.out 0; have hfz5_1 := blk_frozen BK215.out 1) | ((with_reducible refine gate_callee (f := 68) rfl ?_); refine goesM_ (some 10) Try.func68 #[.agg #[.int .u64 a0_0, .bool a0_1], .int .u64 a1, .int .u64 (IntKind.u64.wrap (a0_0 - 2))] ?_; (with_reducible refine (field_reckoner_pow.calls k a0_0 a0_1 a1 (IntKind.u64.wrap (a0_0 - 2)) t216 _ A3.out).mono ?_); rintro e w6 ⟨rfl, hb⟩; refine ⟨_, rfl, ?_⟩; have n0_ := A_ (blk_below (g := gb215) (o := .cells #[.int .u64 a0_0, .bool a0_1] 70 (0, 0)) (nb_ BK215) hb); have n1_ := A_ (below_step hs_ hb); clear BK215 HB; have BK215 := n0_; have HB := n1_; clear n0_ n1_; (try clear hb)))
 go_ret
 exact ⟨fr_, hs_⟩
/-! ### field_Div: function 56 -/
def field_Div.f (k : Nat) (a0 : Int) (a1 : Int) (a2 : Int) : Option (Int × Int) := (field_asked.f k a0 (([a1, a2] : List Int))).bind fun bt220 => (if bt220.2.2 = 0 then (if a2 = 0 then (some (0, 5)) else ((field_reckoner_inv.f k bt220.1 bt220.2.1 a2).bind fun t224 => ((field_reckoner_mul.f bt220.1 bt220.2.1 a1 t224).bind fun t225 => (some (t225, 0))))) else (some (0, bt220.2.2)))
theorem field_Div.mono : ∀ a0 a1 a2 k, LeO (field_Div.f k a0 a1 a2) (field_Div.f (k + 1) a0 a1 a2) := by
 intro a0 a1 a2 k
 unfold field_Div.f
 repeat' first
   | (with_reducible exact field_asked.mono _ _ _)
   | (with_reducible exact field_reckoner_inv.mono _ _ _ _)
   | (with_reducible exact LeO.refl _)
   | (with_reducible exact LeO.none _)
   | (with_reducible refine LeO.ite ?_ ?_)
   | (with_reducible refine LeO.bind ?_ (fun _ => ?_))
   | exact field_asked.mono _ _ _
   | exact field_reckoner_inv.mono _ _ _ _
   | exact LeO.none _
   | refine LeO.ite ?_ ?_
   | refine LeO.bind ?_ (fun _ => ?_)
def field_Div.T6 : Bool × List (List Nat × List Nat) := (true, [([], []), ([], []), ([], []), ([], []), ([2, 3], [2, 3]), ([0, 1, 4, 4], [0, 1, 4]), ([5, 5, 0, 1, 2, 3, 4, 5], [5]), ([6, 0, 1, 2, 3, 4, 5, 6], [])])
def field_Div.B6 : List Nat := [0, 0, 0, 0, 12, 31, 63, 127]
theorem field_Div.tab6 : rtab .any (opsOf Try.f56 6) = field_Div.T6 := by kernel_rfl
theorem field_Div.bits6 : waitsOk field_Div.T6.2 field_Div.B6 = true := by kernel_rfl
set_option maxHeartbeats 8000000 in
set_option maxRecDepth 100000 in
theorem field_Div.calls (k : Nat) (a0 : Int) (a1 : Int) (a2 : Int) (r1 : Int) (r2 : Int) (w : World) (h : field_Div.f k a0 a1 a2 = some (r1, r2)) :
  Calls Try.prog 56 #[.int .u8 a0, .int .u64 a1, .int .u64 a2] w fun e w' => e = .returned (.tuple #[.int .u64 r1, .int .i64 r2]) ∧ Below w.heap.size w w' := by
 have hu70 := Try.underlying70
 have HB := A_ (Below.refl w.heap.size w)
 have H : ((field_asked.f k a0 (([a1, a2] : List Int))).bind fun bt220 => (if bt220.2.2 = 0 then (if a2 = 0 then (some (0, 5)) else ((field_reckoner_inv.f k bt220.1 bt220.2.1 a2).bind fun t224 => ((field_reckoner_mul.f bt220.1 bt220.2.1 a1 t224).bind fun t225 => (some (t225, 0))))) else (some (0, bt220.2.2)))) = some (r1, r2) := h
 clear h
 obtain ⟨y217, hy217⟩ : ∃ y_ : List Int, y_ = (([a1, a2] : List Int)) := ⟨_, rfl⟩
 replace H : ((field_asked.f k a0 y217).bind fun bt220 => (if bt220.2.2 = 0 then (if a2 = 0 then (some (0, 5)) else ((field_reckoner_inv.f k bt220.1 bt220.2.1 a2).bind fun t224 => ((field_reckoner_mul.f bt220.1 bt220.2.1 a1 t224).bind fun t225 => (some (t225, 0))))) else (some (0, bt220.2.2)))) = some (r1, r2) := by first | (rw [hy217]; with_reducible exact H) | (have H2_ := (Option.bind_some _ _).symm.trans H; rw [hy217]; with_reducible exact H2_) | (have H2_ := (Option.bind_some _ _).symm.trans H; with_reducible exact H2_) | with_reducible exact H | (rw [hy217]; exact H) | exact H
 have Ny217 := Aside0.mk hy217
 clear hy217
 replace H := Option.bind_eq_some_iff.mp H
 obtain ⟨⟨t220, t221, t222⟩, A40, H⟩ := H
 replace H : (if t222 = 0 then (if a2 = 0 then (some (0, 5)) else ((field_reckoner_inv.f k t220 t221 a2).bind fun t224 => ((field_reckoner_mul.f t220 t221 a1 t224).bind fun t225 => (some (t225, 0))))) else (some (0, t222))) = some (r1, r2) := H
 have A4 := Aside0.mk A40
 clear A40
 by_cases c5 : t222 = 0
 ·rw [if_pos c5] at H
  have c5b0 : (t222 == 0) = true := beq_iff_eq.mpr c5
  have c5b1 : (t222 != 0) = false := bne_eq_false_iff_eq.mpr c5
  clear c5
  by_cases c6 : a2 = 0
  ·rw [if_pos c6] at H
   have c6b0 : (a2 == 0) = true := beq_iff_eq.mpr c6
   have c6b1 : (a2 != 0) = false := bne_eq_false_iff_eq.mpr c6
   clear c6
   simp only [Option.some.injEq, Prod.mk.injEq] at H
   obtain ⟨rfl, rfl⟩ := H
   go_enter Try.func56, Try.ntmps56
   go_wp2_with (first | ((with_reducible refine gate_dst (N := 14) rfl ?_); refine Kd.R_lit (Kd.int .u64) _ 34 ?hg (N := 14) ?hd (xs := ([a1, a2] : List Int)) (inner := [.int .u64 a1, .int .u64 a2]) (ok := fun _ => True) (okp := fun _ => True) ?hr ?hp (fun _ hk => hk) trivial (Below.refl _ _) (Nat.le_refl _) (by simp) ?_; (case hd => rfl); (case hg => rfl); (case hr => first | (go_simp; done) | (go_simp; rfl)); (case hp => exact (Reps.one (show Kd.M (Kd.int .u64) _ _ _ a1 [.int .u64 a1] from rfl) (Reps.one (show Kd.M (Kd.int .u64) _ _ _ a2 [.int .u64 a2] from rfl) (Reps.none _ _)))); intro v218 w7 ho8 hb hg_ hnew_; clear hg_ hnew_; (first | rw [← Ny217.out] at ho8 | (simp only [Int.reduceToNat] at ho8; rw [← Ny217.out] at ho8)); have n0_ := A_ (Kd.R_lower ho8 (below_size hb_)); have n1_ := A_ (below_step hb_ hb); clear HB; have HO219 := n0_; have HB := n1_; clear n0_ n1_; clear hb ho8; obtain ⟨Ao9, co9, eo9⟩ := Kd.R_slice HO219.out; subst eo9) | ((with_reducible refine gate_callee (f := 53) rfl ?_); refine goesM_ (some 15) Try.func53 #[.int .u8 a0, .slice Ao9 y217.length co9] ?_; (with_reducible refine (field_asked.calls k a0 _ _ y217 t220 t221 t222 _ ?side1 ?side2 A4.out).mono ?_); (case side1 => repeat (first | exact (Kd.R_reads' HO219.out).2.2 | (with_reducible refine Kd.C_alloc ?_ _) | (with_reducible refine Kd.C_drewN ?_ _) | (with_reducible refine Kd.C_drew ?_))); (case side2 => exact (Kd.R_reads' HO219.out).2.1); rintro e w10 ⟨rfl, hb⟩; refine ⟨_, rfl, ?_⟩; have n0_ := A_ (Kd.R_below (nR_ HO219) hb); have n1_ := A_ (below_step hb_ hb); clear HO219 HB; have HO219 := n0_; have HB := n1_; clear n0_ n1_; (try clear hb)) | ((with_reducible refine gate_dst (N := 8) rfl ?_); refine box_event ?hg (N := 8) ?hd (cs := #[.int .u64 0, .bool false]) (t := 70) ?hr ?_; (case hd => rfl); (case hg => rfl); (case hr => first | (go_simp; done) | (go_simp; rfl)); intro gb223 hg w11 hbox hb; have n0_ := A_ (Kd.R_below (nR_ HO219) hb); have n1_ := A_ (below_step hb_ hb); have n2_ := A_ (hbox); have n3_ := A_ ((by rw [hg]; exact (below_size hb_) : w.heap.size ≤ gb223)); have n4_ := A_ ((by rw [hg]; exact (below_size hb_) : w.heap.size ≤ gb223)); clear HO219 HB; have HO219 := n0_; have HB := n1_; have BK223 := n2_; have GW223 := n3_; have GE223 := n4_; clear n0_ n1_ n2_ n3_ n4_; clear hb hbox hg; have hcz12_0 : w11.cell? ⟨gb223, 0, none⟩ = some (.int .u64 0) := (blk_cell BK223.out 0).trans rfl; have hcz12_1 : w11.cell? ⟨gb223, 1, none⟩ = some (.bool false) := (blk_cell BK223.out 1).trans rfl; have hfz12_0 := blk_frozen BK223.out 0; have hfz12_1 := blk_frozen BK223.out 1))
   go_ret2
   exact ⟨fr_, hs_⟩
  ·rw [if_neg c6] at H
   have c6b0 : (a2 == 0) = false := beq_eq_false_iff_ne.mpr c6
   have c6b1 : (a2 != 0) = true := bne_iff_ne.mpr c6
   replace H := Option.bind_eq_some_iff.mp H
   obtain ⟨t224, A130, H⟩ := H
   replace H : ((field_reckoner_mul.f t220 t221 a1 t224).bind fun t225 => (some (t225, 0))) = some (r1, r2) := H
   have A13 := Aside0.mk A130
   clear A130
   replace H := Option.bind_eq_some_iff.mp H
   obtain ⟨t225, A140, H⟩ := H
   replace H : (some (t225, 0)) = some (r1, r2) := H
   have A14 := Aside0.mk A140
   clear A140
   simp only [Option.some.injEq, Prod.mk.injEq] at H
   obtain ⟨rfl, rfl⟩ := H
   go_enter Try.func56, Try.ntmps56
   try go_wp2_with (first | ((with_reducible refine gate_dst (N := 14) rfl ?_); refine Kd.R_lit (Kd.int .u64) _ 34 ?hg (N := 14) ?hd (xs := ([a1, a2] : List Int)) (inner := [.int .u64 a1, .int .u64 a2]) (ok := fun _ => True) (okp := fun _ => True) ?hr ?hp (fun _ hk => hk) trivial (Below.refl _ _) (Nat.le_refl _) (by simp) ?_; (case hd => rfl); (case hg => rfl); (case hr => first | (go_simp; done) | (go_simp; rfl)); (case hp => exact (Reps.one (show Kd.M (Kd.int .u64) _ _ _ a1 [.int .u64 a1] from rfl) (Reps.one (show Kd.M (Kd.int .u64) _ _ _ a2 [.int .u64 a2] from rfl) (Reps.none _ _)))); intro v218 w15 ho16 hb hg_ hnew_; clear hg_ hnew_; (first | rw [← Ny217.out] at ho16 | (simp only [Int.reduceToNat] at ho16; rw [← Ny217.out] at ho16)); have n0_ := A_ (Kd.R_lower ho16 (below_size hb_)); have n1_ := A_ (below_step hb_ hb); clear HB; have HO219 := n0_; have HB := n1_; clear n0_ n1_; clear hb ho16; obtain ⟨Ao17, co17, eo17⟩ := Kd.R_slice HO219.out; subst eo17) | ((with_reducible refine gate_callee (f := 53) rfl ?_); refine goesM_ (some 15) Try.func53 #[.int .u8 a0, .slice Ao17 y217.length co17] ?_; (with_reducible refine (field_asked.calls k a0 _ _ y217 t220 t221 t222 _ ?side1 ?side2 A4.out).mono ?_); (case side1 => repeat (first | exact (Kd.R_reads' HO219.out).2.2 | (with_reducible refine Kd.C_alloc ?_ _) | (with_reducible refine Kd.C_drewN ?_ _) | (with_reducible refine Kd.C_drew ?_))); (case side2 => exact (Kd.R_reads' HO219.out).2.1); rintro e w18 ⟨rfl, hb⟩; refine ⟨_, rfl, ?_⟩; have n0_ := A_ (Kd.R_below (nR_ HO219) hb); have n1_ := A_ (below_step hb_ hb); clear HO219 HB; have HO219 := n0_; have HB := n1_; clear n0_ n1_; (try clear hb)) | ((with_reducible refine gate_dst (N := 8) rfl ?_); refine box_event ?hg (N := 8) ?hd (cs := #[.int .u64 0, .bool false]) (t := 70) ?hr ?_; (case hd => rfl); (case hg => rfl); (case hr => first | (go_simp; done) | (go_simp; rfl)); intro gb223 hg w19 hbox hb; have n0_ := A_ (Kd.R_below (nR_ HO219) hb); have n1_ := A_ (below_step hb_ hb); have n2_ := A_ (hbox); have n3_ := A_ ((by rw [hg]; exact (below_size hb_) : w.heap.size ≤ gb223)); have n4_ := A_ ((by rw [hg]; exact (below_size hb_) : w.heap.size ≤ gb223)); clear HO219 HB; have HO219 := n0_; have HB := n1_; have BK223 := n2_; have GW223 := n3_; have GE223 := n4_; clear n0_ n1_ n2_ n3_ n4_; clear hb hbox hg; have hcz20_0 : w19.cell? ⟨gb223, 0, none⟩ = some (.int .u64 0) := (blk_cell BK223.out 0).trans rfl; have hcz20_1 : w19.cell? ⟨gb223, 1, none⟩ = some (.bool false) := (blk_cell BK223.out 1).trans rfl; have hfz20_0 := blk_frozen BK223.out 0; have hfz20_1 := blk_frozen BK223.out 1))
   have n0_ : Aside0 (Kd.R (Kd.int .u64) 34 ((w19.setCell ⟨gb223, 0, none⟩ (.int .u64 t220)).setCell ⟨gb223, 1, none⟩ (.bool t221)) w.heap.size (fun _ => True) (.slice Ao17 y217.length co17) y217) := ⟨by (with_reducible repeat (first | apply Kd.R_alloc | apply Kd.R_drewN | apply Kd.R_drew)); exact Kd.R_mono (Kd.R_far (p := ⟨gb223, 1, none⟩) (Kd.R_far (p := ⟨gb223, 0, none⟩) (Kd.R_types HO219.out BK223.out (by decide)) (fun _ hk => hk.2) (.int .u64 t220)) (fun _ hk => hk.2) (.bool t221)) (fun _ hk => trivial)⟩
   have n1_ : Aside0 (((w19.setCell ⟨gb223, 0, none⟩ (.int .u64 t220)).setCell ⟨gb223, 1, none⟩ (.bool t221)).heap[gb223]? = some (.cells #[.int .u64 t220, .bool t221] 70 (0, 0))) := ⟨by (with_reducible repeat (first | refine blk_drewN ?_ _ | refine blk_drew ?_ | refine blk_alloc ?_ _)); refine blk_put (cs := #[.int .u64 t220, .bool false]) ?_ 1 _ rfl; (with_reducible repeat (first | refine blk_drewN ?_ _ | refine blk_drew ?_ | refine blk_alloc ?_ _)); refine blk_put (cs := #[.int .u64 0, .bool false]) ?_ 0 _ rfl; (with_reducible repeat (first | refine blk_drewN ?_ _ | refine blk_drew ?_ | refine blk_alloc ?_ _)); exact BK223.out⟩
   have n2_ : Aside0 (Below w.heap.size w ((w19.setCell ⟨gb223, 0, none⟩ (.int .u64 t220)).setCell ⟨gb223, 1, none⟩ (.bool t221))) := ⟨hs_⟩
   (try clear HO219)
   (try clear BK223)
   (try clear HB)
   generalize ((w19.setCell ⟨gb223, 0, none⟩ (.int .u64 t220)).setCell ⟨gb223, 1, none⟩ (.bool t221)) = w21 at n0_ n1_ n2_ ⊢
   have HO219 := n0_
   have BK223 := n1_
   have HB := n2_
   clear n0_ n1_ n2_
   have n0_ := A_ (Kd.R_drew HO219.out)
   have n1_ := A_ (blk_drew BK223.out)
   have n2_ := A_ (below_drew1 HB.out)
   clear HO219
   clear BK223
   clear HB
   have HO219 := n0_
   have BK223 := n1_
   have HB := n2_
   clear n0_ n1_ n2_
   refine start_ (n := 8) (S := fun w' => w'.cell? ⟨gb223, 0, none⟩ = some (.int .u64 t220) ∧ w'.cell? ⟨gb223, 1, none⟩ = some (.bool t221)) (ds := []) #[false, false, false, false, false, false, false, false] (by kernel_rfl) rfl rfl ⟨(blk_cell BK223.out 0).trans rfl, (blk_cell BK223.out 1).trans rfl⟩ (fun hHeld => ?_); refine with_tabW field_Div.tab6 field_Div.bits6 (fun HT_ HW_ => ?_)
   generalize w21.drew = w22 at HO219 BK223 HB hHeld ⊢
   refine pure_ (i := 1) (N := some 26) (v := ?_) (a' := ?_) #[false, true, false, false, false, false, false, false] rfl rfl (any_of HT_.out (by kernel_rfl)) (fun _ _ _ h => h) (Or.inl ⟨by rfl, ?_⟩) ?_ ?_
   rotate_left
   ·intro w'
    go_simp
    with_reducible rfl
   rotate_left
   ·simp only [Act.put, List.setIfInBounds_toArray, List.set_cons_zero, List.set_cons_succ, i64_w, i32_w]
    rfl
   refine pure_ (i := 3) (N := some 28) (v := ?_) (a' := ?_) #[false, true, false, true, false, false, false, false] rfl rfl (any_of HT_.out (by kernel_rfl)) (fun _ _ _ h => h) (Or.inl ⟨by rfl, ?_⟩) ?_ ?_
   rotate_left
   ·intro w'
    go_simp
    with_reducible rfl
   rotate_left
   ·simp only [Act.put, List.setIfInBounds_toArray, List.set_cons_zero, List.set_cons_succ, i64_w, i32_w]
    rfl
   refine take_ (i := 0) (N := some 25) (v := ?_) (a' := ?_) #[true, true, false, true, false, false, false, false] rfl rfl (take_ofW HT_.out HW_.out (by kernel_rfl)) (fun _ _ _ h => h) (Or.inl ⟨by rfl, ?_⟩) hHeld ?_ ?_
   rotate_left
   ·rintro w' ⟨s0, s1⟩
    go_simp
    with_reducible rfl
   rotate_left
   ·simp only [Act.put, List.setIfInBounds_toArray, List.set_cons_zero, List.set_cons_succ, i64_w, i32_w]
    rfl
   refine take_ (i := 2) (N := some 27) (v := ?_) (a' := ?_) #[true, true, true, true, false, false, false, false] rfl rfl (take_ofW HT_.out HW_.out (by kernel_rfl)) (fun _ _ _ h => h) (Or.inl ⟨by rfl, ?_⟩) hHeld ?_ ?_
   rotate_left
   ·rintro w' ⟨s0, s1⟩
    go_simp
    with_reducible rfl
   rotate_left
   ·simp only [Act.put, List.setIfInBounds_toArray, List.set_cons_zero, List.set_cons_succ, i64_w, i32_w]
    rfl
   refine one_ (i := 4) (N := some 29) #[true, true, true, true, true, false, false, false] rfl rfl (one_of HT_.out (by kernel_rfl)) (by decide) (fun K hK => ?_)
   refine goes_ Try.func63 (by kernel_rfl) rfl #[.agg #[.int .u64 t220, .bool t221], .int .u64 a2] (by rfl) rfl rfl (by (try simp only [List.map_toArray, List.map_cons, List.map_nil]); first | done | rfl | (simp only [List.length_drop, List.length_take]; rfl)) ?_
   with_reducible refine (field_reckoner_inv.calls k t220 t221 a2 t224 _ A13.out).mono ?_
   rintro e w23 ⟨rfl, hb⟩
   refine ⟨_, rfl, ?_⟩
   have n0_ := A_ (Kd.R_below (nR_ HO219) hb)
   have n1_ := A_ (blk_below (g := gb223) (o := .cells #[.int .u64 t220, .bool t221] 70 (0, 0)) (nb_ BK223) hb)
   have n2_ := A_ (below_step hs_ hb)
   clear HO219
   clear BK223
   clear HB
   have HO219 := n0_
   have BK223 := n1_
   have HB := n2_
   clear n0_ n1_ n2_
   (try clear hb)
   (try clear hb2)
   (try clear hk)
   (try clear hi)
   refine hK.out _ _ ⟨(blk_cell BK223.out 0).trans rfl, (blk_cell BK223.out 1).trans rfl⟩ (fun hHeld => ?_)
   clear hK K
   refine norm_ (a' := ?_) ?_ ?_
   rotate_left
   ·show Act.put _ (some 29) _ = _
    simp only [Act.put, List.setIfInBounds_toArray, List.set_cons_zero, List.set_cons_succ, i64_w, i32_w]
    rfl
   refine one_ (i := 5) (N := some 30) #[true, true, true, true, true, true, false, false] rfl rfl (one_of HT_.out (by kernel_rfl)) (by decide) (fun K hK => ?_)
   refine goes_ Try.func62 (by kernel_rfl) rfl #[.agg #[.int .u64 t220, .bool t221], .int .u64 a1, .int .u64 t224] (by rfl) rfl rfl (by (try simp only [List.map_toArray, List.map_cons, List.map_nil]); first | done | rfl | (simp only [List.length_drop, List.length_take]; rfl)) ?_
   with_reducible refine (field_reckoner_mul.calls t220 t221 a1 t224 t225 _ A14.out).mono ?_
   rintro e w24 ⟨rfl, hb⟩
   refine ⟨_, rfl, ?_⟩
   have n0_ := A_ (Kd.R_below (nR_ HO219) hb)
   have n1_ := A_ (blk_below (g := gb223) (o := .cells #[.int .u64 t220, .bool t221] 70 (0, 0)) (nb_ BK223) hb)
   have n2_ := A_ (below_step hs_ hb)
   clear HO219
   clear BK223
   clear HB
   have HO219 := n0_
   have BK223 := n1_
   have HB := n2_
   clear n0_ n1_ n2_
   (try clear hb)
   (try clear hb2)
   (try clear hk)
   (try clear hi)
   refine hK.out _ _ ⟨(blk_cell BK223.out 0).trans rfl, (blk_cell BK223.out 1).trans rfl⟩ (fun hHeld => ?_)
   clear hK K
   refine norm_ (a' := ?_) ?_ ?_
   rotate_left
   ·show Act.put _ (some 30) _ = _
    simp only [Act.put, List.setIfInBounds_toArray, List.set_cons_zero, List.set_cons_succ, i64_w, i32_w]
    rfl
   refine pure_ (i := 6) (N := some 6) (v := ?_) (a' := ?_) #[true, true, true, true, true, true, true, false] rfl rfl (any_of HT_.out (by kernel_rfl)) (fun _ _ _ h => h) (Or.inl ⟨by rfl, ?_⟩) ?_ ?_
   rotate_left
   ·intro w'
    go_simp
    with_reducible rfl
   rotate_left
   ·simp only [Act.put, List.setIfInBounds_toArray, List.set_cons_zero, List.set_cons_succ, i64_w, i32_w]
    rfl
   refine pure_ (i := 7) (N := some 7) (v := ?_) (a' := ?_) #[true, true, true, true, true, true, true, true] rfl rfl (any_of HT_.out (by kernel_rfl)) (fun _ _ _ h => h) (Or.inl ⟨by rfl, ?_⟩) ?_ ?_
   rotate_left
   ·intro w'
    go_simp
    with_reducible rfl
   rotate_left
   ·simp only [Act.put, List.setIfInBounds_toArray, List.set_cons_zero, List.set_cons_succ, i64_w, i32_w]
    rfl
   refine done_ (done_of HT_.out (by kernel_rfl)) ?_
   try go_wp2
   go_ret2
   exact ⟨fr_, hs_⟩
 ·rw [if_neg c5] at H
  have c5b0 : (t222 == 0) = false := beq_eq_false_iff_ne.mpr c5
  have c5b1 : (t222 != 0) = true := bne_iff_ne.mpr c5
  simp only [Option.some.injEq, Prod.mk.injEq] at H
  obtain ⟨rfl, rfl⟩ := H
  go_enter Try.func56, Try.ntmps56
  go_wp2_with (first | ((with_reducible refine gate_dst (N := 14) rfl ?_); refine Kd.R_lit (Kd.int .u64) _ 34 ?hg (N := 14) ?hd (xs := ([a1, a2] : List Int)) (inner := [.int .u64 a1, .int .u64 a2]) (ok := fun _ => True) (okp := fun _ => True) ?hr ?hp (fun _ hk => hk) trivial (Below.refl _ _) (Nat.le_refl _) (by simp) ?_; (case hd => rfl); (case hg => rfl); (case hr => first | (go_simp; done) | (go_simp; rfl)); (case hp => exact (Reps.one (show Kd.M (Kd.int .u64) _ _ _ a1 [.int .u64 a1] from rfl) (Reps.one (show Kd.M (Kd.int .u64) _ _ _ a2 [.int .u64 a2] from rfl) (Reps.none _ _)))); intro v218 w25 ho26 hb hg_ hnew_; clear hg_ hnew_; (first | rw [← Ny217.out] at ho26 | (simp only [Int.reduceToNat] at ho26; rw [← Ny217.out] at ho26)); have n0_ := A_ (Kd.R_lower ho26 (below_size hb_)); have n1_ := A_ (below_step hb_ hb); clear HB; have HO219 := n0_; have HB := n1_; clear n0_ n1_; clear hb ho26; obtain ⟨Ao27, co27, eo27⟩ := Kd.R_slice HO219.out; subst eo27) | ((with_reducible refine gate_callee (f := 53) rfl ?_); refine goesM_ (some 15) Try.func53 #[.int .u8 a0, .slice Ao27 y217.length co27] ?_; (with_reducible refine (field_asked.calls k a0 _ _ y217 t220 t221 t222 _ ?side1 ?side2 A4.out).mono ?_); (case side1 => repeat (first | exact (Kd.R_reads' HO219.out).2.2 | (with_reducible refine Kd.C_alloc ?_ _) | (with_reducible refine Kd.C_drewN ?_ _) | (with_reducible refine Kd.C_drew ?_))); (case side2 => exact (Kd.R_reads' HO219.out).2.1); rintro e w28 ⟨rfl, hb⟩; refine ⟨_, rfl, ?_⟩; have n0_ := A_ (Kd.R_below (nR_ HO219) hb); have n1_ := A_ (below_step hb_ hb); clear HO219 HB; have HO219 := n0_; have HB := n1_; clear n0_ n1_; (try clear hb)) | ((with_reducible refine gate_dst (N := 8) rfl ?_); refine box_event ?hg (N := 8) ?hd (cs := #[.int .u64 0, .bool false]) (t := 70) ?hr ?_; (case hd => rfl); (case hg => rfl); (case hr => first | (go_simp; done) | (go_simp; rfl)); intro gb223 hg w29 hbox hb; have n0_ := A_ (Kd.R_below (nR_ HO219) hb); have n1_ := A_ (below_step hb_ hb); have n2_ := A_ (hbox); have n3_ := A_ ((by rw [hg]; exact (below_size hb_) : w.heap.size ≤ gb223)); have n4_ := A_ ((by rw [hg]; exact (below_size hb_) : w.heap.size ≤ gb223)); clear HO219 HB; have HO219 := n0_; have HB := n1_; have BK223 := n2_; have GW223 := n3_; have GE223 := n4_; clear n0_ n1_ n2_ n3_ n4_; clear hb hbox hg; have hcz30_0 : w29.cell? ⟨gb223, 0, none⟩ = some (.int .u64 0) := (blk_cell BK223.out 0).trans rfl; have hcz30_1 : w29.cell? ⟨gb223, 1, none⟩ = some (.bool false) := (blk_cell BK223.out 1).trans rfl; have hfz30_0 := blk_frozen BK223.out 0; have hfz30_1 := blk_frozen BK223.out 1))
  go_ret2
  exact ⟨fr_, hs_⟩
/-! ### field_Inv: function 49 -/
def field_Inv.f (k : Nat) (a0 : Int) (a1 : Int) : Option (Int × Int) := (field_Div.f k a0 1 a1).bind fun bt226 => (some (bt226.1, bt226.2))
theorem field_Inv.mono : ∀ a0 a1 k, LeO (field_Inv.f k a0 a1) (field_Inv.f (k + 1) a0 a1) := by
 intro a0 a1 k
 unfold field_Inv.f
 repeat' first
   | (with_reducible exact field_Div.mono _ _ _ _)
   | (with_reducible exact LeO.refl _)
   | (with_reducible exact LeO.none _)
   | (with_reducible refine LeO.ite ?_ ?_)
   | (with_reducible refine LeO.bind ?_ (fun _ => ?_))
   | exact field_Div.mono _ _ _ _
   | exact LeO.none _
   | refine LeO.ite ?_ ?_
   | refine LeO.bind ?_ (fun _ => ?_)
set_option maxHeartbeats 8000000 in
set_option maxRecDepth 100000 in
theorem field_Inv.calls (k : Nat) (a0 : Int) (a1 : Int) (r1 : Int) (r2 : Int) (w : World) (h : field_Inv.f k a0 a1 = some (r1, r2)) :
  Calls Try.prog 49 #[.int .u8 a0, .int .u64 a1] w fun e w' => e = .returned (.tuple #[.int .u64 r1, .int .i64 r2]) ∧ Below w.heap.size w w' := by
 have HB := A_ (Below.refl w.heap.size w)
 have H : ((field_Div.f k a0 1 a1).bind fun bt226 => (some (bt226.1, bt226.2))) = some (r1, r2) := h
 clear h
 replace H := Option.bind_eq_some_iff.mp H
 obtain ⟨⟨t226, t227⟩, A30, H⟩ := H
 replace H : (some (t226, t227)) = some (r1, r2) := H
 have A3 := Aside0.mk A30
 clear A30
 simp only [Option.some.injEq, Prod.mk.injEq] at H
 obtain ⟨rfl, rfl⟩ := H
 go_enter Try.func49, Try.ntmps49
 go_wp2_with (first | ((with_reducible refine gate_callee (f := 56) rfl ?_); refine goesM_ (some 8) Try.func56 #[.int .u8 a0, .int .u64 1, .int .u64 a1] ?_; (with_reducible refine (field_Div.calls k a0 1 a1 t226 t227 _ A3.out).mono ?_); rintro e w4 ⟨rfl, hb⟩; refine ⟨_, rfl, ?_⟩; have n0_ := A_ (below_step hb_ hb); clear HB; have HB := n0_; clear n0_; (try clear hb)))
 go_ret2
 exact ⟨fr_, hb_⟩
end Go.Proofs.Ytbjanbbjjnoecaa.PPolyDivides
