/- The Go functions as Lean functions, each with the proof that its call comes to just that; written by a program of this session, by the words of the print. -/
import Derived.Test.YtaegmhniepfdaaaPFastFreshx0
import Derived.Test.YtaegmhniepfdaaaPFastFreshx1
import Derived.Test.YtaegmhniepfdaaaPFastFreshx4
namespace Go.Proofs.Ytaegmhniepfdaaa.PFastFresh
open Go.RowKit Go.Proofs.YtaegmhniepfdaaaW.PrintWords Go.Proofs.YtaegmhniepfdaaaW.PrintLast Go.Proofs.YtaegmhniepfdaaaW.PrintMore
attribute [local go_sem] max2_int min2_int max_two min_two max_three min_three max_four min_four   -- for this text's walks alone
set_option linter.unusedVariables false
set_option linter.unusedSimpArgs false
/-! ### field_Mul: function 62 -/
def field_Mul.f (k : Nat) (a0 : Int) (a1 : Int) (a2 : Int) : Option (Int × Int) := (field_asked.f k a0 (([a1, a2] : List Int))).bind fun bt184 => (if bt184.2.2 = 0 then ((field_reckoner_mul.f bt184.1 bt184.2.1 a1 a2).bind fun t188 => (some (t188, 0))) else (some (0, bt184.2.2)))
theorem field_Mul.mono : ∀ a0 a1 a2 k, LeO (field_Mul.f k a0 a1 a2) (field_Mul.f (k + 1) a0 a1 a2) := by
 intro a0 a1 a2 k
 unfold field_Mul.f
 repeat' first
   | (with_reducible exact field_asked.mono _ _ _)
   | (with_reducible exact LeO.refl _)
   | (with_reducible exact LeO.none _)
   | (with_reducible refine LeO.ite ?_ ?_)
   | (with_reducible refine LeO.bind ?_ (fun _ => ?_))
   | exact field_asked.mono _ _ _
   | exact LeO.none _
   | refine LeO.ite ?_ ?_
   | refine LeO.bind ?_ (fun _ => ?_)
set_option maxHeartbeats 8000000 in
set_option maxRecDepth 100000 in
theorem field_Mul.calls (k : Nat) (a0 : Int) (a1 : Int) (a2 : Int) (r1 : Int) (r2 : Int) (w : World) (h : field_Mul.f k a0 a1 a2 = some (r1, r2)) :
  Calls Try.prog 62 #[.int .u8 a0, .int .u64 a1, .int .u64 a2] w fun e w' => e = .returned (.tuple #[.int .u64 r1, .int .i64 r2]) ∧ Below w.heap.size w w' := by
 have hu68 := Try.underlying68
 have HB := A_ (Below.refl w.heap.size w)
 have H : ((field_asked.f k a0 (([a1, a2] : List Int))).bind fun bt184 => (if bt184.2.2 = 0 then ((field_reckoner_mul.f bt184.1 bt184.2.1 a1 a2).bind fun t188 => (some (t188, 0))) else (some (0, bt184.2.2)))) = some (r1, r2) := h
 clear h
 obtain ⟨y181, hy181⟩ : ∃ y_ : List Int, y_ = (([a1, a2] : List Int)) := ⟨_, rfl⟩
 replace H : ((field_asked.f k a0 y181).bind fun bt184 => (if bt184.2.2 = 0 then ((field_reckoner_mul.f bt184.1 bt184.2.1 a1 a2).bind fun t188 => (some (t188, 0))) else (some (0, bt184.2.2)))) = some (r1, r2) := by first | (rw [hy181]; with_reducible exact H) | (have H2_ := (Option.bind_some _ _).symm.trans H; rw [hy181]; with_reducible exact H2_) | (have H2_ := (Option.bind_some _ _).symm.trans H; with_reducible exact H2_) | with_reducible exact H | (rw [hy181]; exact H) | exact H
 have Ny181 := Aside0.mk hy181
 clear hy181
 replace H := Option.bind_eq_some_iff.mp H
 obtain ⟨⟨t184, t185, t186⟩, A40, H⟩ := H
 replace H : (if t186 = 0 then ((field_reckoner_mul.f t184 t185 a1 a2).bind fun t188 => (some (t188, 0))) else (some (0, t186))) = some (r1, r2) := H
 have A4 := Aside0.mk A40
 clear A40
 have HC5 := Aside0.mk H
 clear H
 go_enter Try.func62, Try.ntmps62
 go_upto_if 19 with (first | ((with_reducible refine gate_dst (N := 14) rfl ?_); refine Kd.R_lit (Kd.int .u64) _ 33 ?hg (N := 14) ?hd (xs := ([a1, a2] : List Int)) (inner := [.int .u64 a1, .int .u64 a2]) (ok := fun _ => True) (okp := fun _ => True) ?hr ?hp (fun _ hk => hk) trivial (Below.refl _ _) (Nat.le_refl _) (by simp) ?_; (case hd => rfl); (case hg => rfl); (case hr => first | (go_simp; done) | (go_simp; rfl)); (case hp => exact (Reps.one (show Kd.M (Kd.int .u64) _ _ _ a1 [.int .u64 a1] from rfl) (Reps.one (show Kd.M (Kd.int .u64) _ _ _ a2 [.int .u64 a2] from rfl) (Reps.none _ _)))); intro v182 w6 ho7 hb hg_ hnew_; clear hg_ hnew_; (first | rw [← Ny181.out] at ho7 | (simp only [Int.reduceToNat] at ho7; rw [← Ny181.out] at ho7)); have n0_ := A_ (Kd.R_lower ho7 (below_size hb_)); have n1_ := A_ (below_step hb_ hb); clear HB; have HO183 := n0_; have HB := n1_; clear n0_ n1_; clear hb ho7; obtain ⟨Ao8, co8, eo8⟩ := Kd.R_slice HO183.out; subst eo8) | ((with_reducible refine gate_callee (f := 54) rfl ?_); refine goesM_ (some 15) Try.func54 #[.int .u8 a0, .slice Ao8 y181.length co8] ?_; (with_reducible refine (field_asked.calls k a0 _ _ y181 t184 t185 t186 _ ?side1 ?side2 A4.out).mono ?_); (case side1 => repeat (first | exact (Kd.R_reads' HO183.out).2.2 | (with_reducible refine Kd.C_alloc ?_ _) | (with_reducible refine Kd.C_drewN ?_ _) | (with_reducible refine Kd.C_drew ?_))); (case side2 => exact (Kd.R_reads' HO183.out).2.1); rintro e w9 ⟨rfl, hb⟩; refine ⟨_, rfl, ?_⟩; have n0_ := A_ (Kd.R_below (nR_ HO183) hb); have n1_ := A_ (below_step hb_ hb); clear HO183 HB; have HO183 := n0_; have HB := n1_; clear n0_ n1_; (try clear hb)) | ((with_reducible refine gate_dst (N := 8) rfl ?_); refine box_event ?hg (N := 8) ?hd (cs := #[.int .u64 0, .bool false]) (t := 68) ?hr ?_; (case hd => rfl); (case hg => rfl); (case hr => first | (go_simp; done) | (go_simp; rfl)); intro gb187 hg w10 hbox hb; have n0_ := A_ (Kd.R_below (nR_ HO183) hb); have n1_ := A_ (below_step hb_ hb); have n2_ := A_ (hbox); have n3_ := A_ ((by rw [hg]; exact (below_size hb_) : w.heap.size ≤ gb187)); have n4_ := A_ ((by rw [hg]; exact (below_size hb_) : w.heap.size ≤ gb187)); clear HO183 HB; have HO183 := n0_; have HB := n1_; have BK187 := n2_; have GW187 := n3_; have GE187 := n4_; clear n0_ n1_ n2_ n3_ n4_; clear hb hbox hg; have hcz11_0 : w10.cell? ⟨gb187, 0, none⟩ = some (.int .u64 0) := (blk_cell BK187.out 0).trans rfl; have hcz11_1 : w10.cell? ⟨gb187, 1, none⟩ = some (.bool false) := (blk_cell BK187.out 1).trans rfl; have hfz11_0 := blk_frozen BK187.out 0; have hfz11_1 := blk_frozen BK187.out 1))
 (try simp only [Act.put, List.setIfInBounds_toArray, List.set_cons_zero, List.set_cons_succ])
 have H := HC5.out
 clear HC5
 by_cases c12 : t186 = 0
 ·rw [if_pos c12] at H
  have c12b0 : (t186 == 0) = true := beq_iff_eq.mpr c12
  have c12b1 : (t186 != 0) = false := bne_eq_false_iff_eq.mpr c12
  clear c12
  (first | rw [c12b0] | rw [c12b1] | (simp only [i64_w, i32_w]; first | rw [c12b0] | rw [c12b1]) | skip)
  replace H := Option.bind_eq_some_iff.mp H
  obtain ⟨t188, A130, H⟩ := H
  replace H : (some (t188, 0)) = some (r1, r2) := H
  have A13 := Aside0.mk A130
  clear A130
  simp only [Option.some.injEq, Prod.mk.injEq] at H
  obtain ⟨rfl, rfl⟩ := H
  have hcz14_0 : w10.cell? ⟨gb187, 0, none⟩ = some (.int .u64 0) := (blk_cell BK187.out 0).trans rfl
  have hcz14_1 : w10.cell? ⟨gb187, 1, none⟩ = some (.bool false) := (blk_cell BK187.out 1).trans rfl
  have hfz14_0 := blk_frozen BK187.out 0
  have hfz14_1 := blk_frozen BK187.out 1
  go_wp2_with (first | ((with_reducible refine gate_callee (f := 69) rfl ?_); refine goesM_ (some 24) Try.func69 #[.agg #[.int .u64 t184, .bool t185], .int .u64 a1, .int .u64 a2] ?_; (with_reducible refine (field_reckoner_mul.calls t184 t185 a1 a2 t188 _ A13.out).mono ?_); rintro e w15 ⟨rfl, hb⟩; refine ⟨_, rfl, ?_⟩; have n0_ := A_ (Kd.R_below (by (with_reducible repeat (first | apply Kd.R_alloc | apply Kd.R_drewN | apply Kd.R_drew)); exact (Kd.R_mono (Kd.R_far (p := ⟨gb187, 1, none⟩) (Kd.R_far (p := ⟨gb187, 0, none⟩) (Kd.R_types HO183.out BK187.out (by decide)) (fun _ hk => hk.2) (.int .u64 t184)) (fun _ hk => hk.2) (.bool t185)) (fun _ h_ => h_.1))) hb); have n1_ := A_ (blk_below (g := gb187) (o := .cells #[.int .u64 t184, .bool t185] 68 (0, 0)) (by (with_reducible repeat (first | refine blk_drewN ?_ _ | refine blk_drew ?_ | refine blk_alloc ?_ _)); refine blk_put (cs := #[.int .u64 t184, .bool false]) ?_ 1 _ rfl; (with_reducible repeat (first | refine blk_drewN ?_ _ | refine blk_drew ?_ | refine blk_alloc ?_ _)); refine blk_put (cs := #[.int .u64 0, .bool false]) ?_ 0 _ rfl; (with_reducible repeat (first | refine blk_drewN ?_ _ | refine blk_drew ?_ | refine blk_alloc ?_ _)); exact BK187.out) hb); have n2_ := A_ (below_step hs_ hb); clear HO183 BK187 HB; have HO183 := n0_; have BK187 := n1_; have HB := n2_; clear n0_ n1_ n2_; (try clear hb)))
  go_ret2
  exact ⟨fr_, hs_⟩
 ·rw [if_neg c12] at H
  have c12b0 : (t186 == 0) = false := beq_eq_false_iff_ne.mpr c12
  have c12b1 : (t186 != 0) = true := bne_iff_ne.mpr c12
  (first | rw [c12b0] | rw [c12b1] | (simp only [i64_w, i32_w]; first | rw [c12b0] | rw [c12b1]) | skip)
  simp only [Option.some.injEq, Prod.mk.injEq] at H
  obtain ⟨rfl, rfl⟩ := H
  go_wp2
  go_ret2
  exact ⟨fr_, hs_⟩
/-! ### fast_reckoner_mul: function 42 -/
def fast_reckoner_mul.f (k : Nat) (a0_0 : Int) (a1 : Int) (a2 : Int) : Option (Int) := (field_Mul.f k a0_0 a1 a2).bind fun bt190 => (some bt190.1)
theorem fast_reckoner_mul.mono : ∀ a0 a1 a2 k, LeO (fast_reckoner_mul.f k a0 a1 a2) (fast_reckoner_mul.f (k + 1) a0 a1 a2) := by
 intro a0 a1 a2 k
 unfold fast_reckoner_mul.f
 repeat' first
   | (with_reducible exact field_Mul.mono _ _ _ _)
   | (with_reducible exact LeO.refl _)
   | (with_reducible exact LeO.none _)
   | (with_reducible refine LeO.ite ?_ ?_)
   | (with_reducible refine LeO.bind ?_ (fun _ => ?_))
   | exact field_Mul.mono _ _ _ _
   | exact LeO.none _
   | refine LeO.ite ?_ ?_
   | refine LeO.bind ?_ (fun _ => ?_)
set_option maxHeartbeats 8000000 in
set_option maxRecDepth 100000 in
theorem fast_reckoner_mul.calls (k : Nat) (a0_0 : Int) (a1 : Int) (a2 : Int) (r : Int) (w : World) (h : fast_reckoner_mul.f k a0_0 a1 a2 = some r) :
  Calls Try.prog 42 #[.agg #[.int .u8 a0_0], .int .u64 a1, .int .u64 a2] w fun e w' => e = .returned (.int .u64 r) ∧ Below w.heap.size w w' := by
 have hu47 := Try.underlying47
 have HB := A_ (Below.refl w.heap.size w)
 have H : ((field_Mul.f k a0_0 a1 a2).bind fun bt190 => (some bt190.1)) = some r := h
 clear h
 replace H := Option.bind_eq_some_iff.mp H
 obtain ⟨⟨t190, t191⟩, A40, H⟩ := H
 replace H : (some t190) = some r := H
 have A4 := Aside0.mk A40
 clear A40
 obtain rfl := Option.some.inj H
 go_enter Try.func42, Try.ntmps42
 go_wp2_with (first | ((with_reducible refine gate_dst (N := 3) rfl ?_); refine box_event ?hg (N := 3) ?hd (cs := #[.int .u8 a0_0]) (t := 47) ?hr ?_; (case hd => rfl); (case hg => rfl); (case hr => first | (go_simp; done) | (go_simp; rfl)); intro gb189 hg w5 hbox hb; have n0_ := A_ (below_step hb_ hb); have n1_ := A_ (hbox); have n2_ := A_ ((by rw [hg]; exact (below_size hb_) : w.heap.size ≤ gb189)); have n3_ := A_ ((by rw [hg]; exact (below_size hb_) : w.heap.size ≤ gb189)); clear HB; have HB := n0_; have BK189 := n1_; have GW189 := n2_; have GE189 := n3_; clear n0_ n1_ n2_ n3_; clear hb hbox hg; have hcz6_0 : w5.cell? ⟨gb189, 0, none⟩ = some (.int .u8 a0_0) := (blk_cell BK189.out 0).trans rfl; have hfz6_0 := blk_frozen BK189.out 0) | ((with_reducible refine gate_callee (f := 62) rfl ?_); refine goesM_ (some 14) Try.func62 #[.int .u8 a0_0, .int .u64 a1, .int .u64 a2] ?_; (with_reducible refine (field_Mul.calls k a0_0 a1 a2 t190 t191 _ A4.out).mono ?_); rintro e w7 ⟨rfl, hb⟩; refine ⟨_, rfl, ?_⟩; have n0_ := A_ (blk_below (g := gb189) (o := .cells #[.int .u8 a0_0] 47 (0, 0)) (nb_ BK189) hb); have n1_ := A_ (below_step hs_ hb); clear BK189 HB; have BK189 := n0_; have HB := n1_; clear n0_ n1_; (try clear hb)))
 go_ret
 exact ⟨fr_, hs_⟩
/-! ### slices_Clone_uint64_uint64: function 46, by hand -/
def slices_Clone_uint64_uint64.f (l0 : List Int) : Option (List Int) := if l0.length < 17592186044416 then some l0 else none
set_option maxHeartbeats 8000000 in
set_option maxRecDepth 100000 in
theorem slices_Clone_uint64_uint64.calls (A0 : Option Addr) (c0 : Nat) (l0 : List Int) (r : List Int) (w : World) (hr0 : Kd.C (Kd.int .u64) w A0 l0.length l0) (hc0 : l0.length ≤ c0) (h : slices_Clone_uint64_uint64.f l0 = some r) :
  Calls Try.prog 46 #[.slice A0 l0.length c0] w fun e w' => ∃ v0_ : Value, e = .returned (v0_) ∧ Kd.R (Kd.int .u64) 33 w' w.heap.size (fun _ => True) v0_ r ∧ Below w.heap.size w w' := by
 unfold slices_Clone_uint64_uint64.f at h
 by_cases c2 : l0.length < 17592186044416
 ·rw [if_pos c2] at h
  obtain rfl := Option.some.inj h
  clear h
  have hnil : ∀ (w : World) (A : Option Addr) (n c : Nat), (binOp .eql 22 (.slice A n c) (.slice none 0 0)).run Try.prog w = .ok (.bool A.isNone) w := fun w A n c => Lib.run_eql_slice_nil (P := Try.prog) w 22 33 A n c 0 0 Try.underlying22
  cases A0 with
  | none =>
   have h0 : l0 = [] := by
    cases l0 with
    | nil => rfl
    | cons x l => obtain ⟨_, _, hx⟩ := hr0; obtain ⟨ad, ha, _⟩ := hx (by simp); cases ha
   subst h0
   clear hr0
   go_enter Try.func46, Try.ntmps46
   go_wp2
   go_ret
   exact ⟨_, rfl, Kd.R_nil _ _ _ _ _, Below.refl _ _⟩
  | some ad =>
   have HR0 := Aside0.mk hr0
   have LMc2 := Aside0.mk c2
   clear hr0 hc0 c2
   have HB := A_ (Below.refl w.heap.size w)
   obtain ⟨y113, hy113⟩ : ∃ y_ : List Int, y_ = (([] : List Int)) := ⟨_, rfl⟩
   have Ny113 := Aside0.mk hy113
   clear hy113
   obtain ⟨y116, hy116⟩ : ∃ y_ : List Int, y_ = (y113 ++ l0) := ⟨_, rfl⟩
   have Ny116 := Aside0.mk hy116
   clear hy116
   go_enter Try.func46, Try.ntmps46
   go_wp2_with (first | ((with_reducible refine gate_dst (N := 5) rfl ?_); refine Kd.R_lit (Kd.int .u64) _ 33 ?hg (N := 5) ?hd (xs := ([] : List Int)) (inner := []) (ok := fun _ => True) (okp := fun _ => True) ?hr ?hp (fun _ hk => hk) trivial (Below.refl _ _) (Nat.le_refl _) (by simp) ?_; (case hd => rfl); (case hg => rfl); (case hr => first | (go_simp; done) | (go_simp; rfl)); (case hp => exact (Reps.none _ _)); intro v114 w3 ho4 hb hg_ hnew_; clear hg_ hnew_; (first | rw [← Ny113.out] at ho4 | (simp only [Int.reduceToNat] at ho4; rw [← Ny113.out] at ho4)); have n0_ := A_ (Kd.R_lower ho4 (below_size hb_)); have n1_ := A_ (below_step hb_ hb); clear HB; have HO115 := n0_; have HB := n1_; clear n0_ n1_; clear hb ho4) | ((with_reducible refine gate_builtin (b := .append) (xs := #[.tmp 5, .tmp 6]) rfl ?_); at_builtin; refine Kd.R_append_rows (Kd.int .u64) (w0 := w) w.heap.size rfl (.tmp 5) (.tmp 6) 22 33 (.int .u64 0) 8 rfl Try.underlying22 info33 rfl (by decide) (by omega) v114 y113 l0 _ _ _ (fun _ => True) (fun _ => False) rfl rfl ?aO ?aR (fun _ _ h => h) (fun _ h => h.elim) ?aF ?aB ?aS ?aL ?_; (case aR => repeat (first | exact (Kd.C_below HR0.out HB.out) | (with_reducible refine Kd.C_alloc ?_ _) | (with_reducible refine Kd.C_drewN ?_ _) | (with_reducible refine Kd.C_drew ?_))); (case aB => exact hb_); (case aF => exact (fun _ _ => trivial)); (case aO => exact (nR_ HO115)); (case aS => exact (below_size hb_)); (case aL => have := LMc2.out; have := Ny113.out; subst this; simp; omega); intro v117 w5 ho hb hg hat; rw [← Ny116.out] at ho; have n0_ := A_ (hb); have n1_ := A_ (ho); clear HB HO115; have HB := n0_; have HO118 := n1_; clear n0_ n1_; clear ho hb hg hat))
   go_ret
   have e : y116 = l0 := by rw [Ny116.out, Ny113.out]; rfl
   rw [e] at HO118
   exact ⟨_, rfl, nR_ HO118, hb_⟩
 ·rw [if_neg c2] at h
  cases h
/-! ### field_Add: function 65 -/
def field_Add.f (k : Nat) (a0 : Int) (a1 : Int) (a2 : Int) : Option (Int × Int) := (field_asked.f k a0 (([a1, a2] : List Int))).bind fun bt195 => (if bt195.2.2 = 0 then ((field_reckoner_add.f bt195.1 bt195.2.1 a1 a2).bind fun t199 => (some (t199, 0))) else (some (0, bt195.2.2)))
theorem field_Add.mono : ∀ a0 a1 a2 k, LeO (field_Add.f k a0 a1 a2) (field_Add.f (k + 1) a0 a1 a2) := by
 intro a0 a1 a2 k
 unfold field_Add.f
 repeat' first
   | (with_reducible exact field_asked.mono _ _ _)
   | (with_reducible exact LeO.refl _)
   | (with_reducible exact LeO.none _)
   | (with_reducible refine LeO.ite ?_ ?_)
   | (with_reducible refine LeO.bind ?_ (fun _ => ?_))
   | exact field_asked.mono _ _ _
   | exact LeO.none _
   | refine LeO.ite ?_ ?_
   | refine LeO.bind ?_ (fun _ => ?_)
set_option maxHeartbeats 8000000 in
set_option maxRecDepth 100000 in
theorem field_Add.calls (k : Nat) (a0 : Int) (a1 : Int) (a2 : Int) (r1 : Int) (r2 : Int) (w : World) (h : field_Add.f k a0 a1 a2 = some (r1, r2)) :
  Calls Try.prog 65 #[.int .u8 a0, .int .u64 a1, .int .u64 a2] w fun e w' => e = .returned (.tuple #[.int .u64 r1, .int .i64 r2]) ∧ Below w.heap.size w w' := by
 have hu68 := Try.underlying68
 have HB := A_ (Below.refl w.heap.size w)
 have H : ((field_asked.f k a0 (([a1, a2] : List Int))).bind fun bt195 => (if bt195.2.2 = 0 then ((field_reckoner_add.f bt195.1 bt195.2.1 a1 a2).bind fun t199 => (some (t199, 0))) else (some (0, bt195.2.2)))) = some (r1, r2) := h
 clear h
 obtain ⟨y192, hy192⟩ : ∃ y_ : List Int, y_ = (([a1, a2] : List Int)) := ⟨_, rfl⟩
 replace H : ((field_asked.f k a0 y192).bind fun bt195 => (if bt195.2.2 = 0 then ((field_reckoner_add.f bt195.1 bt195.2.1 a1 a2).bind fun t199 => (some (t199, 0))) else (some (0, bt195.2.2)))) = some (r1, r2) := by first | (rw [hy192]; with_reducible exact H) | (have H2_ := (Option.bind_some _ _).symm.trans H; rw [hy192]; with_reducible exact H2_) | (have H2_ := (Option.bind_some _ _).symm.trans H; with_reducible exact H2_) | with_reducible exact H | (rw [hy192]; exact H) | exact H
 have Ny192 := Aside0.mk hy192
 clear hy192
 replace H := Option.bind_eq_some_iff.mp H
 obtain ⟨⟨t195, t196, t197⟩, A40, H⟩ := H
 replace H : (if t197 = 0 then ((field_reckoner_add.f t195 t196 a1 a2).bind fun t199 => (some (t199, 0))) else (some (0, t197))) = some (r1, r2) := H
 have A4 := Aside0.mk A40
 clear A40
 have HC5 := Aside0.mk H
 clear H
 go_enter Try.func65, Try.ntmps65
 go_upto_if 19 with (first | ((with_reducible refine gate_dst (N := 14) rfl ?_); refine Kd.R_lit (Kd.int .u64) _ 33 ?hg (N := 14) ?hd (xs := ([a1, a2] : List Int)) (inner := [.int .u64 a1, .int .u64 a2]) (ok := fun _ => True) (okp := fun _ => True) ?hr ?hp (fun _ hk => hk) trivial (Below.refl _ _) (Nat.le_refl _) (by simp) ?_; (case hd => rfl); (case hg => rfl); (case hr => first | (go_simp; done) | (go_simp; rfl)); (case hp => exact (Reps.one (show Kd.M (Kd.int .u64) _ _ _ a1 [.int .u64 a1] from rfl) (Reps.one (show Kd.M (Kd.int .u64) _ _ _ a2 [.int .u64 a2] from rfl) (Reps.none _ _)))); intro v193 w6 ho7 hb hg_ hnew_; clear hg_ hnew_; (first | rw [← Ny192.out] at ho7 | (simp only [Int.reduceToNat] at ho7; rw [← Ny192.out] at ho7)); have n0_ := A_ (Kd.R_lower ho7 (below_size hb_)); have n1_ := A_ (below_step hb_ hb); clear HB; have HO194 := n0_; have HB := n1_; clear n0_ n1_; clear hb ho7; obtain ⟨Ao8, co8, eo8⟩ := Kd.R_slice HO194.out; subst eo8) | ((with_reducible refine gate_callee (f := 54) rfl ?_); refine goesM_ (some 15) Try.func54 #[.int .u8 a0, .slice Ao8 y192.length co8] ?_; (with_reducible refine (field_asked.calls k a0 _ _ y192 t195 t196 t197 _ ?side1 ?side2 A4.out).mono ?_); (case side1 => repeat (first | exact (Kd.R_reads' HO194.out).2.2 | (with_reducible refine Kd.C_alloc ?_ _) | (with_reducible refine Kd.C_drewN ?_ _) | (with_reducible refine Kd.C_drew ?_))); (case side2 => exact (Kd.R_reads' HO194.out).2.1); rintro e w9 ⟨rfl, hb⟩; refine ⟨_, rfl, ?_⟩; have n0_ := A_ (Kd.R_below (nR_ HO194) hb); have n1_ := A_ (below_step hb_ hb); clear HO194 HB; have HO194 := n0_; have HB := n1_; clear n0_ n1_; (try clear hb)) | ((with_reducible refine gate_dst (N := 8) rfl ?_); refine box_event ?hg (N := 8) ?hd (cs := #[.int .u64 0, .bool false]) (t := 68) ?hr ?_; (case hd => rfl); (case hg => rfl); (case hr => first | (go_simp; done) | (go_simp; rfl)); intro gb198 hg w10 hbox hb; have n0_ := A_ (Kd.R_below (nR_ HO194) hb); have n1_ := A_ (below_step hb_ hb); have n2_ := A_ (hbox); have n3_ := A_ ((by rw [hg]; exact (below_size hb_) : w.heap.size ≤ gb198)); have n4_ := A_ ((by rw [hg]; exact (below_size hb_) : w.heap.size ≤ gb198)); clear HO194 HB; have HO194 := n0_; have HB := n1_; have BK198 := n2_; have GW198 := n3_; have GE198 := n4_; clear n0_ n1_ n2_ n3_ n4_; clear hb hbox hg; have hcz11_0 : w10.cell? ⟨gb198, 0, none⟩ = some (.int .u64 0) := (blk_cell BK198.out 0).trans rfl; have hcz11_1 : w10.cell? ⟨gb198, 1, none⟩ = some (.bool false) := (blk_cell BK198.out 1).trans rfl; have hfz11_0 := blk_frozen BK198.out 0; have hfz11_1 := blk_frozen BK198.out 1))
 (try simp only [Act.put, List.setIfInBounds_toArray, List.set_cons_zero, List.set_cons_succ])
 have H := HC5.out
 clear HC5
 by_cases c12 : t197 = 0
 ·rw [if_pos c12] at H
  have c12b0 : (t197 == 0) = true := beq_iff_eq.mpr c12
  have c12b1 : (t197 != 0) = false := bne_eq_false_iff_eq.mpr c12
  clear c12
  (first | rw [c12b0] | rw [c12b1] | (simp only [i64_w, i32_w]; first | rw [c12b0] | rw [c12b1]) | skip)
  replace H := Option.bind_eq_some_iff.mp H
  obtain ⟨t199, A130, H⟩ := H
  replace H : (some (t199, 0)) = some (r1, r2) := H
  have A13 := Aside0.mk A130
  clear A130
  simp only [Option.some.injEq, Prod.mk.injEq] at H
  obtain ⟨rfl, rfl⟩ := H
  have hcz14_0 : w10.cell? ⟨gb198, 0, none⟩ = some (.int .u64 0) := (blk_cell BK198.out 0).trans rfl
  have hcz14_1 : w10.cell? ⟨gb198, 1, none⟩ = some (.bool false) := (blk_cell BK198.out 1).trans rfl
  have hfz14_0 := blk_frozen BK198.out 0
  have hfz14_1 := blk_frozen BK198.out 1
  go_wp2_with (first | ((with_reducible refine gate_callee (f := 74) rfl ?_); refine goesM_ (some 24) Try.func74 #[.agg #[.int .u64 t195, .bool t196], .int .u64 a1, .int .u64 a2] ?_; (with_reducible refine (field_reckoner_add.calls t195 t196 a1 a2 t199 _ A13.out).mono ?_); rintro e w15 ⟨rfl, hb⟩; refine ⟨_, rfl, ?_⟩; have n0_ := A_ (Kd.R_below (by (with_reducible repeat (first | apply Kd.R_alloc | apply Kd.R_drewN | apply Kd.R_drew)); exact (Kd.R_mono (Kd.R_far (p := ⟨gb198, 1, none⟩) (Kd.R_far (p := ⟨gb198, 0, none⟩) (Kd.R_types HO194.out BK198.out (by decide)) (fun _ hk => hk.2) (.int .u64 t195)) (fun _ hk => hk.2) (.bool t196)) (fun _ h_ => h_.1))) hb); have n1_ := A_ (blk_below (g := gb198) (o := .cells #[.int .u64 t195, .bool t196] 68 (0, 0)) (by (with_reducible repeat (first | refine blk_drewN ?_ _ | refine blk_drew ?_ | refine blk_alloc ?_ _)); refine blk_put (cs := #[.int .u64 t195, .bool false]) ?_ 1 _ rfl; (with_reducible repeat (first | refine blk_drewN ?_ _ | refine blk_drew ?_ | refine blk_alloc ?_ _)); refine blk_put (cs := #[.int .u64 0, .bool false]) ?_ 0 _ rfl; (with_reducible repeat (first | refine blk_drewN ?_ _ | refine blk_drew ?_ | refine blk_alloc ?_ _)); exact BK198.out) hb); have n2_ := A_ (below_step hs_ hb); clear HO194 BK198 HB; have HO194 := n0_; have BK198 := n1_; have HB := n2_; clear n0_ n1_ n2_; (try clear hb)))
  go_ret2
  exact ⟨fr_, hs_⟩
 ·rw [if_neg c12] at H
  have c12b0 : (t197 == 0) = false := beq_eq_false_iff_ne.mpr c12
  have c12b1 : (t197 != 0) = true := bne_iff_ne.mpr c12
  (first | rw [c12b0] | rw [c12b1] | (simp only [i64_w, i32_w]; first | rw [c12b0] | rw [c12b1]) | skip)
  simp only [Option.some.injEq, Prod.mk.injEq] at H
  obtain ⟨rfl, rfl⟩ := H
  go_wp2
  go_ret2
  exact ⟨fr_, hs_⟩
/-! ### fast_reckoner_add: function 47 -/
def fast_reckoner_add.f (k : Nat) (a0_0 : Int) (a1 : Int) (a2 : Int) : Option (Int) := (field_Add.f k a0_0 a1 a2).bind fun bt201 => (some bt201.1)
theorem fast_reckoner_add.mono : ∀ a0 a1 a2 k, LeO (fast_reckoner_add.f k a0 a1 a2) (fast_reckoner_add.f (k + 1) a0 a1 a2) := by
 intro a0 a1 a2 k
 unfold fast_reckoner_add.f
 repeat' first
   | (with_reducible exact field_Add.mono _ _ _ _)
   | (with_reducible exact LeO.refl _)
   | (with_reducible exact LeO.none _)
   | (with_reducible refine LeO.ite ?_ ?_)
   | (with_reducible refine LeO.bind ?_ (fun _ => ?_))
   | exact field_Add.mono _ _ _ _
   | exact LeO.none _
   | refine LeO.ite ?_ ?_
   | refine LeO.bind ?_ (fun _ => ?_)
set_option maxHeartbeats 8000000 in
set_option maxRecDepth 100000 in
theorem fast_reckoner_add.calls (k : Nat) (a0_0 : Int) (a1 : Int) (a2 : Int) (r : Int) (w : World) (h : fast_reckoner_add.f k a0_0 a1 a2 = some r) :
  Calls Try.prog 47 #[.agg #[.int .u8 a0_0], .int .u64 a1, .int .u64 a2] w fun e w' => e = .returned (.int .u64 r) ∧ Below w.heap.size w w' := by
 have hu47 := Try.underlying47
 have HB := A_ (Below.refl w.heap.size w)
 have H : ((field_Add.f k a0_0 a1 a2).bind fun bt201 => (some bt201.1)) = some r := h
 clear h
 replace H := Option.bind_eq_some_iff.mp H
 obtain ⟨⟨t201, t202⟩, A40, H⟩ := H
 replace H : (some t201) = some r := H
 have A4 := Aside0.mk A40
 clear A40
 obtain rfl := Option.some.inj H
 go_enter Try.func47, Try.ntmps47
 go_wp2_with (first | ((with_reducible refine gate_dst (N := 3) rfl ?_); refine box_event ?hg (N := 3) ?hd (cs := #[.int .u8 a0_0]) (t := 47) ?hr ?_; (case hd => rfl); (case hg => rfl); (case hr => first | (go_simp; done) | (go_simp; rfl)); intro gb200 hg w5 hbox hb; have n0_ := A_ (below_step hb_ hb); have n1_ := A_ (hbox); have n2_ := A_ ((by rw [hg]; exact (below_size hb_) : w.heap.size ≤ gb200)); have n3_ := A_ ((by rw [hg]; exact (below_size hb_) : w.heap.size ≤ gb200)); clear HB; have HB := n0_; have BK200 := n1_; have GW200 := n2_; have GE200 := n3_; clear n0_ n1_ n2_ n3_; clear hb hbox hg; have hcz6_0 : w5.cell? ⟨gb200, 0, none⟩ = some (.int .u8 a0_0) := (blk_cell BK200.out 0).trans rfl; have hfz6_0 := blk_frozen BK200.out 0) | ((with_reducible refine gate_callee (f := 65) rfl ?_); refine goesM_ (some 14) Try.func65 #[.int .u8 a0_0, .int .u64 a1, .int .u64 a2] ?_; (with_reducible refine (field_Add.calls k a0_0 a1 a2 t201 t202 _ A4.out).mono ?_); rintro e w7 ⟨rfl, hb⟩; refine ⟨_, rfl, ?_⟩; have n0_ := A_ (blk_below (g := gb200) (o := .cells #[.int .u8 a0_0] 47 (0, 0)) (nb_ BK200) hb); have n1_ := A_ (below_step hs_ hb); clear BK200 HB; have BK200 := n0_; have HB := n1_; clear n0_ n1_; (try clear hb)))
 go_ret
 exact ⟨fr_, hs_⟩
/-! ### field_Sub: function 66 -/
def field_Sub.f (k : Nat) (a0 : Int) (a1 : Int) (a2 : Int) : Option (Int × Int) := (field_asked.f k a0 (([a1, a2] : List Int))).bind fun bt206 => (if bt206.2.2 = 0 then ((field_reckoner_sub.f bt206.1 bt206.2.1 a1 a2).bind fun t210 => (some (t210, 0))) else (some (0, bt206.2.2)))
theorem field_Sub.mono : ∀ a0 a1 a2 k, LeO (field_Sub.f k a0 a1 a2) (field_Sub.f (k + 1) a0 a1 a2) := by
 intro a0 a1 a2 k
 unfold field_Sub.f
 repeat' first
   | (with_reducible exact field_asked.mono _ _ _)
   | (with_reducible exact LeO.refl _)
   | (with_reducible exact LeO.none _)
   | (with_reducible refine LeO.ite ?_ ?_)
   | (with_reducible refine LeO.bind ?_ (fun _ => ?_))
   | exact field_asked.mono _ _ _
   | exact LeO.none _
   | refine LeO.ite ?_ ?_
   | refine LeO.bind ?_ (fun _ => ?_)
set_option maxHeartbeats 8000000 in
set_option maxRecDepth 100000 in
theorem field_Sub.calls (k : Nat) (a0 : Int) (a1 : Int) (a2 : Int) (r1 : Int) (r2 : Int) (w : World) (h : field_Sub.f k a0 a1 a2 = some (r1, r2)) :
  Calls Try.prog 66 #[.int .u8 a0, .int .u64 a1, .int .u64 a2] w fun e w' => e = .returned (.tuple #[.int .u64 r1, .int .i64 r2]) ∧ Below w.heap.size w w' := by
 have hu68 := Try.underlying68
 have HB := A_ (Below.refl w.heap.size w)
 have H : ((field_asked.f k a0 (([a1, a2] : List Int))).bind fun bt206 => (if bt206.2.2 = 0 then ((field_reckoner_sub.f bt206.1 bt206.2.1 a1 a2).bind fun t210 => (some (t210, 0))) else (some (0, bt206.2.2)))) = some (r1, r2) := h
 clear h
 obtain ⟨y203, hy203⟩ : ∃ y_ : List Int, y_ = (([a1, a2] : List Int)) := ⟨_, rfl⟩
 replace H : ((field_asked.f k a0 y203).bind fun bt206 => (if bt206.2.2 = 0 then ((field_reckoner_sub.f bt206.1 bt206.2.1 a1 a2).bind fun t210 => (some (t210, 0))) else (some (0, bt206.2.2)))) = some (r1, r2) := by first | (rw [hy203]; with_reducible exact H) | (have H2_ := (Option.bind_some _ _).symm.trans H; rw [hy203]; with_reducible exact H2_) | (have H2_ := (Option.bind_some _ _).symm.trans H; with_reducible exact H2_) | with_reducible exact H | (rw [hy203]; exact H) | exact H
 have Ny203 := Aside0.mk hy203
 clear hy203
 replace H := Option.bind_eq_some_iff.mp H
 obtain ⟨⟨t206, t207, t208⟩, A40, H⟩ := H
 replace H : (if t208 = 0 then ((field_reckoner_sub.f t206 t207 a1 a2).bind fun t210 => (some (t210, 0))) else (some (0, t208))) = some (r1, r2) := H
 have A4 := Aside0.mk A40
 clear A40
 have HC5 := Aside0.mk H
 clear H
 go_enter Try.func66, Try.ntmps66
 go_upto_if 19 with (first | ((with_reducible refine gate_dst (N := 14) rfl ?_); refine Kd.R_lit (Kd.int .u64) _ 33 ?hg (N := 14) ?hd (xs := ([a1, a2] : List Int)) (inner := [.int .u64 a1, .int .u64 a2]) (ok := fun _ => True) (okp := fun _ => True) ?hr ?hp (fun _ hk => hk) trivial (Below.refl _ _) (Nat.le_refl _) (by simp) ?_; (case hd => rfl); (case hg => rfl); (case hr => first | (go_simp; done) | (go_simp; rfl)); (case hp => exact (Reps.one (show Kd.M (Kd.int .u64) _ _ _ a1 [.int .u64 a1] from rfl) (Reps.one (show Kd.M (Kd.int .u64) _ _ _ a2 [.int .u64 a2] from rfl) (Reps.none _ _)))); intro v204 w6 ho7 hb hg_ hnew_; clear hg_ hnew_; (first | rw [← Ny203.out] at ho7 | (simp only [Int.reduceToNat] at ho7; rw [← Ny203.out] at ho7)); have n0_ := A_ (Kd.R_lower ho7 (below_size hb_)); have n1_ := A_ (below_step hb_ hb); clear HB; have HO205 := n0_; have HB := n1_; clear n0_ n1_; clear hb ho7; obtain ⟨Ao8, co8, eo8⟩ := Kd.R_slice HO205.out; subst eo8) | ((with_reducible refine gate_callee (f := 54) rfl ?_); refine goesM_ (some 15) Try.func54 #[.int .u8 a0, .slice Ao8 y203.length co8] ?_; (with_reducible refine (field_asked.calls k a0 _ _ y203 t206 t207 t208 _ ?side1 ?side2 A4.out).mono ?_); (case side1 => repeat (first | exact (Kd.R_reads' HO205.out).2.2 | (with_reducible refine Kd.C_alloc ?_ _) | (with_reducible refine Kd.C_drewN ?_ _) | (with_reducible refine Kd.C_drew ?_))); (case side2 => exact (Kd.R_reads' HO205.out).2.1); rintro e w9 ⟨rfl, hb⟩; refine ⟨_, rfl, ?_⟩; have n0_ := A_ (Kd.R_below (nR_ HO205) hb); have n1_ := A_ (below_step hb_ hb); clear HO205 HB; have HO205 := n0_; have HB := n1_; clear n0_ n1_; (try clear hb)) | ((with_reducible refine gate_dst (N := 8) rfl ?_); refine box_event ?hg (N := 8) ?hd (cs := #[.int .u64 0, .bool false]) (t := 68) ?hr ?_; (case hd => rfl); (case hg => rfl); (case hr => first | (go_simp; done) | (go_simp; rfl)); intro gb209 hg w10 hbox hb; have n0_ := A_ (Kd.R_below (nR_ HO205) hb); have n1_ := A_ (below_step hb_ hb); have n2_ := A_ (hbox); have n3_ := A_ ((by rw [hg]; exact (below_size hb_) : w.heap.size ≤ gb209)); have n4_ := A_ ((by rw [hg]; exact (below_size hb_) : w.heap.size ≤ gb209)); clear HO205 HB; have HO205 := n0_; have HB := n1_; have BK209 := n2_; have GW209 := n3_; have GE209 := n4_; clear n0_ n1_ n2_ n3_ n4_; clear hb hbox hg; have hcz11_0 : w10.cell? ⟨gb209, 0, none⟩ = some (.int .u64 0) := (blk_cell BK209.out 0).trans rfl; have hcz11_1 : w10.cell? ⟨gb209, 1, none⟩ = some (.bool false) := (blk_cell BK209.out 1).trans rfl; have hfz11_0 := blk_frozen BK209.out 0; have hfz11_1 := blk_frozen BK209.out 1))
 (try simp only [Act.put, List.setIfInBounds_toArray, List.set_cons_zero, List.set_cons_succ])
 have H := HC5.out
 clear HC5
 by_cases c12 : t208 = 0
 ·rw [if_pos c12] at H
  have c12b0 : (t208 == 0) = true := beq_iff_eq.mpr c12
  have c12b1 : (t208 != 0) = false := bne_eq_false_iff_eq.mpr c12
  clear c12
  (first | rw [c12b0] | rw [c12b1] | (simp only [i64_w, i32_w]; first | rw [c12b0] | rw [c12b1]) | skip)
  replace H := Option.bind_eq_some_iff.mp H
  obtain ⟨t210, A130, H⟩ := H
  replace H : (some (t210, 0)) = some (r1, r2) := H
  have A13 := Aside0.mk A130
  clear A130
  simp only [Option.some.injEq, Prod.mk.injEq] at H
  obtain ⟨rfl, rfl⟩ := H
  have hcz14_0 : w10.cell? ⟨gb209, 0, none⟩ = some (.int .u64 0) := (blk_cell BK209.out 0).trans rfl
  have hcz14_1 : w10.cell? ⟨gb209, 1, none⟩ = some (.bool false) := (blk_cell BK209.out 1).trans rfl
  have hfz14_0 := blk_frozen BK209.out 0
  have hfz14_1 := blk_frozen BK209.out 1
  go_wp2_with (first | ((with_reducible refine gate_callee (f := 75) rfl ?_); refine goesM_ (some 24) Try.func75 #[.agg #[.int .u64 t206, .bool t207], .int .u64 a1, .int .u64 a2] ?_; (with_reducible refine (field_reckoner_sub.calls t206 t207 a1 a2 t210 _ A13.out).mono ?_); rintro e w15 ⟨rfl, hb⟩; refine ⟨_, rfl, ?_⟩; have n0_ := A_ (Kd.R_below (by (with_reducible repeat (first | apply Kd.R_alloc | apply Kd.R_drewN | apply Kd.R_drew)); exact (Kd.R_mono (Kd.R_far (p := ⟨gb209, 1, none⟩) (Kd.R_far (p := ⟨gb209, 0, none⟩) (Kd.R_types HO205.out BK209.out (by decide)) (fun _ hk => hk.2) (.int .u64 t206)) (fun _ hk => hk.2) (.bool t207)) (fun _ h_ => h_.1))) hb); have n1_ := A_ (blk_below (g := gb209) (o := .cells #[.int .u64 t206, .bool t207] 68 (0, 0)) (by (with_reducible repeat (first | refine blk_drewN ?_ _ | refine blk_drew ?_ | refine blk_alloc ?_ _)); refine blk_put (cs := #[.int .u64 t206, .bool false]) ?_ 1 _ rfl; (with_reducible repeat (first | refine blk_drewN ?_ _ | refine blk_drew ?_ | refine blk_alloc ?_ _)); refine blk_put (cs := #[.int .u64 0, .bool false]) ?_ 0 _ rfl; (with_reducible repeat (first | refine blk_drewN ?_ _ | refine blk_drew ?_ | refine blk_alloc ?_ _)); exact BK209.out) hb); have n2_ := A_ (below_step hs_ hb); clear HO205 BK209 HB; have HO205 := n0_; have BK209 := n1_; have HB := n2_; clear n0_ n1_ n2_; (try clear hb)))
  go_ret2
  exact ⟨fr_, hs_⟩
 ·rw [if_neg c12] at H
  have c12b0 : (t208 == 0) = false := beq_eq_false_iff_ne.mpr c12
  have c12b1 : (t208 != 0) = true := bne_iff_ne.mpr c12
  (first | rw [c12b0] | rw [c12b1] | (simp only [i64_w, i32_w]; first | rw [c12b0] | rw [c12b1]) | skip)
  simp only [Option.some.injEq, Prod.mk.injEq] at H
  obtain ⟨rfl, rfl⟩ := H
  go_wp2
  go_ret2
  exact ⟨fr_, hs_⟩
/-! ### fast_reckoner_sub: function 51 -/
def fast_reckoner_sub.f (k : Nat) (a0_0 : Int) (a1 : Int) (a2 : Int) : Option (Int) := (field_Sub.f k a0_0 a1 a2).bind fun bt212 => (some bt212.1)
theorem fast_reckoner_sub.mono : ∀ a0 a1 a2 k, LeO (fast_reckoner_sub.f k a0 a1 a2) (fast_reckoner_sub.f (k + 1) a0 a1 a2) := by
 intro a0 a1 a2 k
 unfold fast_reckoner_sub.f
 repeat' first
   | (with_reducible exact field_Sub.mono _ _ _ _)
   | (with_reducible exact LeO.refl _)
   | (with_reducible exact LeO.none _)
   | (with_reducible refine LeO.ite ?_ ?_)
   | (with_reducible refine LeO.bind ?_ (fun _ => ?_))
   | exact field_Sub.mono _ _ _ _
   | exact LeO.none _
   | refine LeO.ite ?_ ?_
   | refine LeO.bind ?_ (fun _ => ?_)
set_option maxHeartbeats 8000000 in
set_option maxRecDepth 100000 in
theorem fast_reckoner_sub.calls (k : Nat) (a0_0 : Int) (a1 : Int) (a2 : Int) (r : Int) (w : World) (h : fast_reckoner_sub.f k a0_0 a1 a2 = some r) :
  Calls Try.prog 51 #[.agg #[.int .u8 a0_0], .int .u64 a1, .int .u64 a2] w fun e w' => e = .returned (.int .u64 r) ∧ Below w.heap.size w w' := by
 have hu47 := Try.underlying47
 have HB := A_ (Below.refl w.heap.size w)
 have H : ((field_Sub.f k a0_0 a1 a2).bind fun bt212 => (some bt212.1)) = some r := h
 clear h
 replace H := Option.bind_eq_some_iff.mp H
 obtain ⟨⟨t212, t213⟩, A40, H⟩ := H
 replace H : (some t212) = some r := H
 have A4 := Aside0.mk A40
 clear A40
 obtain rfl := Option.some.inj H
 go_enter Try.func51, Try.ntmps51
 go_wp2_with (first | ((with_reducible refine gate_dst (N := 3) rfl ?_); refine box_event ?hg (N := 3) ?hd (cs := #[.int .u8 a0_0]) (t := 47) ?hr ?_; (case hd => rfl); (case hg => rfl); (case hr => first | (go_simp; done) | (go_simp; rfl)); intro gb211 hg w5 hbox hb; have n0_ := A_ (below_step hb_ hb); have n1_ := A_ (hbox); have n2_ := A_ ((by rw [hg]; exact (below_size hb_) : w.heap.size ≤ gb211)); have n3_ := A_ ((by rw [hg]; exact (below_size hb_) : w.heap.size ≤ gb211)); clear HB; have HB := n0_; have BK211 := n1_; have GW211 := n2_; have GE211 := n3_; clear n0_ n1_ n2_ n3_; clear hb hbox hg; have hcz6_0 : w5.cell? ⟨gb211, 0, none⟩ = some (.int .u8 a0_0) := (blk_cell BK211.out 0).trans rfl; have hfz6_0 := blk_frozen BK211.out 0) | ((with_reducible refine gate_callee (f := 66) rfl ?_); refine goesM_ (some 14) Try.func66 #[.int .u8 a0_0, .int .u64 a1, .int .u64 a2] ?_; (with_reducible refine (field_Sub.calls k a0_0 a1 a2 t212 t213 _ A4.out).mono ?_); rintro e w7 ⟨rfl, hb⟩; refine ⟨_, rfl, ?_⟩; have n0_ := A_ (blk_below (g := gb211) (o := .cells #[.int .u8 a0_0] 47 (0, 0)) (nb_ BK211) hb); have n1_ := A_ (below_step hs_ hb); clear BK211 HB; have BK211 := n0_; have HB := n1_; clear n0_ n1_; (try clear hb)))
 go_ret
 exact ⟨fr_, hs_⟩
/-! ### root_Flip: function 60 -/
mutual
def root_Flip.j0 : Nat → Int → Int → Bool → Option (Int × Int)
 | 0, _, _, _ => none
 | k + 1, x0, x1, x22 => if x22 = true then (some (0, 2)) else (root_Flip.l0 k x0 0 x1 0)
def root_Flip.l0 : Nat → Int → Int → Int → Int → Option (Int × Int)
 | 0, _, _, _, _ => none
 | k + 1, x0, x6, x23, x24 => if x24 < x23 then (root_Flip.l0 k (x0 / 2) (Go.bits .or .i64 (wrap64 (x6 * 2)) (Go.bits .and .i64 x0 1)) x23 (wrap64 (x24 + 1))) else (some (x6, 0))
end
def root_Flip.f (k : Nat) (a0 : Int) (a1 : Int) : Option (Int × Int) := if a1 < 0 then (root_Flip.j0 k a0 a1 true) else (if a1 > 32 then (root_Flip.j0 k a0 a1 true) else (if a0 < 0 then (root_Flip.j0 k a0 a1 true) else (if 0 ≤ a1 then (root_Flip.j0 k a0 a1 (decide (a0 ≥ (shl .i64 1 a1)))) else (none))))
theorem root_Flip.mono_l : ∀ k, (∀ y0 y1 y2, LeO (root_Flip.j0 k y0 y1 y2) (root_Flip.j0 (k + 1) y0 y1 y2)) ∧ (∀ y0 y1 y2 y3, LeO (root_Flip.l0 k y0 y1 y2 y3) (root_Flip.l0 (k + 1) y0 y1 y2 y3))
 | 0 => ⟨fun _ _ _ r h => by simp [root_Flip.j0] at h, fun _ _ _ _ r h => by simp [root_Flip.l0] at h⟩
 | k + 1 => by
  obtain ⟨ih0, ih1⟩ := root_Flip.mono_l k
  refine ⟨?_, ?_⟩
  ·intro y0 y1 y2
   unfold root_Flip.j0
   repeat' first
   | (with_reducible exact ih0 _ _ _)
   | (with_reducible exact ih1 _ _ _ _)
   | (with_reducible exact LeO.refl _)
   | (with_reducible exact LeO.none _)
   | (with_reducible refine LeO.ite ?_ ?_)
   | (with_reducible refine LeO.bind ?_ (fun _ => ?_))
   | exact ih0 _ _ _
   | exact ih1 _ _ _ _
   | exact LeO.none _
   | refine LeO.ite ?_ ?_
   | refine LeO.bind ?_ (fun _ => ?_)
  ·intro y0 y1 y2 y3
   unfold root_Flip.l0
   repeat' first
   | (with_reducible exact ih0 _ _ _)
   | (with_reducible exact ih1 _ _ _ _)
   | (with_reducible exact LeO.refl _)
   | (with_reducible exact LeO.none _)
   | (with_reducible refine LeO.ite ?_ ?_)
   | (with_reducible refine LeO.bind ?_ (fun _ => ?_))
   | exact ih0 _ _ _
   | exact ih1 _ _ _ _
   | exact LeO.none _
   | refine LeO.ite ?_ ?_
   | refine LeO.bind ?_ (fun _ => ?_)
theorem root_Flip.mono : ∀ a0 a1 k, LeO (root_Flip.f k a0 a1) (root_Flip.f (k + 1) a0 a1) := by
 intro a0 a1 k
 obtain ⟨ih0, ih1⟩ := root_Flip.mono_l k
 unfold root_Flip.f
 repeat' first
   | (with_reducible exact ih0 _ _ _)
   | (with_reducible exact ih1 _ _ _ _)
   | (with_reducible exact LeO.refl _)
   | (with_reducible exact LeO.none _)
   | (with_reducible refine LeO.ite ?_ ?_)
   | (with_reducible refine LeO.bind ?_ (fun _ => ?_))
   | exact ih0 _ _ _
   | exact ih1 _ _ _ _
   | exact LeO.none _
   | refine LeO.ite ?_ ?_
   | refine LeO.bind ?_ (fun _ => ?_)
set_option maxHeartbeats 8000000 in
set_option maxRecDepth 100000 in
theorem root_Flip.calls (k : Nat) (a0 : Int) (a1 : Int) (r1 : Int) (r2 : Int) (w : World) (h : root_Flip.f k a0 a1 = some (r1, r2)) :
  Calls Try.prog 60 #[.int .i64 a0, .int .i64 a1] w fun e w' => e = .returned (.tuple #[.int .i64 r1, .int .i64 r2]) ∧ Drawn0 w w' := by
 have H : (if a1 < 0 then (root_Flip.j0 k a0 a1 true) else (if a1 > 32 then (root_Flip.j0 k a0 a1 true) else (if a0 < 0 then (root_Flip.j0 k a0 a1 true) else (if 0 ≤ a1 then (root_Flip.j0 k a0 a1 (decide (a0 ≥ (shl .i64 1 a1)))) else (none))))) = some (r1, r2) := h
 clear h
 have HC3 := Aside0.mk H
 clear H
 go_enter Try.func60, Try.ntmps60
 go_upto_region 1 with (fail)
 go_cut [22] (fun v22 wc => ∃ (kq : Nat) (x22_2 : Bool), v22 = .bool x22_2 ∧ Aside0 (root_Flip.j0 kq a0 a1 x22_2 = some (r1, r2)) ∧ Aside0 (kq ≤ k) ∧ Drawn0 w wc)
 case first =>
  have H := HC3.out
  clear HC3
  by_cases c4 : a1 < 0
  ·rw [if_pos c4] at H
   have c4b0 : decide (a1 < 0) = true := decide_eq_true c4
   clear c4
   (first | rw [c4b0] | (simp only [i64_w, i32_w]; first | rw [c4b0]) | skip)
   have H' := Aside0.mk H
   clear H
   go_wp2
   go_meet
   case rel => exact ⟨_, (true), (fs_), H', ⟨fo_⟩, by repeat (first | exact Drawn0.refl _ | apply Drawn0.step)⟩
  ·rw [if_neg c4] at H
   have c4b0 : decide (a1 < 0) = false := decide_eq_false c4
   clear c4
   (first | rw [c4b0] | (simp only [i64_w, i32_w]; first | rw [c4b0]) | skip)
   by_cases c5 : a1 > 32
   ·rw [if_pos c5] at H
    have c5b0 : decide (32 < a1) = true := decide_eq_true c5
    clear c5
    have H' := Aside0.mk H
    clear H
    go_wp2
    go_meet
    case rel => exact ⟨_, (true), (fs_), H', ⟨fo_⟩, by repeat (first | exact Drawn0.refl _ | apply Drawn0.step)⟩
   ·rw [if_neg c5] at H
    have c5b0 : decide (32 < a1) = false := decide_eq_false c5
    clear c5
    by_cases c6 : a0 < 0
    ·rw [if_pos c6] at H
     have c6b0 : decide (a0 < 0) = true := decide_eq_true c6
     clear c6
     have H' := Aside0.mk H
     clear H
     go_wp2
     go_meet
     case rel => exact ⟨_, (true), (fs_), H', ⟨fo_⟩, by repeat (first | exact Drawn0.refl _ | apply Drawn0.step)⟩
    ·rw [if_neg c6] at H
     have c6b0 : decide (a0 < 0) = false := decide_eq_false c6
     clear c6
     by_cases c7 : 0 ≤ a1
     ·rw [if_pos c7] at H
      have c7b0 := eq_true c7
      have c7b1 : decide (0 ≤ a1) = true := decide_eq_true c7
      clear c7
      obtain ⟨ji8, hji8⟩ : ∃ j_ : Int, (shl .i64 1 a1) = j_ := ⟨_, rfl⟩
      replace H : (root_Flip.j0 k a0 a1 (decide (a0 ≥ (ji8)))) = some (r1, r2) := by first | (rw [hji8] at H; exact H) | (simp only [hji8] at H ⊢; exact H)
      have hji8_ : (IntKind.i64.wrap (1 * 2 ^ min a1.toNat 64)) = ji8 := hji8
      have hji8z : a1 ≤ 64 → (IntKind.i64.wrap (1 * 2 ^ a1.toNat)) = ji8 := shl_small hji8
      have hji8u : (IntKind.i64.wrap (2 ^ min a1.toNat 64)) = ji8 := by have h_ := hji8_; rw [Int.one_mul] at h_; exact h_
      have hji8v : a1 ≤ 64 → (IntKind.i64.wrap (2 ^ a1.toNat)) = ji8 := fun hle_ => by have h_ := hji8z hle_; rw [Int.one_mul] at h_; exact h_
      have hji8y : (wrap64 (1 * 2 ^ min a1.toNat 64)) = ji8 := (i64_w _).symm.trans hji8_
      have hji8x : a1 ≤ 64 → (wrap64 (1 * 2 ^ a1.toNat)) = ji8 := fun h_ => (i64_w _).symm.trans (hji8z h_)
      have H' := Aside0.mk H
      clear H
      go_wp2
      go_meet
      case rel => exact ⟨_, (decide (a0 ≥ (ji8))), (by first | rfl | (simp; done) | (simp only [← hji8] <;> (first | rfl | simp)) | (simp [*]; done)), H', ⟨fo_⟩, by repeat (first | exact Drawn0.refl _ | apply Drawn0.step)⟩
     ·rw [if_neg c7] at H
      exact absurd H (by simp)
 case rest =>
  clear HC3
  try clear p2
  try clear c4
  try clear c4b0
  try clear c5
  try clear c5b0
  try clear c6
  try clear c6b0
  try clear p6
  try clear c7
  try clear c7b0
  try clear c7b1
  obtain ⟨kq, x22_2, rfl, HA, HJ2, ⟨mc2, rfl⟩⟩ := hcut
  cases kq with
  | zero => exact absurd HA.out (by simp [root_Flip.j0])
  | succ kj2 =>
   have H := HA.out
   clear HA
   simp only [root_Flip.j0] at H
   by_cases c9 : x22_2 = true
   ·subst c9
    have H1 : (some (0, 2)) = some (r1, r2) := by rw [if_pos rfl] at H; exact H
    clear H
    have H := H1
    clear H1
    simp only [Option.some.injEq, Prod.mk.injEq] at H
    obtain ⟨rfl, rfl⟩ := H
    go_wp2
    go_ret2
    exact ⟨fs_, by repeat (first | exact Drawn0.refl _ | apply Drawn0.step)⟩
   ·replace c9 := Bool.eq_false_iff.mpr c9
    subst c9
    have H1 : (root_Flip.l0 kj2 a0 0 a1 0) = some (r1, r2) := by rw [if_neg (show ¬ (false = true) by decide)] at H; exact H
    clear H
    have H := H1
    clear H1
    have H' := Aside0.mk H
    clear H
    go_wp2
    go_loopg [0, 6, 24] kj2 (fun kq v0 v6 v24 w' => ∃ (x0_2 : Int) (x6_2 : Int) (x24_2 : Int), v0 = .int .i64 x0_2 ∧ v6 = .int .i64 x6_2 ∧ v24 = .int .i64 x24_2 ∧ Aside0 (root_Flip.l0 kq x0_2 x6_2 a1 x24_2 = some (r1, r2)) ∧ Aside0 (kq ≤ kj2) ∧ Drawn0 w w')
    case atStart => exact ⟨(a0), (0), (0), (fs_), (fs_), (fs_), H', ⟨Nat.le_refl _⟩, by repeat (first | exact Drawn0.refl _ | apply Drawn0.step)⟩
    case round =>
     clear H'
     try clear c2
     try clear p2
     try clear c4
     try clear c4b0
     try clear c5
     try clear c5b0
     try clear c6
     try clear c6b0
     try clear p6
     try clear c7
     try clear c7b0
     try clear c7b1
     try clear c9
     try clear p2
     try clear p6
     obtain ⟨x0_2, x6_2, x24_2, rfl, rfl, rfl, HA, HK2, ⟨m2, rfl⟩⟩ := hrel
     cases gk with
     | zero => exact absurd HA.out (by simp [root_Flip.l0])
     | succ k2 =>
      have H := HA.out
      clear HA
      simp only [root_Flip.l0] at H
      by_cases c10 : x24_2 < a1
      ·rw [if_pos c10] at H
       have c10b0 : decide (x24_2 < a1) = true := decide_eq_true c10
       clear c10
       have H' := Aside0.mk H
       clear H
       go_wp2
       go_roundg k2
       case measure => have := HJ2.out; have := HK2.out; omega
       case rel => exact ⟨(x0_2 / 2), (Go.bits .or .i64 (wrap64 (x6_2 * 2)) (Go.bits .and .i64 x0_2 1)), (wrap64 (x24_2 + 1)), (fs_), (fs_), (fs_), H', ⟨by have := HJ2.out; have := HK2.out; omega⟩, by repeat (first | exact Drawn0.refl _ | apply Drawn0.step)⟩
      ·rw [if_neg c10] at H
       have c10b0 : decide (x24_2 < a1) = false := decide_eq_false c10
       clear c10
       simp only [Option.some.injEq, Prod.mk.injEq] at H
       obtain ⟨rfl, rfl⟩ := H
       go_wp2
       go_ret2
       exact ⟨fs_, by repeat (first | exact Drawn0.refl _ | apply Drawn0.step)⟩
end Go.Proofs.Ytaegmhniepfdaaa.PFastFresh
