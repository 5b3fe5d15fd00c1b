/- The Go functions as Lean functions, each with the proof that its call comes to just that; written by a program of this session, by the words of the print. -/
import Derived.Test.YtkaongcpekhbdaaPTreeFreshx0
import Derived.Test.YtkaongcpekhbdaaPTreeFreshx99
import Derived.Test.YtkaongcpekhbdaaPTreeFreshx2
import Derived.Test.YtkaongcpekhbdaaPTreeFreshx3
import Derived.Test.YtkaongcpekhbdaaPTreeFreshx6
namespace Go.Proofs.Ytkaongcpekhbdaa.PTreeFresh
open Go.RowKit Go.Proofs.YtkaongcpekhbdaaW.PrintWords Go.Proofs.YtkaongcpekhbdaaW.PrintLast Go.Proofs.YtkaongcpekhbdaaW.PrintMore
attribute [local go_sem] max2_int min2_int max_two min_two max_three min_three max_four min_four   -- for this text's walks alone
set_option linter.unusedVariables false
set_option linter.unusedSimpArgs false
/-! ### tree_grow: function 39 -/
mutual
def tree_grow.l0 : Nat → List (List Int) → List Int → Int → Int → Int → Option ((List (List (List Int))) × Int)
 | 0, _, _, _, _, _ => none
 | k + 1, x6, x17, x18, x19, x287000 => if x19 < x18 then (if 0 ≤ x19 then (if x19 < (x17.length : Int) then ((field_Sub.f k x287000 0 (rd x17 x19)).bind fun bt288 => (if bt288.2 = 0 then (if x6.length < 5864062014805 then (tree_grow.l0 k (x6 ++ [(([bt288.1, 1] : List Int))]) x17 x18 (wrap64 (x19 + 1)) x287000) else (none)) else (some (([] : List (List (List Int))), bt288.2)))) else (none)) else (none)) else (tree_grow.l1 k x6 (([x6] : List (List (List Int)))) x287000)
def tree_grow.l1 : Nat → List (List Int) → List (List (List Int)) → Int → Option ((List (List (List Int))) × Int)
 | 0, _, _, _ => none
 | k + 1, x6, x11, x287000 => if (x6.length : Int) > 1 then (tree_grow.l2 k x6 x11 ([] : List (List Int)) 0 x287000) else (some (x11, 0))
def tree_grow.l2 : Nat → List (List Int) → List (List (List Int)) → List (List Int) → Int → Int → Option ((List (List (List Int))) × Int)
 | 0, _, _, _, _, _ => none
 | k + 1, x6, x11, x13, x14, x287000 => if (wrap64 (x14 + 1)) < (x6.length : Int) then (if 0 ≤ x14 then (if x14 < (x6.length : Int) then (if 0 ≤ (wrap64 (x14 + 1)) then ((tree_grow_1.f k (rd_L1 x6 x14) (rd_L1 x6 (wrap64 (x14 + 1))) x287000).bind fun bt302 => (if bt302.2 = 0 then (if x13.length < 5864062014805 then (tree_grow.l2 k x6 x11 (x13 ++ [bt302.1]) (wrap64 (x14 + 2)) x287000) else (none)) else (some (([] : List (List (List Int))), bt302.2)))) else (none)) else (none)) else (none)) else (if ((x6.length : Int) % 2) = 1 then (if 0 ≤ (wrap64 ((x6.length : Int) - 1)) then (if (wrap64 ((x6.length : Int) - 1)) < (x6.length : Int) then ((poly_Trim.f k (rd_L1 x6 (wrap64 ((x6.length : Int) - 1)))).bind fun t310 => (if x13.length < 5864062014805 then ((some (x13 ++ [t310] : List (List Int))).bind fun y313 => (if x11.length < 5864062014805 then (tree_grow.l1 k y313 (x11 ++ [y313]) x287000) else (none))) else (none))) else (none)) else (none)) else (if x11.length < 5864062014805 then (tree_grow.l1 k x13 (x11 ++ [x13]) x287000) else (none)))
end
def tree_grow.f (k : Nat) (a0 : Int) (l1 : List Int) : Option ((List (List (List Int))) × Int) := tree_grow.l0 k ([] : List (List Int)) l1 (l1.length : Int) 0 a0
theorem tree_grow.mono_l : ∀ k, (∀ y0 y1 y2 y3 y4, LeO (tree_grow.l0 k y0 y1 y2 y3 y4) (tree_grow.l0 (k + 1) y0 y1 y2 y3 y4)) ∧ (∀ y0 y1 y2, LeO (tree_grow.l1 k y0 y1 y2) (tree_grow.l1 (k + 1) y0 y1 y2)) ∧ (∀ y0 y1 y2 y3 y4, LeO (tree_grow.l2 k y0 y1 y2 y3 y4) (tree_grow.l2 (k + 1) y0 y1 y2 y3 y4))
 | 0 => ⟨fun _ _ _ _ _ r h => by simp [tree_grow.l0] at h, fun _ _ _ r h => by simp [tree_grow.l1] at h, fun _ _ _ _ _ r h => by simp [tree_grow.l2] at h⟩
 | k + 1 => by
  obtain ⟨ih0, ih1, ih2⟩ := tree_grow.mono_l k
  refine ⟨?_, ?_, ?_⟩
  ·intro y0 y1 y2 y3 y4
   unfold tree_grow.l0
   repeat' first
   | (with_reducible exact ih0 _ _ _ _ _)
   | (with_reducible exact ih1 _ _ _)
   | (with_reducible exact ih2 _ _ _ _ _)
   | (with_reducible exact field_Sub.mono _ _ _ _)
   | (with_reducible exact poly_Trim.mono _ _)
   | (with_reducible exact tree_grow_1.mono _ _ _ _)
   | (with_reducible exact LeO.refl _)
   | (with_reducible exact LeO.none _)
   | (with_reducible refine LeO.ite ?_ ?_)
   | (with_reducible refine LeO.bind ?_ (fun _ => ?_))
   | exact ih0 _ _ _ _ _
   | exact ih1 _ _ _
   | exact ih2 _ _ _ _ _
   | exact field_Sub.mono _ _ _ _
   | exact poly_Trim.mono _ _
   | exact tree_grow_1.mono _ _ _ _
   | exact LeO.none _
   | refine LeO.ite ?_ ?_
   | refine LeO.bind ?_ (fun _ => ?_)
  ·intro y0 y1 y2
   unfold tree_grow.l1
   repeat' first
   | (with_reducible exact ih0 _ _ _ _ _)
   | (with_reducible exact ih1 _ _ _)
   | (with_reducible exact ih2 _ _ _ _ _)
   | (with_reducible exact field_Sub.mono _ _ _ _)
   | (with_reducible exact poly_Trim.mono _ _)
   | (with_reducible exact tree_grow_1.mono _ _ _ _)
   | (with_reducible exact LeO.refl _)
   | (with_reducible exact LeO.none _)
   | (with_reducible refine LeO.ite ?_ ?_)
   | (with_reducible refine LeO.bind ?_ (fun _ => ?_))
   | exact ih0 _ _ _ _ _
   | exact ih1 _ _ _
   | exact ih2 _ _ _ _ _
   | exact field_Sub.mono _ _ _ _
   | exact poly_Trim.mono _ _
   | exact tree_grow_1.mono _ _ _ _
   | exact LeO.none _
   | refine LeO.ite ?_ ?_
   | refine LeO.bind ?_ (fun _ => ?_)
  ·intro y0 y1 y2 y3 y4
   unfold tree_grow.l2
   repeat' first
   | (with_reducible exact ih0 _ _ _ _ _)
   | (with_reducible exact ih1 _ _ _)
   | (with_reducible exact ih2 _ _ _ _ _)
   | (with_reducible exact field_Sub.mono _ _ _ _)
   | (with_reducible exact poly_Trim.mono _ _)
   | (with_reducible exact tree_grow_1.mono _ _ _ _)
   | (with_reducible exact LeO.refl _)
   | (with_reducible exact LeO.none _)
   | (with_reducible refine LeO.ite ?_ ?_)
   | (with_reducible refine LeO.bind ?_ (fun _ => ?_))
   | exact ih0 _ _ _ _ _
   | exact ih1 _ _ _
   | exact ih2 _ _ _ _ _
   | exact field_Sub.mono _ _ _ _
   | exact poly_Trim.mono _ _
   | exact tree_grow_1.mono _ _ _ _
   | exact LeO.none _
   | refine LeO.ite ?_ ?_
   | refine LeO.bind ?_ (fun _ => ?_)
theorem tree_grow.mono : ∀ a0 a1 k, LeO (tree_grow.f k a0 a1) (tree_grow.f (k + 1) a0 a1) := by
 intro a0 a1 k
 obtain ⟨ih0, ih1, ih2⟩ := tree_grow.mono_l k
 unfold tree_grow.f
 repeat' first
   | (with_reducible exact ih0 _ _ _ _ _)
   | (with_reducible exact ih1 _ _ _)
   | (with_reducible exact ih2 _ _ _ _ _)
   | (with_reducible exact field_Sub.mono _ _ _ _)
   | (with_reducible exact poly_Trim.mono _ _)
   | (with_reducible exact tree_grow_1.mono _ _ _ _)
   | (with_reducible exact LeO.refl _)
   | (with_reducible exact LeO.none _)
   | (with_reducible refine LeO.ite ?_ ?_)
   | (with_reducible refine LeO.bind ?_ (fun _ => ?_))
   | exact ih0 _ _ _ _ _
   | exact ih1 _ _ _
   | exact ih2 _ _ _ _ _
   | exact field_Sub.mono _ _ _ _
   | exact poly_Trim.mono _ _
   | exact tree_grow_1.mono _ _ _ _
   | exact LeO.none _
   | refine LeO.ite ?_ ?_
   | refine LeO.bind ?_ (fun _ => ?_)
def tree_grow.T17 : Bool × List (List Nat × List Nat) := (true, [([], []), ([], []), ([], []), ([1, 2], [1, 2]), ([3], [3]), ([], []), ([], []), ([6], [6]), ([5, 7], [5, 7]), ([8], [8]), ([0, 4, 9], [0, 4, 9]), ([10], [10]), ([11], [11]), ([11], [11]), ([12, 10, 0, 1, 2, 3, 4, 5, 6, 7, 8, 9, 10, 11, 12], [12]), ([13, 14, 0, 1, 2, 3, 4, 5, 6, 7, 8, 9, 10, 11, 12, 13, 14], [13])])
def tree_grow.B17 : List Nat := [0, 0, 0, 6, 14, 0, 0, 64, 224, 480, 1023, 2047, 4095, 4095, 8191, 32767]
theorem tree_grow.tab17 : rtab .any (opsOf Try.f39 17) = tree_grow.T17 := by kernel_rfl
theorem tree_grow.bits17 : waitsOk tree_grow.T17.2 tree_grow.B17 = true := by kernel_rfl
set_option maxHeartbeats 8000000 in
set_option maxRecDepth 100000 in
theorem tree_grow.calls (k : Nat) (a0 : Int) (A1 : Option Addr) (c1 : Nat) (l1 : List Int) (r1 : List (List (List Int))) (r2 : Int) (w : World) (hr1 : Kd.C (Kd.int .u64) w A1 l1.length l1) (hc1 : l1.length ≤ c1) (h : tree_grow.f k a0 l1 = some (r1, r2)) :
  Calls Try.prog 39 #[.int .u8 a0, .slice A1 l1.length c1] w fun e w' => ∃ v0_ : Value, e = .returned (.tuple #[v0_, .int .i64 r2]) ∧ T 0 (fun _ => True) (sliceS 22 (Kd.slice 49 (Kd.int .u64))) 23 w' w.heap.size (fun k_ => (w.heap.size ≤ k_)) v0_ r1 ∧ Below w.heap.size w w' := by
 have HR1 := Aside0.mk hr1
 have HC1 := Aside0.mk hc1
 clear hr1 hc1
 have HB := A_ (Below.refl w.heap.size w)
 have H : (tree_grow.l0 k ([] : List (List Int)) l1 (l1.length : Int) 0 a0) = some (r1, r2) := h
 clear h
 have H' := Aside0.mk H
 clear H
 go_enter Try.func39, Try.ntmps39
 go_wp2_with (first | ((with_reducible refine gate_dst (N := 2) rfl ?_); refine box_event ?hg (N := 2) ?hd (cs := #[.int .u8 a0]) (t := 27) ?hr ?_; (case hd => rfl); (case hg => rfl); (case hr => first | (go_simp; done) | (go_simp; rfl)); intro gb286 hg w3 hbox hb; have n0_ := A_ (below_step hb_ hb); have n1_ := A_ (hbox); have n2_ := A_ ((by rw [hg]; exact (below_size hb_) : w.heap.size ≤ gb286)); have n3_ := A_ ((by rw [hg]; exact (below_size hb_) : w.heap.size ≤ gb286)); clear HB; have HB := n0_; have BK286 := n1_; have GW286 := n2_; have GE286 := n3_; clear n0_ n1_ n2_ n3_; clear hb hbox hg))
 go_loopg [6, 19] k (fun kq v6 v19 w' => ∃ (x6_1 : List (List Int)) (x19_1 : Int), v19 = .int .i64 x19_1 ∧ Aside0 (tree_grow.l0 kq x6_1 l1 (l1.length : Int) x19_1 a0 = some (r1, r2)) ∧ Aside0 (kq ≤ k) ∧ Aside0 (T 0 (fun _ => True) (Kd.slice 49 (Kd.int .u64)) 22 w' w.heap.size (fun k_ => (w.heap.size ≤ k_) ∧ k_ ≠ gb286) v6 x6_1) ∧ Aside0 (w'.heap[gb286]? = some (.cells #[.int .u8 a0] 27 (0, 0))) ∧ Aside0 (Below w.heap.size w w'))
 case atStart => exact ⟨(([] : List (List Int))), (0), (fs_), H', ⟨Nat.le_refl _⟩, ⟨by first | exact T_nil _ _ _ _ _ _ _ (by first | exact Nat.zero_le _ | exact Nat.le_of_eq hS0.symm) | exact T_nil _ _ _ _ _ | exact Kd.V_nil _ _ _ _ _ | exact Kd.Q_nil _ _ _ _ _ | exact Kd.R_nil _ _ _ _ _⟩, ⟨mb_ BK286.out⟩, ⟨hs_⟩⟩
 case round =>
  clear H'
  try clear c1
  try clear p2
  try clear c3
  obtain ⟨x6_1, x19_1, rfl, HA, HK1, HO_6, BK286, HB⟩ := hrel
  cases gk with
  | zero => exact absurd HA.out (by simp [tree_grow.l0])
  | succ k1 =>
   have H := HA.out
   clear HA
   simp only [tree_grow.l0] at H
   by_cases c4 : x19_1 < (l1.length : Int)
   ·rw [if_pos c4] at H
    have c4b0 : decide (x19_1 < (l1.length : Int)) = true := decide_eq_true c4
    clear c4
    by_cases c5 : 0 ≤ x19_1
    ·rw [if_pos c5] at H
     have c5b0 : decide (0 ≤ x19_1) = true := decide_eq_true c5
     clear c5
     by_cases c6 : x19_1 < (l1.length : Int)
     ·rw [if_pos c6] at H
      have c6b0 : decide (x19_1 < (l1.length : Int)) = true := decide_eq_true c6
      clear c6
      replace H := Option.bind_eq_some_iff.mp H
      obtain ⟨⟨t288, t289⟩, A70, H⟩ := H
      replace H : (if t289 = 0 then (if x6_1.length < 5864062014805 then (tree_grow.l0 k1 (x6_1 ++ [(([t288, 1] : List Int))]) l1 (l1.length : Int) (wrap64 (x19_1 + 1)) a0) else (none)) else (some (([] : List (List (List Int))), t289))) = some (r1, r2) := H
      have A7 := Aside0.mk A70
      clear A70
      by_cases c8 : t289 = 0
      ·rw [if_pos c8] at H
       have c8b0 : (t289 == 0) = true := beq_iff_eq.mpr c8
       have c8b1 : (t289 != 0) = false := bne_eq_false_iff_eq.mpr c8
       clear c8
       obtain ⟨y290, hy290⟩ : ∃ y_ : List Int, y_ = (([t288, 1] : List Int)) := ⟨_, rfl⟩
       replace H : (if x6_1.length < 5864062014805 then (tree_grow.l0 k1 (x6_1 ++ [y290]) l1 (l1.length : Int) (wrap64 (x19_1 + 1)) a0) else (none)) = some (r1, r2) := by first | (rw [hy290]; with_reducible exact H) | (have H2_ := (Option.bind_some _ _).symm.trans H; rw [hy290]; with_reducible exact H2_) | (have H2_ := (Option.bind_some _ _).symm.trans H; with_reducible exact H2_) | with_reducible exact H | (rw [hy290]; exact H) | exact H
       have Ny290 := Aside0.mk hy290
       clear hy290
       by_cases c9 : x6_1.length < 5864062014805
       ·rw [if_pos c9] at H
        have LMc9 := Aside0.mk c9
        clear c9
        obtain ⟨y293, hy293⟩ : ∃ y_ : List (List Int), y_ = (x6_1 ++ [y290]) := ⟨_, rfl⟩
        replace H : (tree_grow.l0 k1 y293 l1 (l1.length : Int) (wrap64 (x19_1 + 1)) a0) = some (r1, r2) := by first | (rw [hy293]; with_reducible exact H) | (have H2_ := (Option.bind_some _ _).symm.trans H; rw [hy293]; with_reducible exact H2_) | (have H2_ := (Option.bind_some _ _).symm.trans H; with_reducible exact H2_) | with_reducible exact H | (rw [hy293]; exact H) | exact H
        have Ny293 := Aside0.mk hy293
        clear hy293
        have H' := Aside0.mk H
        clear H
        have p287 : 0 ≤ (x19_1 : Int) := of_decide_eq_true (by first | (with_reducible assumption) | assumption)
        have q287 : x19_1 < (l1.length : Int) := of_decide_eq_true (by first | (with_reducible assumption) | assumption)
        obtain ⟨ad287, e287, hx287_0⟩ := Kd.at_int HR1.out x19_1 p287 q287
        cases e287
        replace hx287_0 := (HB.out.cell (World.block_lt_of_cell? w _ hx287_0)).trans hx287_0
        replace p287 := eq_true p287
        replace q287 := eq_true q287
        have hcz10_0 : wr.cell? ⟨gb286, 0, none⟩ = some (.int .u8 a0) := (blk_cell BK286.out 0).trans rfl
        have hfz10_0 := blk_frozen BK286.out 0
        go_wp2_with (first | ((with_reducible refine gate_callee (f := 55) rfl ?_); refine goesM_ (some 26) Try.func55 #[.int .u8 a0, .int .u64 0, .int .u64 (rd l1 x19_1)] ?_; (with_reducible refine (field_Sub.calls k1 a0 0 (rd l1 x19_1) t288 t289 _ A7.out).mono ?_); rintro e w11 ⟨rfl, hb⟩; refine ⟨_, rfl, ?_⟩; have n0_ := A_ (T_below (nT_ HO_6) hb); have n1_ := A_ (blk_below (g := gb286) (o := .cells #[.int .u8 a0] 27 (0, 0)) (nb_ BK286) hb); have n2_ := A_ (below_step hs_ hb); clear HO_6 BK286 HB; have HO_6 := n0_; have BK286 := n1_; have HB := n2_; clear n0_ n1_ n2_; (try clear hb)) | ((with_reducible refine gate_dst (N := 34) rfl ?_); refine Kd.R_lit (Kd.int .u64) _ 49 ?hg (N := 34) ?hd (xs := ([t288, 1] : List Int)) (inner := [.int .u64 t288, .int .u64 1]) (ok := fun _ => True) (okp := fun _ => True) ?hr ?hp (fun _ hk => hk) trivial (Below.refl _ _) (Nat.le_refl _) (by simp) ?_; (case hd => rfl); (case hg => rfl); (case hr => first | (go_simp; done) | (go_simp; rfl)); (case hp => exact (Reps.one (show Kd.M (Kd.int .u64) _ _ _ t288 [.int .u64 t288] from rfl) (Reps.one (show Kd.M (Kd.int .u64) _ _ _ 1 [.int .u64 1] from rfl) (Reps.none _ _)))); intro v291 w12 ho13 hb hg_ hnew_; clear hg_ hnew_; (first | rw [← Ny290.out] at ho13 | (simp only [Int.reduceToNat] at ho13; rw [← Ny290.out] at ho13)); have n0_ := A_ (T_elder' (nT_ HO_6) (Kd.R_base ho13) hb); have n1_ := A_ (Kd.R_lower (Kd.R_newM (M := fun k_ => (w.heap.size ≤ k_)) ho13 (below_size hs_) (fun k_ h_ => h_)) (below_size hs_)); have n2_ := A_ (blk_below (g := gb286) (o := .cells #[.int .u8 a0] 27 (0, 0)) (nb_ BK286) hb); have n3_ := A_ (below_step hs_ hb); clear HO_6 BK286 HB; have HO_6 := n0_; have HO292 := n1_; have BK286 := n2_; have HB := n3_; clear n0_ n1_ n2_ n3_; clear hb ho13; obtain ⟨Ao15, co15, eo15⟩ := Kd.R_slice HO292.out; subst eo15) | ((with_reducible refine gate_builtin (b := .append) (xs := #[.tmp 32, .tmp 35]) rfl ?_); at_builtin; refine T_append (lo := 0) (Z := fun _ => True) (Kd.slice 49 (Kd.int .u64)) (w0 := w) w.heap.size rfl (.tmp 32) (.tmp 35) 23 22 (.slice none 0 0) 24 rfl Try.underlying23 info22 rfl (by decide) (by omega) u6 x6_1 y290 [.slice Ao15 y290.length co15] (fun k_ => (w.heap.size ≤ k_) ∧ k_ ≠ gb286) (fun k_ => some k_ = (.slice Ao15 y290.length co15 : Value).ownBlock) rfl rfl ?aP ?aQ ?aF ?aZ ?aO ?aB ?aS ?aL ?_; (case aP => exact Kd.M_row (Kd.R_tight rfl (Kd.R_mono (ok' := (fun k_ => ((fun k_ => (w.heap.size ≤ k_) ∧ k_ ≠ gb286)) k_ ∧ some k_ ≠ (u6 : Value).ownBlock)) (Kd.R_types (Kd.R_apart' (HO292.out) (T_typed HO_6.out) (by decide)) BK286.out (by decide)) (fun k_ hk => ⟨⟨hk.1.1.1, hk.2⟩, hk.1.2⟩)))); (case aQ => exact (fun k_ hk_ => ⟨⟨(((Kd.R_mono (ok' := (fun k_ => ((fun k_ => (w.heap.size ≤ k_) ∧ k_ ≠ gb286)) k_ ∧ some k_ ≠ (u6 : Value).ownBlock)) (Kd.R_types (Kd.R_apart' (HO292.out) (T_typed HO_6.out) (by decide)) BK286.out (by decide)) (fun k_ hk => ⟨⟨hk.1.1.1, hk.2⟩, hk.1.2⟩))).1 k_ hk_.symm).1, trivial⟩, (((Kd.R_mono (ok' := (fun k_ => ((fun k_ => (w.heap.size ≤ k_) ∧ k_ ≠ gb286)) k_ ∧ some k_ ≠ (u6 : Value).ownBlock)) (Kd.R_types (Kd.R_apart' (HO292.out) (T_typed HO_6.out) (by decide)) BK286.out (by decide)) (fun k_ hk => ⟨⟨hk.1.1.1, hk.2⟩, hk.1.2⟩))).1 k_ hk_.symm).2⟩)); (case aZ => exact (fun _ _ => trivial)); (case aB => exact hs_); (case aF => exact (fun k_ hk => ⟨(Nat.le_trans (below_size hs_) hk), Kd.freshB (g := gb286) (o := .cells #[.int .u8 a0] 27 (0, 0)) (nb_ BK286) k_ hk⟩)); (case aO => exact (by (with_reducible repeat (first | apply T_alloc | apply T_drewN | apply T_drew)); exact T_mono HO_6.out (fun _ hk => ⟨⟨hk.1.1, hk.1.2⟩, fun e_ => hk.2 e_⟩))); (case aS => exact (below_size hs_)); (case aL => have := LMc9.out; omega); intro v294 w14 ho hb hg hat; rw [← Ny293.out] at ho; have n0_ := A_ (blk_grown (g := gb286) (o := .cells #[.int .u8 a0] 27 (0, 0)) (nb_ BK286) hg (T_ne HO_6.out BK286.out (by decide))); have n1_ := A_ (hb); have n2_ := A_ (ho); clear BK286 HB HO_6 HO292; have BK286 := n0_; have HB := n1_; have HO295 := n2_; clear n0_ n1_ n2_; clear ho hb hg hat))
        go_roundg k1
        case measure => have := HK1.out; omega
        case rel => exact ⟨(y293), (wrap64 (x19_1 + 1)), (fs_), H', ⟨by have := HK1.out; omega⟩, ⟨mT_ HO295.out⟩, ⟨mb_ BK286.out⟩, ⟨hs_⟩⟩
       ·rw [if_neg c9] at H
        exact absurd H (by simp)
      ·rw [if_neg c8] at H
       have c8b0 : (t289 == 0) = false := beq_eq_false_iff_ne.mpr c8
       have c8b1 : (t289 != 0) = true := bne_iff_ne.mpr c8
       simp only [Option.some.injEq, Prod.mk.injEq] at H
       obtain ⟨rfl, rfl⟩ := H
       have p287 : 0 ≤ (x19_1 : Int) := of_decide_eq_true (by first | (with_reducible assumption) | assumption)
       have q287 : x19_1 < (l1.length : Int) := of_decide_eq_true (by first | (with_reducible assumption) | assumption)
       obtain ⟨ad287, e287, hx287_0⟩ := Kd.at_int HR1.out x19_1 p287 q287
       cases e287
       replace hx287_0 := (HB.out.cell (World.block_lt_of_cell? w _ hx287_0)).trans hx287_0
       replace p287 := eq_true p287
       replace q287 := eq_true q287
       have hcz16_0 : wr.cell? ⟨gb286, 0, none⟩ = some (.int .u8 a0) := (blk_cell BK286.out 0).trans rfl
       have hfz16_0 := blk_frozen BK286.out 0
       go_wp2_with (first | ((with_reducible refine gate_callee (f := 55) rfl ?_); refine goesM_ (some 26) Try.func55 #[.int .u8 a0, .int .u64 0, .int .u64 (rd l1 x19_1)] ?_; (with_reducible refine (field_Sub.calls k1 a0 0 (rd l1 x19_1) t288 t289 _ A7.out).mono ?_); rintro e w17 ⟨rfl, hb⟩; refine ⟨_, rfl, ?_⟩; have n0_ := A_ (T_below (nT_ HO_6) hb); have n1_ := A_ (blk_below (g := gb286) (o := .cells #[.int .u8 a0] 27 (0, 0)) (nb_ BK286) hb); have n2_ := A_ (below_step hs_ hb); clear HO_6 BK286 HB; have HO_6 := n0_; have BK286 := n1_; have HB := n2_; clear n0_ n1_ n2_; (try clear hb)))
       go_ret2
       exact ⟨_, fr_, by first | exact T_nil _ _ _ _ _ _ _ (by first | exact Nat.zero_le _ | exact Nat.le_of_eq hS0.symm) | exact T_nil _ _ _ _ _ | exact Kd.V_nil _ _ _ _ _ | exact Kd.Q_nil _ _ _ _ _ | exact Kd.S_nil _ _ _ _ _, hs_⟩
     ·rw [if_neg c6] at H
      exact absurd H (by simp)
    ·rw [if_neg c5] at H
     exact absurd H (by simp)
   ·rw [if_neg c4] at H
    have c4b0 : decide (x19_1 < (l1.length : Int)) = false := decide_eq_false c4
    clear c4
    obtain ⟨y297, hy297⟩ : ∃ y_ : List (List (List Int)), y_ = (([x6_1] : List (List (List Int)))) := ⟨_, rfl⟩
    replace H : (tree_grow.l1 k1 x6_1 y297 a0) = some (r1, r2) := by first | (rw [hy297]; with_reducible exact H) | (have H2_ := (Option.bind_some _ _).symm.trans H; rw [hy297]; with_reducible exact H2_) | (have H2_ := (Option.bind_some _ _).symm.trans H; with_reducible exact H2_) | with_reducible exact H | (rw [hy297]; exact H) | exact H
    have Ny297 := Aside0.mk hy297
    clear hy297
    have H' := Aside0.mk H
    clear H
    have n_ := A_ (show Kd.V (Kd.slice 49 (Kd.int .u64)) 22 _ w.heap.size _ _ _ from T_V HO_6.out)
    have HT6 := HO_6; clear HO_6
    have HO296 := n_
    clear n_
    obtain ⟨Ao18, co18, eo18⟩ := Kd.V_slice HO296.out
    subst eo18
    go_wp2_with (first | ((with_reducible refine gate_dst (N := 39) rfl ?_); refine T_lit (lo := 0) (Z := fun _ => True) (Kd.slice 49 (Kd.int .u64)) 22 w.heap.size 23 ?hg (N := 39) ?hd (p := x6_1) (y := .slice Ao18 x6_1.length co18) (ok := (fun k_ => (w.heap.size ≤ k_) ∧ k_ ≠ gb286)) ?hr ?hp ((show ∀ k_, wr.heap.size ≤ k_ → (fun k_ => (w.heap.size ≤ k_) ∧ k_ ≠ gb286) k_ from fun k_ hk => ⟨(Nat.le_trans (below_size hs_) hk), Kd.freshB (g := gb286) (o := .cells #[.int .u8 a0] 27 (0, 0)) (nb_ BK286) k_ hk⟩) _ (Nat.le_refl _)) ?hz ?_; (case hd => rfl); (case hg => rfl); (case hr => first | (go_simp; done) | (go_simp; rfl)); (case hp => exact (nT_ HT6)); (case hz => exact (below_size hs_)); intro v298 w19 ho20 hb hbs_; (first | rw [← Ny297.out] at ho20 | (simp only [Int.reduceToNat] at ho20; rw [← Ny297.out] at ho20)); have n0_ := A_ (Kd.V_elder' (nV_ HO296) hbs_ hb); have n1_ := A_ (ho20); have n2_ := A_ (blk_below (g := gb286) (o := .cells #[.int .u8 a0] 27 (0, 0)) (nb_ BK286) hb); have n3_ := A_ (below_step hs_ hb); clear HO296 BK286 HB; have HO296 := n0_; have HO299 := n1_; have BK286 := n2_; have HB := n3_; clear n0_ n1_ n2_ n3_; clear hb ho20))
    go_loopg [6, 11] k1 (fun kq v6 v11 w' => ∃ (x6_2 : List (List Int)) (x11_2 : List (List (List Int))), Aside0 (tree_grow.l1 kq x6_2 x11_2 a0 = some (r1, r2)) ∧ Aside0 (kq ≤ k1) ∧ Aside0 (Kd.V (Kd.slice 49 (Kd.int .u64)) 22 w' w.heap.size (fun k_ => (w.heap.size ≤ k_) ∧ some k_ ≠ (v11 : Value).ownBlock ∧ k_ ≠ gb286) v6 x6_2) ∧ Aside0 (T 0 (fun _ => True) (sliceS 22 (Kd.slice 49 (Kd.int .u64))) 23 w' w.heap.size (fun k_ => (w.heap.size ≤ k_) ∧ k_ ≠ gb286) v11 x11_2) ∧ Aside0 (w'.heap[gb286]? = some (.cells #[.int .u8 a0] 27 (0, 0))) ∧ Aside0 (Below w.heap.size w w'))
    case atStart => exact ⟨(x6_1), (y297), H', ⟨Nat.le_refl _⟩, ⟨by (with_reducible repeat (first | apply Kd.V_alloc | apply Kd.V_drewN | apply Kd.V_drew)); exact Kd.V_mono HO296.out (fun _ hk => ⟨hk.1.1, ⟨hk.2, hk.1.2⟩⟩)⟩, ⟨mT_ HO299.out⟩, ⟨mb_ BK286.out⟩, ⟨hs_⟩⟩
    case round =>
     clear H'
     try clear c1
     try clear p2
     try clear q2
     try clear hx2
     try clear c3
     try clear c4
     try clear c4b0
     try clear c5
     try clear c5b0
     try clear c6
     try clear c6b0
     try clear p6
     try clear c8
     try clear c8b0
     try clear c8b1
     try clear c9
     try clear hcz10_0
     try clear hcz16_0
     try clear hfz10_0
     try clear hfz16_0
     try clear hx287_0
     try clear p2
     try clear p287
     try clear q287
     obtain ⟨x6_2, x11_2, HA, HK2, HO_6, HO_11, BK286, HB⟩ := hrel
     cases gk with
     | zero => exact absurd HA.out (by simp [tree_grow.l1])
     | succ k2 =>
      have H := HA.out
      clear HA
      simp only [tree_grow.l1] at H
      by_cases c21 : (x6_2.length : Int) > 1
      ·rw [if_pos c21] at H
       have c21b0 : decide (1 < (x6_2.length : Int)) = true := decide_eq_true c21
       have c21b1 : decide (1 < x6_2.length) = true := decide_eq_true (by omega)
       clear c21
       have H' := Aside0.mk H
       clear H
       obtain ⟨Ao22, co22, eo22⟩ := Kd.V_slice HO_6.out
       subst eo22
       go_wp2
       obtain ⟨S0, hS0⟩ : ∃ n_ : Nat, wr.heap.size = n_ := ⟨_, rfl⟩
       go_loopg [13, 14] k2 (fun kq v13 v14 w' => ∃ (x13_3 : List (List Int)) (x14_3 : Int), v14 = .int .i64 x14_3 ∧ Aside0 (tree_grow.l2 kq x6_2 x11_2 x13_3 x14_3 a0 = some (r1, r2)) ∧ Aside0 (kq ≤ k2) ∧ Aside0 (Kd.V (Kd.slice 49 (Kd.int .u64)) 22 w' w.heap.size (fun k_ => (w.heap.size ≤ k_) ∧ some k_ ≠ (u11 : Value).ownBlock ∧ some k_ ≠ (v13 : Value).ownBlock ∧ k_ ≠ gb286) (.slice Ao22 x6_2.length co22) x6_2) ∧ Aside0 (T 0 (fun k_ => k_ < S0) (sliceS 22 (Kd.slice 49 (Kd.int .u64))) 23 w' w.heap.size (fun k_ => (w.heap.size ≤ k_) ∧ some k_ ≠ (v13 : Value).ownBlock ∧ k_ ≠ gb286) u11 x11_2) ∧ Aside0 (T S0 (fun k_ => S0 ≤ k_) (Kd.slice 49 (Kd.int .u64)) 22 w' w.heap.size (fun k_ => (w.heap.size ≤ k_) ∧ some k_ ≠ (u11 : Value).ownBlock ∧ k_ ≠ gb286) v13 x13_3) ∧ Aside0 (w'.heap[gb286]? = some (.cells #[.int .u8 a0] 27 (0, 0))) ∧ Aside0 (Below w.heap.size w w'))
       case atStart => exact ⟨(([] : List (List Int))), (0), (fs_), H', ⟨Nat.le_refl _⟩, ⟨by (with_reducible repeat (first | apply Kd.V_alloc | apply Kd.V_drewN | apply Kd.V_drew)); exact Kd.V_mono HO_6.out (fun _ hk => ⟨hk.1, ⟨hk.2.1, ⟨(by simp [Value.ownBlock]), hk.2.2⟩⟩⟩)⟩, ⟨by (with_reducible repeat (first | apply T_alloc | apply T_drewN | apply T_drew)); exact T_mono (T_nowS HO_11.out hS0) (fun _ hk => ⟨hk.1, ⟨(by simp [Value.ownBlock]), hk.2⟩⟩)⟩, ⟨by first | exact T_nil _ _ _ _ _ _ _ (by first | exact Nat.zero_le _ | exact Nat.le_of_eq hS0.symm) | exact T_nil _ _ _ _ _ | exact Kd.V_nil _ _ _ _ _ | exact Kd.Q_nil _ _ _ _ _ | exact Kd.R_nil _ _ _ _ _⟩, ⟨mb_ BK286.out⟩, ⟨hs_⟩⟩
       case round =>
        clear H'
        try clear c1
        try clear c2
        try clear p2
        try clear q2
        try clear hx2
        try clear c3
        try clear c4
        try clear c4b0
        try clear c5
        try clear c5b0
        try clear c6
        try clear c6b0
        try clear p6
        try clear c8
        try clear c8b0
        try clear c8b1
        try clear c9
        try clear c21
        try clear c21b0
        try clear c21b1
        try clear hcz10_0
        try clear hcz16_0
        try clear hfz10_0
        try clear hfz16_0
        try clear hx287_0
        try clear p2
        try clear p287
        try clear p6
        try clear q2
        try clear q287
        obtain ⟨x13_3, x14_3, rfl, HA, HK3, HO_6, HO_11, HO_13, BK286, HB⟩ := hrel
        cases gk with
        | zero => exact absurd HA.out (by simp [tree_grow.l2])
        | succ k3 =>
         have H := HA.out
         clear HA
         simp only [tree_grow.l2] at H
         by_cases c23 : (wrap64 (x14_3 + 1)) < (x6_2.length : Int)
         ·rw [if_pos c23] at H
          have c23b0 : decide ((wrap64 (x14_3 + 1)) < (x6_2.length : Int)) = true := decide_eq_true c23
          clear c23
          by_cases c24 : 0 ≤ x14_3
          ·rw [if_pos c24] at H
           have c24b0 : decide (0 ≤ x14_3) = true := decide_eq_true c24
           clear c24
           by_cases c25 : x14_3 < (x6_2.length : Int)
           ·rw [if_pos c25] at H
            have c25b0 : decide (x14_3 < (x6_2.length : Int)) = true := decide_eq_true c25
            clear c25
            obtain ⟨ji26, hji26⟩ : ∃ j_ : Int, (wrap64 (x14_3 + 1)) = j_ := ⟨_, rfl⟩
            replace H : (if 0 ≤ (ji26) then ((tree_grow_1.f k3 (rd_L1 x6_2 x14_3) (rd_L1 x6_2 (ji26)) a0).bind fun bt302 => (if bt302.2 = 0 then (if x13_3.length < 5864062014805 then (tree_grow.l2 k3 x6_2 x11_2 (x13_3 ++ [bt302.1]) (wrap64 (x14_3 + 2)) a0) else (none)) else (some (([] : List (List (List Int))), bt302.2)))) else (none)) = some (r1, r2) := by first | (rw [hji26] at H; exact H) | (simp only [hji26] at H ⊢; exact H)
            (try rw [hji26] at c23b0)
            have hji26w : (IntKind.i64.wrap (x14_3 + 1)) = ji26 := (i64_w _).trans hji26
            by_cases c27 : 0 ≤ (ji26)
            ·rw [if_pos c27] at H
             have c27b0 : decide (0 ≤ (ji26)) = true := decide_eq_true c27
             clear c27
             replace H := Option.bind_eq_some_iff.mp H
             obtain ⟨⟨t302, t305⟩, A280, H⟩ := H
             replace H : (if t305 = 0 then (if x13_3.length < 5864062014805 then (tree_grow.l2 k3 x6_2 x11_2 (x13_3 ++ [t302]) (wrap64 (x14_3 + 2)) a0) else (none)) else (some (([] : List (List (List Int))), t305))) = some (r1, r2) := H
             have A28 := Aside0.mk A280
             clear A280
             by_cases c29 : t305 = 0
             ·rw [if_pos c29] at H
              have c29b0 : (t305 == 0) = true := beq_iff_eq.mpr c29
              have c29b1 : (t305 != 0) = false := bne_eq_false_iff_eq.mpr c29
              clear c29
              by_cases c30 : x13_3.length < 5864062014805
              ·rw [if_pos c30] at H
               have LMc30 := Aside0.mk c30
               clear c30
               obtain ⟨y306, hy306⟩ : ∃ y_ : List (List Int), y_ = (x13_3 ++ [t302]) := ⟨_, rfl⟩
               replace H : (tree_grow.l2 k3 x6_2 x11_2 y306 (wrap64 (x14_3 + 2)) a0) = some (r1, r2) := by first | (rw [hy306]; with_reducible exact H) | (have H2_ := (Option.bind_some _ _).symm.trans H; rw [hy306]; with_reducible exact H2_) | (have H2_ := (Option.bind_some _ _).symm.trans H; with_reducible exact H2_) | with_reducible exact H | (rw [hy306]; exact H) | exact H
               have Ny306 := Aside0.mk hy306
               clear hy306
               have H' := Aside0.mk H
               clear H
               try go_wp2
               have n0_ := A_ (Kd.V_drew HO_6.out)
               have n1_ := A_ (T_drew HO_11.out)
               have n2_ := A_ (T_drew HO_13.out)
               have n3_ := A_ (blk_drew BK286.out)
               have n4_ := A_ (below_drew1 HB.out)
               clear HO_6
               clear HO_11
               clear HO_13
               clear BK286
               clear HB
               have HO_6 := n0_
               have HO_11 := n1_
               have HO_13 := n2_
               have BK286 := n3_
               have HB := n4_
               clear n0_ n1_ n2_ n3_ n4_
               have p300 : 0 ≤ (x14_3 : Int) := of_decide_eq_true (by first | (with_reducible assumption) | assumption)
               have q300 : x14_3 < (x6_2.length : Int) := of_decide_eq_true (by first | (with_reducible assumption) | assumption)
               obtain ⟨ad300, A300_0, c300_0, e300, hx300_0, hl300_0, hi300_0⟩ := at_L1 (Kd.V_reads' HO_6.out).2.2 x14_3 p300 q300
               cases e300
               obtain ⟨ce300, hce300, hMe300, hcc300⟩ := Kd.V_get HO_6.out [] x14_3 p300 (by first | exact q300 | exact of_decide_eq_true (by first | (with_reducible assumption) | assumption) | (have e_ := (Kd.V_reads' HO_6.out).1; omega))
               obtain ⟨ua300_0, uc300_0, rfl, ul300_0, ge300_0⟩ := Kd.FK_slice_open hMe300
               have hv300_0 := hcc300 0 _ rfl
               rw [Nat.add_zero, show ((Kd.slice 49 (Kd.int .u64))).sz = 1 from rfl, Nat.mul_one] at hv300_0
               replace hv300_0 := Option.some.inj (hv300_0.symm.trans hx300_0)
               injection hv300_0 with hva_ hvn_ hvc_
               rw [hva_] at ge300_0
               rw [hvc_] at ul300_0
               have HL300_0 := A_ (show Kd.V (Kd.int .u64) 49 _ w.heap.size _ _ (rd_L1 x6_2 x14_3) from Kd.V_mk ul300_0 ge300_0)
               clear hva_ hvn_ hvc_ ge300_0 ul300_0
               clear hcc300 hce300
               have HR300_0 := Aside0.mk hi300_0
               have HC300_0 := Aside0.mk hl300_0
               clear hi300_0 hl300_0
               replace p300 := eq_true p300
               replace q300 := eq_true q300
               have p301 : 0 ≤ ((ji26) : Int) := of_decide_eq_true (by first | (with_reducible assumption) | assumption)
               have q301 : (ji26) < (x6_2.length : Int) := of_decide_eq_true (by first | (with_reducible assumption) | assumption)
               obtain ⟨ad301, A301_0, c301_0, e301, hx301_0, hl301_0, hi301_0⟩ := at_L1 (Kd.V_reads' HO_6.out).2.2 (ji26) p301 q301
               obtain rfl : ad300 = ad301 := (by injection e301)
               obtain ⟨ce301, hce301, hMe301, hcc301⟩ := Kd.V_get HO_6.out [] (ji26) p301 (by first | exact q301 | exact of_decide_eq_true (by first | (with_reducible assumption) | assumption) | (have e_ := (Kd.V_reads' HO_6.out).1; omega))
               obtain ⟨ua301_0, uc301_0, rfl, ul301_0, ge301_0⟩ := Kd.FK_slice_open hMe301
               have hv301_0 := hcc301 0 _ rfl
               rw [Nat.add_zero, show ((Kd.slice 49 (Kd.int .u64))).sz = 1 from rfl, Nat.mul_one] at hv301_0
               replace hv301_0 := Option.some.inj (hv301_0.symm.trans hx301_0)
               injection hv301_0 with hva_ hvn_ hvc_
               rw [hva_] at ge301_0
               rw [hvc_] at ul301_0
               have HL301_0 := A_ (show Kd.V (Kd.int .u64) 49 _ w.heap.size _ _ (rd_L1 x6_2 (ji26)) from Kd.V_mk ul301_0 ge301_0)
               clear hva_ hvn_ hvc_ ge301_0 ul301_0
               clear hcc301 hce301
               have HR301_0 := Aside0.mk hi301_0
               have HC301_0 := Aside0.mk hl301_0
               clear hi301_0 hl301_0
               replace p301 := eq_true p301
               replace q301 := eq_true q301
               refine start_ (n := 16) (S := fun w' => w'.cell? (ad300.add (x14_3).toNat) = some (.slice A300_0 (rd_L1 x6_2 x14_3).length c300_0) ∧ w'.cell? (ad300.add ((ji26)).toNat) = some (.slice A301_0 (rd_L1 x6_2 (ji26)).length c301_0)) (ds := []) #[false, false, false, false, false, false, false, false, false, false, false, false, false, false, false, false] (by kernel_rfl) rfl rfl ⟨hx300_0, hx301_0⟩ (fun hHeld => ?_); refine with_tabW tree_grow.tab17 tree_grow.bits17 (fun HT_ HW_ => ?_)
               generalize wr.drew = w31 at HO_6 HO_11 HO_13 BK286 HB HL300_0 HL301_0 HR300_0 HR301_0 hx300_0 hx301_0 hHeld ⊢
               refine pure_ (i := 0) (N := some 52) (v := ?_) (a' := ?_) #[true, false, false, false, false, false, false, false, false, false, false, false, false, false, false, false] rfl rfl (any_of HT_.out (by kernel_rfl)) (fun _ _ _ h => h) (Or.inl ⟨by rfl, ?_⟩) ?_ ?_
               rotate_left
               ·intro w'
                go_simp
                with_reducible rfl
               rotate_left
               ·simp only [Act.put, List.setIfInBounds_toArray, List.set_cons_zero, List.set_cons_succ, i64_w, i32_w]
                rfl
               refine pure_ (i := 1) (N := some 53) (v := ?_) (a' := ?_) #[true, true, false, false, false, false, false, false, false, false, false, false, false, false, false, false] rfl rfl (any_of HT_.out (by kernel_rfl)) (fun _ _ _ h => h) (Or.inl ⟨by rfl, ?_⟩) ?_ ?_
               rotate_left
               ·intro w'
                go_simp
                with_reducible rfl
               rotate_left
               ·simp only [Act.put, List.setIfInBounds_toArray, List.set_cons_zero, List.set_cons_succ, i64_w, i32_w]
                rfl
               refine pure_ (i := 2) (N := some 54) (v := ?_) (a' := ?_) #[true, true, true, false, false, false, false, false, false, false, false, false, false, false, false, false] rfl rfl (any_of HT_.out (by kernel_rfl)) (fun _ _ _ h => h) (Or.inl ⟨by rfl, ?_⟩) ?_ ?_
               rotate_left
               ·intro w'
                go_simp
                with_reducible rfl
               rotate_left
               ·simp only [Act.put, List.setIfInBounds_toArray, List.set_cons_zero, List.set_cons_succ, i64_w, i32_w]
                rfl
               refine pure_ (i := 3) (N := some 55) (v := ?_) (a' := ?_) #[true, true, true, true, false, false, false, false, false, false, false, false, false, false, false, false] rfl rfl (any_of HT_.out (by kernel_rfl)) (fun _ _ _ h => h) (Or.inl ⟨by rfl, ?_⟩) ?_ ?_
               rotate_left
               ·intro w'
                go_simp
                with_reducible rfl
               rotate_left
               ·simp only [Act.put, List.setIfInBounds_toArray, List.set_cons_zero, List.set_cons_succ, i64_w, i32_w]
                rfl
               refine pure_ (i := 5) (N := some 57) (v := ?_) (a' := ?_) #[true, true, true, true, false, true, false, false, false, false, false, false, false, false, false, false] rfl rfl (any_of HT_.out (by kernel_rfl)) (fun _ _ _ h => h) (Or.inl ⟨by rfl, ?_⟩) ?_ ?_
               rotate_left
               ·intro w'
                go_simp
                with_reducible rfl
               rotate_left
               ·simp only [Act.put, List.setIfInBounds_toArray, List.set_cons_zero, List.set_cons_succ, i64_w, i32_w]
                rfl
               refine pure_ (i := 6) (N := some 58) (v := ?_) (a' := ?_) #[true, true, true, true, false, true, true, false, false, false, false, false, false, false, false, false] rfl rfl (any_of HT_.out (by kernel_rfl)) (fun _ _ _ h => h) (Or.inl ⟨by rfl, ?_⟩) ?_ ?_
               rotate_left
               ·intro w'
                go_simp
                with_reducible rfl
               rotate_left
               ·simp only [Act.put, List.setIfInBounds_toArray, List.set_cons_zero, List.set_cons_succ, i64_w, i32_w]
                rfl
               refine pure_ (i := 7) (N := some 59) (v := ?_) (a' := ?_) #[true, true, true, true, false, true, true, true, false, false, false, false, false, false, false, false] rfl rfl (any_of HT_.out (by kernel_rfl)) (fun _ _ _ h => h) (Or.inl ⟨by rfl, ?_⟩) ?_ ?_
               rotate_left
               ·intro w'
                go_simp
                with_reducible rfl
               rotate_left
               ·simp only [Act.put, List.setIfInBounds_toArray, List.set_cons_zero, List.set_cons_succ, i64_w, i32_w]
                rfl
               refine pure_ (i := 8) (N := some 60) (v := ?_) (a' := ?_) #[true, true, true, true, false, true, true, true, true, false, false, false, false, false, false, false] rfl rfl (any_of HT_.out (by kernel_rfl)) (fun _ _ _ h => h) (Or.inl ⟨by rfl, ?_⟩) ?_ ?_
               rotate_left
               ·intro w'
                go_simp
                with_reducible rfl
               rotate_left
               ·simp only [Act.put, List.setIfInBounds_toArray, List.set_cons_zero, List.set_cons_succ, i64_w, i32_w]
                rfl
               refine take_ (i := 4) (N := some 56) (v := ?_) (a' := ?_) #[true, true, true, true, true, true, true, true, true, false, false, false, false, false, false, false] rfl rfl (take_ofW HT_.out HW_.out (by kernel_rfl)) (fun _ _ _ h => h) (Or.inl ⟨by rfl, ?_⟩) hHeld ?_ ?_
               rotate_left
               ·rintro w' ⟨s0, s1⟩
                go_simp
                with_reducible rfl
               rotate_left
               ·simp only [Act.put, List.setIfInBounds_toArray, List.set_cons_zero, List.set_cons_succ, i64_w, i32_w]
                rfl
               refine take_ (i := 9) (N := some 61) (v := ?_) (a' := ?_) #[true, true, true, true, true, true, true, true, true, true, false, false, false, false, false, false] rfl rfl (take_ofW HT_.out HW_.out (by kernel_rfl)) (fun _ _ _ h => h) (Or.inl ⟨by rfl, ?_⟩) hHeld ?_ ?_
               rotate_left
               ·rintro w' ⟨s0, s1⟩
                go_simp
                with_reducible rfl
               rotate_left
               ·simp only [Act.put, List.setIfInBounds_toArray, List.set_cons_zero, List.set_cons_succ, i64_w, i32_w]
                rfl
               refine one_ (i := 10) (N := some 62) #[true, true, true, true, true, true, true, true, true, true, true, false, false, false, false, false] rfl rfl (one_of HT_.out (by kernel_rfl)) (by decide) (fun K hK => ?_)
               refine goesKr_ Try.func56 (by kernel_rfl) rfl #[.slice A300_0 (rd_L1 x6_2 x14_3).length c300_0, .slice A301_0 (rd_L1 x6_2 (ji26)).length c301_0, .pointer (some ⟨gb286, 0, none⟩)] (by rfl) rfl rfl (by rfl) (by (try simp only [List.map_toArray, List.map_cons, List.map_nil]); first | done | (simp only [hji26]; rfl) | rfl | (simp only [List.length_drop, List.length_take]; rfl)) ?_
               with_reducible refine (tree_grow_1.calls k3 (fun k_ => ((w.heap.size ≤ k_) ∧ (some k_ ≠ (u11 : Value).ownBlock ∧ (some k_ ≠ (u13 : Value).ownBlock ∧ k_ ≠ gb286)))) _ _ (rd_L1 x6_2 x14_3) (fun k_ => ((w.heap.size ≤ k_) ∧ (some k_ ≠ (u11 : Value).ownBlock ∧ (some k_ ≠ (u13 : Value).ownBlock ∧ k_ ≠ gb286)))) _ _ (rd_L1 x6_2 (ji26)) a0 t302 t305 _ ?side1 ?side2 A28.out gb286 ((blk_cell (nb_ BK286) 0).trans rfl)).mono ?_
               (case side1 => exact HL300_0.out)
               (case side2 => exact HL301_0.out)
               rintro e w32 ⟨v303, rfl, ho0, hb⟩
               have HS0_ := (hb.cell (World.block_lt_of_cell? _ _ (hHeld.1))).trans (hHeld.1)
               have HS1_ := (hb.cell (World.block_lt_of_cell? _ _ (hHeld.2))).trans (hHeld.2)
               refine ⟨_, rfl, ?_⟩
               have n0_ := A_ (Kd.V_elder' (nV_ HO_6) (Kd.R_base ho0) hb)
               have n1_ := A_ (T_elder' (nT_ HO_11) (Kd.R_base ho0) hb)
               have n2_ := A_ (T_elder' (nT_ HO_13) (Kd.R_base ho0) hb)
               have n3_ := A_ (Kd.V_elder' (nV_ HL300_0) (Kd.R_base ho0) hb)
               have n4_ := A_ (Kd.V_elder' (nV_ HL301_0) (Kd.R_base ho0) hb)
               have n5_ := A_ (Kd.R_lower (Kd.R_newM (M := fun k_ => (w.heap.size ≤ k_)) (Kd.R_mono (ok' := fun k_ => True) ho0 (fun _ hk_ => trivial)) (below_size hs_) (fun k_ h_ => h_)) (below_size hs_))
               have n6_ := A_ (blk_below (g := gb286) (o := .cells #[.int .u8 a0] 27 (0, 0)) (nb_ BK286) hb)
               have n7_ := A_ (Kd.C_below (by repeat (first | (with_reducible exact HR300_0.out) | (with_reducible refine Kd.C_alloc ?_ _) | (with_reducible refine Kd.C_drewN ?_ _) | (with_reducible refine Kd.C_drew ?_) | exact HR300_0.out)) hb)
               have n8_ := A_ (Kd.C_below (by repeat (first | (with_reducible exact HR301_0.out) | (with_reducible refine Kd.C_alloc ?_ _) | (with_reducible refine Kd.C_drewN ?_ _) | (with_reducible refine Kd.C_drew ?_) | exact HR301_0.out)) hb)
               have n9_ := A_ (below_step hs_ hb)
               have HN_ := A_ (fun k_ hk_ => Nat.le_trans HO_13.out.1 (Kd.R_base ho0 k_ hk_) : ∀ k_, (v303 : Value).ownBlock = some k_ → S0 ≤ k_)
               clear HO_6
               clear HO_11
               clear HO_13
               clear HL300_0
               clear HL301_0
               clear BK286
               clear HR300_0
               clear HR301_0
               clear HB
               have HO_6 := n0_
               have HO_11 := n1_
               have HO_13 := n2_
               have HL300_0 := n3_
               have HL301_0 := n4_
               have HO304 := n5_
               have BK286 := n6_
               have HR300_0 := n7_
               have HR301_0 := n8_
               have HB := n9_
               clear n0_ n1_ n2_ n3_ n4_ n5_ n6_ n7_ n8_ n9_
               (try clear hb)
               (try clear hb2)
               (try clear hk)
               (try clear hi)
               (try clear ho0)
               refine hK.out _ _ ⟨HS0_, HS1_⟩ (fun hHeld => ?_)
               clear hK K
               refine norm_ (a' := ?_) ?_ ?_
               rotate_left
               ·show Act.put _ (some 62) _ = _
                simp only [Act.put, List.setIfInBounds_toArray, List.set_cons_zero, List.set_cons_succ, i64_w, i32_w]
                rfl
               refine pure_ (i := 11) (N := some 51) (v := ?_) (a' := ?_) #[true, true, true, true, true, true, true, true, true, true, true, true, false, false, false, false] rfl rfl (any_of HT_.out (by kernel_rfl)) (fun _ _ _ h => h) (Or.inl ⟨by rfl, ?_⟩) ?_ ?_
               rotate_left
               ·intro w'
                go_simp
                with_reducible rfl
               rotate_left
               ·simp only [Act.put, List.setIfInBounds_toArray, List.set_cons_zero, List.set_cons_succ, i64_w, i32_w]
                rfl
               refine pure_ (i := 12) (N := some 63) (v := ?_) (a' := ?_) #[true, true, true, true, true, true, true, true, true, true, true, true, true, false, false, false] rfl rfl (any_of HT_.out (by kernel_rfl)) (fun _ _ _ h => h) (Or.inl ⟨by rfl, ?_⟩) ?_ ?_
               rotate_left
               ·intro w'
                go_simp
                with_reducible rfl
               rotate_left
               ·simp only [Act.put, List.setIfInBounds_toArray, List.set_cons_zero, List.set_cons_succ, i64_w, i32_w]
                rfl
               refine pure_ (i := 13) (N := some 64) (v := ?_) (a' := ?_) #[true, true, true, true, true, true, true, true, true, true, true, true, true, true, false, false] rfl rfl (any_of HT_.out (by kernel_rfl)) (fun _ _ _ h => h) (Or.inl ⟨by rfl, ?_⟩) ?_ ?_
               rotate_left
               ·intro w'
                go_simp
                with_reducible rfl
               rotate_left
               ·simp only [Act.put, List.setIfInBounds_toArray, List.set_cons_zero, List.set_cons_succ, i64_w, i32_w]
                rfl
               refine pure_ (i := 14) (N := some 15) (v := ?_) (a' := ?_) #[true, true, true, true, true, true, true, true, true, true, true, true, true, true, true, false] rfl rfl (any_of HT_.out (by kernel_rfl)) (fun _ _ _ h => h) (Or.inl ⟨by rfl, ?_⟩) ?_ ?_
               rotate_left
               ·intro w'
                go_simp
                with_reducible rfl
               rotate_left
               ·simp only [Act.put, List.setIfInBounds_toArray, List.set_cons_zero, List.set_cons_succ, i64_w, i32_w]
                rfl
               refine pure_ (i := 15) (N := some 16) (v := ?_) (a' := ?_) #[true, true, true, true, true, true, true, true, true, true, true, true, true, true, true, true] rfl rfl (any_of HT_.out (by kernel_rfl)) (fun _ _ _ h => h) (Or.inl ⟨by rfl, ?_⟩) ?_ ?_
               rotate_left
               ·intro w'
                go_simp
                with_reducible rfl
               rotate_left
               ·simp only [Act.put, List.setIfInBounds_toArray, List.set_cons_zero, List.set_cons_succ, i64_w, i32_w]
                rfl
               refine done_ (done_of HT_.out (by kernel_rfl)) ?_
               obtain ⟨Ao34, co34, eo34⟩ := Kd.R_slice HO304.out
               subst eo34
               try go_wp2_with (first | ((with_reducible refine gate_builtin (b := .append) (xs := #[.tmp 68, .tmp 70]) rfl ?_); at_builtin; refine T_append (lo := S0) (Z := fun k_ => S0 ≤ k_) (Kd.slice 49 (Kd.int .u64)) (w0 := w) w.heap.size rfl (.tmp 68) (.tmp 70) 23 22 (.slice none 0 0) 24 rfl Try.underlying23 info22 rfl (by decide) (by omega) u13 x13_3 t302 [.slice Ao34 t302.length co34] (fun k_ => (w.heap.size ≤ k_) ∧ some k_ ≠ (u11 : Value).ownBlock ∧ k_ ≠ gb286) (fun k_ => some k_ = (.slice Ao34 t302.length co34 : Value).ownBlock) rfl rfl ?aP ?aQ ?aF ?aZ ?aO ?aB ?aS ?aL ?_; (case aP => exact Kd.M_row (Kd.R_tight rfl (Kd.R_mono (ok' := (fun k_ => ((fun k_ => (w.heap.size ≤ k_) ∧ some k_ ≠ (u11 : Value).ownBlock ∧ k_ ≠ gb286)) k_ ∧ some k_ ≠ (u13 : Value).ownBlock)) (Kd.R_types (Kd.R_apart' (Kd.R_apart' (HO304.out) (T_typed HO_11.out) (by decide)) (T_typed HO_13.out) (by decide)) BK286.out (by decide)) (fun k_ hk => ⟨⟨hk.1.1.1.1, ⟨hk.1.1.2, hk.2⟩⟩, hk.1.2⟩)))); (case aQ => exact (fun k_ hk_ => ⟨⟨(((Kd.R_mono (ok' := (fun k_ => ((fun k_ => (w.heap.size ≤ k_) ∧ some k_ ≠ (u11 : Value).ownBlock ∧ k_ ≠ gb286)) k_ ∧ some k_ ≠ (u13 : Value).ownBlock)) (Kd.R_types (Kd.R_apart' (Kd.R_apart' (HO304.out) (T_typed HO_11.out) (by decide)) (T_typed HO_13.out) (by decide)) BK286.out (by decide)) (fun k_ hk => ⟨⟨hk.1.1.1.1, ⟨hk.1.1.2, hk.2⟩⟩, hk.1.2⟩))).1 k_ hk_.symm).1, HN_.out k_ hk_.symm⟩, (((Kd.R_mono (ok' := (fun k_ => ((fun k_ => (w.heap.size ≤ k_) ∧ some k_ ≠ (u11 : Value).ownBlock ∧ k_ ≠ gb286)) k_ ∧ some k_ ≠ (u13 : Value).ownBlock)) (Kd.R_types (Kd.R_apart' (Kd.R_apart' (HO304.out) (T_typed HO_11.out) (by decide)) (T_typed HO_13.out) (by decide)) BK286.out (by decide)) (fun k_ hk => ⟨⟨hk.1.1.1.1, ⟨hk.1.1.2, hk.2⟩⟩, hk.1.2⟩))).1 k_ hk_.symm).2⟩)); (case aZ => exact (fun k_ hk_ => Nat.le_trans (HO_13.out.1) hk_)); (case aB => exact hs_); (case aF => exact (fun k_ hk => ⟨(Nat.le_trans (below_size hs_) hk), Kd.fresh' (T_lt (nT_ HO_11)) k_ hk, Kd.freshB (g := gb286) (o := .cells #[.int .u8 a0] 27 (0, 0)) (nb_ BK286) k_ hk⟩)); (case aO => exact (by (with_reducible repeat (first | apply T_alloc | apply T_drewN | apply T_drew)); exact T_mono HO_13.out (fun _ hk => ⟨⟨hk.1.1, ⟨hk.1.2.1, hk.1.2.2⟩⟩, fun e_ => hk.2 e_⟩))); (case aS => exact (below_size hs_)); (case aL => have := LMc30.out; omega); intro v307 w33 ho hb hg hat; rw [← Ny306.out] at ho; have n0_ := A_ (Kd.V_afterv (ok := (fun k_ => (w.heap.size ≤ k_) ∧ some k_ ≠ (u11 : Value).ownBlock ∧ some k_ ≠ (.slice Ao34 t302.length co34 : Value).ownBlock ∧ k_ ≠ gb286)) (by (with_reducible repeat (first | apply Kd.V_alloc | apply Kd.V_drewN | apply Kd.V_drew)); exact Kd.V_mono HO_6.out (fun _ hk => ⟨⟨hk.1.1, ⟨hk.1.2.1, ⟨hk.2, hk.1.2.2.2⟩⟩⟩, hk.1.2.2.1⟩)) hg hat); have n1_ := A_ (T_afterv (ok := (fun k_ => (w.heap.size ≤ k_) ∧ some k_ ≠ (.slice Ao34 t302.length co34 : Value).ownBlock ∧ k_ ≠ gb286)) (by (with_reducible repeat (first | apply T_alloc | apply T_drewN | apply T_drew)); exact T_mono HO_11.out (fun _ hk => ⟨⟨hk.1.1, ⟨hk.2, hk.1.2.2⟩⟩, hk.1.2.1⟩)) hg hat); have n2_ := A_ (blk_grown (g := gb286) (o := .cells #[.int .u8 a0] 27 (0, 0)) (nb_ BK286) hg (T_ne HO_13.out BK286.out (by decide))); have n3_ := A_ (Kd.V_afterv (ok := (fun k_ => (w.heap.size ≤ k_) ∧ some k_ ≠ (u11 : Value).ownBlock ∧ some k_ ≠ (.slice Ao34 t302.length co34 : Value).ownBlock ∧ k_ ≠ gb286)) (by (with_reducible repeat (first | apply Kd.V_alloc | apply Kd.V_drewN | apply Kd.V_drew)); exact Kd.V_mono HL300_0.out (fun _ hk => ⟨⟨hk.1.1, ⟨hk.1.2.1, ⟨hk.2, hk.1.2.2.2⟩⟩⟩, hk.1.2.2.1⟩)) hg hat); have n4_ := A_ (Kd.V_afterv (ok := (fun k_ => (w.heap.size ≤ k_) ∧ some k_ ≠ (u11 : Value).ownBlock ∧ some k_ ≠ (.slice Ao34 t302.length co34 : Value).ownBlock ∧ k_ ≠ gb286)) (by (with_reducible repeat (first | apply Kd.V_alloc | apply Kd.V_drewN | apply Kd.V_drew)); exact Kd.V_mono HL301_0.out (fun _ hk => ⟨⟨hk.1.1, ⟨hk.1.2.1, ⟨hk.2, hk.1.2.2.2⟩⟩⟩, hk.1.2.2.1⟩)) hg hat); have n5_ := A_ (hb); have n6_ := A_ (ho); clear HO_6 HO_11 BK286 HL300_0 HL301_0 HB HO_13 HO304; have HO_6 := n0_; have HO_11 := n1_; have BK286 := n2_; have HL300_0 := n3_; have HL301_0 := n4_; have HB := n5_; have HO308 := n6_; clear n0_ n1_ n2_ n3_ n4_ n5_ n6_; clear ho hb hg hat))
               go_roundg k3
               case measure => have := HK1.out; have := HK2.out; have := HK3.out; omega
               case rel => exact ⟨(y306), (wrap64 (x14_3 + 2)), (fs_), H', ⟨by have := HK1.out; have := HK2.out; have := HK3.out; omega⟩, ⟨by (with_reducible repeat (first | apply Kd.V_alloc | apply Kd.V_drewN | apply Kd.V_drew)); exact Kd.V_mono HO_6.out (fun _ hk => ⟨hk.1.1, ⟨hk.1.2.1, ⟨hk.2, hk.1.2.2.2⟩⟩⟩)⟩, ⟨by (with_reducible repeat (first | apply T_alloc | apply T_drewN | apply T_drew)); exact T_mono HO_11.out (fun _ hk => ⟨hk.1.1, ⟨hk.2, hk.1.2.2⟩⟩)⟩, ⟨mT_ HO308.out⟩, ⟨mb_ BK286.out⟩, ⟨hs_⟩⟩
              ·rw [if_neg c30] at H
               exact absurd H (by simp)
             ·rw [if_neg c29] at H
              have c29b0 : (t305 == 0) = false := beq_eq_false_iff_ne.mpr c29
              have c29b1 : (t305 != 0) = true := bne_iff_ne.mpr c29
              simp only [Option.some.injEq, Prod.mk.injEq] at H
              obtain ⟨rfl, rfl⟩ := H
              try go_wp2
              have n0_ := A_ (Kd.V_drew HO_6.out)
              have n1_ := A_ (T_drew HO_11.out)
              have n2_ := A_ (T_drew HO_13.out)
              have n3_ := A_ (blk_drew BK286.out)
              have n4_ := A_ (below_drew1 HB.out)
              clear HO_6
              clear HO_11
              clear HO_13
              clear BK286
              clear HB
              have HO_6 := n0_
              have HO_11 := n1_
              have HO_13 := n2_
              have BK286 := n3_
              have HB := n4_
              clear n0_ n1_ n2_ n3_ n4_
              have p300 : 0 ≤ (x14_3 : Int) := of_decide_eq_true (by first | (with_reducible assumption) | assumption)
              have q300 : x14_3 < (x6_2.length : Int) := of_decide_eq_true (by first | (with_reducible assumption) | assumption)
              obtain ⟨ad300, A300_0, c300_0, e300, hx300_0, hl300_0, hi300_0⟩ := at_L1 (Kd.V_reads' HO_6.out).2.2 x14_3 p300 q300
              cases e300
              obtain ⟨ce300, hce300, hMe300, hcc300⟩ := Kd.V_get HO_6.out [] x14_3 p300 (by first | exact q300 | exact of_decide_eq_true (by first | (with_reducible assumption) | assumption) | (have e_ := (Kd.V_reads' HO_6.out).1; omega))
              obtain ⟨ua300_0, uc300_0, rfl, ul300_0, ge300_0⟩ := Kd.FK_slice_open hMe300
              have hv300_0 := hcc300 0 _ rfl
              rw [Nat.add_zero, show ((Kd.slice 49 (Kd.int .u64))).sz = 1 from rfl, Nat.mul_one] at hv300_0
              replace hv300_0 := Option.some.inj (hv300_0.symm.trans hx300_0)
              injection hv300_0 with hva_ hvn_ hvc_
              rw [hva_] at ge300_0
              rw [hvc_] at ul300_0
              have HL300_0 := A_ (show Kd.V (Kd.int .u64) 49 _ w.heap.size _ _ (rd_L1 x6_2 x14_3) from Kd.V_mk ul300_0 ge300_0)
              clear hva_ hvn_ hvc_ ge300_0 ul300_0
              clear hcc300 hce300
              have HR300_0 := Aside0.mk hi300_0
              have HC300_0 := Aside0.mk hl300_0
              clear hi300_0 hl300_0
              replace p300 := eq_true p300
              replace q300 := eq_true q300
              have p301 : 0 ≤ ((ji26) : Int) := of_decide_eq_true (by first | (with_reducible assumption) | assumption)
              have q301 : (ji26) < (x6_2.length : Int) := of_decide_eq_true (by first | (with_reducible assumption) | assumption)
              obtain ⟨ad301, A301_0, c301_0, e301, hx301_0, hl301_0, hi301_0⟩ := at_L1 (Kd.V_reads' HO_6.out).2.2 (ji26) p301 q301
              obtain rfl : ad300 = ad301 := (by injection e301)
              obtain ⟨ce301, hce301, hMe301, hcc301⟩ := Kd.V_get HO_6.out [] (ji26) p301 (by first | exact q301 | exact of_decide_eq_true (by first | (with_reducible assumption) | assumption) | (have e_ := (Kd.V_reads' HO_6.out).1; omega))
              obtain ⟨ua301_0, uc301_0, rfl, ul301_0, ge301_0⟩ := Kd.FK_slice_open hMe301
              have hv301_0 := hcc301 0 _ rfl
              rw [Nat.add_zero, show ((Kd.slice 49 (Kd.int .u64))).sz = 1 from rfl, Nat.mul_one] at hv301_0
              replace hv301_0 := Option.some.inj (hv301_0.symm.trans hx301_0)
              injection hv301_0 with hva_ hvn_ hvc_
              rw [hva_] at ge301_0
              rw [hvc_] at ul301_0
              have HL301_0 := A_ (show Kd.V (Kd.int .u64) 49 _ w.heap.size _ _ (rd_L1 x6_2 (ji26)) from Kd.V_mk ul301_0 ge301_0)
              clear hva_ hvn_ hvc_ ge301_0 ul301_0
              clear hcc301 hce301
              have HR301_0 := Aside0.mk hi301_0
              have HC301_0 := Aside0.mk hl301_0
              clear hi301_0 hl301_0
              replace p301 := eq_true p301
              replace q301 := eq_true q301
              refine start_ (n := 16) (S := fun w' => w'.cell? (ad300.add (x14_3).toNat) = some (.slice A300_0 (rd_L1 x6_2 x14_3).length c300_0) ∧ w'.cell? (ad300.add ((ji26)).toNat) = some (.slice A301_0 (rd_L1 x6_2 (ji26)).length c301_0)) (ds := []) #[false, false, false, false, false, false, false, false, false, false, false, false, false, false, false, false] (by kernel_rfl) rfl rfl ⟨hx300_0, hx301_0⟩ (fun hHeld => ?_); refine with_tabW tree_grow.tab17 tree_grow.bits17 (fun HT_ HW_ => ?_)
              generalize wr.drew = w35 at HO_6 HO_11 HO_13 BK286 HB HL300_0 HL301_0 HR300_0 HR301_0 hx300_0 hx301_0 hHeld ⊢
              refine pure_ (i := 0) (N := some 52) (v := ?_) (a' := ?_) #[true, false, false, false, false, false, false, false, false, false, false, false, false, false, false, false] rfl rfl (any_of HT_.out (by kernel_rfl)) (fun _ _ _ h => h) (Or.inl ⟨by rfl, ?_⟩) ?_ ?_
              rotate_left
              ·intro w'
               go_simp
               with_reducible rfl
              rotate_left
              ·simp only [Act.put, List.setIfInBounds_toArray, List.set_cons_zero, List.set_cons_succ, i64_w, i32_w]
               rfl
              refine pure_ (i := 1) (N := some 53) (v := ?_) (a' := ?_) #[true, true, false, false, false, false, false, false, false, false, false, false, false, false, false, false] rfl rfl (any_of HT_.out (by kernel_rfl)) (fun _ _ _ h => h) (Or.inl ⟨by rfl, ?_⟩) ?_ ?_
              rotate_left
              ·intro w'
               go_simp
               with_reducible rfl
              rotate_left
              ·simp only [Act.put, List.setIfInBounds_toArray, List.set_cons_zero, List.set_cons_succ, i64_w, i32_w]
               rfl
              refine pure_ (i := 2) (N := some 54) (v := ?_) (a' := ?_) #[true, true, true, false, false, false, false, false, false, false, false, false, false, false, false, false] rfl rfl (any_of HT_.out (by kernel_rfl)) (fun _ _ _ h => h) (Or.inl ⟨by rfl, ?_⟩) ?_ ?_
              rotate_left
              ·intro w'
               go_simp
               with_reducible rfl
              rotate_left
              ·simp only [Act.put, List.setIfInBounds_toArray, List.set_cons_zero, List.set_cons_succ, i64_w, i32_w]
               rfl
              refine pure_ (i := 3) (N := some 55) (v := ?_) (a' := ?_) #[true, true, true, true, false, false, false, false, false, false, false, false, false, false, false, false] rfl rfl (any_of HT_.out (by kernel_rfl)) (fun _ _ _ h => h) (Or.inl ⟨by rfl, ?_⟩) ?_ ?_
              rotate_left
              ·intro w'
               go_simp
               with_reducible rfl
              rotate_left
              ·simp only [Act.put, List.setIfInBounds_toArray, List.set_cons_zero, List.set_cons_succ, i64_w, i32_w]
               rfl
              refine pure_ (i := 5) (N := some 57) (v := ?_) (a' := ?_) #[true, true, true, true, false, true, false, false, false, false, false, false, false, false, false, false] rfl rfl (any_of HT_.out (by kernel_rfl)) (fun _ _ _ h => h) (Or.inl ⟨by rfl, ?_⟩) ?_ ?_
              rotate_left
              ·intro w'
               go_simp
               with_reducible rfl
              rotate_left
              ·simp only [Act.put, List.setIfInBounds_toArray, List.set_cons_zero, List.set_cons_succ, i64_w, i32_w]
               rfl
              refine pure_ (i := 6) (N := some 58) (v := ?_) (a' := ?_) #[true, true, true, true, false, true, true, false, false, false, false, false, false, false, false, false] rfl rfl (any_of HT_.out (by kernel_rfl)) (fun _ _ _ h => h) (Or.inl ⟨by rfl, ?_⟩) ?_ ?_
              rotate_left
              ·intro w'
               go_simp
               with_reducible rfl
              rotate_left
              ·simp only [Act.put, List.setIfInBounds_toArray, List.set_cons_zero, List.set_cons_succ, i64_w, i32_w]
               rfl
              refine pure_ (i := 7) (N := some 59) (v := ?_) (a' := ?_) #[true, true, true, true, false, true, true, true, false, false, false, false, false, false, false, false] rfl rfl (any_of HT_.out (by kernel_rfl)) (fun _ _ _ h => h) (Or.inl ⟨by rfl, ?_⟩) ?_ ?_
              rotate_left
              ·intro w'
               go_simp
               with_reducible rfl
              rotate_left
              ·simp only [Act.put, List.setIfInBounds_toArray, List.set_cons_zero, List.set_cons_succ, i64_w, i32_w]
               rfl
              refine pure_ (i := 8) (N := some 60) (v := ?_) (a' := ?_) #[true, true, true, true, false, true, true, true, true, false, false, false, false, false, false, false] rfl rfl (any_of HT_.out (by kernel_rfl)) (fun _ _ _ h => h) (Or.inl ⟨by rfl, ?_⟩) ?_ ?_
              rotate_left
              ·intro w'
               go_simp
               with_reducible rfl
              rotate_left
              ·simp only [Act.put, List.setIfInBounds_toArray, List.set_cons_zero, List.set_cons_succ, i64_w, i32_w]
               rfl
              refine take_ (i := 4) (N := some 56) (v := ?_) (a' := ?_) #[true, true, true, true, true, true, true, true, true, false, false, false, false, false, false, false] rfl rfl (take_ofW HT_.out HW_.out (by kernel_rfl)) (fun _ _ _ h => h) (Or.inl ⟨by rfl, ?_⟩) hHeld ?_ ?_
              rotate_left
              ·rintro w' ⟨s0, s1⟩
               go_simp
               with_reducible rfl
              rotate_left
              ·simp only [Act.put, List.setIfInBounds_toArray, List.set_cons_zero, List.set_cons_succ, i64_w, i32_w]
               rfl
              refine take_ (i := 9) (N := some 61) (v := ?_) (a' := ?_) #[true, true, true, true, true, true, true, true, true, true, false, false, false, false, false, false] rfl rfl (take_ofW HT_.out HW_.out (by kernel_rfl)) (fun _ _ _ h => h) (Or.inl ⟨by rfl, ?_⟩) hHeld ?_ ?_
              rotate_left
              ·rintro w' ⟨s0, s1⟩
               go_simp
               with_reducible rfl
              rotate_left
              ·simp only [Act.put, List.setIfInBounds_toArray, List.set_cons_zero, List.set_cons_succ, i64_w, i32_w]
               rfl
              refine one_ (i := 10) (N := some 62) #[true, true, true, true, true, true, true, true, true, true, true, false, false, false, false, false] rfl rfl (one_of HT_.out (by kernel_rfl)) (by decide) (fun K hK => ?_)
              refine goesKr_ Try.func56 (by kernel_rfl) rfl #[.slice A300_0 (rd_L1 x6_2 x14_3).length c300_0, .slice A301_0 (rd_L1 x6_2 (ji26)).length c301_0, .pointer (some ⟨gb286, 0, none⟩)] (by rfl) rfl rfl (by rfl) (by (try simp only [List.map_toArray, List.map_cons, List.map_nil]); first | done | (simp only [hji26]; rfl) | rfl | (simp only [List.length_drop, List.length_take]; rfl)) ?_
              with_reducible refine (tree_grow_1.calls k3 (fun k_ => ((w.heap.size ≤ k_) ∧ (some k_ ≠ (u11 : Value).ownBlock ∧ (some k_ ≠ (u13 : Value).ownBlock ∧ k_ ≠ gb286)))) _ _ (rd_L1 x6_2 x14_3) (fun k_ => ((w.heap.size ≤ k_) ∧ (some k_ ≠ (u11 : Value).ownBlock ∧ (some k_ ≠ (u13 : Value).ownBlock ∧ k_ ≠ gb286)))) _ _ (rd_L1 x6_2 (ji26)) a0 t302 t305 _ ?side1 ?side2 A28.out gb286 ((blk_cell (nb_ BK286) 0).trans rfl)).mono ?_
              (case side1 => exact HL300_0.out)
              (case side2 => exact HL301_0.out)
              rintro e w36 ⟨v303, rfl, ho0, hb⟩
              have HS0_ := (hb.cell (World.block_lt_of_cell? _ _ (hHeld.1))).trans (hHeld.1)
              have HS1_ := (hb.cell (World.block_lt_of_cell? _ _ (hHeld.2))).trans (hHeld.2)
              refine ⟨_, rfl, ?_⟩
              have n0_ := A_ (Kd.V_elder' (nV_ HO_6) (Kd.R_base ho0) hb)
              have n1_ := A_ (T_elder' (nT_ HO_11) (Kd.R_base ho0) hb)
              have n2_ := A_ (T_elder' (nT_ HO_13) (Kd.R_base ho0) hb)
              have n3_ := A_ (Kd.V_elder' (nV_ HL300_0) (Kd.R_base ho0) hb)
              have n4_ := A_ (Kd.V_elder' (nV_ HL301_0) (Kd.R_base ho0) hb)
              have n5_ := A_ (Kd.R_lower (Kd.R_newM (M := fun k_ => (w.heap.size ≤ k_)) (Kd.R_mono (ok' := fun k_ => True) ho0 (fun _ hk_ => trivial)) (below_size hs_) (fun k_ h_ => h_)) (below_size hs_))
              have n6_ := A_ (blk_below (g := gb286) (o := .cells #[.int .u8 a0] 27 (0, 0)) (nb_ BK286) hb)
              have n7_ := A_ (Kd.C_below (by repeat (first | (with_reducible exact HR300_0.out) | (with_reducible refine Kd.C_alloc ?_ _) | (with_reducible refine Kd.C_drewN ?_ _) | (with_reducible refine Kd.C_drew ?_) | exact HR300_0.out)) hb)
              have n8_ := A_ (Kd.C_below (by repeat (first | (with_reducible exact HR301_0.out) | (with_reducible refine Kd.C_alloc ?_ _) | (with_reducible refine Kd.C_drewN ?_ _) | (with_reducible refine Kd.C_drew ?_) | exact HR301_0.out)) hb)
              have n9_ := A_ (below_step hs_ hb)
              clear HO_6
              clear HO_11
              clear HO_13
              clear HL300_0
              clear HL301_0
              clear BK286
              clear HR300_0
              clear HR301_0
              clear HB
              have HO_6 := n0_
              have HO_11 := n1_
              have HO_13 := n2_
              have HL300_0 := n3_
              have HL301_0 := n4_
              have HO304 := n5_
              have BK286 := n6_
              have HR300_0 := n7_
              have HR301_0 := n8_
              have HB := n9_
              clear n0_ n1_ n2_ n3_ n4_ n5_ n6_ n7_ n8_ n9_
              (try clear hb)
              (try clear hb2)
              (try clear hk)
              (try clear hi)
              (try clear ho0)
              refine hK.out _ _ ⟨HS0_, HS1_⟩ (fun hHeld => ?_)
              clear hK K
              refine norm_ (a' := ?_) ?_ ?_
              rotate_left
              ·show Act.put _ (some 62) _ = _
               simp only [Act.put, List.setIfInBounds_toArray, List.set_cons_zero, List.set_cons_succ, i64_w, i32_w]
               rfl
              refine pure_ (i := 11) (N := some 51) (v := ?_) (a' := ?_) #[true, true, true, true, true, true, true, true, true, true, true, true, false, false, false, false] rfl rfl (any_of HT_.out (by kernel_rfl)) (fun _ _ _ h => h) (Or.inl ⟨by rfl, ?_⟩) ?_ ?_
              rotate_left
              ·intro w'
               go_simp
               with_reducible rfl
              rotate_left
              ·simp only [Act.put, List.setIfInBounds_toArray, List.set_cons_zero, List.set_cons_succ, i64_w, i32_w]
               rfl
              refine pure_ (i := 12) (N := some 63) (v := ?_) (a' := ?_) #[true, true, true, true, true, true, true, true, true, true, true, true, true, false, false, false] rfl rfl (any_of HT_.out (by kernel_rfl)) (fun _ _ _ h => h) (Or.inl ⟨by rfl, ?_⟩) ?_ ?_
              rotate_left
              ·intro w'
               go_simp
               with_reducible rfl
              rotate_left
              ·simp only [Act.put, List.setIfInBounds_toArray, List.set_cons_zero, List.set_cons_succ, i64_w, i32_w]
               rfl
              refine pure_ (i := 13) (N := some 64) (v := ?_) (a' := ?_) #[true, true, true, true, true, true, true, true, true, true, true, true, true, true, false, false] rfl rfl (any_of HT_.out (by kernel_rfl)) (fun _ _ _ h => h) (Or.inl ⟨by rfl, ?_⟩) ?_ ?_
              rotate_left
              ·intro w'
               go_simp
               with_reducible rfl
              rotate_left
              ·simp only [Act.put, List.setIfInBounds_toArray, List.set_cons_zero, List.set_cons_succ, i64_w, i32_w]
               rfl
              refine pure_ (i := 14) (N := some 15) (v := ?_) (a' := ?_) #[true, true, true, true, true, true, true, true, true, true, true, true, true, true, true, false] rfl rfl (any_of HT_.out (by kernel_rfl)) (fun _ _ _ h => h) (Or.inl ⟨by rfl, ?_⟩) ?_ ?_
              rotate_left
              ·intro w'
               go_simp
               with_reducible rfl
              rotate_left
              ·simp only [Act.put, List.setIfInBounds_toArray, List.set_cons_zero, List.set_cons_succ, i64_w, i32_w]
               rfl
              refine pure_ (i := 15) (N := some 16) (v := ?_) (a' := ?_) #[true, true, true, true, true, true, true, true, true, true, true, true, true, true, true, true] rfl rfl (any_of HT_.out (by kernel_rfl)) (fun _ _ _ h => h) (Or.inl ⟨by rfl, ?_⟩) ?_ ?_
              rotate_left
              ·intro w'
               go_simp
               with_reducible rfl
              rotate_left
              ·simp only [Act.put, List.setIfInBounds_toArray, List.set_cons_zero, List.set_cons_succ, i64_w, i32_w]
               rfl
              refine done_ (done_of HT_.out (by kernel_rfl)) ?_
              try go_wp2
              go_ret2
              exact ⟨_, by first | rfl | (simp [errW_none, errW_some] <;> rfl) | (simp only [← hji26]; first | rfl | (simp [errW_none, errW_some] <;> rfl)) | (simp [*, errW_none, errW_some] <;> rfl), by first | exact T_nil _ _ _ _ _ _ _ (by first | exact Nat.zero_le _ | exact Nat.le_of_eq hS0.symm) | exact T_nil _ _ _ _ _ | exact Kd.V_nil _ _ _ _ _ | exact Kd.Q_nil _ _ _ _ _ | exact Kd.S_nil _ _ _ _ _, hs_⟩
            ·rw [if_neg c27] at H
             exact absurd H (by simp)
           ·rw [if_neg c25] at H
            exact absurd H (by simp)
          ·rw [if_neg c24] at H
           exact absurd H (by simp)
         ·rw [if_neg c23] at H
          have c23b0 : decide ((wrap64 (x14_3 + 1)) < (x6_2.length : Int)) = false := decide_eq_false c23
          clear c23
          by_cases c37 : ((x6_2.length : Int) % 2) = 1
          ·rw [if_pos c37] at H
           have c37b0 : (((x6_2.length : Int) % 2) == 1) = true := beq_iff_eq.mpr c37
           have c37b1 : (((x6_2.length : Int) % 2) != 1) = false := bne_eq_false_iff_eq.mpr c37
           clear c37
           obtain ⟨ji38, hji38⟩ : ∃ j_ : Int, (wrap64 ((x6_2.length : Int) - 1)) = j_ := ⟨_, rfl⟩
           replace H : (if 0 ≤ (ji38) then (if (ji38) < (x6_2.length : Int) then ((poly_Trim.f k3 (rd_L1 x6_2 (ji38))).bind fun t310 => (if x13_3.length < 5864062014805 then ((some (x13_3 ++ [t310] : List (List Int))).bind fun y313 => (if x11_2.length < 5864062014805 then (tree_grow.l1 k3 y313 (x11_2 ++ [y313]) a0) else (none))) else (none))) else (none)) else (none)) = some (r1, r2) := by first | (rw [hji38] at H; exact H) | (simp only [hji38] at H ⊢; exact H)
           have hji38w : (IntKind.i64.wrap ((x6_2.length : Int) - 1)) = ji38 := (i64_w _).trans hji38
           by_cases c39 : 0 ≤ (ji38)
           ·rw [if_pos c39] at H
            have c39b0 : decide (0 ≤ (ji38)) = true := decide_eq_true c39
            clear c39
            by_cases c40 : (ji38) < (x6_2.length : Int)
            ·rw [if_pos c40] at H
             have c40b0 : decide ((ji38) < (x6_2.length : Int)) = true := decide_eq_true c40
             clear c40
             replace H := Option.bind_eq_some_iff.mp H
             obtain ⟨t310, A410, H⟩ := H
             replace H : (if x13_3.length < 5864062014805 then ((some (x13_3 ++ [t310] : List (List Int))).bind fun y313 => (if x11_2.length < 5864062014805 then (tree_grow.l1 k3 y313 (x11_2 ++ [y313]) a0) else (none))) else (none)) = some (r1, r2) := H
             have A41 := Aside0.mk A410
             clear A410
             by_cases c42 : x13_3.length < 5864062014805
             ·rw [if_pos c42] at H
              have LMc42 := Aside0.mk c42
              clear c42
              obtain ⟨y313, hy313⟩ : ∃ y_ : List (List Int), y_ = (x13_3 ++ [t310]) := ⟨_, rfl⟩
              replace H : (if x11_2.length < 5864062014805 then (tree_grow.l1 k3 y313 (x11_2 ++ [y313]) a0) else (none)) = some (r1, r2) := by first | (rw [hy313]; with_reducible exact H) | (have H2_ := (Option.bind_some _ _).symm.trans H; rw [hy313]; with_reducible exact H2_) | (have H2_ := (Option.bind_some _ _).symm.trans H; with_reducible exact H2_) | with_reducible exact H | (rw [hy313]; exact H) | exact H
              have Ny313 := Aside0.mk hy313
              clear hy313
              by_cases c43 : x11_2.length < 5864062014805
              ·rw [if_pos c43] at H
               have LMc43 := Aside0.mk c43
               clear c43
               obtain ⟨y317, hy317⟩ : ∃ y_ : List (List (List Int)), y_ = (x11_2 ++ [y313]) := ⟨_, rfl⟩
               replace H : (tree_grow.l1 k3 y313 y317 a0) = some (r1, r2) := by first | (rw [hy317]; with_reducible exact H) | (have H2_ := (Option.bind_some _ _).symm.trans H; rw [hy317]; with_reducible exact H2_) | (have H2_ := (Option.bind_some _ _).symm.trans H; with_reducible exact H2_) | with_reducible exact H | (rw [hy317]; exact H) | exact H
               have Ny317 := Aside0.mk hy317
               clear hy317
               have H' := Aside0.mk H
               clear H
               have p309 : 0 ≤ ((ji38) : Int) := of_decide_eq_true (by first | (with_reducible assumption) | assumption)
               have q309 : (ji38) < (x6_2.length : Int) := of_decide_eq_true (by first | (with_reducible assumption) | assumption)
               obtain ⟨ad309, A309_0, c309_0, e309, hx309_0, hl309_0, hi309_0⟩ := at_L1 (Kd.V_reads' HO_6.out).2.2 (ji38) p309 q309
               cases e309
               obtain ⟨ce309, hce309, hMe309, hcc309⟩ := Kd.V_get HO_6.out [] (ji38) p309 (by first | exact q309 | exact of_decide_eq_true (by first | (with_reducible assumption) | assumption) | (have e_ := (Kd.V_reads' HO_6.out).1; omega))
               obtain ⟨ua309_0, uc309_0, rfl, ul309_0, ge309_0⟩ := Kd.FK_slice_open hMe309
               have hv309_0 := hcc309 0 _ rfl
               rw [Nat.add_zero, show ((Kd.slice 49 (Kd.int .u64))).sz = 1 from rfl, Nat.mul_one] at hv309_0
               replace hv309_0 := Option.some.inj (hv309_0.symm.trans hx309_0)
               injection hv309_0 with hva_ hvn_ hvc_
               rw [hva_] at ge309_0
               rw [hvc_] at ul309_0
               have HL309_0 := A_ (show Kd.V (Kd.int .u64) 49 _ w.heap.size _ _ (rd_L1 x6_2 (ji38)) from Kd.V_mk ul309_0 ge309_0)
               clear hva_ hvn_ hvc_ ge309_0 ul309_0
               clear hcc309 hce309
               have HR309_0 := Aside0.mk hi309_0
               have HC309_0 := Aside0.mk hl309_0
               clear hi309_0 hl309_0
               replace p309 := eq_true p309
               replace q309 := eq_true q309
               go_wp2_with (first | ((with_reducible refine gate_callee (f := 36) rfl ?_); refine goesL_ (some 83) rfl rfl Try.func36 (by kernel_rfl) rfl #[.slice A309_0 (rd_L1 x6_2 (ji38)).length c309_0] rfl (by (try simp only [List.map_toArray, List.map_cons, List.map_nil]); first | done | (simp only [hji38]; rfl) | rfl | (simp only [List.length_drop, List.length_take]; rfl)) ?_; (with_reducible refine (poly_Trim.calls k3 _ _ (rd_L1 x6_2 (ji38)) t310 _ ?side1 ?side2 A41.out).mono ?_); (case side1 => repeat (first | exact (by repeat (first | (with_reducible exact HR309_0.out) | (with_reducible refine Kd.C_alloc ?_ _) | (with_reducible refine Kd.C_drewN ?_ _) | (with_reducible refine Kd.C_drew ?_) | exact HR309_0.out)) | (with_reducible refine Kd.C_alloc ?_ _) | (with_reducible refine Kd.C_drewN ?_ _) | (with_reducible refine Kd.C_drew ?_))); (case side2 => exact HC309_0.out); rintro e w44 ⟨v311, rfl, ho0, hb⟩; refine ⟨_, rfl, ?_⟩; have HN_ := A_ (fun k_ hk_ => Nat.le_trans HO_13.out.1 (Kd.R_base ho0 k_ hk_) : ∀ k_, (v311 : Value).ownBlock = some k_ → S0 ≤ k_); have n0_ := A_ (Kd.V_elder' (nV_ HO_6) (Kd.R_base ho0) hb); have n1_ := A_ (T_elder' (nT_ HO_11) (Kd.R_base ho0) hb); have n2_ := A_ (T_elder' (nT_ HO_13) (Kd.R_base ho0) hb); have n3_ := A_ (Kd.V_elder' (nV_ HL309_0) (Kd.R_base ho0) hb); have n4_ := A_ (Kd.R_lower (Kd.R_newM (M := fun k_ => (w.heap.size ≤ k_)) ho0 (below_size hs_) (fun k_ h_ => h_)) (below_size hs_)); have n5_ := A_ (blk_below (g := gb286) (o := .cells #[.int .u8 a0] 27 (0, 0)) (nb_ BK286) hb); have n6_ := A_ (Kd.C_below (by repeat (first | (with_reducible exact HR309_0.out) | (with_reducible refine Kd.C_alloc ?_ _) | (with_reducible refine Kd.C_drewN ?_ _) | (with_reducible refine Kd.C_drew ?_) | exact HR309_0.out)) hb); have n7_ := A_ (below_step hs_ hb); clear HO_6 HO_11 HO_13 HL309_0 BK286 HR309_0 HB; have HO_6 := n0_; have HO_11 := n1_; have HO_13 := n2_; have HL309_0 := n3_; have HO312 := n4_; have BK286 := n5_; have HR309_0 := n6_; have HB := n7_; clear n0_ n1_ n2_ n3_ n4_ n5_ n6_ n7_; (try clear hb); (try clear ho0); obtain ⟨Ao46, co46, eo46⟩ := Kd.R_slice HO312.out; subst eo46) | ((with_reducible refine gate_builtin (b := .append) (xs := #[.tmp 76, .tmp 84]) rfl ?_); at_builtin; refine T_append (lo := S0) (Z := fun k_ => S0 ≤ k_) (Kd.slice 49 (Kd.int .u64)) (w0 := w) w.heap.size rfl (.tmp 76) (.tmp 84) 23 22 (.slice none 0 0) 24 rfl Try.underlying23 info22 rfl (by decide) (by omega) u13 x13_3 t310 [.slice Ao46 t310.length co46] (fun k_ => (w.heap.size ≤ k_) ∧ some k_ ≠ (u11 : Value).ownBlock ∧ k_ ≠ gb286) (fun k_ => some k_ = (.slice Ao46 t310.length co46 : Value).ownBlock) rfl rfl ?aP ?aQ ?aF ?aZ ?aO ?aB ?aS ?aL ?_; (case aP => exact Kd.M_row (Kd.R_tight rfl (Kd.R_mono (ok' := (fun k_ => ((fun k_ => (w.heap.size ≤ k_) ∧ some k_ ≠ (u11 : Value).ownBlock ∧ k_ ≠ gb286)) k_ ∧ some k_ ≠ (u13 : Value).ownBlock)) (Kd.R_types (Kd.R_apart' (Kd.R_apart' (HO312.out) (T_typed HO_11.out) (by decide)) (T_typed HO_13.out) (by decide)) BK286.out (by decide)) (fun k_ hk => ⟨⟨hk.1.1.1.1, ⟨hk.1.1.2, hk.2⟩⟩, hk.1.2⟩)))); (case aQ => exact (fun k_ hk_ => ⟨⟨(((Kd.R_mono (ok' := (fun k_ => ((fun k_ => (w.heap.size ≤ k_) ∧ some k_ ≠ (u11 : Value).ownBlock ∧ k_ ≠ gb286)) k_ ∧ some k_ ≠ (u13 : Value).ownBlock)) (Kd.R_types (Kd.R_apart' (Kd.R_apart' (HO312.out) (T_typed HO_11.out) (by decide)) (T_typed HO_13.out) (by decide)) BK286.out (by decide)) (fun k_ hk => ⟨⟨hk.1.1.1.1, ⟨hk.1.1.2, hk.2⟩⟩, hk.1.2⟩))).1 k_ hk_.symm).1, HN_.out k_ hk_.symm⟩, (((Kd.R_mono (ok' := (fun k_ => ((fun k_ => (w.heap.size ≤ k_) ∧ some k_ ≠ (u11 : Value).ownBlock ∧ k_ ≠ gb286)) k_ ∧ some k_ ≠ (u13 : Value).ownBlock)) (Kd.R_types (Kd.R_apart' (Kd.R_apart' (HO312.out) (T_typed HO_11.out) (by decide)) (T_typed HO_13.out) (by decide)) BK286.out (by decide)) (fun k_ hk => ⟨⟨hk.1.1.1.1, ⟨hk.1.1.2, hk.2⟩⟩, hk.1.2⟩))).1 k_ hk_.symm).2⟩)); (case aZ => exact (fun k_ hk_ => Nat.le_trans (HO_13.out.1) hk_)); (case aB => exact hs_); (case aF => exact (fun k_ hk => ⟨(Nat.le_trans (below_size hs_) hk), Kd.fresh' (T_lt (nT_ HO_11)) k_ hk, Kd.freshB (g := gb286) (o := .cells #[.int .u8 a0] 27 (0, 0)) (nb_ BK286) k_ hk⟩)); (case aO => exact (by (with_reducible repeat (first | apply T_alloc | apply T_drewN | apply T_drew)); exact T_mono HO_13.out (fun _ hk => ⟨⟨hk.1.1, ⟨hk.1.2.1, hk.1.2.2⟩⟩, fun e_ => hk.2 e_⟩))); (case aS => exact (below_size hs_)); (case aL => have := LMc42.out; omega); intro v314 w45 ho hb hg hat; rw [← Ny313.out] at ho; have n0_ := A_ (Kd.V_afterv (ok := (fun k_ => (w.heap.size ≤ k_) ∧ some k_ ≠ (u11 : Value).ownBlock ∧ some k_ ≠ (.slice Ao46 t310.length co46 : Value).ownBlock ∧ k_ ≠ gb286)) (by (with_reducible repeat (first | apply Kd.V_alloc | apply Kd.V_drewN | apply Kd.V_drew)); exact Kd.V_mono HO_6.out (fun _ hk => ⟨⟨hk.1.1, ⟨hk.1.2.1, ⟨hk.2, hk.1.2.2.2⟩⟩⟩, hk.1.2.2.1⟩)) hg hat); have n1_ := A_ (T_afterv (ok := (fun k_ => (w.heap.size ≤ k_) ∧ some k_ ≠ (.slice Ao46 t310.length co46 : Value).ownBlock ∧ k_ ≠ gb286)) (by (with_reducible repeat (first | apply T_alloc | apply T_drewN | apply T_drew)); exact T_mono HO_11.out (fun _ hk => ⟨⟨hk.1.1, ⟨hk.2, hk.1.2.2⟩⟩, hk.1.2.1⟩)) hg hat); have n2_ := A_ (blk_grown (g := gb286) (o := .cells #[.int .u8 a0] 27 (0, 0)) (nb_ BK286) hg (T_ne HO_13.out BK286.out (by decide))); have n3_ := A_ (Kd.V_afterv (ok := (fun k_ => (w.heap.size ≤ k_) ∧ some k_ ≠ (u11 : Value).ownBlock ∧ some k_ ≠ (.slice Ao46 t310.length co46 : Value).ownBlock ∧ k_ ≠ gb286)) (by (with_reducible repeat (first | apply Kd.V_alloc | apply Kd.V_drewN | apply Kd.V_drew)); exact Kd.V_mono HL309_0.out (fun _ hk => ⟨⟨hk.1.1, ⟨hk.1.2.1, ⟨hk.2, hk.1.2.2.2⟩⟩⟩, hk.1.2.2.1⟩)) hg hat); have n4_ := A_ (hb); have n5_ := A_ (ho); clear HO_6 HO_11 BK286 HL309_0 HB HO_13 HO312; have HO_6 := n0_; have HO_11 := n1_; have BK286 := n2_; have HL309_0 := n3_; have HB := n4_; have HO315 := n5_; clear n0_ n1_ n2_ n3_ n4_ n5_; clear ho hb hg hat; have n_ := A_ (show Kd.V (Kd.slice 49 (Kd.int .u64)) 22 _ w.heap.size _ _ _ from T_V HO315.out); have HT6 := HO315; clear HO315; have HO316 := n_; clear n_; obtain ⟨Ao48, co48, eo48⟩ := Kd.V_slice HO316.out; subst eo48) | ((with_reducible refine gate_builtin (b := .append) (xs := #[.tmp 86, .tmp 88]) rfl ?_); at_builtin; refine T_appendL (Kd.slice 49 (Kd.int .u64)) 22 (w0 := w) w.heap.size S0 rfl (.tmp 86) (.tmp 88) 37 23 (.slice none 0 0) 24 rfl Try.underlying37 info23 rfl (by omega) u11 x11_2 y313 (.slice Ao48 y313.length co48) (fun k_ => (w.heap.size ≤ k_) ∧ k_ ≠ gb286) (fun k_ => (w.heap.size ≤ k_) ∧ k_ ≠ gb286) rfl rfl ?aP (fun _ hk => hk) ?aF ?aO ?aB ?aS ?aL ?_; (case aP => exact (by (with_reducible repeat (first | apply T_alloc | apply T_drewN | apply T_drew)); exact T_mono HT6.out (fun _ hk => ⟨hk.1, hk.2.2⟩))); (case aB => exact hs_); (case aF => exact (fun k_ hk => ⟨(Nat.le_trans (below_size hs_) hk), Kd.freshB (g := gb286) (o := .cells #[.int .u8 a0] 27 (0, 0)) (nb_ BK286) k_ hk⟩)); (case aO => exact (by (with_reducible repeat (first | apply T_alloc | apply T_drewN | apply T_drew)); exact T_mono HO_11.out (fun _ hk => ⟨hk.1.1, hk.1.2.2⟩))); (case aS => exact (below_size hs_)); (case aL => have := LMc43.out; omega); intro v318 w47 ho hb hg hat; rw [← Ny317.out] at ho; have n0_ := A_ (Kd.V_afterv (ok := (fun k_ => (w.heap.size ≤ k_) ∧ some k_ ≠ (.slice Ao48 y313.length co48 : Value).ownBlock ∧ k_ ≠ gb286)) (by (with_reducible repeat (first | apply Kd.V_alloc | apply Kd.V_drewN | apply Kd.V_drew)); exact Kd.V_mono HO_6.out (fun _ hk => ⟨⟨hk.1.1, ⟨hk.2, hk.1.2.2.2⟩⟩, hk.1.2.1⟩)) hg hat); have n1_ := A_ (blk_grown (g := gb286) (o := .cells #[.int .u8 a0] 27 (0, 0)) (nb_ BK286) hg (T_ne HO_11.out BK286.out (by decide))); have n2_ := A_ (Kd.V_afterv (ok := (fun k_ => (w.heap.size ≤ k_) ∧ some k_ ≠ (.slice Ao48 y313.length co48 : Value).ownBlock ∧ k_ ≠ gb286)) (by (with_reducible repeat (first | apply Kd.V_alloc | apply Kd.V_drewN | apply Kd.V_drew)); exact Kd.V_mono HL309_0.out (fun _ hk => ⟨⟨hk.1.1, ⟨hk.2, hk.1.2.2.2⟩⟩, hk.1.2.1⟩)) hg hat); have n3_ := A_ (Kd.V_afterv (ok := (fun k_ => (w.heap.size ≤ k_) ∧ k_ ≠ gb286)) (by (with_reducible repeat (first | apply Kd.V_alloc | apply Kd.V_drewN | apply Kd.V_drew)); exact Kd.V_mono HO316.out (fun _ hk => ⟨⟨hk.1, hk.2.2⟩, hk.2.1⟩)) hg hat); have n4_ := A_ (hb); have n5_ := A_ (ho); clear HO_6 BK286 HL309_0 HO316 HB HO_11; have HO_6 := n0_; have BK286 := n1_; have HL309_0 := n2_; have HO316 := n3_; have HB := n4_; have HO319 := n5_; clear n0_ n1_ n2_ n3_ n4_ n5_; clear ho hb hg hat))
               go_roundg k3
               case measure => have := HK1.out; have := HK2.out; have := HK3.out; omega
               case rel => exact ⟨(y313), (y317), H', ⟨by have := HK1.out; have := HK2.out; have := HK3.out; omega⟩, ⟨by (with_reducible repeat (first | apply Kd.V_alloc | apply Kd.V_drewN | apply Kd.V_drew)); exact Kd.V_mono HO316.out (fun _ hk => ⟨hk.1.1, ⟨hk.2, hk.1.2⟩⟩)⟩, ⟨mT_ HO319.out⟩, ⟨mb_ BK286.out⟩, ⟨hs_⟩⟩
              ·rw [if_neg c43] at H
               exact absurd H (by simp)
             ·rw [if_neg c42] at H
              exact absurd H (by simp)
            ·rw [if_neg c40] at H
             exact absurd H (by simp)
           ·rw [if_neg c39] at H
            exact absurd H (by simp)
          ·rw [if_neg c37] at H
           have c37b0 : (((x6_2.length : Int) % 2) == 1) = false := beq_eq_false_iff_ne.mpr c37
           have c37b1 : (((x6_2.length : Int) % 2) != 1) = true := bne_iff_ne.mpr c37
           by_cases c49 : x11_2.length < 5864062014805
           ·rw [if_pos c49] at H
            have LMc49 := Aside0.mk c49
            clear c49
            obtain ⟨y321, hy321⟩ : ∃ y_ : List (List (List Int)), y_ = (x11_2 ++ [x13_3]) := ⟨_, rfl⟩
            replace H : (tree_grow.l1 k3 x13_3 y321 a0) = some (r1, r2) := by first | (rw [hy321]; with_reducible exact H) | (have H2_ := (Option.bind_some _ _).symm.trans H; rw [hy321]; with_reducible exact H2_) | (have H2_ := (Option.bind_some _ _).symm.trans H; with_reducible exact H2_) | with_reducible exact H | (rw [hy321]; exact H) | exact H
            have Ny321 := Aside0.mk hy321
            clear hy321
            have H' := Aside0.mk H
            clear H
            have n_ := A_ (show Kd.V (Kd.slice 49 (Kd.int .u64)) 22 _ w.heap.size _ _ _ from T_V HO_13.out)
            have HT6 := HO_13; clear HO_13
            have HO320 := n_
            clear n_
            obtain ⟨Ao51, co51, eo51⟩ := Kd.V_slice HO320.out
            subst eo51
            go_wp2_with (first | ((with_reducible refine gate_builtin (b := .append) (xs := #[.tmp 86, .tmp 88]) rfl ?_); at_builtin; refine T_appendL (Kd.slice 49 (Kd.int .u64)) 22 (w0 := w) w.heap.size S0 rfl (.tmp 86) (.tmp 88) 37 23 (.slice none 0 0) 24 rfl Try.underlying37 info23 rfl (by omega) u11 x11_2 x13_3 (.slice Ao51 x13_3.length co51) (fun k_ => (w.heap.size ≤ k_) ∧ k_ ≠ gb286) (fun k_ => (w.heap.size ≤ k_) ∧ k_ ≠ gb286) rfl rfl ?aP (fun _ hk => hk) ?aF ?aO ?aB ?aS ?aL ?_; (case aP => exact (by (with_reducible repeat (first | apply T_alloc | apply T_drewN | apply T_drew)); exact T_mono HT6.out (fun _ hk => ⟨hk.1, hk.2.2⟩))); (case aB => exact hs_); (case aF => exact (fun k_ hk => ⟨(Nat.le_trans (below_size hs_) hk), Kd.freshB (g := gb286) (o := .cells #[.int .u8 a0] 27 (0, 0)) (nb_ BK286) k_ hk⟩)); (case aO => exact (by (with_reducible repeat (first | apply T_alloc | apply T_drewN | apply T_drew)); exact T_mono HO_11.out (fun _ hk => ⟨hk.1, hk.2.2⟩))); (case aS => exact (below_size hs_)); (case aL => have := LMc49.out; omega); intro v322 w50 ho hb hg hat; rw [← Ny321.out] at ho; have n0_ := A_ (Kd.V_afterv (ok := (fun k_ => (w.heap.size ≤ k_) ∧ some k_ ≠ (.slice Ao51 x13_3.length co51 : Value).ownBlock ∧ k_ ≠ gb286)) (by (with_reducible repeat (first | apply Kd.V_alloc | apply Kd.V_drewN | apply Kd.V_drew)); exact Kd.V_mono HO_6.out (fun _ hk => ⟨⟨hk.1, ⟨hk.2.2.1, hk.2.2.2⟩⟩, hk.2.1⟩)) hg hat); have n1_ := A_ (Kd.V_afterv (ok := (fun k_ => (w.heap.size ≤ k_) ∧ k_ ≠ gb286)) (by (with_reducible repeat (first | apply Kd.V_alloc | apply Kd.V_drewN | apply Kd.V_drew)); exact Kd.V_mono HO320.out (fun _ hk => ⟨⟨hk.1, hk.2.2⟩, hk.2.1⟩)) hg hat); have n2_ := A_ (blk_grown (g := gb286) (o := .cells #[.int .u8 a0] 27 (0, 0)) (nb_ BK286) hg (T_ne HO_11.out BK286.out (by decide))); have n3_ := A_ (hb); have n4_ := A_ (ho); clear HO_6 HO320 BK286 HB HO_11; have HO_6 := n0_; have HO320 := n1_; have BK286 := n2_; have HB := n3_; have HO323 := n4_; clear n0_ n1_ n2_ n3_ n4_; clear ho hb hg hat))
            go_roundg k3
            case measure => have := HK1.out; have := HK2.out; have := HK3.out; omega
            case rel => exact ⟨(x13_3), (y321), H', ⟨by have := HK1.out; have := HK2.out; have := HK3.out; omega⟩, ⟨by (with_reducible repeat (first | apply Kd.V_alloc | apply Kd.V_drewN | apply Kd.V_drew)); exact Kd.V_mono HO320.out (fun _ hk => ⟨hk.1.1, ⟨hk.2, hk.1.2⟩⟩)⟩, ⟨mT_ HO323.out⟩, ⟨mb_ BK286.out⟩, ⟨hs_⟩⟩
           ·rw [if_neg c49] at H
            exact absurd H (by simp)
      ·rw [if_neg c21] at H
       have c21b0 : decide (1 < (x6_2.length : Int)) = false := decide_eq_false c21
       have c21b1 : decide (1 < x6_2.length) = false := decide_eq_false (by omega)
       clear c21
       simp only [Option.some.injEq, Prod.mk.injEq] at H
       obtain ⟨rfl, rfl⟩ := H
       obtain ⟨Ao52, co52, eo52⟩ := Kd.V_slice HO_6.out
       subst eo52
       go_wp2
       go_ret2
       exact ⟨_, fr_, by (with_reducible repeat (first | apply T_alloc | apply T_drewN | apply T_drew)); exact T_mono HO_11.out (fun _ hk => hk.1), hs_⟩
end Go.Proofs.Ytkaongcpekhbdaa.PTreeFresh
