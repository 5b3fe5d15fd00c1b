/- The Go functions as Lean functions, each with the proof that its call comes to just that; written by a program of this session, by the words of the print. -/
import Derived.Test.YtaegmhniepfdaaaPFastFreshx0
import Derived.Test.YtaegmhniepfdaaaPFastFreshx6
import Derived.Test.YtaegmhniepfdaaaPFastFreshx10
import Derived.Test.YtaegmhniepfdaaaPFastFreshx11
namespace Go.Proofs.Ytaegmhniepfdaaa.PFastFresh
open Go.RowKit Go.Proofs.YtaegmhniepfdaaaW.PrintWords Go.Proofs.YtaegmhniepfdaaaW.PrintLast Go.Proofs.YtaegmhniepfdaaaW.PrintMore
attribute [local go_sem] max2_int min2_int max_two min_two max_three min_three max_four min_four   -- for this text's walks alone
set_option linter.unusedVariables false
set_option linter.unusedSimpArgs false
/-! ### fast_reckoner_halves: function 30 -/
mutual
def fast_reckoner_halves.j0 : Nat → List Int → List Int → Bool → Int → Option (List Int)
 | 0, _, _, _, _ => none
 | k + 1, x1, x2, x27, x385000 => if x27 = true then (some ([] : List Int)) else (if 0 ≤ (wrap64 ((wrap64 ((x1.length : Int) + (x2.length : Int))) - 1)) then (if (wrap64 ((wrap64 ((x1.length : Int) + (x2.length : Int))) - 1) : Int).toNat ≤ 35184372088832 then ((some (List.replicate (wrap64 ((wrap64 ((x1.length : Int) + (x2.length : Int))) - 1) : Int).toNat 0 : List Int)).bind fun y385 => (if (mn (x1.length : Int) (x2.length : Int)) ≤ 16 then (fast_reckoner_halves.l0 k x2 y385 x1 (x1.length : Int) 0 x385000) else ((fast_cut.f x1 (wrap64 (Int.tdiv (wrap64 ((mx (x1.length : Int) (x2.length : Int)) + 1)) 2))).bind fun bt394 => ((fast_cut.f x2 (wrap64 (Int.tdiv (wrap64 ((mx (x1.length : Int) (x2.length : Int)) + 1)) 2))).bind fun bt400 => ((fast_reckoner_halves.f k x385000 bt394.1 bt400.1).bind fun t406 => ((fast_reckoner_halves.f k x385000 bt394.2 bt400.2).bind fun t409 => ((fast_reckoner_sum.f k x385000 bt394.1 bt394.2).bind fun t412 => ((fast_reckoner_sum.f k x385000 bt400.1 bt400.2).bind fun t415 => ((fast_reckoner_halves.f k x385000 t412 t415).bind fun t418 => ((fast_reckoner_put_sub.f k x385000 t418 0 t406 x385000).bind fun t421 => ((fast_reckoner_put_sub.f k x385000 t421 0 t409 x385000).bind fun t422 => ((fast_reckoner_put_add.f k x385000 y385 0 t406 x385000).bind fun t423 => ((fast_reckoner_put_add.f k x385000 t423 (wrap64 (2 * (wrap64 (Int.tdiv (wrap64 ((mx (x1.length : Int) (x2.length : Int)) + 1)) 2)))) t409 x385000).bind fun t424 => (if 0 ≤ (mn (t418.length : Int) (wrap64 ((y385.length : Int) - (wrap64 (Int.tdiv (wrap64 ((mx (x1.length : Int) (x2.length : Int)) + 1)) 2))))) then (if (mn (t418.length : Int) (wrap64 ((y385.length : Int) - (wrap64 (Int.tdiv (wrap64 ((mx (x1.length : Int) (x2.length : Int)) + 1)) 2))))) ≤ (t418.length : Int) then ((fast_reckoner_put_add.f k x385000 t424 (wrap64 (Int.tdiv (wrap64 ((mx (x1.length : Int) (x2.length : Int)) + 1)) 2)) (t422.take ((mn (t418.length : Int) (wrap64 ((y385.length : Int) - (wrap64 (Int.tdiv (wrap64 ((mx (x1.length : Int) (x2.length : Int)) + 1)) 2))))) : Int).toNat) x385000).bind fun t429 => (some t429)) else (none)) else (none))))))))))))))) else (none)) else (none))
def fast_reckoner_halves.l0 : Nat → List Int → List Int → List Int → Int → Int → Int → Option (List Int)
 | 0, _, _, _, _, _, _ => none
 | k + 1, x2, x7, x41, x42, x43, x385000 => if x43 < x42 then (if 0 ≤ x43 then (if x43 < (x41.length : Int) then (fast_reckoner_halves.l1 k x2 x7 x43 (rd x41 x43) x41 x42 x43 x2 (x2.length : Int) 0 x385000) else (none)) else (none)) else (some x7)
def fast_reckoner_halves.l1 : Nat → List Int → List Int → Int → Int → List Int → Int → Int → List Int → Int → Int → Int → Option (List Int)
 | 0, _, _, _, _, _, _, _, _, _, _, _ => none
 | k + 1, x2, x7, x8, x9, x41, x42, x43, x48, x49, x50, x385000 => if x50 < x49 then (if 0 ≤ x50 then (if x50 < (x48.length : Int) then (if 0 ≤ (wrap64 (x8 + x50)) then (if (wrap64 (x8 + x50)) < (x7.length : Int) then ((fast_reckoner_mul.f k x385000 x9 (rd x48 x50)).bind fun t391 => ((fast_reckoner_add.f k x385000 (rd x7 (wrap64 (x8 + x50))) t391).bind fun t392 => (fast_reckoner_halves.l1 k x2 (x7.set ((wrap64 (x8 + x50)) : Int).toNat t392) x8 x9 x41 x42 x43 x48 x49 (wrap64 (x50 + 1)) x385000))) else (none)) else (none)) else (none)) else (none)) else (fast_reckoner_halves.l0 k x2 x7 x41 x42 (wrap64 (x43 + 1)) x385000)
def fast_reckoner_halves.f : Nat → Int → List Int → List Int → Option (List Int)
 | 0, _, _, _ => none
 | k + 1, a0_0, l1, l2 => if (l1.length : Int) = 0 then (fast_reckoner_halves.j0 k l1 l2 true a0_0) else (fast_reckoner_halves.j0 k l1 l2 ((l2.length : Int) == 0) a0_0)
end
theorem fast_reckoner_halves.mono_l : ∀ k, (∀ y0 y1 y2, LeO (fast_reckoner_halves.f k y0 y1 y2) (fast_reckoner_halves.f (k + 1) y0 y1 y2)) ∧ (∀ y0 y1 y2 y3, LeO (fast_reckoner_halves.j0 k y0 y1 y2 y3) (fast_reckoner_halves.j0 (k + 1) y0 y1 y2 y3)) ∧ (∀ y0 y1 y2 y3 y4 y5, LeO (fast_reckoner_halves.l0 k y0 y1 y2 y3 y4 y5) (fast_reckoner_halves.l0 (k + 1) y0 y1 y2 y3 y4 y5)) ∧ (∀ y0 y1 y2 y3 y4 y5 y6 y7 y8 y9 y10, LeO (fast_reckoner_halves.l1 k y0 y1 y2 y3 y4 y5 y6 y7 y8 y9 y10) (fast_reckoner_halves.l1 (k + 1) y0 y1 y2 y3 y4 y5 y6 y7 y8 y9 y10))
 | 0 => ⟨fun _ _ _ r h => by simp [fast_reckoner_halves.f] at h, fun _ _ _ _ r h => by simp [fast_reckoner_halves.j0] at h, fun _ _ _ _ _ _ r h => by simp [fast_reckoner_halves.l0] at h, fun _ _ _ _ _ _ _ _ _ _ _ r h => by simp [fast_reckoner_halves.l1] at h⟩
 | k + 1 => by
  obtain ⟨ih0, ih1, ih2, ih3⟩ := fast_reckoner_halves.mono_l k
  refine ⟨?_, ?_, ?_, ?_⟩
  ·intro y0 y1 y2
   unfold fast_reckoner_halves.f
   repeat' first
   | (with_reducible exact ih0 _ _ _)
   | (with_reducible exact ih1 _ _ _ _)
   | (with_reducible exact ih2 _ _ _ _ _ _)
   | (with_reducible exact ih3 _ _ _ _ _ _ _ _ _ _ _)
   | (with_reducible exact fast_reckoner_add.mono _ _ _ _)
   | (with_reducible exact fast_reckoner_mul.mono _ _ _ _)
   | (with_reducible exact fast_reckoner_put_add.mono _ _ _ _ _ _)
   | (with_reducible exact fast_reckoner_put_sub.mono _ _ _ _ _ _)
   | (with_reducible exact fast_reckoner_sum.mono _ _ _ _)
   | (with_reducible exact LeO.refl _)
   | (with_reducible exact LeO.none _)
   | (with_reducible refine LeO.ite ?_ ?_)
   | (with_reducible refine LeO.bind ?_ (fun _ => ?_))
   | exact ih0 _ _ _
   | exact ih1 _ _ _ _
   | exact ih2 _ _ _ _ _ _
   | exact ih3 _ _ _ _ _ _ _ _ _ _ _
   | exact fast_reckoner_add.mono _ _ _ _
   | exact fast_reckoner_mul.mono _ _ _ _
   | exact fast_reckoner_put_add.mono _ _ _ _ _ _
   | exact fast_reckoner_put_sub.mono _ _ _ _ _ _
   | exact fast_reckoner_sum.mono _ _ _ _
   | exact LeO.none _
   | refine LeO.ite ?_ ?_
   | refine LeO.bind ?_ (fun _ => ?_)
  ·intro y0 y1 y2 y3
   unfold fast_reckoner_halves.j0
   repeat' first
   | (with_reducible exact ih0 _ _ _)
   | (with_reducible exact ih1 _ _ _ _)
   | (with_reducible exact ih2 _ _ _ _ _ _)
   | (with_reducible exact ih3 _ _ _ _ _ _ _ _ _ _ _)
   | (with_reducible exact fast_reckoner_add.mono _ _ _ _)
   | (with_reducible exact fast_reckoner_mul.mono _ _ _ _)
   | (with_reducible exact fast_reckoner_put_add.mono _ _ _ _ _ _)
   | (with_reducible exact fast_reckoner_put_sub.mono _ _ _ _ _ _)
   | (with_reducible exact fast_reckoner_sum.mono _ _ _ _)
   | (with_reducible exact LeO.refl _)
   | (with_reducible exact LeO.none _)
   | (with_reducible refine LeO.ite ?_ ?_)
   | (with_reducible refine LeO.bind ?_ (fun _ => ?_))
   | exact ih0 _ _ _
   | exact ih1 _ _ _ _
   | exact ih2 _ _ _ _ _ _
   | exact ih3 _ _ _ _ _ _ _ _ _ _ _
   | exact fast_reckoner_add.mono _ _ _ _
   | exact fast_reckoner_mul.mono _ _ _ _
   | exact fast_reckoner_put_add.mono _ _ _ _ _ _
   | exact fast_reckoner_put_sub.mono _ _ _ _ _ _
   | exact fast_reckoner_sum.mono _ _ _ _
   | exact LeO.none _
   | refine LeO.ite ?_ ?_
   | refine LeO.bind ?_ (fun _ => ?_)
  ·intro y0 y1 y2 y3 y4 y5
   unfold fast_reckoner_halves.l0
   repeat' first
   | (with_reducible exact ih0 _ _ _)
   | (with_reducible exact ih1 _ _ _ _)
   | (with_reducible exact ih2 _ _ _ _ _ _)
   | (with_reducible exact ih3 _ _ _ _ _ _ _ _ _ _ _)
   | (with_reducible exact fast_reckoner_add.mono _ _ _ _)
   | (with_reducible exact fast_reckoner_mul.mono _ _ _ _)
   | (with_reducible exact fast_reckoner_put_add.mono _ _ _ _ _ _)
   | (with_reducible exact fast_reckoner_put_sub.mono _ _ _ _ _ _)
   | (with_reducible exact fast_reckoner_sum.mono _ _ _ _)
   | (with_reducible exact LeO.refl _)
   | (with_reducible exact LeO.none _)
   | (with_reducible refine LeO.ite ?_ ?_)
   | (with_reducible refine LeO.bind ?_ (fun _ => ?_))
   | exact ih0 _ _ _
   | exact ih1 _ _ _ _
   | exact ih2 _ _ _ _ _ _
   | exact ih3 _ _ _ _ _ _ _ _ _ _ _
   | exact fast_reckoner_add.mono _ _ _ _
   | exact fast_reckoner_mul.mono _ _ _ _
   | exact fast_reckoner_put_add.mono _ _ _ _ _ _
   | exact fast_reckoner_put_sub.mono _ _ _ _ _ _
   | exact fast_reckoner_sum.mono _ _ _ _
   | exact LeO.none _
   | refine LeO.ite ?_ ?_
   | refine LeO.bind ?_ (fun _ => ?_)
  ·intro y0 y1 y2 y3 y4 y5 y6 y7 y8 y9 y10
   unfold fast_reckoner_halves.l1
   repeat' first
   | (with_reducible exact ih0 _ _ _)
   | (with_reducible exact ih1 _ _ _ _)
   | (with_reducible exact ih2 _ _ _ _ _ _)
   | (with_reducible exact ih3 _ _ _ _ _ _ _ _ _ _ _)
   | (with_reducible exact fast_reckoner_add.mono _ _ _ _)
   | (with_reducible exact fast_reckoner_mul.mono _ _ _ _)
   | (with_reducible exact fast_reckoner_put_add.mono _ _ _ _ _ _)
   | (with_reducible exact fast_reckoner_put_sub.mono _ _ _ _ _ _)
   | (with_reducible exact fast_reckoner_sum.mono _ _ _ _)
   | (with_reducible exact LeO.refl _)
   | (with_reducible exact LeO.none _)
   | (with_reducible refine LeO.ite ?_ ?_)
   | (with_reducible refine LeO.bind ?_ (fun _ => ?_))
   | exact ih0 _ _ _
   | exact ih1 _ _ _ _
   | exact ih2 _ _ _ _ _ _
   | exact ih3 _ _ _ _ _ _ _ _ _ _ _
   | exact fast_reckoner_add.mono _ _ _ _
   | exact fast_reckoner_mul.mono _ _ _ _
   | exact fast_reckoner_put_add.mono _ _ _ _ _ _
   | exact fast_reckoner_put_sub.mono _ _ _ _ _ _
   | exact fast_reckoner_sum.mono _ _ _ _
   | exact LeO.none _
   | refine LeO.ite ?_ ?_
   | refine LeO.bind ?_ (fun _ => ?_)
theorem fast_reckoner_halves.mono : ∀ a0 a1 a2 k, LeO (fast_reckoner_halves.f k a0 a1 a2) (fast_reckoner_halves.f (k + 1) a0 a1 a2) := by
 intro a0 a1 a2 k
 obtain ⟨ih0, ih1, ih2, ih3⟩ := fast_reckoner_halves.mono_l k
 exact ih0 a0 a1 a2
def fast_reckoner_halves.T11 : Bool × List (List Nat × List Nat) := (true, [([], []), ([], []), ([], []), ([1, 2], [1, 2]), ([], []), ([], []), ([], []), ([], []), ([6, 7], [6, 7]), ([5, 8], [5, 8]), ([9], [9]), ([], []), ([], []), ([], []), ([11, 12, 13], [11, 12, 13]), ([4, 10, 14, 14], [4, 10, 14]), ([0, 3, 0, 1, 2, 3, 4, 5, 6, 7, 8, 9, 10, 11, 12, 13, 14, 15], [0, 3]), ([16, 15, 15, 0, 1, 2, 3, 4, 5, 6, 7, 8, 9, 10, 11, 12, 13, 14, 15], [15, 16])])
def fast_reckoner_halves.B11 : List Nat := [0, 0, 0, 6, 0, 0, 0, 0, 192, 480, 992, 0, 0, 0, 14336, 32752, 65535, 131071]
theorem fast_reckoner_halves.tab11 : rtab .any (opsOf Try.f30 11) = fast_reckoner_halves.T11 := by kernel_rfl
theorem fast_reckoner_halves.bits11 : waitsOk fast_reckoner_halves.T11.2 fast_reckoner_halves.B11 = true := by kernel_rfl
def fast_reckoner_halves.T18 : Bool × List (List Nat × List Nat) := (true, [([], []), ([], []), ([], []), ([0, 1, 2], [0, 1, 2]), ([], []), ([], []), ([], []), ([4, 5, 6, 3], [4, 5, 6]), ([3, 7, 0, 1, 2, 3], [3]), ([7, 8, 0, 1, 2, 3, 4, 5, 6, 7, 8], [7])])
def fast_reckoner_halves.B18 : List Nat := [0, 0, 0, 7, 0, 0, 0, 127, 255, 511]
theorem fast_reckoner_halves.tab18 : rtab .any (opsOf Try.f30 18) = fast_reckoner_halves.T18 := by kernel_rfl
theorem fast_reckoner_halves.bits18 : waitsOk fast_reckoner_halves.T18.2 fast_reckoner_halves.B18 = true := by kernel_rfl
def fast_reckoner_halves.T19 : Bool × List (List Nat × List Nat) := (true, [([], []), ([], []), ([], []), ([], []), ([1, 2, 3], [1, 2, 3]), ([], []), ([], []), ([], []), ([5, 6, 7, 4], [5, 6, 7]), ([0, 4, 8, 8], [0, 4, 8]), ([9, 9, 0, 1, 2, 3, 4, 5, 6, 7, 8, 9], [9])])
def fast_reckoner_halves.B19 : List Nat := [0, 0, 0, 0, 14, 0, 0, 0, 254, 511, 1023]
theorem fast_reckoner_halves.tab19 : rtab .any (opsOf Try.f30 19) = fast_reckoner_halves.T19 := by kernel_rfl
theorem fast_reckoner_halves.bits19 : waitsOk fast_reckoner_halves.T19.2 fast_reckoner_halves.B19 = true := by kernel_rfl
def fast_reckoner_halves.T24 : Bool × List (List Nat × List Nat) := (true, [([], []), ([], []), ([], []), ([], []), ([], []), ([4], [4]), ([], []), ([6], [6]), ([], []), ([7, 8], [7, 8]), ([5, 9], [5, 9]), ([3, 10], [3, 10]), ([], []), ([12], [12]), ([0, 1, 2, 11, 13], [0, 1, 2, 11, 13])])
def fast_reckoner_halves.B24 : List Nat := [0, 0, 0, 0, 0, 16, 0, 64, 0, 448, 1008, 2040, 0, 4096, 16383]
theorem fast_reckoner_halves.tab24 : rtab .any (opsOf Try.f30 24) = fast_reckoner_halves.T24 := by kernel_rfl
theorem fast_reckoner_halves.bits24 : waitsOk fast_reckoner_halves.T24.2 fast_reckoner_halves.B24 = true := by kernel_rfl
set_option maxHeartbeats 8000000 in
set_option maxRecDepth 100000 in
theorem fast_reckoner_halves.calls (k : Nat) : ∀ (a0_0 : Int) (A1 : Option Addr) (c1 : Nat) (l1 : List Int) (A2 : Option Addr) (c2 : Nat) (l2 : List Int) (r : List Int) (w : World) (hr1 : Kd.C (Kd.int .u64) w A1 l1.length l1) (hc1 : l1.length ≤ c1) (hr2 : Kd.C (Kd.int .u64) w A2 l2.length l2) (hc2 : l2.length ≤ c2) (h : fast_reckoner_halves.f k a0_0 l1 l2 = some r),
  Calls Try.prog 30 #[.agg #[.int .u8 a0_0], .slice A1 l1.length c1, .slice A2 l2.length c2] w fun e w' => ∃ v0_ : Value, e = .returned (v0_) ∧ Kd.R (Kd.int .u64) 33 w' w.heap.size (fun _ => True) v0_ r ∧ Below w.heap.size w w' := by
 induction k using Nat.strongRecOn with
 | _ k ih =>
 intro a0_0 A1 c1 l1 A2 c2 l2 r w hr1 hc1 hr2 hc2 h
 cases k with
 | zero => exact absurd h (by simp [fast_reckoner_halves.f])
 | succ k =>
 simp only [fast_reckoner_halves.f] at h
 have hu47 := Try.underlying47
 have HR1 := Aside0.mk hr1
 have HC1 := Aside0.mk hc1
 clear hr1 hc1
 have HR2 := Aside0.mk hr2
 have HC2 := Aside0.mk hc2
 clear hr2 hc2
 have HB := A_ (Below.refl w.heap.size w)
 have H : (if (l1.length : Int) = 0 then (fast_reckoner_halves.j0 k l1 l2 true a0_0) else (fast_reckoner_halves.j0 k l1 l2 ((l2.length : Int) == 0) a0_0)) = some r := h
 clear h
 have HC4 := Aside0.mk H
 clear H
 go_enter Try.func30, Try.ntmps30
 go_upto_region 1 with (first | ((with_reducible refine gate_dst (N := 3) rfl ?_); (try (refine gate_guard (by rfl) ?_; dsimp only)); refine box_event ?hg (N := 3) ?hd (cs := #[.int .u8 a0_0]) (t := 47) ?hr ?_; (case hd => rfl); (case hg => rfl); (case hr => first | (go_simp; done) | (go_simp; rfl)); intro gb384 hg w5 hbox hb; have n0_ := A_ (below_step hb_ hb); have n1_ := A_ (hbox); have n2_ := A_ ((by rw [hg]; exact (below_size hb_) : w.heap.size ≤ gb384)); have n3_ := A_ ((by rw [hg]; exact (below_size hb_) : w.heap.size ≤ gb384)); clear HB; have HB := n0_; have BK384 := n1_; have GW384 := n2_; have GE384 := n3_; clear n0_ n1_ n2_ n3_; clear hb hbox hg))
 (try simp only [Act.put, List.setIfInBounds_toArray, List.set_cons_zero, List.set_cons_succ])
 go_cut [27] (fun v27 wc => ∃ (kq : Nat) (x27_3 : Bool), v27 = .bool x27_3 ∧ Aside0 (fast_reckoner_halves.j0 kq l1 l2 x27_3 a0_0 = some r) ∧ Aside0 (kq ≤ k) ∧ Aside0 (wc.heap[gb384]? = some (.cells #[.int .u8 a0_0] 47 (0, 0))) ∧ Aside0 (Below w.heap.size w wc))
 case first =>
  have H := HC4.out
  clear HC4
  by_cases c6 : (l1.length : Int) = 0
  ·rw [if_pos c6] at H
   have c6b0 : ((l1.length : Int) == 0) = true := beq_iff_eq.mpr c6
   have c6b1 : ((l1.length : Int) != 0) = false := bne_eq_false_iff_eq.mpr c6
   clear c6
   (first | rw [c6b0] | rw [c6b1] | (simp only [i64_w, i32_w]; first | rw [c6b0] | rw [c6b1]) | skip)
   have H' := Aside0.mk H
   clear H
   go_wp2
   go_meet
   case rel => exact ⟨_, (true), (fs_), H', ⟨fo_⟩, ⟨mb_ BK384.out⟩, ⟨hs_⟩⟩
  ·rw [if_neg c6] at H
   have c6b0 : ((l1.length : Int) == 0) = false := beq_eq_false_iff_ne.mpr c6
   have c6b1 : ((l1.length : Int) != 0) = true := bne_iff_ne.mpr c6
   have c6b2 : ¬ (l1 = []) := fun h_ => c6 (by rw [h_]; rfl)
   (first | rw [c6b0] | rw [c6b1] | (simp only [i64_w, i32_w]; first | rw [c6b0] | rw [c6b1]) | skip)
   have H' := Aside0.mk H
   clear H
   go_wp2
   go_meet
   case rel => exact ⟨_, (((l2.length : Int) == 0)), (fs_), H', ⟨fo_⟩, ⟨mb_ BK384.out⟩, ⟨hs_⟩⟩
 case rest =>
  clear HC4
  try clear c1
  try clear c2
  try clear p2
  try clear c3
  try clear c6
  try clear c6b0
  try clear c6b1
  try clear c6b2
  obtain ⟨kq, x27_3, rfl, HA, HJ3, BK384, HB⟩ := hcut
  cases kq with
  | zero => exact absurd HA.out (by simp [fast_reckoner_halves.j0])
  | succ kj3 =>
   have H := HA.out
   clear HA
   simp only [fast_reckoner_halves.j0] at H
   by_cases c7 : x27_3 = true
   ·subst c7
    have H1 : (some ([] : List Int)) = some r := by rw [if_pos rfl] at H; exact H
    clear H
    have H := H1
    clear H1
    obtain rfl := Option.some.inj H
    go_wp2
    go_ret
    exact ⟨_, fr_, by first | exact Kd.R_nil _ _ _ _ _ | exact Kd.N_nil _ _ _ _ _ | exact Kd.V_nil _ _ _ _ _ | exact Kd.Q_nil _ _ _ _ _ | exact Kd.S_nil _ _ _ _ _, hs_⟩
   ·replace c7 := Bool.eq_false_iff.mpr c7
    subst c7
    have H1 : (if 0 ≤ (wrap64 ((wrap64 ((l1.length : Int) + (l2.length : Int))) - 1)) then (if (wrap64 ((wrap64 ((l1.length : Int) + (l2.length : Int))) - 1) : Int).toNat ≤ 35184372088832 then ((some (List.replicate (wrap64 ((wrap64 ((l1.length : Int) + (l2.length : Int))) - 1) : Int).toNat 0 : List Int)).bind fun y385 => (if (mn (l1.length : Int) (l2.length : Int)) ≤ 16 then (fast_reckoner_halves.l0 kj3 l2 y385 l1 (l1.length : Int) 0 a0_0) else ((fast_cut.f l1 (wrap64 (Int.tdiv (wrap64 ((mx (l1.length : Int) (l2.length : Int)) + 1)) 2))).bind fun bt394 => ((fast_cut.f l2 (wrap64 (Int.tdiv (wrap64 ((mx (l1.length : Int) (l2.length : Int)) + 1)) 2))).bind fun bt400 => ((fast_reckoner_halves.f kj3 a0_0 bt394.1 bt400.1).bind fun t406 => ((fast_reckoner_halves.f kj3 a0_0 bt394.2 bt400.2).bind fun t409 => ((fast_reckoner_sum.f kj3 a0_0 bt394.1 bt394.2).bind fun t412 => ((fast_reckoner_sum.f kj3 a0_0 bt400.1 bt400.2).bind fun t415 => ((fast_reckoner_halves.f kj3 a0_0 t412 t415).bind fun t418 => ((fast_reckoner_put_sub.f kj3 a0_0 t418 0 t406 a0_0).bind fun t421 => ((fast_reckoner_put_sub.f kj3 a0_0 t421 0 t409 a0_0).bind fun t422 => ((fast_reckoner_put_add.f kj3 a0_0 y385 0 t406 a0_0).bind fun t423 => ((fast_reckoner_put_add.f kj3 a0_0 t423 (wrap64 (2 * (wrap64 (Int.tdiv (wrap64 ((mx (l1.length : Int) (l2.length : Int)) + 1)) 2)))) t409 a0_0).bind fun t424 => (if 0 ≤ (mn (t418.length : Int) (wrap64 ((y385.length : Int) - (wrap64 (Int.tdiv (wrap64 ((mx (l1.length : Int) (l2.length : Int)) + 1)) 2))))) then (if (mn (t418.length : Int) (wrap64 ((y385.length : Int) - (wrap64 (Int.tdiv (wrap64 ((mx (l1.length : Int) (l2.length : Int)) + 1)) 2))))) ≤ (t418.length : Int) then ((fast_reckoner_put_add.f kj3 a0_0 t424 (wrap64 (Int.tdiv (wrap64 ((mx (l1.length : Int) (l2.length : Int)) + 1)) 2)) (t422.take ((mn (t418.length : Int) (wrap64 ((y385.length : Int) - (wrap64 (Int.tdiv (wrap64 ((mx (l1.length : Int) (l2.length : Int)) + 1)) 2))))) : Int).toNat) a0_0).bind fun t429 => (some t429)) else (none)) else (none))))))))))))))) else (none)) else (none)) = some r := by rw [if_neg (show ¬ (false = true) by decide)] at H; exact H
    clear H
    have H := H1
    clear H1
    obtain ⟨ji8, hji8⟩ : ∃ j_ : Int, (wrap64 ((wrap64 ((l1.length : Int) + (l2.length : Int))) - 1)) = j_ := ⟨_, rfl⟩
    replace H : (if 0 ≤ (ji8) then (if (ji8 : Int).toNat ≤ 35184372088832 then ((some (List.replicate (ji8 : Int).toNat 0 : List Int)).bind fun y385 => (if (mn (l1.length : Int) (l2.length : Int)) ≤ 16 then (fast_reckoner_halves.l0 kj3 l2 y385 l1 (l1.length : Int) 0 a0_0) else ((fast_cut.f l1 (wrap64 (Int.tdiv (wrap64 ((mx (l1.length : Int) (l2.length : Int)) + 1)) 2))).bind fun bt394 => ((fast_cut.f l2 (wrap64 (Int.tdiv (wrap64 ((mx (l1.length : Int) (l2.length : Int)) + 1)) 2))).bind fun bt400 => ((fast_reckoner_halves.f kj3 a0_0 bt394.1 bt400.1).bind fun t406 => ((fast_reckoner_halves.f kj3 a0_0 bt394.2 bt400.2).bind fun t409 => ((fast_reckoner_sum.f kj3 a0_0 bt394.1 bt394.2).bind fun t412 => ((fast_reckoner_sum.f kj3 a0_0 bt400.1 bt400.2).bind fun t415 => ((fast_reckoner_halves.f kj3 a0_0 t412 t415).bind fun t418 => ((fast_reckoner_put_sub.f kj3 a0_0 t418 0 t406 a0_0).bind fun t421 => ((fast_reckoner_put_sub.f kj3 a0_0 t421 0 t409 a0_0).bind fun t422 => ((fast_reckoner_put_add.f kj3 a0_0 y385 0 t406 a0_0).bind fun t423 => ((fast_reckoner_put_add.f kj3 a0_0 t423 (wrap64 (2 * (wrap64 (Int.tdiv (wrap64 ((mx (l1.length : Int) (l2.length : Int)) + 1)) 2)))) t409 a0_0).bind fun t424 => (if 0 ≤ (mn (t418.length : Int) (wrap64 ((y385.length : Int) - (wrap64 (Int.tdiv (wrap64 ((mx (l1.length : Int) (l2.length : Int)) + 1)) 2))))) then (if (mn (t418.length : Int) (wrap64 ((y385.length : Int) - (wrap64 (Int.tdiv (wrap64 ((mx (l1.length : Int) (l2.length : Int)) + 1)) 2))))) ≤ (t418.length : Int) then ((fast_reckoner_put_add.f kj3 a0_0 t424 (wrap64 (Int.tdiv (wrap64 ((mx (l1.length : Int) (l2.length : Int)) + 1)) 2)) (t422.take ((mn (t418.length : Int) (wrap64 ((y385.length : Int) - (wrap64 (Int.tdiv (wrap64 ((mx (l1.length : Int) (l2.length : Int)) + 1)) 2))))) : Int).toNat) a0_0).bind fun t429 => (some t429)) else (none)) else (none))))))))))))))) else (none)) else (none)) = some r := by first | (rw [hji8] at H; exact H) | (simp only [hji8] at H ⊢; exact H)
    have hji8w : (IntKind.i64.wrap ((wrap64 ((l1.length : Int) + (l2.length : Int))) - 1)) = ji8 := (i64_w _).trans hji8
    by_cases c9 : 0 ≤ (ji8)
    ·rw [if_pos c9] at H
     have c9b0 := eq_true c9
     have c9b1 : decide (0 ≤ (ji8)) = true := decide_eq_true c9
     clear c9
     by_cases c10 : (ji8 : Int).toNat ≤ 35184372088832
     ·rw [if_pos c10] at H
      have c10b0 := eq_true c10
      have c10b1 : decide ((ji8 : Int).toNat ≤ 35184372088832) = true := decide_eq_true c10
      clear c10
      obtain ⟨y385, hy385⟩ : ∃ y_ : List Int, y_ = (List.replicate (ji8 : Int).toNat 0) := ⟨_, rfl⟩
      replace H : (if (mn (l1.length : Int) (l2.length : Int)) ≤ 16 then (fast_reckoner_halves.l0 kj3 l2 y385 l1 (l1.length : Int) 0 a0_0) else ((fast_cut.f l1 (wrap64 (Int.tdiv (wrap64 ((mx (l1.length : Int) (l2.length : Int)) + 1)) 2))).bind fun bt394 => ((fast_cut.f l2 (wrap64 (Int.tdiv (wrap64 ((mx (l1.length : Int) (l2.length : Int)) + 1)) 2))).bind fun bt400 => ((fast_reckoner_halves.f kj3 a0_0 bt394.1 bt400.1).bind fun t406 => ((fast_reckoner_halves.f kj3 a0_0 bt394.2 bt400.2).bind fun t409 => ((fast_reckoner_sum.f kj3 a0_0 bt394.1 bt394.2).bind fun t412 => ((fast_reckoner_sum.f kj3 a0_0 bt400.1 bt400.2).bind fun t415 => ((fast_reckoner_halves.f kj3 a0_0 t412 t415).bind fun t418 => ((fast_reckoner_put_sub.f kj3 a0_0 t418 0 t406 a0_0).bind fun t421 => ((fast_reckoner_put_sub.f kj3 a0_0 t421 0 t409 a0_0).bind fun t422 => ((fast_reckoner_put_add.f kj3 a0_0 y385 0 t406 a0_0).bind fun t423 => ((fast_reckoner_put_add.f kj3 a0_0 t423 (wrap64 (2 * (wrap64 (Int.tdiv (wrap64 ((mx (l1.length : Int) (l2.length : Int)) + 1)) 2)))) t409 a0_0).bind fun t424 => (if 0 ≤ (mn (t418.length : Int) (wrap64 ((y385.length : Int) - (wrap64 (Int.tdiv (wrap64 ((mx (l1.length : Int) (l2.length : Int)) + 1)) 2))))) then (if (mn (t418.length : Int) (wrap64 ((y385.length : Int) - (wrap64 (Int.tdiv (wrap64 ((mx (l1.length : Int) (l2.length : Int)) + 1)) 2))))) ≤ (t418.length : Int) then ((fast_reckoner_put_add.f kj3 a0_0 t424 (wrap64 (Int.tdiv (wrap64 ((mx (l1.length : Int) (l2.length : Int)) + 1)) 2)) (t422.take ((mn (t418.length : Int) (wrap64 ((y385.length : Int) - (wrap64 (Int.tdiv (wrap64 ((mx (l1.length : Int) (l2.length : Int)) + 1)) 2))))) : Int).toNat) a0_0).bind fun t429 => (some t429)) else (none)) else (none)))))))))))))) = some r := by first | (rw [hy385]; with_reducible exact H) | (have H2_ := (Option.bind_some _ _).symm.trans H; rw [hy385]; with_reducible exact H2_) | (have H2_ := (Option.bind_some _ _).symm.trans H; with_reducible exact H2_) | with_reducible exact H | (rw [hy385]; exact H) | exact H
      have Ny385 := Aside0.mk hy385
      clear hy385
      obtain ⟨ji11, hji11⟩ : ∃ j_ : Int, (mn (l1.length : Int) (l2.length : Int)) = j_ := ⟨_, rfl⟩
      replace H : (if (ji11) ≤ 16 then (fast_reckoner_halves.l0 kj3 l2 y385 l1 (l1.length : Int) 0 a0_0) else ((fast_cut.f l1 (wrap64 (Int.tdiv (wrap64 ((mx (l1.length : Int) (l2.length : Int)) + 1)) 2))).bind fun bt394 => ((fast_cut.f l2 (wrap64 (Int.tdiv (wrap64 ((mx (l1.length : Int) (l2.length : Int)) + 1)) 2))).bind fun bt400 => ((fast_reckoner_halves.f kj3 a0_0 bt394.1 bt400.1).bind fun t406 => ((fast_reckoner_halves.f kj3 a0_0 bt394.2 bt400.2).bind fun t409 => ((fast_reckoner_sum.f kj3 a0_0 bt394.1 bt394.2).bind fun t412 => ((fast_reckoner_sum.f kj3 a0_0 bt400.1 bt400.2).bind fun t415 => ((fast_reckoner_halves.f kj3 a0_0 t412 t415).bind fun t418 => ((fast_reckoner_put_sub.f kj3 a0_0 t418 0 t406 a0_0).bind fun t421 => ((fast_reckoner_put_sub.f kj3 a0_0 t421 0 t409 a0_0).bind fun t422 => ((fast_reckoner_put_add.f kj3 a0_0 y385 0 t406 a0_0).bind fun t423 => ((fast_reckoner_put_add.f kj3 a0_0 t423 (wrap64 (2 * (wrap64 (Int.tdiv (wrap64 ((mx (l1.length : Int) (l2.length : Int)) + 1)) 2)))) t409 a0_0).bind fun t424 => (if 0 ≤ (mn (t418.length : Int) (wrap64 ((y385.length : Int) - (wrap64 (Int.tdiv (wrap64 ((mx (l1.length : Int) (l2.length : Int)) + 1)) 2))))) then (if (mn (t418.length : Int) (wrap64 ((y385.length : Int) - (wrap64 (Int.tdiv (wrap64 ((mx (l1.length : Int) (l2.length : Int)) + 1)) 2))))) ≤ (t418.length : Int) then ((fast_reckoner_put_add.f kj3 a0_0 t424 (wrap64 (Int.tdiv (wrap64 ((mx (l1.length : Int) (l2.length : Int)) + 1)) 2)) (t422.take ((mn (t418.length : Int) (wrap64 ((y385.length : Int) - (wrap64 (Int.tdiv (wrap64 ((mx (l1.length : Int) (l2.length : Int)) + 1)) 2))))) : Int).toNat) a0_0).bind fun t429 => (some t429)) else (none)) else (none)))))))))))))) = some r := by first | (rw [hji11] at H; exact H) | (simp only [hji11] at H ⊢; exact H)
      have hji11N : (if l2.length < l1.length then (l2.length : Int) else (l1.length : Int)) = ji11 := by have h_ := hji11; unfold mn at h_; simp only [Int.ofNat_lt] at h_; exact h_
      have hji11_ : (if (l2.length : Int) < (l1.length : Int) then (l2.length : Int) else (l1.length : Int)) = ji11 := hji11
      by_cases c12 : (ji11) ≤ 16
      ·rw [if_pos c12] at H
       have c12b0 : decide ((ji11) ≤ 16) = true := decide_eq_true c12
       clear c12
       have H' := Aside0.mk H
       clear H
       go_wp2_with (first | ((with_reducible refine gate_dst (N := 34) rfl ?_); (try (refine gate_guard (by rfl) ?_; dsimp only)); refine Kd.R_make (Kd.int .u64) _ 33 rfl (N := 34) rfl 22 _ _ rfl ji8 rfl rfl Try.underlying22 (.int .u64 0) 8 info33 rfl (by decide) (by omega) 0 (ok := fun _ => True) (okp := fun _ => True) rfl (fun _ hk => hk) trivial (of_decide_eq_true (by first | (with_reducible assumption) | assumption)) (Nat.le_trans (Nat.mul_le_mul_right _ (of_decide_eq_true (by first | (with_reducible assumption) | assumption) : ji8.toNat ≤ 35184372088832)) (by omega)) (Below.refl _ _) (Nat.le_refl _) ?_; intro v386 w13 ho14 hb hg_ hnew_; clear hg_ hnew_; (first | rw [← Ny385.out] at ho14 | (simp only [Int.reduceToNat] at ho14; rw [← Ny385.out] at ho14)); have n0_ := A_ (Kd.R_lower ho14 (below_size hs_)); have n1_ := A_ (blk_below (g := gb384) (o := .cells #[.int .u8 a0_0] 47 (0, 0)) (nb_ BK384) hb); have n2_ := A_ (below_step hs_ hb); clear BK384 HB; have HO387 := n0_; have BK384 := n1_; have HB := n2_; clear n0_ n1_ n2_; clear hb ho14))
       go_loopg [43] kj3 (fun kq v43 w' => ∃ (x7_2 : List Int) (x43_2 : Int), v43 = .int .i64 x43_2 ∧ Aside0 (fast_reckoner_halves.l0 kq l2 x7_2 l1 (l1.length : Int) x43_2 a0_0 = some r) ∧ Aside0 (kq ≤ kj3) ∧ Aside0 (Kd.R (Kd.int .u64) 33 w' w.heap.size (fun _ => True) v386 x7_2) ∧ Aside0 (w'.heap[gb384]? = some (.cells #[.int .u8 a0_0] 47 (0, 0))) ∧ Aside0 (Below w.heap.size w w'))
       case atStart => exact ⟨(y385), (0), (fs_), H', ⟨Nat.le_refl _⟩, ⟨mR_ HO387.out⟩, ⟨mb_ BK384.out⟩, ⟨hs_⟩⟩
       case round =>
        clear H'
        try clear c1
        try clear c2
        try clear p2
        try clear c3
        try clear c6
        try clear c6b0
        try clear c6b1
        try clear c6b2
        try clear p6
        try clear c7
        try clear c9
        try clear c9b0
        try clear c9b1
        try clear c10
        try clear c10b0
        try clear c10b1
        try clear c12
        try clear c12b0
        try clear p2
        obtain ⟨x7_2, x43_2, rfl, HA, HK2, HO_7, BK384, HB⟩ := hrel
        cases gk with
        | zero => exact absurd HA.out (by simp [fast_reckoner_halves.l0])
        | succ k2 =>
         have H := HA.out
         clear HA
         simp only [fast_reckoner_halves.l0] at H
         by_cases c15 : x43_2 < (l1.length : Int)
         ·rw [if_pos c15] at H
          have c15b0 : decide (x43_2 < (l1.length : Int)) = true := decide_eq_true c15
          clear c15
          by_cases c16 : 0 ≤ x43_2
          ·rw [if_pos c16] at H
           have c16b0 : decide (0 ≤ x43_2) = true := decide_eq_true c16
           clear c16
           by_cases c17 : x43_2 < (l1.length : Int)
           ·rw [if_pos c17] at H
            have c17b0 : decide (x43_2 < (l1.length : Int)) = true := decide_eq_true c17
            clear c17
            have H' := Aside0.mk H
            clear H
            have p388 : 0 ≤ (x43_2 : Int) := of_decide_eq_true (by first | (with_reducible assumption) | assumption)
            have q388 : x43_2 < (l1.length : Int) := of_decide_eq_true (by first | (with_reducible assumption) | assumption)
            obtain ⟨ad388, e388, hx388_0⟩ := Kd.at_int HR1.out x43_2 p388 q388
            cases e388
            replace hx388_0 := (HB.out.cell (World.block_lt_of_cell? w _ hx388_0)).trans hx388_0
            replace p388 := eq_true p388
            replace q388 := eq_true q388
            go_wp2
            go_loopg [50] k2 (fun kq v50 w' => ∃ (x7_3 : List Int) (x50_3 : Int), v50 = .int .i64 x50_3 ∧ Aside0 (fast_reckoner_halves.l1 kq l2 x7_3 x43_2 (rd l1 x43_2) l1 (l1.length : Int) x43_2 l2 (l2.length : Int) x50_3 a0_0 = some r) ∧ Aside0 (kq ≤ k2) ∧ Aside0 (Kd.R (Kd.int .u64) 33 w' w.heap.size (fun _ => True) v386 x7_3) ∧ Aside0 (w'.heap[gb384]? = some (.cells #[.int .u8 a0_0] 47 (0, 0))) ∧ Aside0 (Below w.heap.size w w'))
            case atStart => exact ⟨(x7_2), (0), (fs_), H', ⟨Nat.le_refl _⟩, ⟨mR_ HO_7.out⟩, ⟨mb_ BK384.out⟩, ⟨hs_⟩⟩
            case round =>
             clear H'
             try clear c1
             try clear c2
             try clear p2
             try clear c3
             try clear p3
             try clear q3
             try clear hx3
             try clear c6
             try clear c6b0
             try clear c6b1
             try clear c6b2
             try clear p6
             try clear c7
             try clear c9
             try clear c9b0
             try clear c9b1
             try clear c10
             try clear c10b0
             try clear c10b1
             try clear c12
             try clear c12b0
             try clear c15
             try clear c15b0
             try clear c16
             try clear c16b0
             try clear c17
             try clear c17b0
             try clear hx388_0
             try clear p2
             try clear p388
             try clear p6
             try clear q388
             obtain ⟨x7_3, x50_3, rfl, HA, HK3, HO_7, BK384, HB⟩ := hrel
             cases gk with
             | zero => exact absurd HA.out (by simp [fast_reckoner_halves.l1])
             | succ k3 =>
              have H := HA.out
              clear HA
              simp only [fast_reckoner_halves.l1] at H
              by_cases c18 : x50_3 < (l2.length : Int)
              ·rw [if_pos c18] at H
               have c18b0 : decide (x50_3 < (l2.length : Int)) = true := decide_eq_true c18
               clear c18
               by_cases c19 : 0 ≤ x50_3
               ·rw [if_pos c19] at H
                have c19b0 : decide (0 ≤ x50_3) = true := decide_eq_true c19
                clear c19
                by_cases c20 : x50_3 < (l2.length : Int)
                ·rw [if_pos c20] at H
                 have c20b0 : decide (x50_3 < (l2.length : Int)) = true := decide_eq_true c20
                 clear c20
                 obtain ⟨ji21, hji21⟩ : ∃ j_ : Int, (wrap64 (x43_2 + x50_3)) = j_ := ⟨_, rfl⟩
                 replace H : (if 0 ≤ (ji21) then (if (ji21) < (x7_3.length : Int) then ((fast_reckoner_mul.f k3 a0_0 (rd l1 x43_2) (rd l2 x50_3)).bind fun t391 => ((fast_reckoner_add.f k3 a0_0 (rd x7_3 (ji21)) t391).bind fun t392 => (fast_reckoner_halves.l1 k3 l2 (x7_3.set ((ji21) : Int).toNat t392) x43_2 (rd l1 x43_2) l1 (l1.length : Int) x43_2 l2 (l2.length : Int) (wrap64 (x50_3 + 1)) a0_0))) else (none)) else (none)) = some r := by first | (rw [hji21] at H; exact H) | (simp only [hji21] at H ⊢; exact H)
                 have hji21w : (IntKind.i64.wrap (x43_2 + x50_3)) = ji21 := (i64_w _).trans hji21
                 by_cases c22 : 0 ≤ (ji21)
                 ·rw [if_pos c22] at H
                  have c22b0 : decide (0 ≤ (ji21)) = true := decide_eq_true c22
                  clear c22
                  by_cases c23 : (ji21) < (x7_3.length : Int)
                  ·rw [if_pos c23] at H
                   have c23b0 : decide ((ji21) < (x7_3.length : Int)) = true := decide_eq_true c23
                   clear c23
                   replace H := Option.bind_eq_some_iff.mp H
                   obtain ⟨t391, A240, H⟩ := H
                   replace H : ((fast_reckoner_add.f k3 a0_0 (rd x7_3 (ji21)) t391).bind fun t392 => (fast_reckoner_halves.l1 k3 l2 (x7_3.set ((ji21) : Int).toNat t392) x43_2 (rd l1 x43_2) l1 (l1.length : Int) x43_2 l2 (l2.length : Int) (wrap64 (x50_3 + 1)) a0_0)) = some r := H
                   have A24 := Aside0.mk A240
                   clear A240
                   replace H := Option.bind_eq_some_iff.mp H
                   obtain ⟨t392, A250, H⟩ := H
                   replace H : (fast_reckoner_halves.l1 k3 l2 (x7_3.set ((ji21) : Int).toNat t392) x43_2 (rd l1 x43_2) l1 (l1.length : Int) x43_2 l2 (l2.length : Int) (wrap64 (x50_3 + 1)) a0_0) = some r := H
                   have A25 := Aside0.mk A250
                   clear A250
                   obtain ⟨y393, hy393⟩ : ∃ y_ : List Int, y_ = (x7_3.set ((ji21) : Int).toNat t392) := ⟨_, rfl⟩
                   replace H : (fast_reckoner_halves.l1 k3 l2 y393 x43_2 (rd l1 x43_2) l1 (l1.length : Int) x43_2 l2 (l2.length : Int) (wrap64 (x50_3 + 1)) a0_0) = some r := by first | (rw [hy393]; with_reducible exact H) | (have H2_ := (Option.bind_some _ _).symm.trans H; rw [hy393]; with_reducible exact H2_) | (have H2_ := (Option.bind_some _ _).symm.trans H; with_reducible exact H2_) | with_reducible exact H | (rw [hy393]; exact H) | exact H
                   have Ny393 := Aside0.mk hy393
                   clear hy393
                   have H' := Aside0.mk H
                   clear H
                   have p389 : 0 ≤ (x50_3 : Int) := of_decide_eq_true (by first | (with_reducible assumption) | assumption)
                   have q389 : x50_3 < (l2.length : Int) := of_decide_eq_true (by first | (with_reducible assumption) | assumption)
                   obtain ⟨ad389, e389, hx389_0⟩ := Kd.at_int HR2.out x50_3 p389 q389
                   cases e389
                   replace hx389_0 := (HB.out.cell (World.block_lt_of_cell? w _ hx389_0)).trans hx389_0
                   replace p389 := eq_true p389
                   replace q389 := eq_true q389
                   try go_wp2
                   have n0_ := A_ (Kd.R_drew HO_7.out)
                   have n1_ := A_ (blk_drew BK384.out)
                   have n2_ := A_ (below_drew1 HB.out)
                   clear HO_7
                   clear BK384
                   clear HB
                   have HO_7 := n0_
                   have BK384 := n1_
                   have HB := n2_
                   clear n0_ n1_ n2_
                   obtain ⟨Ao28, co28, eo28⟩ := Kd.R_slice HO_7.out
                   (first | subst eo28 | (injection eo28 with f1_ f2_ f3_; have f4_ := f1_.symm; have f5_ := f3_.symm; clear f1_ f2_ f3_; subst f4_; subst f5_))
                   have p390 : 0 ≤ ((ji21) : Int) := of_decide_eq_true (by first | (with_reducible assumption) | assumption)
                   have q390 : (ji21) < (x7_3.length : Int) := of_decide_eq_true (by first | (with_reducible assumption) | assumption)
                   obtain ⟨ad390, e390, hx390_0⟩ := Kd.at_int (Kd.R_reads' HO_7.out).2.2 (ji21) p390 q390
                   cases e390
                   replace p390 := eq_true p390
                   replace q390 := eq_true q390
                   refine start_ (n := 18) (S := fun w' => w'.cell? ⟨gb384, 0, none⟩ = some (.int .u8 a0_0) ∧ w'.cell? (ad390.add ((ji21)).toNat) = some (.int .u64 (rd x7_3 (ji21)))) (ds := [17]) #[false, false, false, false, false, false, false, false, false, false, false, false, false, false, false, false, false, false] (by kernel_rfl) rfl rfl ⟨(blk_cell BK384.out 0).trans rfl, hx390_0⟩ (fun hHeld => ?_); refine with_tabW fast_reckoner_halves.tab11 fast_reckoner_halves.bits11 (fun HT_ HW_ => ?_)
                   generalize wr.drew = w27 at HO_7 BK384 HB hx390_0 hHeld ⊢
                   refine pure_ (i := 0) (N := some 55) (v := ?_) (a' := ?_) #[true, false, false, false, false, false, false, false, false, false, false, false, false, false, false, false, false, false] rfl rfl (any_of HT_.out (by kernel_rfl)) (fun _ _ _ h => h) (Or.inl ⟨by rfl, ?_⟩) ?_ ?_
                   rotate_left
                   ·intro w'
                    go_simp
                    with_reducible rfl
                   rotate_left
                   ·simp only [Act.put, List.setIfInBounds_toArray, List.set_cons_zero, List.set_cons_succ, i64_w, i32_w]
                    rfl
                   refine pure_ (i := 1) (N := some 56) (v := ?_) (a' := ?_) #[true, true, false, false, false, false, false, false, false, false, false, false, false, false, false, false, false, false] rfl rfl (any_of HT_.out (by kernel_rfl)) (fun _ _ _ h => h) (Or.inl ⟨by rfl, ?_⟩) ?_ ?_
                   rotate_left
                   ·intro w'
                    go_simp
                    with_reducible rfl
                   rotate_left
                   ·simp only [Act.put, List.setIfInBounds_toArray, List.set_cons_zero, List.set_cons_succ, i64_w, i32_w]
                    rfl
                   refine pure_ (i := 2) (N := some 57) (v := ?_) (a' := ?_) #[true, true, true, false, false, false, false, false, false, false, false, false, false, false, false, false, false, false] rfl rfl (any_of HT_.out (by kernel_rfl)) (fun _ _ _ h => h) (Or.inl ⟨by rfl, ?_⟩) ?_ ?_
                   rotate_left
                   ·intro w'
                    go_simp
                    with_reducible rfl
                   rotate_left
                   ·simp only [Act.put, List.setIfInBounds_toArray, List.set_cons_zero, List.set_cons_succ, i64_w, i32_w]
                    rfl
                   refine pure_ (i := 3) (N := some 58) (v := ?_) (a' := ?_) #[true, true, true, true, false, false, false, false, false, false, false, false, false, false, false, false, false, false] rfl rfl (any_of HT_.out (by kernel_rfl)) (fun _ _ _ h => h) (Or.inl ⟨by rfl, ?_⟩) ?_ ?_
                   rotate_left
                   ·intro w'
                    go_simp
                    with_reducible rfl
                   rotate_left
                   ·simp only [Act.put, List.setIfInBounds_toArray, List.set_cons_zero, List.set_cons_succ, i64_w, i32_w]
                    rfl
                   refine pure_ (i := 5) (N := some 60) (v := ?_) (a' := ?_) #[true, true, true, true, false, true, false, false, false, false, false, false, false, false, false, false, false, false] rfl rfl (any_of HT_.out (by kernel_rfl)) (fun _ _ _ h => h) (Or.inl ⟨by rfl, ?_⟩) ?_ ?_
                   rotate_left
                   ·intro w'
                    go_simp
                    with_reducible rfl
                   rotate_left
                   ·simp only [Act.put, List.setIfInBounds_toArray, List.set_cons_zero, List.set_cons_succ, i64_w, i32_w]
                    rfl
                   refine pure_ (i := 6) (N := some 61) (v := ?_) (a' := ?_) #[true, true, true, true, false, true, true, false, false, false, false, false, false, false, false, false, false, false] rfl rfl (any_of HT_.out (by kernel_rfl)) (fun _ _ _ h => h) (Or.inl ⟨by rfl, ?_⟩) ?_ ?_
                   rotate_left
                   ·intro w'
                    go_simp
                    with_reducible rfl
                   rotate_left
                   ·simp only [Act.put, List.setIfInBounds_toArray, List.set_cons_zero, List.set_cons_succ, i64_w, i32_w]
                    rfl
                   refine pure_ (i := 7) (N := some 62) (v := ?_) (a' := ?_) #[true, true, true, true, false, true, true, true, false, false, false, false, false, false, false, false, false, false] rfl rfl (any_of HT_.out (by kernel_rfl)) (fun _ _ _ h => h) (Or.inl ⟨by rfl, ?_⟩) ?_ ?_
                   rotate_left
                   ·intro w'
                    go_simp
                    with_reducible rfl
                   rotate_left
                   ·simp only [Act.put, List.setIfInBounds_toArray, List.set_cons_zero, List.set_cons_succ, i64_w, i32_w]
                    rfl
                   refine pure_ (i := 8) (N := some 63) (v := ?_) (a' := ?_) #[true, true, true, true, false, true, true, true, true, false, false, false, false, false, false, false, false, false] rfl rfl (any_of HT_.out (by kernel_rfl)) (fun _ _ _ h => h) (Or.inl ⟨by rfl, ?_⟩) ?_ ?_
                   rotate_left
                   ·intro w'
                    go_simp
                    with_reducible rfl
                   rotate_left
                   ·simp only [Act.put, List.setIfInBounds_toArray, List.set_cons_zero, List.set_cons_succ, i64_w, i32_w]
                    rfl
                   refine pure_ (i := 9) (N := some 64) (v := ?_) (a' := ?_) #[true, true, true, true, false, true, true, true, true, true, false, false, false, false, false, false, false, false] rfl rfl (any_of HT_.out (by kernel_rfl)) (fun _ _ _ h => h) (Or.inl ⟨by rfl, ?_⟩) ?_ ?_
                   rotate_left
                   ·intro w'
                    go_simp
                    with_reducible rfl
                   rotate_left
                   ·simp only [Act.put, List.setIfInBounds_toArray, List.set_cons_zero, List.set_cons_succ, i64_w, i32_w]
                    rfl
                   refine pure_ (i := 12) (N := some 67) (v := ?_) (a' := ?_) #[true, true, true, true, false, true, true, true, true, true, false, false, true, false, false, false, false, false] rfl rfl (any_of HT_.out (by kernel_rfl)) (fun _ _ _ h => h) (Or.inl ⟨by rfl, ?_⟩) ?_ ?_
                   rotate_left
                   ·intro w'
                    go_simp
                    with_reducible rfl
                   rotate_left
                   ·simp only [Act.put, List.setIfInBounds_toArray, List.set_cons_zero, List.set_cons_succ, i64_w, i32_w]
                    rfl
                   refine pure_ (i := 13) (N := some 68) (v := ?_) (a' := ?_) #[true, true, true, true, false, true, true, true, true, true, false, false, true, true, false, false, false, false] rfl rfl (any_of HT_.out (by kernel_rfl)) (fun _ _ _ h => h) (Or.inl ⟨by rfl, ?_⟩) ?_ ?_
                   rotate_left
                   ·intro w'
                    go_simp
                    with_reducible rfl
                   rotate_left
                   ·simp only [Act.put, List.setIfInBounds_toArray, List.set_cons_zero, List.set_cons_succ, i64_w, i32_w]
                    rfl
                   refine take_ (i := 4) (N := some 59) (v := ?_) (a' := ?_) #[true, true, true, true, true, true, true, true, true, true, false, false, true, true, false, false, false, false] rfl rfl (take_ofW HT_.out HW_.out (by kernel_rfl)) (fun _ _ _ h => h) (Or.inl ⟨by rfl, ?_⟩) hHeld ?_ ?_
                   rotate_left
                   ·rintro w' ⟨s0, s1⟩
                    go_simp
                    with_reducible rfl
                   rotate_left
                   ·simp only [Act.put, List.setIfInBounds_toArray, List.set_cons_zero, List.set_cons_succ, i64_w, i32_w]
                    rfl
                   refine take_ (i := 10) (N := some 65) (v := ?_) (a' := ?_) #[true, true, true, true, true, true, true, true, true, true, true, false, true, true, false, false, false, false] rfl rfl (take_ofW HT_.out HW_.out (by kernel_rfl)) (fun _ _ _ h => h) (Or.inl ⟨by rfl, ?_⟩) hHeld ?_ ?_
                   rotate_left
                   ·rintro w' ⟨s0, s1⟩
                    go_simp
                    with_reducible rfl
                   rotate_left
                   ·simp only [Act.put, List.setIfInBounds_toArray, List.set_cons_zero, List.set_cons_succ, i64_w, i32_w]
                    rfl
                   refine take_ (i := 11) (N := some 66) (v := ?_) (a' := ?_) #[true, true, true, true, true, true, true, true, true, true, true, true, true, true, false, false, false, false] rfl rfl (take_ofW HT_.out HW_.out (by kernel_rfl)) (fun _ _ _ h => h) (Or.inl ⟨by rfl, ?_⟩) hHeld ?_ ?_
                   rotate_left
                   ·rintro w' ⟨s0, s1⟩
                    go_simp
                    with_reducible rfl
                   rotate_left
                   ·simp only [Act.put, List.setIfInBounds_toArray, List.set_cons_zero, List.set_cons_succ, i64_w, i32_w]
                    rfl
                   refine one_ (i := 14) (N := some 69) #[true, true, true, true, true, true, true, true, true, true, true, true, true, true, true, false, false, false] rfl rfl (one_of HT_.out (by kernel_rfl)) (by decide) (fun K hK => ?_)
                   refine goes_ Try.func42 (by kernel_rfl) rfl #[.agg #[.int .u8 a0_0], .int .u64 (rd l1 x43_2), .int .u64 (rd l2 x50_3)] (by rfl) rfl rfl (by (try simp only [List.map_toArray, List.map_cons, List.map_nil]); first | done | rfl | (simp only [List.length_drop, List.length_take]; rfl)) ?_
                   with_reducible refine (fast_reckoner_mul.calls k3 a0_0 (rd l1 x43_2) (rd l2 x50_3) t391 _ A24.out).mono ?_
                   rintro e w29 ⟨rfl, hb⟩
                   have HS1_ := (hb.cell (World.block_lt_of_cell? _ _ (hHeld.2))).trans (hHeld.2)
                   refine ⟨_, rfl, ?_⟩
                   have n0_ := A_ (Kd.R_below (nR_ HO_7) hb)
                   have n1_ := A_ (blk_below (g := gb384) (o := .cells #[.int .u8 a0_0] 47 (0, 0)) (nb_ BK384) hb)
                   have n2_ := A_ (below_step hs_ hb)
                   clear HO_7
                   clear BK384
                   clear HB
                   have HO_7 := n0_
                   have BK384 := n1_
                   have HB := n2_
                   clear n0_ n1_ n2_
                   (try clear hb)
                   (try clear hb2)
                   (try clear hk)
                   (try clear hi)
                   refine hK.out _ _ ⟨(blk_cell BK384.out 0).trans rfl, HS1_⟩ (fun hHeld => ?_)
                   clear hK K
                   refine norm_ (a' := ?_) ?_ ?_
                   rotate_left
                   ·show Act.put _ (some 69) _ = _
                    simp only [Act.put, List.setIfInBounds_toArray, List.set_cons_zero, List.set_cons_succ, i64_w, i32_w]
                    rfl
                   refine one_ (i := 15) (N := some 70) #[true, true, true, true, true, true, true, true, true, true, true, true, true, true, true, true, false, false] rfl rfl (one_of HT_.out (by kernel_rfl)) (by decide) (fun K hK => ?_)
                   refine goes_ Try.func47 (by kernel_rfl) rfl #[.agg #[.int .u8 a0_0], .int .u64 (rd x7_3 (ji21)), .int .u64 t391] (by rfl) rfl rfl (by (try simp only [List.map_toArray, List.map_cons, List.map_nil]); first | done | (simp only [hji21]; rfl) | rfl | (simp only [List.length_drop, List.length_take]; rfl)) ?_
                   with_reducible refine (fast_reckoner_add.calls k3 a0_0 (rd x7_3 (ji21)) t391 t392 _ A25.out).mono ?_
                   rintro e w30 ⟨rfl, hb⟩
                   have HS1_ := (hb.cell (World.block_lt_of_cell? _ _ (hHeld.2))).trans (hHeld.2)
                   refine ⟨_, rfl, ?_⟩
                   have n0_ := A_ (Kd.R_below (nR_ HO_7) hb)
                   have n1_ := A_ (blk_below (g := gb384) (o := .cells #[.int .u8 a0_0] 47 (0, 0)) (nb_ BK384) hb)
                   have n2_ := A_ (below_step hs_ hb)
                   clear HO_7
                   clear BK384
                   clear HB
                   have HO_7 := n0_
                   have BK384 := n1_
                   have HB := n2_
                   clear n0_ n1_ n2_
                   (try clear hb)
                   (try clear hb2)
                   (try clear hk)
                   (try clear hi)
                   have p26 : 0 ≤ ((ji21) : Int) := of_decide_eq_true (by first | (with_reducible assumption) | assumption)
                   have q26 : ((ji21) : Int) < ((x7_3.length : Int) : Int) := of_decide_eq_true (by first | (with_reducible assumption) | assumption)
                   obtain ⟨go26, co26, eo26, gb26, gl26, cl26, HG26⟩ := Kd.R_form HO_7.out (by omega)
                   (first | cases eo26 | (injection eo26 with ea_ en_ ec_; (first | subst ea_ | (injection ea_ with ea_; subst ea_)); subst ec_; clear en_))
                   (try simp only [addr_add0] at *)
                   have GB26 := Aside0.mk gb26
                   have GG26 := Aside0.mk HG26
                   clear gb26 gl26 HG26
                   (first | simp only [add_plain] at hx390_0 | skip)
                   obtain ⟨hx26_0, hf26_0⟩ := Kd.R_celln 0 HO_7.out ((ji21) : Int) p26 q26
                   replace p26 := eq_true p26
                   replace q26 := eq_true q26
                   have HP31 := Kd.R_putn HO_7.out ((ji21) : Int) t392
                   rw [← Ny393.out] at HP31
                   have HQ31 := Aside0.mk HP31
                   clear HP31
                   refine hK.out _ _ ⟨(blk_cell BK384.out 0).trans rfl, HS1_⟩ (fun hHeld => ?_)
                   clear hK K
                   refine norm_ (a' := ?_) ?_ ?_
                   rotate_left
                   ·show Act.put _ (some 70) _ = _
                    simp only [Act.put, List.setIfInBounds_toArray, List.set_cons_zero, List.set_cons_succ, i64_w, i32_w]
                    rfl
                   refine pure_ (i := 16) (N := some 71) (v := ?_) (a' := ?_) #[true, true, true, true, true, true, true, true, true, true, true, true, true, true, true, true, true, false] rfl rfl (any_of HT_.out (by kernel_rfl)) (fun _ _ _ h => h) (Or.inl ⟨by rfl, ?_⟩) ?_ ?_
                   rotate_left
                   ·intro w'
                    go_simp
                    with_reducible rfl
                   rotate_left
                   ·simp only [Act.put, List.setIfInBounds_toArray, List.set_cons_zero, List.set_cons_succ, i64_w, i32_w]
                    rfl
                   refine last_ (i := 17) (N := none) #[true, true, true, true, true, true, true, true, true, true, true, true, true, true, true, true, true, true] rfl rfl (one_of HT_.out (by kernel_rfl)) (by decide) (fun K hK => ?_)
                   refine skip_ (w1 := ?_) (by rfl) rfl ?_ ?_
                   rotate_left
                   ·go_simp
                    rfl
                   refine hK.out _ _ ?_
                   clear hK K
                   refine done_ (done_of HT_.out (by kernel_rfl)) ?_
                   try go_wp2
                   go_roundg k3
                   case measure => have := HJ3.out; have := HK2.out; have := HK3.out; omega
                   case rel => exact ⟨(y393), (wrap64 (x50_3 + 1)), (fs_), H', ⟨by have := HJ3.out; have := HK2.out; have := HK3.out; omega⟩, ⟨mR_ HQ31.out⟩, ⟨by (with_reducible repeat (first | refine blk_drewN ?_ _ | refine blk_drew ?_ | refine blk_alloc ?_ _)); refine blk_far ?_ (by have h_ := Kd.R_ne HO_7.out BK384.out (by decide); intro e_; exact h_ (by rw [e_]; rfl)) _; (with_reducible repeat (first | refine blk_drewN ?_ _ | refine blk_drew ?_ | refine blk_alloc ?_ _)); exact BK384.out⟩, ⟨by repeat (first | (with_reducible first | exact HB.out | apply below_alloc | apply pw_below_drewN | apply below_drew1 | refine below_set ?_ GB26.out | refine below_set ?_ GE384.out) | exact HB.out)⟩⟩
                  ·rw [if_neg c23] at H
                   exact absurd H (by simp)
                 ·rw [if_neg c22] at H
                  exact absurd H (by simp)
                ·rw [if_neg c20] at H
                 exact absurd H (by simp)
               ·rw [if_neg c19] at H
                exact absurd H (by simp)
              ·rw [if_neg c18] at H
               have c18b0 : decide (x50_3 < (l2.length : Int)) = false := decide_eq_false c18
               clear c18
               have H' := Aside0.mk H
               clear H
               go_wp2
               go_roundg k3
               case measure => have := HJ3.out; have := HK2.out; have := HK3.out; omega
               case rel => exact ⟨(x7_3), (wrap64 (x43_2 + 1)), (fs_), H', ⟨by have := HJ3.out; have := HK2.out; have := HK3.out; omega⟩, ⟨mR_ HO_7.out⟩, ⟨mb_ BK384.out⟩, ⟨hs_⟩⟩
           ·rw [if_neg c17] at H
            exact absurd H (by simp)
          ·rw [if_neg c16] at H
           exact absurd H (by simp)
         ·rw [if_neg c15] at H
          have c15b0 : decide (x43_2 < (l1.length : Int)) = false := decide_eq_false c15
          clear c15
          obtain rfl := Option.some.inj H
          go_wp2
          go_ret
          exact ⟨_, by first | rfl | (simp [errW_none, errW_some] <;> rfl) | (simp only [← hji8, ← hji11]; first | rfl | (simp [errW_none, errW_some] <;> rfl)) | (simp [*, errW_none, errW_some] <;> rfl), nR_ HO_7, hs_⟩
      ·rw [if_neg c12] at H
       have c12b0 : decide ((ji11) ≤ 16) = false := decide_eq_false c12
       clear c12
       obtain ⟨ji32, hji32⟩ : ∃ j_ : Int, (mx (l1.length : Int) (l2.length : Int)) = j_ := ⟨_, rfl⟩
       replace H : ((fast_cut.f l1 (wrap64 (Int.tdiv (wrap64 ((ji32) + 1)) 2))).bind fun bt394 => ((fast_cut.f l2 (wrap64 (Int.tdiv (wrap64 ((ji32) + 1)) 2))).bind fun bt400 => ((fast_reckoner_halves.f kj3 a0_0 bt394.1 bt400.1).bind fun t406 => ((fast_reckoner_halves.f kj3 a0_0 bt394.2 bt400.2).bind fun t409 => ((fast_reckoner_sum.f kj3 a0_0 bt394.1 bt394.2).bind fun t412 => ((fast_reckoner_sum.f kj3 a0_0 bt400.1 bt400.2).bind fun t415 => ((fast_reckoner_halves.f kj3 a0_0 t412 t415).bind fun t418 => ((fast_reckoner_put_sub.f kj3 a0_0 t418 0 t406 a0_0).bind fun t421 => ((fast_reckoner_put_sub.f kj3 a0_0 t421 0 t409 a0_0).bind fun t422 => ((fast_reckoner_put_add.f kj3 a0_0 y385 0 t406 a0_0).bind fun t423 => ((fast_reckoner_put_add.f kj3 a0_0 t423 (wrap64 (2 * (wrap64 (Int.tdiv (wrap64 ((ji32) + 1)) 2)))) t409 a0_0).bind fun t424 => (if 0 ≤ (mn (t418.length : Int) (wrap64 ((y385.length : Int) - (wrap64 (Int.tdiv (wrap64 ((ji32) + 1)) 2))))) then (if (mn (t418.length : Int) (wrap64 ((y385.length : Int) - (wrap64 (Int.tdiv (wrap64 ((ji32) + 1)) 2))))) ≤ (t418.length : Int) then ((fast_reckoner_put_add.f kj3 a0_0 t424 (wrap64 (Int.tdiv (wrap64 ((ji32) + 1)) 2)) (t422.take ((mn (t418.length : Int) (wrap64 ((y385.length : Int) - (wrap64 (Int.tdiv (wrap64 ((ji32) + 1)) 2))))) : Int).toNat) a0_0).bind fun t429 => (some t429)) else (none)) else (none))))))))))))) = some r := by first | (rw [hji32] at H; exact H) | (simp only [hji32] at H ⊢; exact H)
       (try (have hji32l : 0 ≤ ji32 := by (rw [← hji32]; unfold mx; (repeat' split) <;> omega)))
       (try (have hji32m : 0 ≤ ji32 := by omega))
       have hji32N : (if l1.length < l2.length then (l2.length : Int) else (l1.length : Int)) = ji32 := by have h_ := hji32; unfold mx at h_; simp only [Int.ofNat_lt] at h_; exact h_
       have hji32_ : (if (l1.length : Int) < (l2.length : Int) then (l2.length : Int) else (l1.length : Int)) = ji32 := hji32
       replace H := Option.bind_eq_some_iff.mp H
       obtain ⟨⟨t394, t397⟩, A330, H⟩ := H
       (try dsimp only at H)
       have A33 := Aside0.mk A330
       clear A330
       replace H := Option.bind_eq_some_iff.mp H
       obtain ⟨⟨t400, t403⟩, A340, H⟩ := H
       (try dsimp only at H)
       have A34 := Aside0.mk A340
       clear A340
       replace H := Option.bind_eq_some_iff.mp H
       obtain ⟨t406, A350, H⟩ := H
       (try dsimp only at H)
       have A35 := Aside0.mk A350
       clear A350
       replace H := Option.bind_eq_some_iff.mp H
       obtain ⟨t409, A360, H⟩ := H
       (try dsimp only at H)
       have A36 := Aside0.mk A360
       clear A360
       replace H := Option.bind_eq_some_iff.mp H
       obtain ⟨t412, A370, H⟩ := H
       (try dsimp only at H)
       have A37 := Aside0.mk A370
       clear A370
       replace H := Option.bind_eq_some_iff.mp H
       obtain ⟨t415, A380, H⟩ := H
       (try dsimp only at H)
       have A38 := Aside0.mk A380
       clear A380
       replace H := Option.bind_eq_some_iff.mp H
       obtain ⟨t418, A390, H⟩ := H
       (try dsimp only at H)
       have A39 := Aside0.mk A390
       clear A390
       replace H := Option.bind_eq_some_iff.mp H
       obtain ⟨t421, A400, H⟩ := H
       (try dsimp only at H)
       have A40 := Aside0.mk A400
       clear A400
       replace H := Option.bind_eq_some_iff.mp H
       obtain ⟨t422, A410, H⟩ := H
       (try dsimp only at H)
       have A41 := Aside0.mk A410
       clear A410
       replace H := Option.bind_eq_some_iff.mp H
       obtain ⟨t423, A420, H⟩ := H
       (try dsimp only at H)
       have A42 := Aside0.mk A420
       clear A420
       replace H := Option.bind_eq_some_iff.mp H
       obtain ⟨t424, A430, H⟩ := H
       (try dsimp only at H)
       have A43 := Aside0.mk A430
       clear A430
       obtain ⟨ji44, hji44⟩ : ∃ j_ : Int, (mn (t418.length : Int) (wrap64 ((y385.length : Int) - (wrap64 (Int.tdiv (wrap64 ((ji32) + 1)) 2))))) = j_ := ⟨_, rfl⟩
       replace H : (if 0 ≤ (ji44) then (if (ji44) ≤ (t418.length : Int) then ((fast_reckoner_put_add.f kj3 a0_0 t424 (wrap64 (Int.tdiv (wrap64 ((ji32) + 1)) 2)) (t422.take ((ji44) : Int).toNat) a0_0).bind fun t429 => (some t429)) else (none)) else (none)) = some r := by first | (rw [hji44] at H; exact H) | (simp only [hji44] at H ⊢; exact H)
       (try rw [hji44] at A33)
       (try rw [hji44] at A34)
       (try rw [hji44] at A35)
       (try rw [hji44] at A36)
       (try rw [hji44] at A37)
       (try rw [hji44] at A38)
       (try rw [hji44] at A39)
       (try rw [hji44] at A40)
       (try rw [hji44] at A41)
       (try rw [hji44] at A42)
       (try rw [hji44] at A43)
       have hji44_ : (if (wrap64 ((y385.length : Int) - (wrap64 (Int.tdiv (wrap64 ((ji32) + 1)) 2)))) < (t418.length : Int) then (wrap64 ((y385.length : Int) - (wrap64 (Int.tdiv (wrap64 ((ji32) + 1)) 2)))) else (t418.length : Int)) = ji44 := hji44
       by_cases c45 : 0 ≤ (ji44)
       ·rw [if_pos c45] at H
        have c45b0 := eq_true c45
        have c45b1 : decide (0 ≤ (ji44)) = true := decide_eq_true c45
        clear c45
        by_cases c46 : (ji44) ≤ (t418.length : Int)
        ·rw [if_pos c46] at H
         have c46b0 := eq_true c46
         have c46b1 : decide ((ji44) ≤ (t418.length : Int)) = true := decide_eq_true c46
         clear c46
         obtain ⟨y425, hy425⟩ : ∃ y_ : List Int, y_ = (t422.take ((ji44) : Int).toNat) := ⟨_, rfl⟩
         replace H : ((fast_reckoner_put_add.f kj3 a0_0 t424 (wrap64 (Int.tdiv (wrap64 ((ji32) + 1)) 2)) y425 a0_0).bind fun t429 => (some t429)) = some r := by first | (rw [hy425]; with_reducible exact H) | (have H2_ := (Option.bind_some _ _).symm.trans H; rw [hy425]; with_reducible exact H2_) | (have H2_ := (Option.bind_some _ _).symm.trans H; with_reducible exact H2_) | with_reducible exact H | (rw [hy425]; exact H) | exact H
         have Ny425 := Aside0.mk hy425
         clear hy425
         replace H := Option.bind_eq_some_iff.mp H
         obtain ⟨t429, A470, H⟩ := H
         replace H : (some t429) = some r := H
         have A47 := Aside0.mk A470
         clear A470
         obtain rfl := Option.some.inj H
         try go_wp2_with (first | ((with_reducible refine gate_dst (N := 34) rfl ?_); (try (refine gate_guard (by rfl) ?_; dsimp only)); refine Kd.R_make (Kd.int .u64) _ 33 rfl (N := 34) rfl 22 _ _ rfl ji8 rfl rfl Try.underlying22 (.int .u64 0) 8 info33 rfl (by decide) (by omega) 0 (ok := fun _ => True) (okp := fun _ => True) rfl (fun _ hk => hk) trivial (of_decide_eq_true (by first | (with_reducible assumption) | assumption)) (Nat.le_trans (Nat.mul_le_mul_right _ (of_decide_eq_true (by first | (with_reducible assumption) | assumption) : ji8.toNat ≤ 35184372088832)) (by omega)) (Below.refl _ _) (Nat.le_refl _) ?_; intro v386 w48 ho49 hb hg_ hnew_; clear hg_ hnew_; (first | rw [← Ny385.out] at ho49 | (simp only [Int.reduceToNat] at ho49; rw [← Ny385.out] at ho49)); have n0_ := A_ (Kd.R_lower ho49 (below_size hs_)); have n1_ := A_ (blk_below (g := gb384) (o := .cells #[.int .u8 a0_0] 47 (0, 0)) (nb_ BK384) hb); have n2_ := A_ (below_step hs_ hb); clear BK384 HB; have HO387 := n0_; have BK384 := n1_; have HB := n2_; clear n0_ n1_ n2_; clear hb ho49) | ((with_reducible refine gate_callee (f := 48) rfl ?_); refine goesL_ (some 85) rfl rfl Try.func48 (by kernel_rfl) rfl #[.slice A1 l1.length c1, .int .i64 (wrap64 (Int.tdiv (wrap64 ((ji32) + 1)) 2))] rfl (by (try simp only [List.map_toArray, List.map_cons, List.map_nil]); first | done | (simp only [hji32]; rfl) | rfl | (simp only [List.length_drop, List.length_take]; rfl)) ?_; (with_reducible refine (fast_cut.calls (fun k_ => k_ < w.heap.size) _ _ l1 (wrap64 (Int.tdiv (wrap64 ((ji32) + 1)) 2)) t394 t397 _ ?side1 A33.out).mono ?_); (case side1 => exact Kd.V_mk HC1.out (Kd.F_below (Kd.C_F (Kd.heap_int .u64) HR1.out) hs_)); rintro e w50 ⟨v395, v398, rfl, ho0, ho1, hb⟩; refine ⟨_, rfl, ?_⟩; have n0_ := A_ (Kd.R_below (nR_ HO387) hb); have n1_ := A_ (Kd.V_lower (Kd.V_mono (ok' := fun k_ => some k_ ≠ (v386 : Value).ownBlock ∧ k_ ≠ gb384) ho0 (fun k_ hk_ => ⟨Or.elim hk_ (fun hs_ => fun e_ => Nat.not_le.2 hs_ (Kd.R_base HO387.out k_ e_.symm)) (fun hn_ => (Kd.fresh' (Kd.R_lt (nR_ HO387)) k_ hn_)), Or.elim hk_ (fun hs_ => fun e_ => Nat.not_le.2 hs_ (by rw [e_]; exact GW384.out)) (fun hn_ => (Kd.freshB (g := gb384) (o := .cells #[.int .u8 a0_0] 47 (0, 0)) (nb_ BK384) k_ hn_))⟩)) (below_size hs_)); have n2_ := A_ (Kd.V_lower (Kd.V_mono (ok' := fun k_ => some k_ ≠ (v386 : Value).ownBlock ∧ k_ ≠ gb384) ho1 (fun k_ hk_ => ⟨Or.elim hk_ (fun hs_ => fun e_ => Nat.not_le.2 hs_ (Kd.R_base HO387.out k_ e_.symm)) (fun hn_ => (Kd.fresh' (Kd.R_lt (nR_ HO387)) k_ hn_)), Or.elim hk_ (fun hs_ => fun e_ => Nat.not_le.2 hs_ (by rw [e_]; exact GW384.out)) (fun hn_ => (Kd.freshB (g := gb384) (o := .cells #[.int .u8 a0_0] 47 (0, 0)) (nb_ BK384) k_ hn_))⟩)) (below_size hs_)); have n3_ := A_ (blk_below (g := gb384) (o := .cells #[.int .u8 a0_0] 47 (0, 0)) (nb_ BK384) hb); have n4_ := A_ (below_step hs_ hb); clear HO387 BK384 HB; have HO387 := n0_; have HO396 := n1_; have HO399 := n2_; have BK384 := n3_; have HB := n4_; clear n0_ n1_ n2_ n3_ n4_; (try clear hb); (try clear ho0); (try clear ho1)) | ((with_reducible refine gate_callee (f := 48) rfl ?_); refine goesL_ (some 91) rfl rfl Try.func48 (by kernel_rfl) rfl #[.slice A2 l2.length c2, .int .i64 (wrap64 (Int.tdiv (wrap64 ((ji32) + 1)) 2))] rfl (by (try simp only [List.map_toArray, List.map_cons, List.map_nil]); first | done | (simp only [hji32]; rfl) | rfl | (simp only [List.length_drop, List.length_take]; rfl)) ?_; (with_reducible refine (fast_cut.calls (fun k_ => k_ < w.heap.size) _ _ l2 (wrap64 (Int.tdiv (wrap64 ((ji32) + 1)) 2)) t400 t403 _ ?side1 A34.out).mono ?_); (case side1 => exact Kd.V_mk HC2.out (Kd.F_below (Kd.C_F (Kd.heap_int .u64) HR2.out) hs_)); rintro e w51 ⟨v401, v404, rfl, ho0, ho1, hb⟩; refine ⟨_, rfl, ?_⟩; have n0_ := A_ (Kd.R_below (nR_ HO387) hb); have n1_ := A_ (Kd.V_below (nV_ HO396) hb); have n2_ := A_ (Kd.V_below (nV_ HO399) hb); have n3_ := A_ (Kd.V_lower (Kd.V_mono (ok' := fun k_ => some k_ ≠ (v386 : Value).ownBlock ∧ k_ ≠ gb384) ho0 (fun k_ hk_ => ⟨Or.elim hk_ (fun hs_ => fun e_ => Nat.not_le.2 hs_ (Kd.R_base HO387.out k_ e_.symm)) (fun hn_ => (Kd.fresh' (Kd.R_lt (nR_ HO387)) k_ hn_)), Or.elim hk_ (fun hs_ => fun e_ => Nat.not_le.2 hs_ (by rw [e_]; exact GW384.out)) (fun hn_ => (Kd.freshB (g := gb384) (o := .cells #[.int .u8 a0_0] 47 (0, 0)) (nb_ BK384) k_ hn_))⟩)) (below_size hs_)); have n4_ := A_ (Kd.V_lower (Kd.V_mono (ok' := fun k_ => some k_ ≠ (v386 : Value).ownBlock ∧ k_ ≠ gb384) ho1 (fun k_ hk_ => ⟨Or.elim hk_ (fun hs_ => fun e_ => Nat.not_le.2 hs_ (Kd.R_base HO387.out k_ e_.symm)) (fun hn_ => (Kd.fresh' (Kd.R_lt (nR_ HO387)) k_ hn_)), Or.elim hk_ (fun hs_ => fun e_ => Nat.not_le.2 hs_ (by rw [e_]; exact GW384.out)) (fun hn_ => (Kd.freshB (g := gb384) (o := .cells #[.int .u8 a0_0] 47 (0, 0)) (nb_ BK384) k_ hn_))⟩)) (below_size hs_)); have n5_ := A_ (blk_below (g := gb384) (o := .cells #[.int .u8 a0_0] 47 (0, 0)) (nb_ BK384) hb); have n6_ := A_ (below_step hs_ hb); clear HO387 HO396 HO399 BK384 HB; have HO387 := n0_; have HO396 := n1_; have HO399 := n2_; have HO402 := n3_; have HO405 := n4_; have BK384 := n5_; have HB := n6_; clear n0_ n1_ n2_ n3_ n4_ n5_ n6_; (try clear hb); (try clear ho0); (try clear ho1)))
         have n0_ := A_ (Kd.R_drew HO387.out)
         have n1_ := A_ (Kd.V_drew HO396.out)
         have n2_ := A_ (Kd.V_drew HO399.out)
         have n3_ := A_ (Kd.V_drew HO402.out)
         have n4_ := A_ (Kd.V_drew HO405.out)
         have n5_ := A_ (blk_drew BK384.out)
         have n6_ := A_ (below_drew1 HB.out)
         clear HO387
         clear HO396
         clear HO399
         clear HO402
         clear HO405
         clear BK384
         clear HB
         have HO387 := n0_
         have HO396 := n1_
         have HO399 := n2_
         have HO402 := n3_
         have HO405 := n4_
         have BK384 := n5_
         have HB := n6_
         clear n0_ n1_ n2_ n3_ n4_ n5_ n6_
         obtain ⟨Ao53, co53, eo53⟩ := Kd.V_slice HO396.out
         (first | subst eo53 | (injection eo53 with f1_ f2_ f3_; have f4_ := f1_.symm; have f5_ := f3_.symm; clear f1_ f2_ f3_; subst f4_; subst f5_))
         obtain ⟨Ao54, co54, eo54⟩ := Kd.V_slice HO402.out
         (first | subst eo54 | (injection eo54 with f1_ f2_ f3_; have f4_ := f1_.symm; have f5_ := f3_.symm; clear f1_ f2_ f3_; subst f4_; subst f5_))
         refine start_ (n := 10) (S := fun w' => w'.cell? ⟨gb384, 0, none⟩ = some (.int .u8 a0_0)) (ds := []) #[false, false, false, false, false, false, false, false, false, false] (by kernel_rfl) rfl rfl ((blk_cell BK384.out 0).trans rfl) (fun hHeld => ?_); refine with_tabW fast_reckoner_halves.tab18 fast_reckoner_halves.bits18 (fun HT_ HW_ => ?_)
         generalize w51.drew = w52 at HO387 HO396 HO399 HO402 HO405 BK384 HB hHeld ⊢
         refine pure_ (i := 1) (N := some 95) (v := ?_) (a' := ?_) #[false, true, false, false, false, false, false, false, false, false] rfl rfl (any_of HT_.out (by kernel_rfl)) (fun _ _ _ h => h) (Or.inl ⟨by rfl, ?_⟩) ?_ ?_
         rotate_left
         ·intro w'
          go_simp
          with_reducible rfl
         rotate_left
         ·simp only [Act.put, List.setIfInBounds_toArray, List.set_cons_zero, List.set_cons_succ, i64_w, i32_w]
          rfl
         refine pure_ (i := 2) (N := some 96) (v := ?_) (a' := ?_) #[false, true, true, false, false, false, false, false, false, false] rfl rfl (any_of HT_.out (by kernel_rfl)) (fun _ _ _ h => h) (Or.inl ⟨by rfl, ?_⟩) ?_ ?_
         rotate_left
         ·intro w'
          go_simp
          with_reducible rfl
         rotate_left
         ·simp only [Act.put, List.setIfInBounds_toArray, List.set_cons_zero, List.set_cons_succ, i64_w, i32_w]
          rfl
         refine pure_ (i := 5) (N := some 99) (v := ?_) (a' := ?_) #[false, true, true, false, false, true, false, false, false, false] rfl rfl (any_of HT_.out (by kernel_rfl)) (fun _ _ _ h => h) (Or.inl ⟨by rfl, ?_⟩) ?_ ?_
         rotate_left
         ·intro w'
          go_simp
          with_reducible rfl
         rotate_left
         ·simp only [Act.put, List.setIfInBounds_toArray, List.set_cons_zero, List.set_cons_succ, i64_w, i32_w]
          rfl
         refine pure_ (i := 6) (N := some 100) (v := ?_) (a' := ?_) #[false, true, true, false, false, true, true, false, false, false] rfl rfl (any_of HT_.out (by kernel_rfl)) (fun _ _ _ h => h) (Or.inl ⟨by rfl, ?_⟩) ?_ ?_
         rotate_left
         ·intro w'
          go_simp
          with_reducible rfl
         rotate_left
         ·simp only [Act.put, List.setIfInBounds_toArray, List.set_cons_zero, List.set_cons_succ, i64_w, i32_w]
          rfl
         refine take_ (i := 0) (N := some 94) (v := ?_) (a' := ?_) #[true, true, true, false, false, true, true, false, false, false] rfl rfl (take_ofW HT_.out HW_.out (by kernel_rfl)) (fun _ _ _ h => h) (Or.inl ⟨by rfl, ?_⟩) hHeld ?_ ?_
         rotate_left
         ·intro w' s0
          go_simp
          with_reducible rfl
         rotate_left
         ·simp only [Act.put, List.setIfInBounds_toArray, List.set_cons_zero, List.set_cons_succ, i64_w, i32_w]
          rfl
         refine take_ (i := 4) (N := some 98) (v := ?_) (a' := ?_) #[true, true, true, false, true, true, true, false, false, false] rfl rfl (take_ofW HT_.out HW_.out (by kernel_rfl)) (fun _ _ _ h => h) (Or.inl ⟨by rfl, ?_⟩) hHeld ?_ ?_
         rotate_left
         ·intro w' s0
          go_simp
          with_reducible rfl
         rotate_left
         ·simp only [Act.put, List.setIfInBounds_toArray, List.set_cons_zero, List.set_cons_succ, i64_w, i32_w]
          rfl
         refine one_ (i := 3) (N := some 97) #[true, true, true, true, true, true, true, false, false, false] rfl rfl (one_of HT_.out (by kernel_rfl)) (by decide) (fun K hK => ?_)
         refine goes_ Try.func30 (by kernel_rfl) rfl #[.agg #[.int .u8 a0_0], .slice Ao53 t394.length co53, .slice Ao54 t400.length co54] (by rfl) rfl rfl (by (try simp only [List.map_toArray, List.map_cons, List.map_nil]); first | done | rfl | (simp only [List.length_drop, List.length_take]; rfl)) ?_
         with_reducible refine (ih kj3 (by have := HJ3.out; omega) a0_0 _ _ t394 _ _ t400 t406 _ ?side1 ?side2 ?side3 ?side4 A35.out).mono ?_
         (case side1 => repeat (first | exact (Kd.V_reads' HO396.out).2.2 | (with_reducible refine Kd.C_alloc ?_ _) | (with_reducible refine Kd.C_drewN ?_ _) | (with_reducible refine Kd.C_drew ?_)))
         (case side2 => exact (Kd.V_reads' HO396.out).2.1)
         (case side3 => repeat (first | exact (Kd.V_reads' HO402.out).2.2 | (with_reducible refine Kd.C_alloc ?_ _) | (with_reducible refine Kd.C_drewN ?_ _) | (with_reducible refine Kd.C_drew ?_)))
         (case side4 => exact (Kd.V_reads' HO402.out).2.1)
         rintro e w55 ⟨v407, rfl, ho0, hb⟩
         refine ⟨_, rfl, ?_⟩
         have n0_ := A_ (Kd.R_elder' (nR_ HO387) (Kd.R_base ho0) hb)
         have n1_ := A_ (Kd.V_elder' (nV_ HO396) (Kd.R_base ho0) hb)
         have n2_ := A_ (Kd.V_elder' (nV_ HO399) (Kd.R_base ho0) hb)
         have n3_ := A_ (Kd.V_elder' (nV_ HO402) (Kd.R_base ho0) hb)
         have n4_ := A_ (Kd.V_elder' (nV_ HO405) (Kd.R_base ho0) hb)
         have n5_ := A_ (Kd.R_lower (Kd.R_new' ho0 (Kd.R_lt (nR_ HO387))) (below_size hs_))
         have n6_ := A_ (blk_below (g := gb384) (o := .cells #[.int .u8 a0_0] 47 (0, 0)) (nb_ BK384) hb)
         have n7_ := A_ (below_step hs_ hb)
         clear HO387
         clear HO396
         clear HO399
         clear HO402
         clear HO405
         clear BK384
         clear HB
         have HO387 := n0_
         have HO396 := n1_
         have HO399 := n2_
         have HO402 := n3_
         have HO405 := n4_
         have HO408 := n5_
         have BK384 := n6_
         have HB := n7_
         clear n0_ n1_ n2_ n3_ n4_ n5_ n6_ n7_
         (try clear hb)
         (try clear hb2)
         (try clear hk)
         (try clear hi)
         (try clear ho0)
         obtain ⟨Ao56, co56, eo56⟩ := Kd.V_slice HO399.out
         (first | subst eo56 | (injection eo56 with f1_ f2_ f3_; have f4_ := f1_.symm; have f5_ := f3_.symm; clear f1_ f2_ f3_; subst f4_; subst f5_))
         obtain ⟨Ao57, co57, eo57⟩ := Kd.V_slice HO405.out
         (first | subst eo57 | (injection eo57 with f1_ f2_ f3_; have f4_ := f1_.symm; have f5_ := f3_.symm; clear f1_ f2_ f3_; subst f4_; subst f5_))
         refine hK.out _ _ ((blk_cell BK384.out 0).trans rfl) (fun hHeld => ?_)
         clear hK K
         refine norm_ (a' := ?_) ?_ ?_
         rotate_left
         ·show Act.put _ (some 97) _ = _
          simp only [Act.put, List.setIfInBounds_toArray, List.set_cons_zero, List.set_cons_succ, i64_w, i32_w]
          rfl
         refine one_ (i := 7) (N := some 101) #[true, true, true, true, true, true, true, true, false, false] rfl rfl (one_of HT_.out (by kernel_rfl)) (by decide) (fun K hK => ?_)
         refine goes_ Try.func30 (by kernel_rfl) rfl #[.agg #[.int .u8 a0_0], .slice Ao56 t397.length co56, .slice Ao57 t403.length co57] (by rfl) rfl rfl (by (try simp only [List.map_toArray, List.map_cons, List.map_nil]); first | done | rfl | (simp only [List.length_drop, List.length_take]; rfl)) ?_
         with_reducible refine (ih kj3 (by have := HJ3.out; omega) a0_0 _ _ t397 _ _ t403 t409 _ ?side1 ?side2 ?side3 ?side4 A36.out).mono ?_
         (case side1 => repeat (first | exact (Kd.V_reads' HO399.out).2.2 | (with_reducible refine Kd.C_alloc ?_ _) | (with_reducible refine Kd.C_drewN ?_ _) | (with_reducible refine Kd.C_drew ?_)))
         (case side2 => exact (Kd.V_reads' HO399.out).2.1)
         (case side3 => repeat (first | exact (Kd.V_reads' HO405.out).2.2 | (with_reducible refine Kd.C_alloc ?_ _) | (with_reducible refine Kd.C_drewN ?_ _) | (with_reducible refine Kd.C_drew ?_)))
         (case side4 => exact (Kd.V_reads' HO405.out).2.1)
         rintro e w58 ⟨v410, rfl, ho0, hb⟩
         refine ⟨_, rfl, ?_⟩
         have n0_ := A_ (Kd.R_elder' (nR_ HO387) (Kd.R_base ho0) hb)
         have n1_ := A_ (Kd.V_elder' (nV_ HO396) (Kd.R_base ho0) hb)
         have n2_ := A_ (Kd.V_elder' (nV_ HO399) (Kd.R_base ho0) hb)
         have n3_ := A_ (Kd.V_elder' (nV_ HO402) (Kd.R_base ho0) hb)
         have n4_ := A_ (Kd.V_elder' (nV_ HO405) (Kd.R_base ho0) hb)
         have n5_ := A_ (Kd.R_elder' (nR_ HO408) (Kd.R_base ho0) hb)
         have n6_ := A_ (Kd.R_lower (Kd.R_new' (Kd.R_new' ho0 (Kd.R_lt (nR_ HO387))) (Kd.R_lt (nR_ HO408))) (below_size hs_))
         have n7_ := A_ (blk_below (g := gb384) (o := .cells #[.int .u8 a0_0] 47 (0, 0)) (nb_ BK384) hb)
         have n8_ := A_ (below_step hs_ hb)
         clear HO387
         clear HO396
         clear HO399
         clear HO402
         clear HO405
         clear HO408
         clear BK384
         clear HB
         have HO387 := n0_
         have HO396 := n1_
         have HO399 := n2_
         have HO402 := n3_
         have HO405 := n4_
         have HO408 := n5_
         have HO411 := n6_
         have BK384 := n7_
         have HB := n8_
         clear n0_ n1_ n2_ n3_ n4_ n5_ n6_ n7_ n8_
         (try clear hb)
         (try clear hb2)
         (try clear hk)
         (try clear hi)
         (try clear ho0)
         refine hK.out _ _ ((blk_cell BK384.out 0).trans rfl) (fun hHeld => ?_)
         clear hK K
         refine norm_ (a' := ?_) ?_ ?_
         rotate_left
         ·show Act.put _ (some 101) _ = _
          simp only [Act.put, List.setIfInBounds_toArray, List.set_cons_zero, List.set_cons_succ, i64_w, i32_w]
          rfl
         refine pure_ (i := 8) (N := some 17) (v := ?_) (a' := ?_) #[true, true, true, true, true, true, true, true, true, false] rfl rfl (any_of HT_.out (by kernel_rfl)) (fun _ _ _ h => h) (Or.inl ⟨by rfl, ?_⟩) ?_ ?_
         rotate_left
         ·intro w'
          go_simp
          with_reducible rfl
         rotate_left
         ·simp only [Act.put, List.setIfInBounds_toArray, List.set_cons_zero, List.set_cons_succ, i64_w, i32_w]
          rfl
         refine pure_ (i := 9) (N := some 18) (v := ?_) (a' := ?_) #[true, true, true, true, true, true, true, true, true, true] rfl rfl (any_of HT_.out (by kernel_rfl)) (fun _ _ _ h => h) (Or.inl ⟨by rfl, ?_⟩) ?_ ?_
         rotate_left
         ·intro w'
          go_simp
          with_reducible rfl
         rotate_left
         ·simp only [Act.put, List.setIfInBounds_toArray, List.set_cons_zero, List.set_cons_succ, i64_w, i32_w]
          rfl
         refine done_ (done_of HT_.out (by kernel_rfl)) ?_
         try go_wp2
         have n0_ := A_ (Kd.R_drew HO387.out)
         have n1_ := A_ (Kd.V_drew HO396.out)
         have n2_ := A_ (Kd.V_drew HO399.out)
         have n3_ := A_ (Kd.V_drew HO402.out)
         have n4_ := A_ (Kd.V_drew HO405.out)
         have n5_ := A_ (Kd.R_drew HO408.out)
         have n6_ := A_ (Kd.R_drew HO411.out)
         have n7_ := A_ (blk_drew BK384.out)
         have n8_ := A_ (below_drew1 HB.out)
         clear HO387
         clear HO396
         clear HO399
         clear HO402
         clear HO405
         clear HO408
         clear HO411
         clear BK384
         clear HB
         have HO387 := n0_
         have HO396 := n1_
         have HO399 := n2_
         have HO402 := n3_
         have HO405 := n4_
         have HO408 := n5_
         have HO411 := n6_
         have BK384 := n7_
         have HB := n8_
         clear n0_ n1_ n2_ n3_ n4_ n5_ n6_ n7_ n8_
         refine start_ (n := 11) (S := fun w' => w'.cell? ⟨gb384, 0, none⟩ = some (.int .u8 a0_0)) (ds := []) #[false, false, false, false, false, false, false, false, false, false, false] (by kernel_rfl) rfl rfl ((blk_cell BK384.out 0).trans rfl) (fun hHeld => ?_); refine with_tabW fast_reckoner_halves.tab19 fast_reckoner_halves.bits19 (fun HT_ HW_ => ?_)
         generalize w58.drew = w59 at HO387 HO396 HO399 HO402 HO405 HO408 HO411 BK384 HB hHeld ⊢
         refine pure_ (i := 2) (N := some 104) (v := ?_) (a' := ?_) #[false, false, true, false, false, false, false, false, false, false, false] rfl rfl (any_of HT_.out (by kernel_rfl)) (fun _ _ _ h => h) (Or.inl ⟨by rfl, ?_⟩) ?_ ?_
         rotate_left
         ·intro w'
          go_simp
          with_reducible rfl
         rotate_left
         ·simp only [Act.put, List.setIfInBounds_toArray, List.set_cons_zero, List.set_cons_succ, i64_w, i32_w]
          rfl
         refine pure_ (i := 3) (N := some 105) (v := ?_) (a' := ?_) #[false, false, true, true, false, false, false, false, false, false, false] rfl rfl (any_of HT_.out (by kernel_rfl)) (fun _ _ _ h => h) (Or.inl ⟨by rfl, ?_⟩) ?_ ?_
         rotate_left
         ·intro w'
          go_simp
          with_reducible rfl
         rotate_left
         ·simp only [Act.put, List.setIfInBounds_toArray, List.set_cons_zero, List.set_cons_succ, i64_w, i32_w]
          rfl
         refine pure_ (i := 6) (N := some 108) (v := ?_) (a' := ?_) #[false, false, true, true, false, false, true, false, false, false, false] rfl rfl (any_of HT_.out (by kernel_rfl)) (fun _ _ _ h => h) (Or.inl ⟨by rfl, ?_⟩) ?_ ?_
         rotate_left
         ·intro w'
          go_simp
          with_reducible rfl
         rotate_left
         ·simp only [Act.put, List.setIfInBounds_toArray, List.set_cons_zero, List.set_cons_succ, i64_w, i32_w]
          rfl
         refine pure_ (i := 7) (N := some 109) (v := ?_) (a' := ?_) #[false, false, true, true, false, false, true, true, false, false, false] rfl rfl (any_of HT_.out (by kernel_rfl)) (fun _ _ _ h => h) (Or.inl ⟨by rfl, ?_⟩) ?_ ?_
         rotate_left
         ·intro w'
          go_simp
          with_reducible rfl
         rotate_left
         ·simp only [Act.put, List.setIfInBounds_toArray, List.set_cons_zero, List.set_cons_succ, i64_w, i32_w]
          rfl
         refine take_ (i := 0) (N := some 102) (v := ?_) (a' := ?_) #[true, false, true, true, false, false, true, true, false, false, false] rfl rfl (take_ofW HT_.out HW_.out (by kernel_rfl)) (fun _ _ _ h => h) (Or.inl ⟨by rfl, ?_⟩) hHeld ?_ ?_
         rotate_left
         ·intro w' s0
          go_simp
          with_reducible rfl
         rotate_left
         ·simp only [Act.put, List.setIfInBounds_toArray, List.set_cons_zero, List.set_cons_succ, i64_w, i32_w]
          rfl
         refine take_ (i := 1) (N := some 103) (v := ?_) (a' := ?_) #[true, true, true, true, false, false, true, true, false, false, false] rfl rfl (take_ofW HT_.out HW_.out (by kernel_rfl)) (fun _ _ _ h => h) (Or.inl ⟨by rfl, ?_⟩) hHeld ?_ ?_
         rotate_left
         ·intro w' s0
          go_simp
          with_reducible rfl
         rotate_left
         ·simp only [Act.put, List.setIfInBounds_toArray, List.set_cons_zero, List.set_cons_succ, i64_w, i32_w]
          rfl
         refine take_ (i := 5) (N := some 107) (v := ?_) (a' := ?_) #[true, true, true, true, false, true, true, true, false, false, false] rfl rfl (take_ofW HT_.out HW_.out (by kernel_rfl)) (fun _ _ _ h => h) (Or.inl ⟨by rfl, ?_⟩) hHeld ?_ ?_
         rotate_left
         ·intro w' s0
          go_simp
          with_reducible rfl
         rotate_left
         ·simp only [Act.put, List.setIfInBounds_toArray, List.set_cons_zero, List.set_cons_succ, i64_w, i32_w]
          rfl
         refine one_ (i := 4) (N := some 106) #[true, true, true, true, true, true, true, true, false, false, false] rfl rfl (one_of HT_.out (by kernel_rfl)) (by decide) (fun K hK => ?_)
         refine goes_ Try.func49 (by kernel_rfl) rfl #[.agg #[.int .u8 a0_0], .slice Ao53 t394.length co53, .slice Ao56 t397.length co56] (by rfl) rfl rfl (by (try simp only [List.map_toArray, List.map_cons, List.map_nil]); first | done | rfl | (simp only [List.length_drop, List.length_take]; rfl)) ?_
         with_reducible refine (fast_reckoner_sum.calls kj3 a0_0 _ _ t394 _ _ t397 t412 _ ?side1 ?side2 ?side3 ?side4 A37.out).mono ?_
         (case side1 => repeat (first | exact (Kd.V_reads' HO396.out).2.2 | (with_reducible refine Kd.C_alloc ?_ _) | (with_reducible refine Kd.C_drewN ?_ _) | (with_reducible refine Kd.C_drew ?_)))
         (case side2 => exact (Kd.V_reads' HO396.out).2.1)
         (case side3 => repeat (first | exact (Kd.V_reads' HO399.out).2.2 | (with_reducible refine Kd.C_alloc ?_ _) | (with_reducible refine Kd.C_drewN ?_ _) | (with_reducible refine Kd.C_drew ?_)))
         (case side4 => exact (Kd.V_reads' HO399.out).2.1)
         rintro e w60 ⟨v413, rfl, ho0, hb⟩
         refine ⟨_, rfl, ?_⟩
         have n0_ := A_ (Kd.R_elder' (nR_ HO387) (Kd.R_base ho0) hb)
         have n1_ := A_ (Kd.V_elder' (nV_ HO396) (Kd.R_base ho0) hb)
         have n2_ := A_ (Kd.V_elder' (nV_ HO399) (Kd.R_base ho0) hb)
         have n3_ := A_ (Kd.V_elder' (nV_ HO402) (Kd.R_base ho0) hb)
         have n4_ := A_ (Kd.V_elder' (nV_ HO405) (Kd.R_base ho0) hb)
         have n5_ := A_ (Kd.R_elder' (nR_ HO408) (Kd.R_base ho0) hb)
         have n6_ := A_ (Kd.R_elder' (nR_ HO411) (Kd.R_base ho0) hb)
         have n7_ := A_ (Kd.R_lower (Kd.R_new' (Kd.R_new' (Kd.R_new' ho0 (Kd.R_lt (nR_ HO387))) (Kd.R_lt (nR_ HO408))) (Kd.R_lt (nR_ HO411))) (below_size hs_))
         have n8_ := A_ (blk_below (g := gb384) (o := .cells #[.int .u8 a0_0] 47 (0, 0)) (nb_ BK384) hb)
         have n9_ := A_ (below_step hs_ hb)
         clear HO387
         clear HO396
         clear HO399
         clear HO402
         clear HO405
         clear HO408
         clear HO411
         clear BK384
         clear HB
         have HO387 := n0_
         have HO396 := n1_
         have HO399 := n2_
         have HO402 := n3_
         have HO405 := n4_
         have HO408 := n5_
         have HO411 := n6_
         have HO414 := n7_
         have BK384 := n8_
         have HB := n9_
         clear n0_ n1_ n2_ n3_ n4_ n5_ n6_ n7_ n8_ n9_
         (try clear hb)
         (try clear hb2)
         (try clear hk)
         (try clear hi)
         (try clear ho0)
         refine hK.out _ _ ((blk_cell BK384.out 0).trans rfl) (fun hHeld => ?_)
         clear hK K
         refine norm_ (a' := ?_) ?_ ?_
         rotate_left
         ·show Act.put _ (some 106) _ = _
          simp only [Act.put, List.setIfInBounds_toArray, List.set_cons_zero, List.set_cons_succ, i64_w, i32_w]
          rfl
         refine one_ (i := 8) (N := some 110) #[true, true, true, true, true, true, true, true, true, false, false] rfl rfl (one_of HT_.out (by kernel_rfl)) (by decide) (fun K hK => ?_)
         refine goes_ Try.func49 (by kernel_rfl) rfl #[.agg #[.int .u8 a0_0], .slice Ao54 t400.length co54, .slice Ao57 t403.length co57] (by rfl) rfl rfl (by (try simp only [List.map_toArray, List.map_cons, List.map_nil]); first | done | rfl | (simp only [List.length_drop, List.length_take]; rfl)) ?_
         with_reducible refine (fast_reckoner_sum.calls kj3 a0_0 _ _ t400 _ _ t403 t415 _ ?side1 ?side2 ?side3 ?side4 A38.out).mono ?_
         (case side1 => repeat (first | exact (Kd.V_reads' HO402.out).2.2 | (with_reducible refine Kd.C_alloc ?_ _) | (with_reducible refine Kd.C_drewN ?_ _) | (with_reducible refine Kd.C_drew ?_)))
         (case side2 => exact (Kd.V_reads' HO402.out).2.1)
         (case side3 => repeat (first | exact (Kd.V_reads' HO405.out).2.2 | (with_reducible refine Kd.C_alloc ?_ _) | (with_reducible refine Kd.C_drewN ?_ _) | (with_reducible refine Kd.C_drew ?_)))
         (case side4 => exact (Kd.V_reads' HO405.out).2.1)
         rintro e w61 ⟨v416, rfl, ho0, hb⟩
         refine ⟨_, rfl, ?_⟩
         have n0_ := A_ (Kd.R_elder' (nR_ HO387) (Kd.R_base ho0) hb)
         have n1_ := A_ (Kd.V_elder' (nV_ HO396) (Kd.R_base ho0) hb)
         have n2_ := A_ (Kd.V_elder' (nV_ HO399) (Kd.R_base ho0) hb)
         have n3_ := A_ (Kd.V_elder' (nV_ HO402) (Kd.R_base ho0) hb)
         have n4_ := A_ (Kd.V_elder' (nV_ HO405) (Kd.R_base ho0) hb)
         have n5_ := A_ (Kd.R_elder' (nR_ HO408) (Kd.R_base ho0) hb)
         have n6_ := A_ (Kd.R_elder' (nR_ HO411) (Kd.R_base ho0) hb)
         have n7_ := A_ (Kd.R_elder' (nR_ HO414) (Kd.R_base ho0) hb)
         have n8_ := A_ (Kd.R_lower (Kd.R_new' (Kd.R_new' (Kd.R_new' (Kd.R_new' ho0 (Kd.R_lt (nR_ HO387))) (Kd.R_lt (nR_ HO408))) (Kd.R_lt (nR_ HO411))) (Kd.R_lt (nR_ HO414))) (below_size hs_))
         have n9_ := A_ (blk_below (g := gb384) (o := .cells #[.int .u8 a0_0] 47 (0, 0)) (nb_ BK384) hb)
         have n10_ := A_ (below_step hs_ hb)
         clear HO387
         clear HO396
         clear HO399
         clear HO402
         clear HO405
         clear HO408
         clear HO411
         clear HO414
         clear BK384
         clear HB
         have HO387 := n0_
         have HO396 := n1_
         have HO399 := n2_
         have HO402 := n3_
         have HO405 := n4_
         have HO408 := n5_
         have HO411 := n6_
         have HO414 := n7_
         have HO417 := n8_
         have BK384 := n9_
         have HB := n10_
         clear n0_ n1_ n2_ n3_ n4_ n5_ n6_ n7_ n8_ n9_ n10_
         (try clear hb)
         (try clear hb2)
         (try clear hk)
         (try clear hi)
         (try clear ho0)
         obtain ⟨Ao62, co62, eo62⟩ := Kd.R_slice HO414.out
         (first | subst eo62 | (injection eo62 with f1_ f2_ f3_; have f4_ := f1_.symm; have f5_ := f3_.symm; clear f1_ f2_ f3_; subst f4_; subst f5_))
         obtain ⟨Ao63, co63, eo63⟩ := Kd.R_slice HO417.out
         (first | subst eo63 | (injection eo63 with f1_ f2_ f3_; have f4_ := f1_.symm; have f5_ := f3_.symm; clear f1_ f2_ f3_; subst f4_; subst f5_))
         refine hK.out _ _ ((blk_cell BK384.out 0).trans rfl) (fun hHeld => ?_)
         clear hK K
         refine norm_ (a' := ?_) ?_ ?_
         rotate_left
         ·show Act.put _ (some 110) _ = _
          simp only [Act.put, List.setIfInBounds_toArray, List.set_cons_zero, List.set_cons_succ, i64_w, i32_w]
          rfl
         refine one_ (i := 9) (N := some 111) #[true, true, true, true, true, true, true, true, true, true, false] rfl rfl (one_of HT_.out (by kernel_rfl)) (by decide) (fun K hK => ?_)
         refine goes_ Try.func30 (by kernel_rfl) rfl #[.agg #[.int .u8 a0_0], .slice Ao62 t412.length co62, .slice Ao63 t415.length co63] (by rfl) rfl rfl (by (try simp only [List.map_toArray, List.map_cons, List.map_nil]); first | done | rfl | (simp only [List.length_drop, List.length_take]; rfl)) ?_
         with_reducible refine (ih kj3 (by have := HJ3.out; omega) a0_0 _ _ t412 _ _ t415 t418 _ ?side1 ?side2 ?side3 ?side4 A39.out).mono ?_
         (case side1 => repeat (first | exact (Kd.R_reads' HO414.out).2.2 | (with_reducible refine Kd.C_alloc ?_ _) | (with_reducible refine Kd.C_drewN ?_ _) | (with_reducible refine Kd.C_drew ?_)))
         (case side2 => exact (Kd.R_reads' HO414.out).2.1)
         (case side3 => repeat (first | exact (Kd.R_reads' HO417.out).2.2 | (with_reducible refine Kd.C_alloc ?_ _) | (with_reducible refine Kd.C_drewN ?_ _) | (with_reducible refine Kd.C_drew ?_)))
         (case side4 => exact (Kd.R_reads' HO417.out).2.1)
         rintro e w64 ⟨v419, rfl, ho0, hb⟩
         refine ⟨_, rfl, ?_⟩
         have n0_ := A_ (Kd.R_elder' (nR_ HO387) (Kd.R_base ho0) hb)
         have n1_ := A_ (Kd.V_elder' (nV_ HO396) (Kd.R_base ho0) hb)
         have n2_ := A_ (Kd.V_elder' (nV_ HO399) (Kd.R_base ho0) hb)
         have n3_ := A_ (Kd.V_elder' (nV_ HO402) (Kd.R_base ho0) hb)
         have n4_ := A_ (Kd.V_elder' (nV_ HO405) (Kd.R_base ho0) hb)
         have n5_ := A_ (Kd.R_elder' (nR_ HO408) (Kd.R_base ho0) hb)
         have n6_ := A_ (Kd.R_elder' (nR_ HO411) (Kd.R_base ho0) hb)
         have n7_ := A_ (Kd.R_elder' (nR_ HO414) (Kd.R_base ho0) hb)
         have n8_ := A_ (Kd.R_elder' (nR_ HO417) (Kd.R_base ho0) hb)
         have n9_ := A_ (Kd.R_lower (Kd.R_new' (Kd.R_new' (Kd.R_new' (Kd.R_new' (Kd.R_new' ho0 (Kd.R_lt (nR_ HO387))) (Kd.R_lt (nR_ HO408))) (Kd.R_lt (nR_ HO411))) (Kd.R_lt (nR_ HO414))) (Kd.R_lt (nR_ HO417))) (below_size hs_))
         have n10_ := A_ (blk_below (g := gb384) (o := .cells #[.int .u8 a0_0] 47 (0, 0)) (nb_ BK384) hb)
         have n11_ := A_ (below_step hs_ hb)
         clear HO387
         clear HO396
         clear HO399
         clear HO402
         clear HO405
         clear HO408
         clear HO411
         clear HO414
         clear HO417
         clear BK384
         clear HB
         have HO387 := n0_
         have HO396 := n1_
         have HO399 := n2_
         have HO402 := n3_
         have HO405 := n4_
         have HO408 := n5_
         have HO411 := n6_
         have HO414 := n7_
         have HO417 := n8_
         have HO420 := n9_
         have BK384 := n10_
         have HB := n11_
         clear n0_ n1_ n2_ n3_ n4_ n5_ n6_ n7_ n8_ n9_ n10_ n11_
         (try clear hb)
         (try clear hb2)
         (try clear hk)
         (try clear hi)
         (try clear ho0)
         refine hK.out _ _ ((blk_cell BK384.out 0).trans rfl) (fun hHeld => ?_)
         clear hK K
         refine norm_ (a' := ?_) ?_ ?_
         rotate_left
         ·show Act.put _ (some 111) _ = _
          simp only [Act.put, List.setIfInBounds_toArray, List.set_cons_zero, List.set_cons_succ, i64_w, i32_w]
          rfl
         refine pure_ (i := 10) (N := some 19) (v := ?_) (a' := ?_) #[true, true, true, true, true, true, true, true, true, true, true] rfl rfl (any_of HT_.out (by kernel_rfl)) (fun _ _ _ h => h) (Or.inl ⟨by rfl, ?_⟩) ?_ ?_
         rotate_left
         ·intro w'
          go_simp
          with_reducible rfl
         rotate_left
         ·simp only [Act.put, List.setIfInBounds_toArray, List.set_cons_zero, List.set_cons_succ, i64_w, i32_w]
          rfl
         refine done_ (done_of HT_.out (by kernel_rfl)) ?_
         have hcz65_0 : w64.cell? ⟨gb384, 0, none⟩ = some (.int .u8 a0_0) := (blk_cell BK384.out 0).trans rfl
         have hfz65_0 := blk_frozen BK384.out 0
         obtain ⟨Ao66, co66, eo66⟩ := Kd.R_slice HO420.out
         subst eo66
         obtain ⟨Ao67, co67, eo67⟩ := Kd.R_slice HO408.out
         subst eo67
         try go_wp2_with (first | ((with_reducible refine gate_callee (f := 50) rfl ?_); refine goesM_ (some 117) Try.func50 #[.agg #[.int .u8 a0_0], .slice Ao66 t418.length co66, .int .i64 0, .slice Ao67 t406.length co67, .func (.func 51) #[.agg #[.int .u8 a0_0]] #[]] ?_; (with_reducible refine (fast_reckoner_put_sub.calls kj3 a0_0 (fun k_ => some k_ = (.slice Ao66 t418.length co66 : Value).ownBlock) (.slice Ao66 t418.length co66) t418 0 _ _ t406 a0_0 t421 w _ ?side1 ?side2 ?side3 ?side4 A40.out).mono ?_); (case side1 => repeat (first | (with_reducible first | exact HB.out | apply below_alloc | apply pw_below_drewN | apply below_drew1 | refine below_set ?_ GE384.out) | exact HB.out)); (case side2 => exact Kd.R_tight rfl HO420.out); (case side3 => exact Kd.C_kept_own (HO408.out) (fun k_ hk_ hs_ => (hk_.2) hs_)); (case side4 => exact (Kd.R_reads' HO408.out).2.1); rintro e w68 ⟨rfl, hy0, hb, hkp⟩; refine ⟨_, rfl, ?_⟩; have n0_ := A_ (blk_kept (nb_ BK384) hkp (fun hs_ => (fun e_ => (Kd.R_ne HO420.out BK384.out (by decide)) e_) hs_)); have n1_ := A_ (Kd.R_mono (ok' := fun k_ => some k_ ≠ (.slice Ao67 t406.length co67 : Value).ownBlock ∧ some k_ ≠ (v410 : Value).ownBlock ∧ some k_ ≠ (.slice Ao62 t412.length co62 : Value).ownBlock ∧ some k_ ≠ (.slice Ao63 t415.length co63 : Value).ownBlock ∧ some k_ ≠ (.slice Ao66 t418.length co66 : Value).ownBlock) (Kd.R_keptB (HO387.out) hkp (fun k_ hk_ hs_ => (hk_.2) hs_)) (fun k_ hk_ => ⟨hk_.1.1.1.1.1.2, hk_.1.1.1.1.2, hk_.1.1.1.2, hk_.1.1.2, hk_.1.2⟩)); have n2_ := A_ (Kd.V_mono (ok' := fun k_ => some k_ ≠ (v386 : Value).ownBlock ∧ some k_ ≠ (.slice Ao67 t406.length co67 : Value).ownBlock ∧ some k_ ≠ (v410 : Value).ownBlock ∧ some k_ ≠ (.slice Ao62 t412.length co62 : Value).ownBlock ∧ some k_ ≠ (.slice Ao63 t415.length co63 : Value).ownBlock ∧ some k_ ≠ (.slice Ao66 t418.length co66 : Value).ownBlock ∧ k_ ≠ gb384) (Kd.V_keptB (HO396.out) hkp (fun k_ hk_ hs_ => (hk_.2) hs_)) (fun k_ hk_ => ⟨hk_.1.1.1.1.1.1.1, hk_.1.1.1.1.1.2, hk_.1.1.1.1.2, hk_.1.1.1.2, hk_.1.1.2, hk_.1.2, hk_.1.1.1.1.1.1.2⟩)); have n3_ := A_ (Kd.V_mono (ok' := fun k_ => some k_ ≠ (v386 : Value).ownBlock ∧ some k_ ≠ (.slice Ao67 t406.length co67 : Value).ownBlock ∧ some k_ ≠ (v410 : Value).ownBlock ∧ some k_ ≠ (.slice Ao62 t412.length co62 : Value).ownBlock ∧ some k_ ≠ (.slice Ao63 t415.length co63 : Value).ownBlock ∧ some k_ ≠ (.slice Ao66 t418.length co66 : Value).ownBlock ∧ k_ ≠ gb384) (Kd.V_keptB (HO399.out) hkp (fun k_ hk_ hs_ => (hk_.2) hs_)) (fun k_ hk_ => ⟨hk_.1.1.1.1.1.1.1, hk_.1.1.1.1.1.2, hk_.1.1.1.1.2, hk_.1.1.1.2, hk_.1.1.2, hk_.1.2, hk_.1.1.1.1.1.1.2⟩)); have n4_ := A_ (Kd.V_mono (ok' := fun k_ => some k_ ≠ (v386 : Value).ownBlock ∧ some k_ ≠ (.slice Ao67 t406.length co67 : Value).ownBlock ∧ some k_ ≠ (v410 : Value).ownBlock ∧ some k_ ≠ (.slice Ao62 t412.length co62 : Value).ownBlock ∧ some k_ ≠ (.slice Ao63 t415.length co63 : Value).ownBlock ∧ some k_ ≠ (.slice Ao66 t418.length co66 : Value).ownBlock ∧ k_ ≠ gb384) (Kd.V_keptB (HO402.out) hkp (fun k_ hk_ hs_ => (hk_.2) hs_)) (fun k_ hk_ => ⟨hk_.1.1.1.1.1.1.1, hk_.1.1.1.1.1.2, hk_.1.1.1.1.2, hk_.1.1.1.2, hk_.1.1.2, hk_.1.2, hk_.1.1.1.1.1.1.2⟩)); have n5_ := A_ (Kd.V_mono (ok' := fun k_ => some k_ ≠ (v386 : Value).ownBlock ∧ some k_ ≠ (.slice Ao67 t406.length co67 : Value).ownBlock ∧ some k_ ≠ (v410 : Value).ownBlock ∧ some k_ ≠ (.slice Ao62 t412.length co62 : Value).ownBlock ∧ some k_ ≠ (.slice Ao63 t415.length co63 : Value).ownBlock ∧ some k_ ≠ (.slice Ao66 t418.length co66 : Value).ownBlock ∧ k_ ≠ gb384) (Kd.V_keptB (HO405.out) hkp (fun k_ hk_ hs_ => (hk_.2) hs_)) (fun k_ hk_ => ⟨hk_.1.1.1.1.1.1.1, hk_.1.1.1.1.1.2, hk_.1.1.1.1.2, hk_.1.1.1.2, hk_.1.1.2, hk_.1.2, hk_.1.1.1.1.1.1.2⟩)); have n6_ := A_ (Kd.R_mono (ok' := fun k_ => some k_ ≠ (v386 : Value).ownBlock ∧ some k_ ≠ (v410 : Value).ownBlock ∧ some k_ ≠ (.slice Ao62 t412.length co62 : Value).ownBlock ∧ some k_ ≠ (.slice Ao63 t415.length co63 : Value).ownBlock ∧ some k_ ≠ (.slice Ao66 t418.length co66 : Value).ownBlock) (Kd.R_keptB (HO408.out) hkp (fun k_ hk_ hs_ => (hk_.2) hs_)) (fun k_ hk_ => ⟨hk_.1.1.1.1.1.2, hk_.1.1.1.1.2, hk_.1.1.1.2, hk_.1.1.2, hk_.1.2⟩)); have n7_ := A_ (Kd.R_mono (ok' := fun k_ => some k_ ≠ (v386 : Value).ownBlock ∧ some k_ ≠ (.slice Ao67 t406.length co67 : Value).ownBlock ∧ some k_ ≠ (.slice Ao62 t412.length co62 : Value).ownBlock ∧ some k_ ≠ (.slice Ao63 t415.length co63 : Value).ownBlock ∧ some k_ ≠ (.slice Ao66 t418.length co66 : Value).ownBlock) (Kd.R_keptB (HO411.out) hkp (fun k_ hk_ hs_ => (hk_.2) hs_)) (fun k_ hk_ => ⟨hk_.1.1.1.1.1.2, hk_.1.1.1.1.2, hk_.1.1.1.2, hk_.1.1.2, hk_.1.2⟩)); have n8_ := A_ (Kd.R_mono (ok' := fun k_ => some k_ ≠ (v386 : Value).ownBlock ∧ some k_ ≠ (.slice Ao67 t406.length co67 : Value).ownBlock ∧ some k_ ≠ (v410 : Value).ownBlock ∧ some k_ ≠ (.slice Ao63 t415.length co63 : Value).ownBlock ∧ some k_ ≠ (.slice Ao66 t418.length co66 : Value).ownBlock) (Kd.R_keptB (HO414.out) hkp (fun k_ hk_ hs_ => (hk_.2) hs_)) (fun k_ hk_ => ⟨hk_.1.1.1.1.1.2, hk_.1.1.1.1.2, hk_.1.1.1.2, hk_.1.1.2, hk_.1.2⟩)); have n9_ := A_ (Kd.R_mono (ok' := fun k_ => some k_ ≠ (v386 : Value).ownBlock ∧ some k_ ≠ (.slice Ao67 t406.length co67 : Value).ownBlock ∧ some k_ ≠ (v410 : Value).ownBlock ∧ some k_ ≠ (.slice Ao62 t412.length co62 : Value).ownBlock ∧ some k_ ≠ (.slice Ao66 t418.length co66 : Value).ownBlock) (Kd.R_keptB (HO417.out) hkp (fun k_ hk_ hs_ => (hk_.2) hs_)) (fun k_ hk_ => ⟨hk_.1.1.1.1.1.2, hk_.1.1.1.1.2, hk_.1.1.1.2, hk_.1.1.2, hk_.1.2⟩)); have n10_ := A_ (Kd.R_reok rfl hy0 (fun k_ e_ => HO420.out.1 k_ e_)); have n11_ := A_ (hb); clear BK384 HO387 HO396 HO399 HO402 HO405 HO408 HO411 HO414 HO417 HO420 HB; have BK384 := n0_; have HO387 := n1_; have HO396 := n2_; have HO399 := n3_; have HO402 := n4_; have HO405 := n5_; have HO408 := n6_; have HO411 := n7_; have HO414 := n8_; have HO417 := n9_; have HO420 := n10_; have HB := n11_; clear n0_ n1_ n2_ n3_ n4_ n5_ n6_ n7_ n8_ n9_ n10_ n11_; (try clear hb); (try clear hkp); (try clear hy0); have hcz69_0 : w68.cell? ⟨gb384, 0, none⟩ = some (.int .u8 a0_0) := (blk_cell BK384.out 0).trans rfl; have hfz69_0 := blk_frozen BK384.out 0; obtain ⟨Ao70, co70, eo70⟩ := Kd.R_slice HO411.out; subst eo70) | ((with_reducible refine gate_callee (f := 50) rfl ?_); refine goesM_ (some 123) Try.func50 #[.agg #[.int .u8 a0_0], .slice Ao66 t418.length co66, .int .i64 0, .slice Ao70 t409.length co70, .func (.func 51) #[.agg #[.int .u8 a0_0]] #[]] ?_; (with_reducible refine (fast_reckoner_put_sub.calls kj3 a0_0 (fun k_ => some k_ = (.slice Ao66 t418.length co66 : Value).ownBlock) (.slice Ao66 t418.length co66) t421 0 _ _ t409 a0_0 t422 w _ ?side1 ?side2 ?side3 ?side4 A41.out).mono ?_); (case side1 => repeat (first | (with_reducible first | exact HB.out | apply below_alloc | apply pw_below_drewN | apply below_drew1 | refine below_set ?_ GE384.out) | exact HB.out)); (case side2 => exact Kd.R_tight rfl HO420.out); (case side3 => exact Kd.C_kept_own (HO411.out) (fun k_ hk_ hs_ => (hk_.2.2.2.2) hs_)); (case side4 => exact (Kd.R_reads' HO411.out).2.1); rintro e w71 ⟨rfl, hy0, hb, hkp⟩; refine ⟨_, rfl, ?_⟩; have n0_ := A_ (blk_kept (nb_ BK384) hkp (fun hs_ => (fun e_ => (Kd.R_ne HO420.out BK384.out (by decide)) e_) hs_)); have n1_ := A_ (Kd.R_mono (ok' := fun k_ => some k_ ≠ (.slice Ao67 t406.length co67 : Value).ownBlock ∧ some k_ ≠ (.slice Ao70 t409.length co70 : Value).ownBlock ∧ some k_ ≠ (.slice Ao62 t412.length co62 : Value).ownBlock ∧ some k_ ≠ (.slice Ao63 t415.length co63 : Value).ownBlock ∧ some k_ ≠ (.slice Ao66 t418.length co66 : Value).ownBlock) (Kd.R_keptB (HO387.out) hkp (fun k_ hk_ hs_ => (hk_.2.2.2.2) hs_)) (fun k_ hk_ => ⟨hk_.1.1, hk_.1.2.1, hk_.1.2.2.1, hk_.1.2.2.2.1, hk_.1.2.2.2.2⟩)); have n2_ := A_ (Kd.V_mono (ok' := fun k_ => some k_ ≠ (v386 : Value).ownBlock ∧ some k_ ≠ (.slice Ao67 t406.length co67 : Value).ownBlock ∧ some k_ ≠ (.slice Ao70 t409.length co70 : Value).ownBlock ∧ some k_ ≠ (.slice Ao62 t412.length co62 : Value).ownBlock ∧ some k_ ≠ (.slice Ao63 t415.length co63 : Value).ownBlock ∧ some k_ ≠ (.slice Ao66 t418.length co66 : Value).ownBlock ∧ k_ ≠ gb384) (Kd.V_keptB (HO396.out) hkp (fun k_ hk_ hs_ => (hk_.2.2.2.2.2.1) hs_)) (fun k_ hk_ => ⟨hk_.1.1, hk_.1.2.1, hk_.1.2.2.1, hk_.1.2.2.2.1, hk_.1.2.2.2.2.1, hk_.1.2.2.2.2.2.1, hk_.1.2.2.2.2.2.2⟩)); have n3_ := A_ (Kd.V_mono (ok' := fun k_ => some k_ ≠ (v386 : Value).ownBlock ∧ some k_ ≠ (.slice Ao67 t406.length co67 : Value).ownBlock ∧ some k_ ≠ (.slice Ao70 t409.length co70 : Value).ownBlock ∧ some k_ ≠ (.slice Ao62 t412.length co62 : Value).ownBlock ∧ some k_ ≠ (.slice Ao63 t415.length co63 : Value).ownBlock ∧ some k_ ≠ (.slice Ao66 t418.length co66 : Value).ownBlock ∧ k_ ≠ gb384) (Kd.V_keptB (HO399.out) hkp (fun k_ hk_ hs_ => (hk_.2.2.2.2.2.1) hs_)) (fun k_ hk_ => ⟨hk_.1.1, hk_.1.2.1, hk_.1.2.2.1, hk_.1.2.2.2.1, hk_.1.2.2.2.2.1, hk_.1.2.2.2.2.2.1, hk_.1.2.2.2.2.2.2⟩)); have n4_ := A_ (Kd.V_mono (ok' := fun k_ => some k_ ≠ (v386 : Value).ownBlock ∧ some k_ ≠ (.slice Ao67 t406.length co67 : Value).ownBlock ∧ some k_ ≠ (.slice Ao70 t409.length co70 : Value).ownBlock ∧ some k_ ≠ (.slice Ao62 t412.length co62 : Value).ownBlock ∧ some k_ ≠ (.slice Ao63 t415.length co63 : Value).ownBlock ∧ some k_ ≠ (.slice Ao66 t418.length co66 : Value).ownBlock ∧ k_ ≠ gb384) (Kd.V_keptB (HO402.out) hkp (fun k_ hk_ hs_ => (hk_.2.2.2.2.2.1) hs_)) (fun k_ hk_ => ⟨hk_.1.1, hk_.1.2.1, hk_.1.2.2.1, hk_.1.2.2.2.1, hk_.1.2.2.2.2.1, hk_.1.2.2.2.2.2.1, hk_.1.2.2.2.2.2.2⟩)); have n5_ := A_ (Kd.V_mono (ok' := fun k_ => some k_ ≠ (v386 : Value).ownBlock ∧ some k_ ≠ (.slice Ao67 t406.length co67 : Value).ownBlock ∧ some k_ ≠ (.slice Ao70 t409.length co70 : Value).ownBlock ∧ some k_ ≠ (.slice Ao62 t412.length co62 : Value).ownBlock ∧ some k_ ≠ (.slice Ao63 t415.length co63 : Value).ownBlock ∧ some k_ ≠ (.slice Ao66 t418.length co66 : Value).ownBlock ∧ k_ ≠ gb384) (Kd.V_keptB (HO405.out) hkp (fun k_ hk_ hs_ => (hk_.2.2.2.2.2.1) hs_)) (fun k_ hk_ => ⟨hk_.1.1, hk_.1.2.1, hk_.1.2.2.1, hk_.1.2.2.2.1, hk_.1.2.2.2.2.1, hk_.1.2.2.2.2.2.1, hk_.1.2.2.2.2.2.2⟩)); have n6_ := A_ (Kd.R_mono (ok' := fun k_ => some k_ ≠ (v386 : Value).ownBlock ∧ some k_ ≠ (.slice Ao70 t409.length co70 : Value).ownBlock ∧ some k_ ≠ (.slice Ao62 t412.length co62 : Value).ownBlock ∧ some k_ ≠ (.slice Ao63 t415.length co63 : Value).ownBlock ∧ some k_ ≠ (.slice Ao66 t418.length co66 : Value).ownBlock) (Kd.R_keptB (HO408.out) hkp (fun k_ hk_ hs_ => (hk_.2.2.2.2) hs_)) (fun k_ hk_ => ⟨hk_.1.1, hk_.1.2.1, hk_.1.2.2.1, hk_.1.2.2.2.1, hk_.1.2.2.2.2⟩)); have n7_ := A_ (Kd.R_mono (ok' := fun k_ => some k_ ≠ (v386 : Value).ownBlock ∧ some k_ ≠ (.slice Ao67 t406.length co67 : Value).ownBlock ∧ some k_ ≠ (.slice Ao62 t412.length co62 : Value).ownBlock ∧ some k_ ≠ (.slice Ao63 t415.length co63 : Value).ownBlock ∧ some k_ ≠ (.slice Ao66 t418.length co66 : Value).ownBlock) (Kd.R_keptB (HO411.out) hkp (fun k_ hk_ hs_ => (hk_.2.2.2.2) hs_)) (fun k_ hk_ => ⟨hk_.1.1, hk_.1.2.1, hk_.1.2.2.1, hk_.1.2.2.2.1, hk_.1.2.2.2.2⟩)); have n8_ := A_ (Kd.R_mono (ok' := fun k_ => some k_ ≠ (v386 : Value).ownBlock ∧ some k_ ≠ (.slice Ao67 t406.length co67 : Value).ownBlock ∧ some k_ ≠ (.slice Ao70 t409.length co70 : Value).ownBlock ∧ some k_ ≠ (.slice Ao63 t415.length co63 : Value).ownBlock ∧ some k_ ≠ (.slice Ao66 t418.length co66 : Value).ownBlock) (Kd.R_keptB (HO414.out) hkp (fun k_ hk_ hs_ => (hk_.2.2.2.2) hs_)) (fun k_ hk_ => ⟨hk_.1.1, hk_.1.2.1, hk_.1.2.2.1, hk_.1.2.2.2.1, hk_.1.2.2.2.2⟩)); have n9_ := A_ (Kd.R_mono (ok' := fun k_ => some k_ ≠ (v386 : Value).ownBlock ∧ some k_ ≠ (.slice Ao67 t406.length co67 : Value).ownBlock ∧ some k_ ≠ (.slice Ao70 t409.length co70 : Value).ownBlock ∧ some k_ ≠ (.slice Ao62 t412.length co62 : Value).ownBlock ∧ some k_ ≠ (.slice Ao66 t418.length co66 : Value).ownBlock) (Kd.R_keptB (HO417.out) hkp (fun k_ hk_ hs_ => (hk_.2.2.2.2) hs_)) (fun k_ hk_ => ⟨hk_.1.1, hk_.1.2.1, hk_.1.2.2.1, hk_.1.2.2.2.1, hk_.1.2.2.2.2⟩)); have n10_ := A_ (Kd.R_reok rfl hy0 (fun k_ e_ => HO420.out.1 k_ e_)); have n11_ := A_ (hb); clear BK384 HO387 HO396 HO399 HO402 HO405 HO408 HO411 HO414 HO417 HO420 HB; have BK384 := n0_; have HO387 := n1_; have HO396 := n2_; have HO399 := n3_; have HO402 := n4_; have HO405 := n5_; have HO408 := n6_; have HO411 := n7_; have HO414 := n8_; have HO417 := n9_; have HO420 := n10_; have HB := n11_; clear n0_ n1_ n2_ n3_ n4_ n5_ n6_ n7_ n8_ n9_ n10_ n11_; (try clear hb); (try clear hkp); (try clear hy0); have hcz72_0 : w71.cell? ⟨gb384, 0, none⟩ = some (.int .u8 a0_0) := (blk_cell BK384.out 0).trans rfl; have hfz72_0 := blk_frozen BK384.out 0; obtain ⟨Ao73, co73, eo73⟩ := Kd.R_slice HO387.out; subst eo73) | ((with_reducible refine gate_callee (f := 50) rfl ?_); refine goesM_ (some 129) Try.func50 #[.agg #[.int .u8 a0_0], .slice Ao73 y385.length co73, .int .i64 0, .slice Ao67 t406.length co67, .func (.func 47) #[.agg #[.int .u8 a0_0]] #[]] ?_; (with_reducible refine (fast_reckoner_put_add.calls kj3 a0_0 (fun k_ => some k_ = (.slice Ao73 y385.length co73 : Value).ownBlock) (.slice Ao73 y385.length co73) y385 0 _ _ t406 a0_0 t423 w _ ?side1 ?side2 ?side3 ?side4 A42.out).mono ?_); (case side1 => repeat (first | (with_reducible first | exact HB.out | apply below_alloc | apply pw_below_drewN | apply below_drew1 | refine below_set ?_ GE384.out) | exact HB.out)); (case side2 => exact Kd.R_tight rfl HO387.out); (case side3 => exact Kd.C_kept_own (HO408.out) (fun k_ hk_ hs_ => (hk_.1) hs_)); (case side4 => exact (Kd.R_reads' HO408.out).2.1); rintro e w74 ⟨rfl, hy0, hb, hkp⟩; refine ⟨_, rfl, ?_⟩; have n0_ := A_ (blk_kept (nb_ BK384) hkp (fun hs_ => (fun e_ => (Kd.R_ne HO387.out BK384.out (by decide)) e_) hs_)); have n1_ := A_ (Kd.R_reok rfl hy0 (fun k_ e_ => HO387.out.1 k_ e_)); have n2_ := A_ (Kd.V_mono (ok' := fun k_ => some k_ ≠ (.slice Ao73 y385.length co73 : Value).ownBlock ∧ some k_ ≠ (.slice Ao67 t406.length co67 : Value).ownBlock ∧ some k_ ≠ (.slice Ao70 t409.length co70 : Value).ownBlock ∧ some k_ ≠ (.slice Ao62 t412.length co62 : Value).ownBlock ∧ some k_ ≠ (.slice Ao63 t415.length co63 : Value).ownBlock ∧ some k_ ≠ (.slice Ao66 t418.length co66 : Value).ownBlock ∧ k_ ≠ gb384) (Kd.V_keptB (HO396.out) hkp (fun k_ hk_ hs_ => (hk_.1) hs_)) (fun k_ hk_ => ⟨hk_.1.1, hk_.1.2.1, hk_.1.2.2.1, hk_.1.2.2.2.1, hk_.1.2.2.2.2.1, hk_.1.2.2.2.2.2.1, hk_.1.2.2.2.2.2.2⟩)); have n3_ := A_ (Kd.V_mono (ok' := fun k_ => some k_ ≠ (.slice Ao73 y385.length co73 : Value).ownBlock ∧ some k_ ≠ (.slice Ao67 t406.length co67 : Value).ownBlock ∧ some k_ ≠ (.slice Ao70 t409.length co70 : Value).ownBlock ∧ some k_ ≠ (.slice Ao62 t412.length co62 : Value).ownBlock ∧ some k_ ≠ (.slice Ao63 t415.length co63 : Value).ownBlock ∧ some k_ ≠ (.slice Ao66 t418.length co66 : Value).ownBlock ∧ k_ ≠ gb384) (Kd.V_keptB (HO399.out) hkp (fun k_ hk_ hs_ => (hk_.1) hs_)) (fun k_ hk_ => ⟨hk_.1.1, hk_.1.2.1, hk_.1.2.2.1, hk_.1.2.2.2.1, hk_.1.2.2.2.2.1, hk_.1.2.2.2.2.2.1, hk_.1.2.2.2.2.2.2⟩)); have n4_ := A_ (Kd.V_mono (ok' := fun k_ => some k_ ≠ (.slice Ao73 y385.length co73 : Value).ownBlock ∧ some k_ ≠ (.slice Ao67 t406.length co67 : Value).ownBlock ∧ some k_ ≠ (.slice Ao70 t409.length co70 : Value).ownBlock ∧ some k_ ≠ (.slice Ao62 t412.length co62 : Value).ownBlock ∧ some k_ ≠ (.slice Ao63 t415.length co63 : Value).ownBlock ∧ some k_ ≠ (.slice Ao66 t418.length co66 : Value).ownBlock ∧ k_ ≠ gb384) (Kd.V_keptB (HO402.out) hkp (fun k_ hk_ hs_ => (hk_.1) hs_)) (fun k_ hk_ => ⟨hk_.1.1, hk_.1.2.1, hk_.1.2.2.1, hk_.1.2.2.2.1, hk_.1.2.2.2.2.1, hk_.1.2.2.2.2.2.1, hk_.1.2.2.2.2.2.2⟩)); have n5_ := A_ (Kd.V_mono (ok' := fun k_ => some k_ ≠ (.slice Ao73 y385.length co73 : Value).ownBlock ∧ some k_ ≠ (.slice Ao67 t406.length co67 : Value).ownBlock ∧ some k_ ≠ (.slice Ao70 t409.length co70 : Value).ownBlock ∧ some k_ ≠ (.slice Ao62 t412.length co62 : Value).ownBlock ∧ some k_ ≠ (.slice Ao63 t415.length co63 : Value).ownBlock ∧ some k_ ≠ (.slice Ao66 t418.length co66 : Value).ownBlock ∧ k_ ≠ gb384) (Kd.V_keptB (HO405.out) hkp (fun k_ hk_ hs_ => (hk_.1) hs_)) (fun k_ hk_ => ⟨hk_.1.1, hk_.1.2.1, hk_.1.2.2.1, hk_.1.2.2.2.1, hk_.1.2.2.2.2.1, hk_.1.2.2.2.2.2.1, hk_.1.2.2.2.2.2.2⟩)); have n6_ := A_ (Kd.R_mono (ok' := fun k_ => some k_ ≠ (.slice Ao73 y385.length co73 : Value).ownBlock ∧ some k_ ≠ (.slice Ao70 t409.length co70 : Value).ownBlock ∧ some k_ ≠ (.slice Ao62 t412.length co62 : Value).ownBlock ∧ some k_ ≠ (.slice Ao63 t415.length co63 : Value).ownBlock ∧ some k_ ≠ (.slice Ao66 t418.length co66 : Value).ownBlock) (Kd.R_keptB (HO408.out) hkp (fun k_ hk_ hs_ => (hk_.1) hs_)) (fun k_ hk_ => ⟨hk_.1.1, hk_.1.2.1, hk_.1.2.2.1, hk_.1.2.2.2.1, hk_.1.2.2.2.2⟩)); have n7_ := A_ (Kd.R_mono (ok' := fun k_ => some k_ ≠ (.slice Ao73 y385.length co73 : Value).ownBlock ∧ some k_ ≠ (.slice Ao67 t406.length co67 : Value).ownBlock ∧ some k_ ≠ (.slice Ao62 t412.length co62 : Value).ownBlock ∧ some k_ ≠ (.slice Ao63 t415.length co63 : Value).ownBlock ∧ some k_ ≠ (.slice Ao66 t418.length co66 : Value).ownBlock) (Kd.R_keptB (HO411.out) hkp (fun k_ hk_ hs_ => (hk_.1) hs_)) (fun k_ hk_ => ⟨hk_.1.1, hk_.1.2.1, hk_.1.2.2.1, hk_.1.2.2.2.1, hk_.1.2.2.2.2⟩)); have n8_ := A_ (Kd.R_mono (ok' := fun k_ => some k_ ≠ (.slice Ao73 y385.length co73 : Value).ownBlock ∧ some k_ ≠ (.slice Ao67 t406.length co67 : Value).ownBlock ∧ some k_ ≠ (.slice Ao70 t409.length co70 : Value).ownBlock ∧ some k_ ≠ (.slice Ao63 t415.length co63 : Value).ownBlock ∧ some k_ ≠ (.slice Ao66 t418.length co66 : Value).ownBlock) (Kd.R_keptB (HO414.out) hkp (fun k_ hk_ hs_ => (hk_.1) hs_)) (fun k_ hk_ => ⟨hk_.1.1, hk_.1.2.1, hk_.1.2.2.1, hk_.1.2.2.2.1, hk_.1.2.2.2.2⟩)); have n9_ := A_ (Kd.R_mono (ok' := fun k_ => some k_ ≠ (.slice Ao73 y385.length co73 : Value).ownBlock ∧ some k_ ≠ (.slice Ao67 t406.length co67 : Value).ownBlock ∧ some k_ ≠ (.slice Ao70 t409.length co70 : Value).ownBlock ∧ some k_ ≠ (.slice Ao62 t412.length co62 : Value).ownBlock ∧ some k_ ≠ (.slice Ao66 t418.length co66 : Value).ownBlock) (Kd.R_keptB (HO417.out) hkp (fun k_ hk_ hs_ => (hk_.1) hs_)) (fun k_ hk_ => ⟨hk_.1.1, hk_.1.2.1, hk_.1.2.2.1, hk_.1.2.2.2.1, hk_.1.2.2.2.2⟩)); have n10_ := A_ (Kd.R_mono (ok' := fun k_ => some k_ ≠ (.slice Ao73 y385.length co73 : Value).ownBlock ∧ some k_ ≠ (.slice Ao67 t406.length co67 : Value).ownBlock ∧ some k_ ≠ (.slice Ao70 t409.length co70 : Value).ownBlock ∧ some k_ ≠ (.slice Ao62 t412.length co62 : Value).ownBlock ∧ some k_ ≠ (.slice Ao63 t415.length co63 : Value).ownBlock) (Kd.R_keptB (HO420.out) hkp (fun k_ hk_ hs_ => (hk_.1.1.1.1.2) hs_)) (fun k_ hk_ => ⟨hk_.1.1.1.1.1.2, hk_.1.1.1.1.2, hk_.1.1.1.2, hk_.1.1.2, hk_.1.2⟩)); have n11_ := A_ (hb); clear BK384 HO387 HO396 HO399 HO402 HO405 HO408 HO411 HO414 HO417 HO420 HB; have BK384 := n0_; have HO387 := n1_; have HO396 := n2_; have HO399 := n3_; have HO402 := n4_; have HO405 := n5_; have HO408 := n6_; have HO411 := n7_; have HO414 := n8_; have HO417 := n9_; have HO420 := n10_; have HB := n11_; clear n0_ n1_ n2_ n3_ n4_ n5_ n6_ n7_ n8_ n9_ n10_ n11_; (try clear hb); (try clear hkp); (try clear hy0); have hcz75_0 : w74.cell? ⟨gb384, 0, none⟩ = some (.int .u8 a0_0) := (blk_cell BK384.out 0).trans rfl; have hfz75_0 := blk_frozen BK384.out 0) | ((with_reducible refine gate_callee (f := 50) rfl ?_); refine goesL_ (some 137) rfl rfl Try.func50 (by kernel_rfl) rfl #[.agg #[.int .u8 a0_0], .slice Ao73 y385.length co73, .int .i64 (wrap64 (2 * (wrap64 (Int.tdiv (wrap64 ((ji32) + 1)) 2)))), .slice Ao70 t409.length co70, .func (.func 47) #[.agg #[.int .u8 a0_0]] #[]] rfl (by (try simp only [List.map_toArray, List.map_cons, List.map_nil]); first | done | (simp only [hji32]; rfl) | rfl | (simp only [List.length_drop, List.length_take]; rfl)) ?_; (with_reducible refine (fast_reckoner_put_add.calls kj3 a0_0 (fun k_ => some k_ = (.slice Ao73 y385.length co73 : Value).ownBlock) (.slice Ao73 y385.length co73) t423 (wrap64 (2 * (wrap64 (Int.tdiv (wrap64 ((ji32) + 1)) 2)))) _ _ t409 a0_0 t424 w _ ?side1 ?side2 ?side3 ?side4 A43.out).mono ?_); (case side1 => repeat (first | (with_reducible first | exact HB.out | apply below_alloc | apply pw_below_drewN | apply below_drew1 | refine below_set ?_ GE384.out) | exact HB.out)); (case side2 => exact Kd.R_tight rfl HO387.out); (case side3 => exact Kd.C_kept_own (HO411.out) (fun k_ hk_ hs_ => (hk_.1) hs_)); (case side4 => exact (Kd.R_reads' HO411.out).2.1); rintro e w76 ⟨rfl, hy0, hb, hkp⟩; refine ⟨_, rfl, ?_⟩; have n0_ := A_ (blk_kept (nb_ BK384) hkp (fun hs_ => (fun e_ => (Kd.R_ne HO387.out BK384.out (by decide)) e_) hs_)); have n1_ := A_ (Kd.R_reok rfl hy0 (fun k_ e_ => HO387.out.1 k_ e_)); have n2_ := A_ (Kd.V_mono (ok' := fun k_ => some k_ ≠ (.slice Ao73 y385.length co73 : Value).ownBlock ∧ some k_ ≠ (.slice Ao67 t406.length co67 : Value).ownBlock ∧ some k_ ≠ (.slice Ao70 t409.length co70 : Value).ownBlock ∧ some k_ ≠ (.slice Ao62 t412.length co62 : Value).ownBlock ∧ some k_ ≠ (.slice Ao63 t415.length co63 : Value).ownBlock ∧ some k_ ≠ (.slice Ao66 t418.length co66 : Value).ownBlock ∧ k_ ≠ gb384) (Kd.V_keptB (HO396.out) hkp (fun k_ hk_ hs_ => (hk_.1) hs_)) (fun k_ hk_ => ⟨hk_.1.1, hk_.1.2.1, hk_.1.2.2.1, hk_.1.2.2.2.1, hk_.1.2.2.2.2.1, hk_.1.2.2.2.2.2.1, hk_.1.2.2.2.2.2.2⟩)); have n3_ := A_ (Kd.V_mono (ok' := fun k_ => some k_ ≠ (.slice Ao73 y385.length co73 : Value).ownBlock ∧ some k_ ≠ (.slice Ao67 t406.length co67 : Value).ownBlock ∧ some k_ ≠ (.slice Ao70 t409.length co70 : Value).ownBlock ∧ some k_ ≠ (.slice Ao62 t412.length co62 : Value).ownBlock ∧ some k_ ≠ (.slice Ao63 t415.length co63 : Value).ownBlock ∧ some k_ ≠ (.slice Ao66 t418.length co66 : Value).ownBlock ∧ k_ ≠ gb384) (Kd.V_keptB (HO399.out) hkp (fun k_ hk_ hs_ => (hk_.1) hs_)) (fun k_ hk_ => ⟨hk_.1.1, hk_.1.2.1, hk_.1.2.2.1, hk_.1.2.2.2.1, hk_.1.2.2.2.2.1, hk_.1.2.2.2.2.2.1, hk_.1.2.2.2.2.2.2⟩)); have n4_ := A_ (Kd.V_mono (ok' := fun k_ => some k_ ≠ (.slice Ao73 y385.length co73 : Value).ownBlock ∧ some k_ ≠ (.slice Ao67 t406.length co67 : Value).ownBlock ∧ some k_ ≠ (.slice Ao70 t409.length co70 : Value).ownBlock ∧ some k_ ≠ (.slice Ao62 t412.length co62 : Value).ownBlock ∧ some k_ ≠ (.slice Ao63 t415.length co63 : Value).ownBlock ∧ some k_ ≠ (.slice Ao66 t418.length co66 : Value).ownBlock ∧ k_ ≠ gb384) (Kd.V_keptB (HO402.out) hkp (fun k_ hk_ hs_ => (hk_.1) hs_)) (fun k_ hk_ => ⟨hk_.1.1, hk_.1.2.1, hk_.1.2.2.1, hk_.1.2.2.2.1, hk_.1.2.2.2.2.1, hk_.1.2.2.2.2.2.1, hk_.1.2.2.2.2.2.2⟩)); have n5_ := A_ (Kd.V_mono (ok' := fun k_ => some k_ ≠ (.slice Ao73 y385.length co73 : Value).ownBlock ∧ some k_ ≠ (.slice Ao67 t406.length co67 : Value).ownBlock ∧ some k_ ≠ (.slice Ao70 t409.length co70 : Value).ownBlock ∧ some k_ ≠ (.slice Ao62 t412.length co62 : Value).ownBlock ∧ some k_ ≠ (.slice Ao63 t415.length co63 : Value).ownBlock ∧ some k_ ≠ (.slice Ao66 t418.length co66 : Value).ownBlock ∧ k_ ≠ gb384) (Kd.V_keptB (HO405.out) hkp (fun k_ hk_ hs_ => (hk_.1) hs_)) (fun k_ hk_ => ⟨hk_.1.1, hk_.1.2.1, hk_.1.2.2.1, hk_.1.2.2.2.1, hk_.1.2.2.2.2.1, hk_.1.2.2.2.2.2.1, hk_.1.2.2.2.2.2.2⟩)); have n6_ := A_ (Kd.R_mono (ok' := fun k_ => some k_ ≠ (.slice Ao73 y385.length co73 : Value).ownBlock ∧ some k_ ≠ (.slice Ao70 t409.length co70 : Value).ownBlock ∧ some k_ ≠ (.slice Ao62 t412.length co62 : Value).ownBlock ∧ some k_ ≠ (.slice Ao63 t415.length co63 : Value).ownBlock ∧ some k_ ≠ (.slice Ao66 t418.length co66 : Value).ownBlock) (Kd.R_keptB (HO408.out) hkp (fun k_ hk_ hs_ => (hk_.1) hs_)) (fun k_ hk_ => ⟨hk_.1.1, hk_.1.2.1, hk_.1.2.2.1, hk_.1.2.2.2.1, hk_.1.2.2.2.2⟩)); have n7_ := A_ (Kd.R_mono (ok' := fun k_ => some k_ ≠ (.slice Ao73 y385.length co73 : Value).ownBlock ∧ some k_ ≠ (.slice Ao67 t406.length co67 : Value).ownBlock ∧ some k_ ≠ (.slice Ao62 t412.length co62 : Value).ownBlock ∧ some k_ ≠ (.slice Ao63 t415.length co63 : Value).ownBlock ∧ some k_ ≠ (.slice Ao66 t418.length co66 : Value).ownBlock) (Kd.R_keptB (HO411.out) hkp (fun k_ hk_ hs_ => (hk_.1) hs_)) (fun k_ hk_ => ⟨hk_.1.1, hk_.1.2.1, hk_.1.2.2.1, hk_.1.2.2.2.1, hk_.1.2.2.2.2⟩)); have n8_ := A_ (Kd.R_mono (ok' := fun k_ => some k_ ≠ (.slice Ao73 y385.length co73 : Value).ownBlock ∧ some k_ ≠ (.slice Ao67 t406.length co67 : Value).ownBlock ∧ some k_ ≠ (.slice Ao70 t409.length co70 : Value).ownBlock ∧ some k_ ≠ (.slice Ao63 t415.length co63 : Value).ownBlock ∧ some k_ ≠ (.slice Ao66 t418.length co66 : Value).ownBlock) (Kd.R_keptB (HO414.out) hkp (fun k_ hk_ hs_ => (hk_.1) hs_)) (fun k_ hk_ => ⟨hk_.1.1, hk_.1.2.1, hk_.1.2.2.1, hk_.1.2.2.2.1, hk_.1.2.2.2.2⟩)); have n9_ := A_ (Kd.R_mono (ok' := fun k_ => some k_ ≠ (.slice Ao73 y385.length co73 : Value).ownBlock ∧ some k_ ≠ (.slice Ao67 t406.length co67 : Value).ownBlock ∧ some k_ ≠ (.slice Ao70 t409.length co70 : Value).ownBlock ∧ some k_ ≠ (.slice Ao62 t412.length co62 : Value).ownBlock ∧ some k_ ≠ (.slice Ao66 t418.length co66 : Value).ownBlock) (Kd.R_keptB (HO417.out) hkp (fun k_ hk_ hs_ => (hk_.1) hs_)) (fun k_ hk_ => ⟨hk_.1.1, hk_.1.2.1, hk_.1.2.2.1, hk_.1.2.2.2.1, hk_.1.2.2.2.2⟩)); have n10_ := A_ (Kd.R_mono (ok' := fun k_ => some k_ ≠ (.slice Ao73 y385.length co73 : Value).ownBlock ∧ some k_ ≠ (.slice Ao67 t406.length co67 : Value).ownBlock ∧ some k_ ≠ (.slice Ao70 t409.length co70 : Value).ownBlock ∧ some k_ ≠ (.slice Ao62 t412.length co62 : Value).ownBlock ∧ some k_ ≠ (.slice Ao63 t415.length co63 : Value).ownBlock) (Kd.R_keptB (HO420.out) hkp (fun k_ hk_ hs_ => (hk_.1) hs_)) (fun k_ hk_ => ⟨hk_.1.1, hk_.1.2.1, hk_.1.2.2.1, hk_.1.2.2.2.1, hk_.1.2.2.2.2⟩)); have n11_ := A_ (hb); clear BK384 HO387 HO396 HO399 HO402 HO405 HO408 HO411 HO414 HO417 HO420 HB; have BK384 := n0_; have HO387 := n1_; have HO396 := n2_; have HO399 := n3_; have HO402 := n4_; have HO405 := n5_; have HO408 := n6_; have HO411 := n7_; have HO414 := n8_; have HO417 := n9_; have HO420 := n10_; have HB := n11_; clear n0_ n1_ n2_ n3_ n4_ n5_ n6_ n7_ n8_ n9_ n10_ n11_; (try clear hb); (try clear hkp); (try clear hy0)))
         have n0_ := A_ (Kd.R_drew HO387.out)
         have n1_ := A_ (Kd.V_drew HO396.out)
         have n2_ := A_ (Kd.V_drew HO399.out)
         have n3_ := A_ (Kd.V_drew HO402.out)
         have n4_ := A_ (Kd.V_drew HO405.out)
         have n5_ := A_ (Kd.R_drew HO408.out)
         have n6_ := A_ (Kd.R_drew HO411.out)
         have n7_ := A_ (Kd.R_drew HO414.out)
         have n8_ := A_ (Kd.R_drew HO417.out)
         have n9_ := A_ (Kd.R_drew HO420.out)
         have n10_ := A_ (blk_drew BK384.out)
         have n11_ := A_ (below_drew1 HB.out)
         clear HO387
         clear HO396
         clear HO399
         clear HO402
         clear HO405
         clear HO408
         clear HO411
         clear HO414
         clear HO417
         clear HO420
         clear BK384
         clear HB
         have HO387 := n0_
         have HO396 := n1_
         have HO399 := n2_
         have HO402 := n3_
         have HO405 := n4_
         have HO408 := n5_
         have HO411 := n6_
         have HO414 := n7_
         have HO417 := n8_
         have HO420 := n9_
         have BK384 := n10_
         have HB := n11_
         clear n0_ n1_ n2_ n3_ n4_ n5_ n6_ n7_ n8_ n9_ n10_ n11_
         have hlx78 := (Kd.R_reads' HO420.out).1
         have q78 : ((ji44) : Int) ≤ ((t418.length : Int) : Int) := of_decide_eq_true (by first | (with_reducible assumption) | assumption)
         obtain ⟨i078, hi078, _, hsz78, _⟩ := info_parts info33
         have hroom78 : t418.length ≤ co66 := (Kd.R_reads' HO420.out).2.1
         have hroomc78 : t422.length ≤ co66 := (by rw [← hlx78]; exact hroom78)
         have hC78 : Kd.C (Kd.int .u64) _ Ao66 t422.length t422 := (Kd.R_reads' HO420.out).2.2
         have hcut78 := cut_to (P := Try.prog) 22 33 .i64 Try.underlying22 hi078 Ao66 t418.length co66 (ji44) (of_decide_eq_true (by first | (with_reducible assumption) | assumption)) q78 hroom78
         have hr78 := Kd.C_take (m := ((ji44) : Int).toNat) hC78 (by omega)
         have hy78 : y425.length = ((ji44) : Int).toNat := (by rw [Ny425.out, List.length_take]; omega)
         rw [← Ny425.out] at hr78
         rw [← hy78] at hcut78
         have HR428 := Aside0.mk hr78
         have HC428 := A_ (show y425.length ≤ co66 from by omega)
         clear hr78 hC78 hroom78 hi078 hsz78 hroomc78
         have KY78 := Aside0.mk hy78
         clear hy78
         have KE78 := Aside0.mk hlx78
         have KL78 := A_ (show ((ji44) : Int).toNat ≤ t422.length from by omega)
         clear hlx78
         replace q78 := eq_true q78
         refine start_ (n := 15) (S := fun w' => w'.cell? ⟨gb384, 0, none⟩ = some (.int .u8 a0_0)) (ds := []) #[false, false, false, false, false, false, false, false, false, false, false, false, false, false, false] (by kernel_rfl) rfl rfl ((blk_cell BK384.out 0).trans rfl) (fun hHeld => ?_); refine with_tabW fast_reckoner_halves.tab24 fast_reckoner_halves.bits24 (fun HT_ HW_ => ?_)
         generalize w76.drew = w77 at HO387 HO396 HO399 HO402 HO405 HO408 HO411 HO414 HO417 HO420 BK384 HB HR428 hHeld ⊢
         refine pure_ (i := 1) (N := some 139) (v := ?_) (a' := ?_) #[false, true, false, false, false, false, false, false, false, false, false, false, false, false, false] rfl rfl (any_of HT_.out (by kernel_rfl)) (fun _ _ _ h => h) (Or.inl ⟨by rfl, ?_⟩) ?_ ?_
         rotate_left
         ·intro w'
          go_simp
          with_reducible rfl
         rotate_left
         ·simp only [Act.put, List.setIfInBounds_toArray, List.set_cons_zero, List.set_cons_succ, i64_w, i32_w]
          rfl
         refine pure_ (i := 2) (N := some 140) (v := ?_) (a' := ?_) #[false, true, true, false, false, false, false, false, false, false, false, false, false, false, false] rfl rfl (any_of HT_.out (by kernel_rfl)) (fun _ _ _ h => h) (Or.inl ⟨by rfl, ?_⟩) ?_ ?_
         rotate_left
         ·intro w'
          go_simp
          with_reducible rfl
         rotate_left
         ·simp only [Act.put, List.setIfInBounds_toArray, List.set_cons_zero, List.set_cons_succ, i64_w, i32_w]
          rfl
         refine pure_ (i := 3) (N := some 141) (v := ?_) (a' := ?_) #[false, true, true, true, false, false, false, false, false, false, false, false, false, false, false] rfl rfl (any_of HT_.out (by kernel_rfl)) (fun _ _ _ h => h) (Or.inl ⟨by rfl, ?_⟩) ?_ ?_
         rotate_left
         ·intro w'
          go_simp
          with_reducible rfl
         rotate_left
         ·simp only [Act.put, List.setIfInBounds_toArray, List.set_cons_zero, List.set_cons_succ, i64_w, i32_w]
          rfl
         refine pure_ (i := 4) (N := some 142) (v := ?_) (a' := ?_) #[false, true, true, true, true, false, false, false, false, false, false, false, false, false, false] rfl rfl (any_of HT_.out (by kernel_rfl)) (fun _ _ _ h => h) (Or.inl ⟨by rfl, ?_⟩) ?_ ?_
         rotate_left
         ·intro w'
          go_simp
          with_reducible rfl
         rotate_left
         ·simp only [Act.put, List.setIfInBounds_toArray, List.set_cons_zero, List.set_cons_succ, i64_w, i32_w]
          rfl
         refine pure_ (i := 5) (N := some 143) (v := ?_) (a' := ?_) #[false, true, true, true, true, true, false, false, false, false, false, false, false, false, false] rfl rfl (any_of HT_.out (by kernel_rfl)) (fun _ _ _ h => h) (Or.inl ⟨by rfl, ?_⟩) ?_ ?_
         rotate_left
         ·intro w'
          go_simp
          with_reducible rfl
         rotate_left
         ·simp only [Act.put, List.setIfInBounds_toArray, List.set_cons_zero, List.set_cons_succ, i64_w, i32_w]
          rfl
         refine pure_ (i := 6) (N := some 144) (v := ?_) (a' := ?_) #[false, true, true, true, true, true, true, false, false, false, false, false, false, false, false] rfl rfl (any_of HT_.out (by kernel_rfl)) (fun _ _ _ h => h) (Or.inl ⟨by rfl, ?_⟩) ?_ ?_
         rotate_left
         ·intro w'
          go_simp
          with_reducible rfl
         rotate_left
         ·simp only [Act.put, List.setIfInBounds_toArray, List.set_cons_zero, List.set_cons_succ, i64_w, i32_w]
          rfl
         refine pure_ (i := 7) (N := some 145) (v := ?_) (a' := ?_) #[false, true, true, true, true, true, true, true, false, false, false, false, false, false, false] rfl rfl (any_of HT_.out (by kernel_rfl)) (fun _ _ _ h => h) (Or.inl ⟨by rfl, ?_⟩) ?_ ?_
         rotate_left
         ·intro w'
          go_simp
          with_reducible rfl
         rotate_left
         ·simp only [Act.put, List.setIfInBounds_toArray, List.set_cons_zero, List.set_cons_succ, i64_w, i32_w]
          rfl
         refine pure_ (i := 8) (N := some 146) (v := ?_) (a' := ?_) #[false, true, true, true, true, true, true, true, true, false, false, false, false, false, false] rfl rfl (any_of HT_.out (by kernel_rfl)) (fun _ _ _ h => h) (Or.inl ⟨by rfl, ?_⟩) ?_ ?_
         rotate_left
         ·intro w'
          go_simp
          with_reducible rfl
         rotate_left
         ·simp only [Act.put, List.setIfInBounds_toArray, List.set_cons_zero, List.set_cons_succ, i64_w, i32_w]
          rfl
         refine pure_ (i := 9) (N := some 147) (v := ?_) (a' := ?_) #[false, true, true, true, true, true, true, true, true, true, false, false, false, false, false] rfl rfl (any_of HT_.out (by kernel_rfl)) (fun _ _ _ h => h) (Or.inl ⟨by rfl, ?_⟩) ?_ ?_
         rotate_left
         ·intro w'
          go_simp
          with_reducible rfl
         rotate_left
         ·simp only [Act.put, List.setIfInBounds_toArray, List.set_cons_zero, List.set_cons_succ, i64_w, i32_w]
          rfl
         refine pure_ (i := 10) (N := some 148) (v := ?_) (a' := ?_) #[false, true, true, true, true, true, true, true, true, true, true, false, false, false, false] rfl rfl (any_of HT_.out (by kernel_rfl)) (fun _ _ _ h => h) (Or.inl ⟨by rfl, ?_⟩) ?_ ?_
         rotate_left
         ·intro w'
          go_simp
          with_reducible rfl
         rotate_left
         ·simp only [Act.put, List.setIfInBounds_toArray, List.set_cons_zero, List.set_cons_succ, i64_w, i32_w]
          rfl
         refine pure_ (i := 11) (N := some 149) (v := ?_) (a' := ?_) #[false, true, true, true, true, true, true, true, true, true, true, true, false, false, false] rfl rfl (any_of HT_.out (by kernel_rfl)) (fun _ _ _ h => h) (Or.inl ⟨by rfl, ?_⟩) ?_ ?_
         rotate_left
         ·intro w'
          go_simp
          with_reducible rfl
         rotate_left
         ·simp only [Act.put, List.setIfInBounds_toArray, List.set_cons_zero, List.set_cons_succ, i64_w, i32_w]
          rfl
         refine take_ (i := 0) (N := some 138) (v := ?_) (a' := ?_) #[true, true, true, true, true, true, true, true, true, true, true, true, false, false, false] rfl rfl (take_ofW HT_.out HW_.out (by kernel_rfl)) (fun _ _ _ h => h) (Or.inl ⟨by rfl, ?_⟩) hHeld ?_ ?_
         rotate_left
         ·intro w' s0
          go_simp
          with_reducible rfl
         rotate_left
         ·simp only [Act.put, List.setIfInBounds_toArray, List.set_cons_zero, List.set_cons_succ, i64_w, i32_w]
          rfl
         refine take_ (i := 12) (N := some 150) (v := ?_) (a' := ?_) #[true, true, true, true, true, true, true, true, true, true, true, true, true, false, false] rfl rfl (take_ofW HT_.out HW_.out (by kernel_rfl)) (fun _ _ _ h => h) (Or.inl ⟨by rfl, ?_⟩) hHeld ?_ ?_
         rotate_left
         ·intro w' s0
          go_simp
          with_reducible rfl
         rotate_left
         ·simp only [Act.put, List.setIfInBounds_toArray, List.set_cons_zero, List.set_cons_succ, i64_w, i32_w]
          rfl
         refine pure_ (i := 13) (N := some 151) (v := ?_) (a' := ?_) #[true, true, true, true, true, true, true, true, true, true, true, true, true, true, false] rfl rfl (any_of HT_.out (by kernel_rfl)) (fun _ _ _ h => h) (Or.inl ⟨by rfl, ?_⟩) ?_ ?_
         rotate_left
         ·intro w'
          go_simp
          with_reducible rfl
         rotate_left
         ·simp only [Act.put, List.setIfInBounds_toArray, List.set_cons_zero, List.set_cons_succ, i64_w, i32_w]
          rfl
         refine one_ (i := 14) (N := some 152) #[true, true, true, true, true, true, true, true, true, true, true, true, true, true, true] rfl rfl (one_of HT_.out (by kernel_rfl)) (by decide) (fun K hK => ?_)
         refine goes_ Try.func50 (by kernel_rfl) rfl #[.agg #[.int .u8 a0_0], .slice Ao73 y385.length co73, .int .i64 (wrap64 (Int.tdiv (wrap64 ((ji32) + 1)) 2)), .slice Ao66 y425.length co66, .func (.func 47) #[.agg #[.int .u8 a0_0]] #[]] (by rfl) rfl rfl (by (try simp only [List.map_toArray, List.map_cons, List.map_nil]); first | done | (simp only [hji32]; rfl) | rfl | (simp only [List.length_drop, List.length_take]; rfl)) ?_
         with_reducible refine (fast_reckoner_put_add.calls kj3 a0_0 (fun k_ => some k_ = (.slice Ao73 y385.length co73 : Value).ownBlock) (.slice Ao73 y385.length co73) t424 (wrap64 (Int.tdiv (wrap64 ((ji32) + 1)) 2)) _ _ y425 a0_0 t429 w _ ?side1 ?side2 ?side3 ?side4 A47.out).mono ?_
         (case side1 => repeat (first | (with_reducible first | exact HB.out | apply below_alloc | apply pw_below_drewN | apply below_drew1 | refine below_set ?_ GE384.out) | exact HB.out))
         (case side2 => exact Kd.R_tight rfl HO387.out)
         (case side3 => exact fun W_ hk0_ => (show Kd.C (Kd.int .u64) W_ _ y425.length y425 from by rw [Ny425.out]; exact Kd.C_take (m := ((ji44) : Int).toNat) (by rw [← KE78.out]; exact ((Kd.C_kept_own (HO420.out) (fun k_ hk_ hs_ => (hk_.1) hs_)) W_ hk0_)) KL78.out))
         (case side4 => exact HC428.out)
         rintro e w79 ⟨rfl, hy0, hb, hkp⟩
         refine ⟨_, rfl, ?_⟩
         have n0_ := A_ (blk_kept (nb_ BK384) hkp (fun hs_ => (fun e_ => (Kd.R_ne HO387.out BK384.out (by decide)) e_) hs_))
         have n1_ := A_ (Kd.R_reok rfl hy0 (fun k_ e_ => HO387.out.1 k_ e_))
         have n2_ := A_ (Kd.V_mono (ok' := fun k_ => some k_ ≠ (.slice Ao73 y385.length co73 : Value).ownBlock ∧ some k_ ≠ (.slice Ao67 t406.length co67 : Value).ownBlock ∧ some k_ ≠ (.slice Ao70 t409.length co70 : Value).ownBlock ∧ some k_ ≠ (.slice Ao62 t412.length co62 : Value).ownBlock ∧ some k_ ≠ (.slice Ao63 t415.length co63 : Value).ownBlock ∧ some k_ ≠ (.slice Ao66 t418.length co66 : Value).ownBlock ∧ k_ ≠ gb384) (Kd.V_keptB (HO396.out) hkp (fun k_ hk_ hs_ => (hk_.1) hs_)) (fun k_ hk_ => ⟨hk_.1.1, hk_.1.2.1, hk_.1.2.2.1, hk_.1.2.2.2.1, hk_.1.2.2.2.2.1, hk_.1.2.2.2.2.2.1, hk_.1.2.2.2.2.2.2⟩))
         have n3_ := A_ (Kd.V_mono (ok' := fun k_ => some k_ ≠ (.slice Ao73 y385.length co73 : Value).ownBlock ∧ some k_ ≠ (.slice Ao67 t406.length co67 : Value).ownBlock ∧ some k_ ≠ (.slice Ao70 t409.length co70 : Value).ownBlock ∧ some k_ ≠ (.slice Ao62 t412.length co62 : Value).ownBlock ∧ some k_ ≠ (.slice Ao63 t415.length co63 : Value).ownBlock ∧ some k_ ≠ (.slice Ao66 t418.length co66 : Value).ownBlock ∧ k_ ≠ gb384) (Kd.V_keptB (HO399.out) hkp (fun k_ hk_ hs_ => (hk_.1) hs_)) (fun k_ hk_ => ⟨hk_.1.1, hk_.1.2.1, hk_.1.2.2.1, hk_.1.2.2.2.1, hk_.1.2.2.2.2.1, hk_.1.2.2.2.2.2.1, hk_.1.2.2.2.2.2.2⟩))
         have n4_ := A_ (Kd.V_mono (ok' := fun k_ => some k_ ≠ (.slice Ao73 y385.length co73 : Value).ownBlock ∧ some k_ ≠ (.slice Ao67 t406.length co67 : Value).ownBlock ∧ some k_ ≠ (.slice Ao70 t409.length co70 : Value).ownBlock ∧ some k_ ≠ (.slice Ao62 t412.length co62 : Value).ownBlock ∧ some k_ ≠ (.slice Ao63 t415.length co63 : Value).ownBlock ∧ some k_ ≠ (.slice Ao66 t418.length co66 : Value).ownBlock ∧ k_ ≠ gb384) (Kd.V_keptB (HO402.out) hkp (fun k_ hk_ hs_ => (hk_.1) hs_)) (fun k_ hk_ => ⟨hk_.1.1, hk_.1.2.1, hk_.1.2.2.1, hk_.1.2.2.2.1, hk_.1.2.2.2.2.1, hk_.1.2.2.2.2.2.1, hk_.1.2.2.2.2.2.2⟩))
         have n5_ := A_ (Kd.V_mono (ok' := fun k_ => some k_ ≠ (.slice Ao73 y385.length co73 : Value).ownBlock ∧ some k_ ≠ (.slice Ao67 t406.length co67 : Value).ownBlock ∧ some k_ ≠ (.slice Ao70 t409.length co70 : Value).ownBlock ∧ some k_ ≠ (.slice Ao62 t412.length co62 : Value).ownBlock ∧ some k_ ≠ (.slice Ao63 t415.length co63 : Value).ownBlock ∧ some k_ ≠ (.slice Ao66 t418.length co66 : Value).ownBlock ∧ k_ ≠ gb384) (Kd.V_keptB (HO405.out) hkp (fun k_ hk_ hs_ => (hk_.1) hs_)) (fun k_ hk_ => ⟨hk_.1.1, hk_.1.2.1, hk_.1.2.2.1, hk_.1.2.2.2.1, hk_.1.2.2.2.2.1, hk_.1.2.2.2.2.2.1, hk_.1.2.2.2.2.2.2⟩))
         have n6_ := A_ (Kd.R_mono (ok' := fun k_ => some k_ ≠ (.slice Ao73 y385.length co73 : Value).ownBlock ∧ some k_ ≠ (.slice Ao70 t409.length co70 : Value).ownBlock ∧ some k_ ≠ (.slice Ao62 t412.length co62 : Value).ownBlock ∧ some k_ ≠ (.slice Ao63 t415.length co63 : Value).ownBlock ∧ some k_ ≠ (.slice Ao66 t418.length co66 : Value).ownBlock) (Kd.R_keptB (HO408.out) hkp (fun k_ hk_ hs_ => (hk_.1) hs_)) (fun k_ hk_ => ⟨hk_.1.1, hk_.1.2.1, hk_.1.2.2.1, hk_.1.2.2.2.1, hk_.1.2.2.2.2⟩))
         have n7_ := A_ (Kd.R_mono (ok' := fun k_ => some k_ ≠ (.slice Ao73 y385.length co73 : Value).ownBlock ∧ some k_ ≠ (.slice Ao67 t406.length co67 : Value).ownBlock ∧ some k_ ≠ (.slice Ao62 t412.length co62 : Value).ownBlock ∧ some k_ ≠ (.slice Ao63 t415.length co63 : Value).ownBlock ∧ some k_ ≠ (.slice Ao66 t418.length co66 : Value).ownBlock) (Kd.R_keptB (HO411.out) hkp (fun k_ hk_ hs_ => (hk_.1) hs_)) (fun k_ hk_ => ⟨hk_.1.1, hk_.1.2.1, hk_.1.2.2.1, hk_.1.2.2.2.1, hk_.1.2.2.2.2⟩))
         have n8_ := A_ (Kd.R_mono (ok' := fun k_ => some k_ ≠ (.slice Ao73 y385.length co73 : Value).ownBlock ∧ some k_ ≠ (.slice Ao67 t406.length co67 : Value).ownBlock ∧ some k_ ≠ (.slice Ao70 t409.length co70 : Value).ownBlock ∧ some k_ ≠ (.slice Ao63 t415.length co63 : Value).ownBlock ∧ some k_ ≠ (.slice Ao66 t418.length co66 : Value).ownBlock) (Kd.R_keptB (HO414.out) hkp (fun k_ hk_ hs_ => (hk_.1) hs_)) (fun k_ hk_ => ⟨hk_.1.1, hk_.1.2.1, hk_.1.2.2.1, hk_.1.2.2.2.1, hk_.1.2.2.2.2⟩))
         have n9_ := A_ (Kd.R_mono (ok' := fun k_ => some k_ ≠ (.slice Ao73 y385.length co73 : Value).ownBlock ∧ some k_ ≠ (.slice Ao67 t406.length co67 : Value).ownBlock ∧ some k_ ≠ (.slice Ao70 t409.length co70 : Value).ownBlock ∧ some k_ ≠ (.slice Ao62 t412.length co62 : Value).ownBlock ∧ some k_ ≠ (.slice Ao66 t418.length co66 : Value).ownBlock) (Kd.R_keptB (HO417.out) hkp (fun k_ hk_ hs_ => (hk_.1) hs_)) (fun k_ hk_ => ⟨hk_.1.1, hk_.1.2.1, hk_.1.2.2.1, hk_.1.2.2.2.1, hk_.1.2.2.2.2⟩))
         have n10_ := A_ (Kd.R_mono (ok' := fun k_ => some k_ ≠ (.slice Ao73 y385.length co73 : Value).ownBlock ∧ some k_ ≠ (.slice Ao67 t406.length co67 : Value).ownBlock ∧ some k_ ≠ (.slice Ao70 t409.length co70 : Value).ownBlock ∧ some k_ ≠ (.slice Ao62 t412.length co62 : Value).ownBlock ∧ some k_ ≠ (.slice Ao63 t415.length co63 : Value).ownBlock) (Kd.R_keptB (HO420.out) hkp (fun k_ hk_ hs_ => (hk_.1) hs_)) (fun k_ hk_ => ⟨hk_.1.1, hk_.1.2.1, hk_.1.2.2.1, hk_.1.2.2.2.1, hk_.1.2.2.2.2⟩))
         have n11_ := A_ (hb)
         clear BK384
         clear HO387
         clear HO396
         clear HO399
         clear HO402
         clear HO405
         clear HO408
         clear HO411
         clear HO414
         clear HO417
         clear HO420
         clear HB
         have BK384 := n0_
         have HO387 := n1_
         have HO396 := n2_
         have HO399 := n3_
         have HO402 := n4_
         have HO405 := n5_
         have HO408 := n6_
         have HO411 := n7_
         have HO414 := n8_
         have HO417 := n9_
         have HO420 := n10_
         have HB := n11_
         clear n0_ n1_ n2_ n3_ n4_ n5_ n6_ n7_ n8_ n9_ n10_ n11_
         (try clear hb)
         (try clear hkp)
         (try clear hy0)
         refine hK.out _ _ ((blk_cell BK384.out 0).trans rfl) (fun hHeld => ?_)
         clear hK K
         refine norm_ (a' := ?_) ?_ ?_
         rotate_left
         ·show Act.put _ (some 152) _ = _
          simp only [Act.put, List.setIfInBounds_toArray, List.set_cons_zero, List.set_cons_succ, i64_w, i32_w]
          rfl
         refine done_ (done_of HT_.out (by kernel_rfl)) ?_
         try go_wp2
         go_ret
         exact ⟨_, by first | rfl | (simp [errW_none, errW_some] <;> rfl) | (simp only [← hji8, ← hji11, ← hji32, ← hji44]; first | rfl | (simp [errW_none, errW_some] <;> rfl)) | (simp [*, errW_none, errW_some] <;> rfl), by (with_reducible repeat (first | apply Kd.R_alloc | apply Kd.R_drewN | apply Kd.R_drew)); exact Kd.R_mono HO387.out (fun _ hk => trivial), hs_⟩
        ·rw [if_neg c46] at H
         exact absurd H (by simp)
       ·rw [if_neg c45] at H
        exact absurd H (by simp)
     ·rw [if_neg c10] at H
      exact absurd H (by simp)
    ·rw [if_neg c9] at H
     exact absurd H (by simp)
end Go.Proofs.Ytaegmhniepfdaaa.PFastFresh
