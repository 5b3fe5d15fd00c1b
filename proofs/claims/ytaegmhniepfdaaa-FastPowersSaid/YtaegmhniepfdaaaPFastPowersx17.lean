/- The Go functions as Lean functions, each with the proof that its call comes to just that; written by a program of this session, by the words of the print. -/
import Derived.Test.YtaegmhniepfdaaaPFastPowersx0
import Derived.Test.YtaegmhniepfdaaaPFastPowersx13
import Derived.Test.YtaegmhniepfdaaaPFastPowersx14
import Derived.Test.YtaegmhniepfdaaaPFastPowersx16
namespace Go.Proofs.Ytaegmhniepfdaaa.PFastPowers
open Go.RowKit Go.Proofs.YtaegmhniepfdaaaW.PrintWords Go.Proofs.YtaegmhniepfdaaaW.PrintLast Go.Proofs.YtaegmhniepfdaaaW.PrintMore
attribute [local go_sem] max2_int min2_int max_two min_two max_three min_three max_four min_four   -- for this text's walks alone
set_option linter.unusedVariables false
set_option linter.unusedSimpArgs false
/-! ### conclavelaw04_FastPowers: function 4 -/
def conclavelaw04_FastPowers.f (k : Nat) (a0 : Int) (l1 : List Int) (a2 : Int) : Option (Bool) := (fast_Power.f k a0 l1 a2).bind fun bt574 => ((cr4_Power.f k a0 l1 a2).bind fun bt578 => ((cr1_Same.f k bt574.1 bt578.1).bind fun t582 => (if t582 = true then (if bt574.2 = bt578.2 then ((conclavelaw04_anchored.f k).bind fun t583 => (some t583)) else (none)) else (none))))
theorem conclavelaw04_FastPowers.mono : ∀ a0 a1 a2 k, LeO (conclavelaw04_FastPowers.f k a0 a1 a2) (conclavelaw04_FastPowers.f (k + 1) a0 a1 a2) := by
 intro a0 a1 a2 k
 unfold conclavelaw04_FastPowers.f
 repeat' first
   | (with_reducible exact conclavelaw04_anchored.mono _)
   | (with_reducible exact cr1_Same.mono _ _ _)
   | (with_reducible exact cr4_Power.mono _ _ _ _)
   | (with_reducible exact fast_Power.mono _ _ _ _)
   | (with_reducible exact LeO.refl _)
   | (with_reducible exact LeO.none _)
   | (with_reducible refine LeO.ite ?_ ?_)
   | (with_reducible refine LeO.bind ?_ (fun _ => ?_))
   | exact conclavelaw04_anchored.mono _
   | exact cr1_Same.mono _ _ _
   | exact cr4_Power.mono _ _ _ _
   | exact fast_Power.mono _ _ _ _
   | exact LeO.none _
   | refine LeO.ite ?_ ?_
   | refine LeO.bind ?_ (fun _ => ?_)
set_option maxHeartbeats 8000000 in
set_option maxRecDepth 100000 in
theorem conclavelaw04_FastPowers.calls (k : Nat) (a0 : Int) (A1 : Option Addr) (c1 : Nat) (l1 : List Int) (a2 : Int) (r : Bool) (w : World) (hr1 : Kd.C (Kd.int .u64) w A1 l1.length l1) (hc1 : l1.length ≤ c1) (h : conclavelaw04_FastPowers.f k a0 l1 a2 = some r) :
  Calls Try.prog 4 #[.int .u8 a0, .slice A1 l1.length c1, .int .i64 a2] w fun e w' => e = .returned (.bool r) ∧ Below w.heap.size w w' := by
 have HR1 := Aside0.mk hr1
 have HC1 := Aside0.mk hc1
 clear hr1 hc1
 have HB := A_ (Below.refl w.heap.size w)
 have H : ((fast_Power.f k a0 l1 a2).bind fun bt574 => ((cr4_Power.f k a0 l1 a2).bind fun bt578 => ((cr1_Same.f k bt574.1 bt578.1).bind fun t582 => (if t582 = true then (if bt574.2 = bt578.2 then ((conclavelaw04_anchored.f k).bind fun t583 => (some t583)) else (none)) else (none))))) = some r := h
 clear h
 replace H := Option.bind_eq_some_iff.mp H
 obtain ⟨⟨t574, t577⟩, A40, H⟩ := H
 replace H : ((cr4_Power.f k a0 l1 a2).bind fun bt578 => ((cr1_Same.f k t574 bt578.1).bind fun t582 => (if t582 = true then (if t577 = bt578.2 then ((conclavelaw04_anchored.f k).bind fun t583 => (some t583)) else (none)) else (none)))) = some r := H
 have A4 := Aside0.mk A40
 clear A40
 replace H := Option.bind_eq_some_iff.mp H
 obtain ⟨⟨t578, t579⟩, A50, H⟩ := H
 replace H : ((cr1_Same.f k t574 t578).bind fun t582 => (if t582 = true then (if t577 = t579 then ((conclavelaw04_anchored.f k).bind fun t583 => (some t583)) else (none)) else (none))) = some r := H
 have A5 := Aside0.mk A50
 clear A50
 replace H := Option.bind_eq_some_iff.mp H
 obtain ⟨t582, A60, H⟩ := H
 replace H : (if t582 = true then (if t577 = t579 then ((conclavelaw04_anchored.f k).bind fun t583 => (some t583)) else (none)) else (none)) = some r := H
 have A6 := Aside0.mk A60
 clear A60
 by_cases c7 : t582 = true
 ·subst c7
  have H1 : (if t577 = t579 then ((conclavelaw04_anchored.f k).bind fun t583 => (some t583)) else (none)) = some r := by rw [if_pos rfl] at H; exact H
  clear H
  have H := H1
  clear H1
  by_cases c8 : t577 = t579
  ·rw [if_pos c8] at H
   have c8b0 : (t577 == t579) = true := beq_iff_eq.mpr c8
   have c8b1 : (t577 != t579) = false := bne_eq_false_iff_eq.mpr c8
   clear c8
   replace H := Option.bind_eq_some_iff.mp H
   obtain ⟨t583, A90, H⟩ := H
   replace H : (some t583) = some r := H
   have A9 := Aside0.mk A90
   clear A90
   obtain rfl := Option.some.inj H
   go_enter Try.func4, Try.ntmps4
   go_wp2_with (first | ((with_reducible refine gate_callee (f := 19) rfl ?_); refine goesM_ (some 15) Try.func19 #[.int .u8 a0, .slice A1 l1.length c1, .int .i64 a2] ?_; (with_reducible refine (fast_Power.calls k a0 (fun k_ => k_ < w.heap.size) _ _ l1 a2 t574 t577 _ ?side1 A4.out).mono ?_); (case side1 => exact Kd.V_mk HC1.out (Kd.F_below (Kd.C_F (Kd.heap_int .u64) HR1.out) hb_)); rintro e w10 ⟨v575, rfl, ho0, hb⟩; refine ⟨_, rfl, ?_⟩; have n0_ := A_ (Kd.R_lower (Kd.R_mono (ok' := fun k_ => True) ho0 (fun _ hk_ => trivial)) (below_size hb_)); have n1_ := A_ (below_step hb_ hb); clear HB; have HO576 := n0_; have HB := n1_; clear n0_ n1_; (try clear hb); (try clear ho0)) | ((with_reducible refine gate_callee (f := 20) rfl ?_); refine goesM_ (some 22) Try.func20 #[.int .u8 a0, .slice A1 l1.length c1, .int .i64 a2] ?_; (with_reducible refine (cr4_Power.calls k a0 _ _ l1 a2 t578 t579 _ ?side1 ?side2 A5.out).mono ?_); (case side1 => repeat (first | exact (Kd.C_below HR1.out HB.out) | (with_reducible refine Kd.C_alloc ?_ _) | (with_reducible refine Kd.C_drewN ?_ _) | (with_reducible refine Kd.C_drew ?_))); (case side2 => exact HC1.out); rintro e w11 ⟨v580, rfl, ho0, hb⟩; refine ⟨_, rfl, ?_⟩; have n0_ := A_ (Kd.R_elder' (nR_ HO576) (Kd.R_base ho0) hb); have n1_ := A_ (Kd.R_lower (Kd.R_new' ho0 (Kd.R_lt (nR_ HO576))) (below_size hb_)); have n2_ := A_ (below_step hb_ hb); clear HO576 HB; have HO576 := n0_; have HO581 := n1_; have HB := n2_; clear n0_ n1_ n2_; (try clear hb); (try clear ho0); obtain ⟨Ao12, co12, eo12⟩ := Kd.R_slice HO576.out; subst eo12; obtain ⟨Ao13, co13, eo13⟩ := Kd.R_slice HO581.out; subst eo13) | ((with_reducible refine gate_callee (f := 18) rfl ?_); refine goesM_ (some 27) Try.func18 #[.slice Ao12 t574.length co12, .slice Ao13 t578.length co13] ?_; (with_reducible refine (cr1_Same.calls k _ _ t574 _ _ t578 true _ ?side1 ?side2 ?side3 ?side4 A6.out).mono ?_); (case side1 => repeat (first | exact (Kd.R_reads' HO576.out).2.2 | (with_reducible refine Kd.C_alloc ?_ _) | (with_reducible refine Kd.C_drewN ?_ _) | (with_reducible refine Kd.C_drew ?_))); (case side2 => exact (Kd.R_reads' HO576.out).2.1); (case side3 => repeat (first | exact (Kd.R_reads' HO581.out).2.2 | (with_reducible refine Kd.C_alloc ?_ _) | (with_reducible refine Kd.C_drewN ?_ _) | (with_reducible refine Kd.C_drew ?_))); (case side4 => exact (Kd.R_reads' HO581.out).2.1); rintro e w' ⟨rfl, ⟨nd, rfl⟩⟩; refine ⟨_, rfl, ?_⟩) | (go_at_call 17; (with_reducible refine (conclavelaw04_anchored.calls k  t583 _ A9.out).mono ?_); rintro e w14 ⟨rfl, hb⟩; have n0_ := A_ (Kd.R_below (nR_ HO576) hb); have n1_ := A_ (Kd.R_below (nR_ HO581) hb); have n2_ := A_ (below_step hb_ hb); clear HO576 HO581 HB; have HO576 := n0_; have HO581 := n1_; have HB := n2_; clear n0_ n1_ n2_; (try clear hb)))
   go_ret
   exact ⟨fr_, hb_⟩
  ·rw [if_neg c8] at H
   exact absurd H (by simp)
 ·replace c7 := Bool.eq_false_iff.mpr c7
  subst c7
  have H1 : (none) = some r := by rw [if_neg (show ¬ (false = true) by decide)] at H; exact H
  clear H
  have H := H1
  clear H1
  exact absurd H (by simp)
/-- THE ONE PURE STATEMENT of conclavelaw04_FastPowers: yours. -/
def conclavelaw04_FastPowers.Pure : Prop := ∀ (a0 : Int) (l1 : List Int) (a2 : Int), (Lit.int .u8 a0).wf = true → l1.length ≤ maxLen → l1.length * 8 ≤ 140737488351232 → (∀ x ∈ l1, (Lit.int .u64 x).wf = true) → (Lit.int .i64 a2).wf = true → ∃ k, conclavelaw04_FastPowers.f k a0 l1 a2 = some true
theorem conclavelaw04_FastPowers.walk (P : conclavelaw04_FastPowers.Pure) (a0 : Int) (a1 : Option Addr) (len1 cap1 : Nat) (z1 : List Int) (a2 : Int) (w : World) (w0 : (Lit.int .u8 a0).wf = true) (w1 : (a1 = none ∧ len1 = 0 ∧ cap1 = 0 ∧ z1 = []) ∨ ∃ x, a1 = some x ∧ len1 ≤ cap1 ∧ cap1 ≤ maxLen ∧ z1.length = cap1 ∧ (∀ i, i < z1.length → w.cell? (x.add i) = some (.int .u64 (z1.getD i 0))) ∧ ∀ n ∈ z1, (Lit.int .u64 n).wf = true) (y1 : len1 * 8 ≤ 140737488351232) (w2 : (Lit.int .i64 a2).wf = true) :
  Calls Try.prog 4 #[.int .u8 a0, .slice a1 len1 cap1, .int .i64 a2] w fun e w' => e = .returned (.bool true) ∧ Below w.heap.size w w' := by
 obtain ⟨l1, rfl, hr1, hm1, hw1, hc1⟩ := ReadsInt.ofRowC w1
 obtain ⟨k, h⟩ := P a0 l1 a2 w0 hm1 y1 hw1 w2
 refine (conclavelaw04_FastPowers.calls k a0 _ _ l1 a2 true w (Kd.C_of_reads (d := (0 : Int)) (h1 := fun _ => rfl) hr1) hc1 h).mono ?_
 rintro e w' ⟨rfl, hd⟩
 exact ⟨rfl, hd⟩
end Go.Proofs.Ytaegmhniepfdaaa.PFastPowers
