/- A polynomial times a number, and values: the package's, the reference's. -/
import Derived.Test.YtbjanbbjjnoecaaMV
import Derived.Test.YtbjanbbjjnoecaaPolyValuesFR
namespace Go.Proofs.Ytbjanbbjjnoecaa.FPolyValues
open Go.RowKit Go Go.Proofs.YtbjanbbjjnoecaaW.PrintWords Go.Proofs.YtbjanbbjjnoecaaW.PrintLast Go.Proofs.YtbjanbbjjnoecaaW.PrintMore Go.Proofs.Ytbjanbbjjnoecaa.M Go.Proofs.Ytbjanbbjjnoecaa.PPolyValues

theorem kscale_eq {f a c : Int} (b : Int) (hp : P f ≠ 0) (ha : 0 ≤ a ∧ a < P f) (hc : 0 ≤ c ∧ c < P f) : Ev (fun k => poly_Scale_1.f k a b f c) (a * c % P f) := by
  unfold poly_Scale_1.f
  exact Ev.bind (kmul_eq hp ha hc) (Ev.fix rfl)
theorem put_loop_scale {f c : Int} (hp : Pr (P f)) (hp0 : P f ≠ 0) (hc : 0 ≤ c ∧ c < P f) (a : List Int) (ea : El (P f) a) (N : Nat) (hN : N < 17592186044416) : ∀ (d m : Nat), m + d = N →
    Ev (fun k => poly_placed_Scale_1.l0 k f [] c (pol N fun i => if i < m then cf a i * c % P f else cf a i) (N : Int) (m : Int)) (trim (pol N fun i => cf a i * c % P f), 0) := by
  have hlo := hp.lo
  intro d
  induction d with
  | zero =>
    intro m h
    refine Ev.step (fun k => by rw [poly_placed_Scale_1.l0]) ?_
    have e : (pol N fun i => if i < m then cf a i * c % P f else cf a i) = pol N fun i => cf a i * c % P f := pol_congr fun i hi => by rw [if_pos (by omega)]
    rw [e]
    exact Ev.neg (by omega) (Ev.bind (trimmed_own_eq _ (by rw [pol_len]; omega)) (Ev.fix rfl))
  | succ d ih =>
    intro m h
    have hm : m < N := by omega
    have e : (pol N fun i => if i < m then cf a i * c % P f else cf a i).set m (cf a m * c % P f) = pol N fun i => if i < m + 1 then cf a i * c % P f else cf a i := by
      rw [pol_set hm]
      refine pol_congr fun i _ => ?_
      by_cases q : i = m
      · rw [if_pos q, if_pos (by omega), q]
      · rw [if_neg q]
        by_cases q2 : i < m
        · rw [if_pos q2, if_pos (by omega)]
        · rw [if_neg q2, if_neg (by omega)]
    have r : rd (pol N fun i => if i < m then cf a i * c % P f else cf a i) (m : Int) = cf a m := by rw [rd_pol hm]; simp
    refine Ev.step (fun k => by rw [poly_placed_Scale_1.l0]) ?_
    simp only [r, pol_len, Int.toNat_natCast]
    refine Ev.pos (by omega) (Ev.neg (by simp) (Ev.pos (by omega) (Ev.pos (by omega) (Ev.bind (kscale_eq 0 hp0 (cf_el ea (by omega) m) hc) ?_))))
    rw [e, w64_succ (by omega)]
    exact ih (m + 1) (by omega)
theorem PScale_eq (f c : Int) (a : List Int) (hc : 0 ≤ c) (wa : Wd a) (ha : a.length < 17592186044416) : Ev (fun k => poly_Scale.f k f c a) (if ok f [c] = true then (if bad f a [] = 0 then (scaleP (P f) c a, 0) else ([], bad f a [])) else ([], 2)) := by
  unfold poly_Scale.f
  refine Ev.bind (In_eq f [c] (by simp)) (Ev.ite (fun q => ?_) (fun q => ?_))
  · rw [if_pos q]
    unfold poly_placed_Scale_1.f
    refine Ev.bind (may2_eq f a [] (by omega) (by simp)) (Ev.ite (fun b => ?_) (fun b => ?_))
    · rw [if_pos b]
      obtain ⟨ka, _, la, _⟩ := bad_zero b
      have hc2 : c < P f := (ok_iff.1 q).2 c (by simp)
      rw [mx_nat]
      simp only [Int.toNat_natCast]
      refine Ev.pos (by omega) (Ev.pos (by simp; omega) (Ev.bnd rfl (Ev.bnd rfl ?_)))
      rw [padded a [], pol_len]
      have h := put_loop_scale (ok_pr ka) (ok_iff.1 ka).1 ⟨hc, hc2⟩ a (wa.el (ok_all ka)) (max a.length ([] : List Int).length) (by simp; omega) (max a.length ([] : List Int).length) 0 (by omega)
      unfold scaleP
      simpa using h
    · rw [if_neg b]; exact Ev.fix rfl
  · rw [if_neg q]; exact Ev.fix rfl
theorem rPScale (f c : Int) (a : List Int) (hc : 0 ≤ c) (hc1 : c < 18446744073709551616) (wa : Wd a) (ha : a.length < 17592186044416) : Ev (fun k => conclaveref03_Scale.f k f c a) (if ok f [c] = true then (if bad f a [] = 0 then (scaleP (P f) c a, 0) else ([], bad f a [])) else ([], 2)) := by
  unfold conclaveref03_Scale.f
  refine Ev.bind (rIn f [c] (by simp)) (Ev.ite (fun q => ?_) (fun q => ?_))
  · rw [if_pos q]
    refine Ev.bind (rPMul f [c] a (Wd.cons ⟨hc, hc1⟩ Wd.nil) wa (by simp) ha) (Ev.fix ?_)
    have e : bad f [c] a = bad f a [] := by
      unfold bad
      have q2 : ok f [] = true := ok_nil.2 (ok_iff.1 q).1
      simp [q, q2]
    have hc2 : c < P f := (ok_iff.1 q).2 c (by simp)
    unfold Pmul
    rw [e]
    by_cases b : bad f a [] = 0
    · rw [if_pos b, if_pos b]
      obtain ⟨ka, _, la, _⟩ := bad_zero b
      rw [← scale_mul (ok_pr ka) ⟨hc, hc2⟩ (wa.el (ok_all ka))]
      have t1 := trim_le [c]; have t2 := trim_le a
      simp at t1
      split
      · rfl
      · rw [if_neg (by omega)]
    · rw [if_neg b, if_neg b]
  · rw [if_neg q]; exact Ev.fix rfl
/-- A value, or the error. -/
def valE (f : Int) (a : List Int) (x : Int) : Int × Int := if bad f a [x] = 0 then (sm a x a.length % P f, 0) else (0, bad f a [x])
theorem PEval_eq (f x : Int) (a : List Int) (hx : 0 ≤ x) (wa : Wd a) (ha : a.length < 17592186044416) : Ev (fun k => poly_Eval.f k f a x) (valE f a x) := by
  unfold poly_Eval.f valE
  refine Ev.bind (In_eq f [x] (by simp)) (Ev.ite (fun q => ?_) (fun q => ?_))
  · have hp := (ok_iff.1 q).1
    have hx2 : x < P f := (ok_iff.1 q).2 x (by simp)
    have e : (if P f = 0 then 2 else bads f [a] 0) = bad f a [x] := by
      rw [if_neg hp]
      unfold bad
      by_cases ca : ok f a = true
      · rw [if_pos ⟨ca, q⟩]
        simp only [bads, if_pos ca]
        by_cases l : a.length ≤ 4096
        · rw [if_neg (by omega), if_pos ⟨l, by simp⟩]
        · rw [if_pos (by omega), if_neg (fun z => l z.1)]
      · rw [if_neg (fun z => ca z.1)]
        simp only [bads, if_neg ca]
    have m := may_eq f [a] (by simp; omega) (by simp)
    rw [e] at m
    refine Ev.bind m (Ev.ite (fun b => ?_) (fun b => ?_))
    · rw [if_pos b]
      obtain ⟨ka, _, la, _⟩ := bad_zero b
      have ea := wa.el (ok_all ka)
      refine Ev.pos ?_ (Ev.fix ?_)
      · rw [Bool.and_eq_true]
        refine ⟨by unfold inF; simp [hx, hx2], List.all_eq_true.2 fun c hc => ?_⟩
        have := ea c hc
        unfold inF; simp [this]
      · rw [← horner]; rfl
    · rw [if_neg b]; exact Ev.fix rfl
  · have e : bad f a [x] = 2 := by unfold bad; rw [if_neg (fun z => q z.2)]
    rw [e, if_neg (by omega)]; exact Ev.fix rfl
theorem rEval_loop {f x : Int} (hp : Pr (P f)) (a : List Int) (ea : El (P f) a) (hx : 0 ≤ x ∧ x < P f) (hs : a.length < 17592186044416) : ∀ (d m : Nat), m + d = a.length →
    Ev (fun k => conclaveref03_Eval.l0 k f a x (sm a x m % P f) (x ^ m % P f) (m : Int)) (sm a x a.length % P f, 0) := by
  have hlo := hp.lo; have hhi := hp.hi
  intro d
  induction d with
  | zero =>
    intro m h
    refine Ev.step (fun k => by rw [conclaveref03_Eval.l0]) ?_
    have e : m = a.length := by omega
    subst e
    exact Ev.neg (by omega) (Ev.fix rfl)
  | succ d ih =>
    intro m h
    refine Ev.step (fun k => by rw [conclaveref03_Eval.l0]) ?_
    have ra := cf_el ea (by omega) m
    have r1 := emod_rng (p := P f) (x ^ m) (by omega)
    have r2 := emod_rng (p := P f) (sm a x m) (by omega)
    have r3 := emod_rng (p := P f) (cf a m * (x ^ m % P f)) (by omega)
    rw [w64_succ (by omega), show rd a (m : Int) = cf a m from rfl]
    refine Ev.pos (by omega) (Ev.bnd (rP f) (Ev.pos (by omega) (Ev.bind (rTimes (by omega) (by omega) ra.1 ra.2 r1.1 (by omega)) (Ev.bnd (rSum (by omega) (by omega) r2.1 r2.2 r3.1 r3.2) (Ev.bind (rTimes (by omega) (by omega) r1.1 r1.2 hx.1 (by omega)) ?_)))))
    rw [emod_mul_l, emod_add_l, emod_mul_r, emod_add_r]
    have h1 := ih (m + 1) (by omega)
    rw [sm, Int.pow_succ] at h1
    exact h1
theorem rPEval (f x : Int) (a : List Int) (hx : 0 ≤ x) (wa : Wd a) (ha : a.length < 17592186044416) : Ev (fun k => conclaveref03_Eval.f k f a x) (valE f a x) := by
  unfold conclaveref03_Eval.f valE
  refine Ev.bind (rBad f a [x] (by omega) (by simp)) (Ev.ite (fun b => ?_) (fun b => ?_))
  · rw [if_pos b]
    obtain ⟨ka, kx, la, _⟩ := bad_zero b
    have hx2 : x < P f := (ok_iff.1 kx).2 x (by simp)
    have hp := ok_pr ka
    have h := rEval_loop hp a (wa.el (ok_all ka)) ⟨hx, hx2⟩ ha a.length 0 (Nat.zero_add _)
    rw [sm, Int.pow_zero, one_mod hp] at h
    simpa using h
  · rw [if_neg b]; exact Ev.fix rfl

end Go.Proofs.Ytbjanbbjjnoecaa.FPolyValues
