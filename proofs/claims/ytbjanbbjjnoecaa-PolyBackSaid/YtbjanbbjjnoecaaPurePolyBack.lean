/- PolyBack: quotient times divisor and the remainder is what was divided, and the remainder's degree is below the divisor's; where there is nothing to divide by, there is an error. For every field number and every two lists of words. -/
import Derived.Test.YtbjanbbjjnoecaaPolyBackFN
import Derived.Test.YtbjanbbjjnoecaaPolyBackFT
namespace Go.Proofs.Ytbjanbbjjnoecaa.Pure
open Go.RowKit Go.Proofs.Ytbjanbbjjnoecaa.PPolyBack Go.Proofs.YtbjanbbjjnoecaaW.PrintWords Go.Proofs.YtbjanbbjjnoecaaW.PrintLast Go.Proofs.Ytbjanbbjjnoecaa.M Go.Proofs.Ytbjanbbjjnoecaa.FPolyBack

theorem PolyBack : conclavelaw03_PolyBack.Pure := by
  intro f a b _ _ ha wa _ hb wb
  refine Ev.rounds (g := fun k => conclavelaw03_PolyBack.f k f a b) ?_
  unfold conclavelaw03_PolyBack.f
  have w1 := Wd.of_wf wa; have w2 := Wd.of_wf wb
  refine Ev.bind (PDivMod_eq f a b w1 w2 (by omega) (by omega)) (Ev.bind (rBad f a b (by omega) (by omega)) (Ev.ite (fun c => ?_) (fun c => ?_)))
  · obtain ⟨hp, hp0, ea, eb, la, lb⟩ := bad_el w1 w2 c
    have hlo := hp.lo; have hhi := hp.hi
    have ta := trim_le a; have tb := trim_le b
    refine Ev.bind (rTrim b (by omega)) ?_
    by_cases z : trim b = []
    · rw [z]
      refine Ev.step (fun k => by rw [conclavelaw03_PolyBack.j0]) ?_
      refine Ev.pos rfl (Ev.bind anchored3 (Ev.pos rfl (Ev.fix ?_)))
      unfold Pdm; rw [if_pos c, if_pos z]; rfl
    · have ca := Cn.trim (p := P f) ea; have cb := Cn.trim (p := P f) eb
      obtain ⟨q1, q2, q3, q4, q5⟩ := dmP_spec hp ca cb z
      have z0 : (trim b).length ≠ 0 := fun e => z (List.length_eq_zero_iff.1 e)
      have e1 : Pdm f a b = ((dmP (P f) (trim a) (trim b)).1, (dmP (P f) (trim a) (trim b)).2, 0) := Pdm_good hp0 ea eb la lb z
      rw [e1]
      generalize dmP (P f) (trim a) (trim b) = D at *
      refine Ev.step (fun k => by rw [conclavelaw03_PolyBack.j0]) ?_
      have l1 : D.1.length ≤ 4096 := q4.elim (fun h => by rw [h]; simp) (fun h => by omega)
      have w3 := q1.el.wd (by omega); have w4 := q2.el.wd (by omega)
      have m1 := PMul_eq f D.1 b w3 w2 (by omega) (by omega)
      rw [Pmul_good hp0 q1.el eb l1 lb (by rw [q1.tr]; exact q4.elim (fun h => .inl h) (fun h => .inr (.inr (by omega))))] at m1
      have hm : (mulP (P f) (trim D.1) (trim b)).length ≤ 4096 := by
        rw [q1.tr]
        by_cases y : D.1 = []
        · unfold mulP; rw [if_pos (.inl y)]; exact Nat.zero_le _
        · rw [mulP_len y z]; exact q4.elim (fun h => absurd h y) (fun h => by omega)
      have hmc := mulP_cn hp (Cn.trim (p := P f) q1.el) cb
      have m2 := PAdd_eq f (mulP (P f) (trim D.1) (trim b)) D.2 (hmc.el.wd (by omega)) w4 (by omega) (by omega)
      rw [Padd_good hp0 hmc.el q2.el hm (by omega)] at m2
      have e2 : sumP (P f) (mulP (P f) (trim D.1) (trim b)) D.2 = trim a := by
        refine (sumP_cn (by omega) _ _).ext (by omega) ca ?_
        refine (sumP_cg _ _ _).trans (((mulP_cg _ _ _).add (Cg.refl _)).trans ?_)
        rw [q1.tr]
        exact q5
      rw [e2] at m2
      refine Ev.neg (by simp; omega) (Ev.bind m1 (Ev.bind m2 (Ev.bind anchored3 (Ev.pos rfl (Ev.pos rfl (Ev.pos rfl (Ev.pos rfl (Ev.bind (Degree_eq D.2 (by omega)) (Ev.bind (Degree_eq b (by omega)) (Ev.pos ?_ (Ev.bind (rTrim a (by omega)) (Ev.bind (rSame (trim a) (trim a) (by omega)) (Ev.fix (by simp))))))))))))))
      rw [q2.tr]; omega
  · refine Ev.step (fun k => by rw [conclavelaw03_PolyBack.j0]) ?_
    refine Ev.pos rfl (Ev.bind anchored3 (Ev.pos rfl (Ev.fix ?_)))
    unfold Pdm; rw [if_neg c]
    simpa using c

end Go.Proofs.Ytbjanbbjjnoecaa.Pure
