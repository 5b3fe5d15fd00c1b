/- PolySums: every sum, difference and product of polynomials is the reference's, and so is every error. For every field number and every two lists of words. -/
import Derived.Test.YtbjanbbjjnoecaaPolySumsFR
namespace Go.Proofs.Ytbjanbbjjnoecaa.Pure
open Go.RowKit Go.Proofs.Ytbjanbbjjnoecaa.PPolySums Go.Proofs.YtbjanbbjjnoecaaW.PrintWords Go.Proofs.YtbjanbbjjnoecaaW.PrintLast Go.Proofs.Ytbjanbbjjnoecaa.M Go.Proofs.Ytbjanbbjjnoecaa.FPolySums

theorem Padd_len (f : Int) (a b : List Int) : (Padd f a b).1.length ≤ max a.length b.length := by
  unfold Padd sumP; split
  · exact Nat.le_trans (trim_le _) (by rw [pol_len]; exact Nat.le_refl _)
  · exact Nat.zero_le _
theorem Psub_len (f : Int) (a b : List Int) : (Psub f a b).1.length ≤ max a.length b.length := by
  unfold Psub lessP; split
  · exact Nat.le_trans (trim_le _) (by rw [pol_len]; exact Nat.le_refl _)
  · exact Nat.zero_le _
theorem Pmul_len (f : Int) (a b : List Int) : (Pmul f a b).1.length ≤ 4096 := by
  unfold Pmul
  split
  · split
    · exact Nat.zero_le _
    · split
      · exact Nat.zero_le _
      · rename_i h
        unfold mulP; split
        · exact Nat.zero_le _
        · rw [pol_len]; omega
  · exact Nat.zero_le _
theorem PolySums : conclavelaw03_PolySums.Pure := by
  intro f a b _ _ ha wa _ hb wb
  refine Ev.rounds (g := fun k => conclavelaw03_PolySums.f k f a b) ?_
  unfold conclavelaw03_PolySums.f
  have w1 := Wd.of_wf wa; have w2 := Wd.of_wf wb
  have h1 := Padd_len f a b; have h2 := Psub_len f a b; have h3 := Pmul_len f a b
  refine Ev.bind (PAdd_eq f a b w1 w2 (by omega) (by omega)) (Ev.bind (rPAdd f a b w1 w2 (by omega) (by omega)) (Ev.bind (PSub_eq f a b w1 w2 (by omega) (by omega)) (Ev.bind (rPSub f a b w1 w2 (by omega) (by omega)) (Ev.bind (PMul_eq f a b w1 w2 (by omega) (by omega)) (Ev.bind (rPMul f a b w1 w2 (by omega) (by omega)) ?_)))))
  refine Ev.bind (rSame _ _ (by omega)) (Ev.pos (by simp) (Ev.pos rfl (Ev.bind (rSame _ _ (by omega)) (Ev.pos (by simp) (Ev.pos rfl (Ev.bind (rSame _ _ (by omega)) (Ev.pos (by simp) (Ev.fix (by simp)))))))))

end Go.Proofs.Ytbjanbbjjnoecaa.Pure
