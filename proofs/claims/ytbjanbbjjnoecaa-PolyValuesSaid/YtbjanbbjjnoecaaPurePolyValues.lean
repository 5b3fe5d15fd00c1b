/- PolyValues: every polynomial times a number and every value is the reference's, and so is every error. For every field number, every list of words, every word. -/
import Derived.Test.YtbjanbbjjnoecaaPolyValuesFN
namespace Go.Proofs.Ytbjanbbjjnoecaa.Pure
open Go.RowKit Go.Proofs.Ytbjanbbjjnoecaa.PPolyValues Go.Proofs.YtbjanbbjjnoecaaW.PrintWords Go.Proofs.YtbjanbbjjnoecaaW.PrintLast Go.Proofs.Ytbjanbbjjnoecaa.M Go.Proofs.Ytbjanbbjjnoecaa.FPolyValues

theorem PolyValues : conclavelaw03_PolyValues.Pure := by
  intro f a x _ _ ha wa hx
  refine Ev.rounds (g := fun k => conclavelaw03_PolyValues.f k f a x) ?_
  unfold conclavelaw03_PolyValues.f
  have w1 := Wd.of_wf wa; have w2 := wf_u64 hx
  have hl : (if ok f [x] = true then (if bad f a [] = 0 then (scaleP (P f) x a, (0 : Int)) else ([], bad f a [])) else ([], 2)).1.length ≤ a.length := by
    split
    · split
      · exact Nat.le_trans (trim_le _) (by rw [pol_len]; exact Nat.le_refl _)
      · exact Nat.zero_le _
    · exact Nat.zero_le _
  refine Ev.bind (PScale_eq f x a w2.1 w1 (by omega)) (Ev.bind (rPScale f x a w2.1 w2.2 w1 (by omega)) (Ev.bind (PEval_eq f x a w2.1 w1 (by omega)) (Ev.bind (rPEval f x a w2.1 w1 (by omega)) ?_)))
  exact Ev.bind (rSame _ _ (by omega)) (Ev.pos (by simp) (Ev.pos rfl (Ev.pos rfl (Ev.pos rfl (Ev.bind anchored3 (Ev.fix rfl))))))

end Go.Proofs.Ytbjanbbjjnoecaa.Pure
