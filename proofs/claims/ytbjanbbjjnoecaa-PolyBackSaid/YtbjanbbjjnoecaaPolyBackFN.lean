/- Layer 3's anchor. -/
import Derived.Test.YtbjanbbjjnoecaaPolyBackFS
namespace Go.Proofs.Ytbjanbbjjnoecaa.FPolyBack
open Go.RowKit Go Go.Proofs.YtbjanbbjjnoecaaW.PrintWords Go.Proofs.YtbjanbbjjnoecaaW.PrintLast Go.Proofs.YtbjanbbjjnoecaaW.PrintMore Go.Proofs.Ytbjanbbjjnoecaa.M Go.Proofs.Ytbjanbbjjnoecaa.PPolyBack

theorem anchored3 : Ev (fun k => conclavelaw03_anchored.f k) true := by
  unfold conclavelaw03_anchored.f
  have w1 : Wd [1, 1] := Wd.cons (by omega) (Wd.cons (by omega) Wd.nil)
  have w2 : Wd [2013265921] := Wd.cons (by omega) Wd.nil
  have e1 : Pmul 2 [1, 1] [1, 1] = ([1, 2, 1], 0) := by kernel_rfl
  have e2 : valE 1 [2013265921] 1 = (0, 2) := by kernel_rfl
  have h1 := PMul_eq 2 [1, 1] [1, 1] w1 w1 (by simp) (by simp)
  have h2 := PEval_eq 1 1 [2013265921] (by omega) w2 (by simp)
  rw [e1] at h1
  rw [e2] at h2
  exact Ev.bind h1 (Ev.bind h2 (Ev.pos rfl (Ev.pos rfl (Ev.bind (rSame _ _ (by simp)) (Ev.fix (by simp))))))

end Go.Proofs.Ytbjanbbjjnoecaa.FPolyBack
