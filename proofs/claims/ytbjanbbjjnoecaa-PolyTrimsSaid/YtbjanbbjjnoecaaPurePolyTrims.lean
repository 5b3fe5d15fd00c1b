/- PolyTrims: every Trim and Degree of the polynomials' package is the reference's. For every list of words. -/
import Derived.Test.YtbjanbbjjnoecaaPolyTrimsFP
import Derived.Test.YtbjanbbjjnoecaaPolyTrimsFC
namespace Go.Proofs.Ytbjanbbjjnoecaa.Pure
open Go.RowKit Go.Proofs.Ytbjanbbjjnoecaa.PPolyTrims Go.Proofs.YtbjanbbjjnoecaaW.PrintWords Go.Proofs.YtbjanbbjjnoecaaW.PrintLast Go.Proofs.Ytbjanbbjjnoecaa.M Go.Proofs.Ytbjanbbjjnoecaa.FPolyTrims

theorem PolyTrims : conclavelaw03_PolyTrims.Pure := by
  intro l _ hl _
  refine Ev.rounds (g := fun k => conclavelaw03_PolyTrims.f k l) ?_
  unfold conclavelaw03_PolyTrims.f
  have h1 := trim_le l
  refine Ev.bind (Trim_eq l (by omega)) (Ev.bind (rTrim l (by omega)) (Ev.bind (rSame _ _ (by omega)) (Ev.pos (by simp) (Ev.bind (Degree_eq l (by omega)) (Ev.bind (rTrim l (by omega)) (Ev.fix ?_))))))
  rw [w64_in (by omega) (by omega)]; simp

end Go.Proofs.Ytbjanbbjjnoecaa.Pure
