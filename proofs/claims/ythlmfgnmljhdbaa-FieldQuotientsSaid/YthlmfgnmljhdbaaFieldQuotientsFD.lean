/- The anchor of layer 1, and elements made of numbers. -/
import Derived.Test.YthlmfgnmljhdbaaFieldQuotientsFB
import Derived.Test.YthlmfgnmljhdbaaFieldQuotientsFC
namespace Go.Proofs.Ythlmfgnmljhdbaa.FFieldQuotients
open Go.RowKit Go Go.Proofs.YthlmfgnmljhdbaaW.PrintWords Go.Proofs.YthlmfgnmljhdbaaW.PrintLast Go.Proofs.YthlmfgnmljhdbaaW.PrintMore Go.Proofs.Ythlmfgnmljhdbaa.M Go.Proofs.Ythlmfgnmljhdbaa.PFieldQuotients

theorem anchored1 : Ev (fun k => conclavelaw01_anchored.f k) true := by
  have h1 : Ev (fun k => field_Mul.f k 2 4294967296 4294967296) (4294967295, 0) := Ev.cast (Mul_eq 2 4294967296 4294967296 (by decide) (by decide)) (by decide +kernel)
  have h2 : Ev (fun k => field_Pow.f k 1 2 31) (134217727, 0) := Ev.cast (Pow_eq 1 2 31 (by decide) (by decide) (by decide)) (by decide +kernel)
  have h3 : Ev (fun k => field_Add.f k 0 0 0) (0, 2) := Ev.cast (Add_eq 0 0 0 (by decide) (by decide)) (by decide +kernel)
  unfold conclavelaw01_anchored.f
  refine Ev.bind h1 (Ev.bind h2 (Ev.bind h3 ?_))
  exact Ev.fix (by decide)

end Go.Proofs.Ythlmfgnmljhdbaa.FFieldQuotients
