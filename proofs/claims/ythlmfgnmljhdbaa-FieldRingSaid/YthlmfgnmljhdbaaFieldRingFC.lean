/- What the reference's functions of layer 1 answer. -/
import Derived.Test.YthlmfgnmljhdbaaMB
import Derived.Test.YthlmfgnmljhdbaaPFieldRingx
namespace Go.Proofs.Ythlmfgnmljhdbaa.FFieldRing
open Go.RowKit Go Go.Proofs.YthlmfgnmljhdbaaW.PrintWords Go.Proofs.YthlmfgnmljhdbaaW.PrintLast Go.Proofs.YthlmfgnmljhdbaaW.PrintMore Go.Proofs.Ythlmfgnmljhdbaa.M Go.Proofs.Ythlmfgnmljhdbaa.PFieldRing

theorem rP (f : Int) : conclaveref01_P.f f = some (P f) := by
  unfold conclaveref01_P.f P; split <;> (try split) <;> rfl

end Go.Proofs.Ythlmfgnmljhdbaa.FFieldRing
