/- What the reference's functions of layer 1 answer. -/
import Derived.Test.YthlmfgnmljhdbaaMB
import Derived.Test.YthlmfgnmljhdbaaPRootFlipsx
namespace Go.Proofs.Ythlmfgnmljhdbaa.FRootFlips
open Go.RowKit Go Go.Proofs.YthlmfgnmljhdbaaW.PrintWords Go.Proofs.YthlmfgnmljhdbaaW.PrintLast Go.Proofs.YthlmfgnmljhdbaaW.PrintMore Go.Proofs.Ythlmfgnmljhdbaa.M Go.Proofs.Ythlmfgnmljhdbaa.PRootFlips


end Go.Proofs.Ythlmfgnmljhdbaa.FRootFlips
