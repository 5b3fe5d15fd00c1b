/- The anchor of layer 1, and elements made of numbers. -/
import Derived.Test.YthlmfgnmljhdbaaFieldSumsFB
import Derived.Test.YthlmfgnmljhdbaaFieldSumsFC
namespace Go.Proofs.Ythlmfgnmljhdbaa.FFieldSums
open Go.RowKit Go Go.Proofs.YthlmfgnmljhdbaaW.PrintWords Go.Proofs.YthlmfgnmljhdbaaW.PrintLast Go.Proofs.YthlmfgnmljhdbaaW.PrintMore Go.Proofs.Ythlmfgnmljhdbaa.M Go.Proofs.Ythlmfgnmljhdbaa.PFieldSums


end Go.Proofs.Ythlmfgnmljhdbaa.FFieldSums
