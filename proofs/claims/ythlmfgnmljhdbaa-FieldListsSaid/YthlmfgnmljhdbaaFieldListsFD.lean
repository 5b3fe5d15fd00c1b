/- The anchor of layer 1, and elements made of numbers. -/
import Derived.Test.YthlmfgnmljhdbaaFieldListsFB
import Derived.Test.YthlmfgnmljhdbaaFieldListsFC
namespace Go.Proofs.Ythlmfgnmljhdbaa.FFieldLists
open Go.RowKit Go Go.Proofs.YthlmfgnmljhdbaaW.PrintWords Go.Proofs.YthlmfgnmljhdbaaW.PrintLast Go.Proofs.YthlmfgnmljhdbaaW.PrintMore Go.Proofs.Ythlmfgnmljhdbaa.M Go.Proofs.Ythlmfgnmljhdbaa.PFieldLists


end Go.Proofs.Ythlmfgnmljhdbaa.FFieldLists
