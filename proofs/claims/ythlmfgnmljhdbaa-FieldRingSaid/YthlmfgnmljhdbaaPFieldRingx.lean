/- The Go functions as Lean functions, each with the proof that its call comes to just that; written by a program of this session, by the words of the print. -/
import Derived.Test.YthlmfgnmljhdbaaPFieldRingx0
import Derived.Test.YthlmfgnmljhdbaaPFieldRingx1
import Derived.Test.YthlmfgnmljhdbaaPFieldRingx2
import Derived.Test.YthlmfgnmljhdbaaPFieldRingx3
namespace Go.Proofs.Ythlmfgnmljhdbaa.PFieldRing
open Go.RowKit Go.Proofs.YthlmfgnmljhdbaaW.PrintWords Go.Proofs.YthlmfgnmljhdbaaW.PrintLast Go.Proofs.YthlmfgnmljhdbaaW.PrintMore
attribute [local go_sem] max2_int min2_int max_two min_two max_three min_three max_four min_four   -- for this text's walks alone
set_option linter.unusedVariables false
set_option linter.unusedSimpArgs false

end Go.Proofs.Ythlmfgnmljhdbaa.PFieldRing
