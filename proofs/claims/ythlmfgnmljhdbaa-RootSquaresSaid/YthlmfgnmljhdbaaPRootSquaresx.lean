/- The Go functions as Lean functions, each with the proof that its call comes to just that; written by a program of this session, by the words of the print. -/
import Derived.Test.YthlmfgnmljhdbaaPRootSquaresx0
import Derived.Test.YthlmfgnmljhdbaaPRootSquaresx1
import Derived.Test.YthlmfgnmljhdbaaPRootSquaresx2
import Derived.Test.YthlmfgnmljhdbaaPRootSquaresx3
import Derived.Test.YthlmfgnmljhdbaaPRootSquaresx4
import Derived.Test.YthlmfgnmljhdbaaPRootSquaresx5
namespace Go.Proofs.Ythlmfgnmljhdbaa.PRootSquares
open Go.RowKit Go.Proofs.YthlmfgnmljhdbaaW.PrintWords Go.Proofs.YthlmfgnmljhdbaaW.PrintLast Go.Proofs.YthlmfgnmljhdbaaW.PrintMore
attribute [local go_sem] max2_int min2_int max_two min_two max_three min_three max_four min_four   -- for this text's walks alone
set_option linter.unusedVariables false
set_option linter.unusedSimpArgs false

end Go.Proofs.Ythlmfgnmljhdbaa.PRootSquares
