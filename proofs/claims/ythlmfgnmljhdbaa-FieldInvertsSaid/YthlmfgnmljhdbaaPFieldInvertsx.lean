/- The Go functions as Lean functions, each with the proof that its call comes to just that; written by a program of this session, by the words of the print. -/
import Derived.Test.YthlmfgnmljhdbaaPFieldInvertsx0
import Derived.Test.YthlmfgnmljhdbaaPFieldInvertsx1
import Derived.Test.YthlmfgnmljhdbaaPFieldInvertsx2
import Derived.Test.YthlmfgnmljhdbaaPFieldInvertsx3
import Derived.Test.YthlmfgnmljhdbaaPFieldInvertsx4
namespace Go.Proofs.Ythlmfgnmljhdbaa.PFieldInverts
open Go.RowKit Go.Proofs.YthlmfgnmljhdbaaW.PrintWords Go.Proofs.YthlmfgnmljhdbaaW.PrintLast Go.Proofs.YthlmfgnmljhdbaaW.PrintMore
attribute [local go_sem] max2_int min2_int max_two min_two max_three min_three max_four min_four   -- for this text's walks alone
set_option linter.unusedVariables false
set_option linter.unusedSimpArgs false

end Go.Proofs.Ythlmfgnmljhdbaa.PFieldInverts
