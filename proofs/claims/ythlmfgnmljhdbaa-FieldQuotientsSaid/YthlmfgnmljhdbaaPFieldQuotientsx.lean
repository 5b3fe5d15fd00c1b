-- Told by a program of this session.
import Derived.Test.YthlmfgnmljhdbaaPFieldQuotientsx0
import Derived.Test.YthlmfgnmljhdbaaPFieldQuotientsx1
import Derived.Test.YthlmfgnmljhdbaaPFieldQuotientsx2
import Derived.Test.YthlmfgnmljhdbaaPFieldQuotientsx3
namespace Go.Proofs.Ythlmfgnmljhdbaa.PFieldQuotients
open Go.RowKit Go.Proofs.YthlmfgnmljhdbaaW.PrintWords Go.Proofs.YthlmfgnmljhdbaaW.PrintLast Go.Proofs.YthlmfgnmljhdbaaW.PrintMore
attribute [local go_sem] max2_int min2_int max_two min_two max_three min_three max_four min_four   -- for this text's walks alone
set_option linter.unusedVariables false
set_option linter.unusedSimpArgs false

end Go.Proofs.Ythlmfgnmljhdbaa.PFieldQuotients
