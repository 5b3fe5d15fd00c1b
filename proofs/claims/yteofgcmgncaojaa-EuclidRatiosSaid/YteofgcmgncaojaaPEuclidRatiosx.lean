/- The Go functions as Lean functions, each with the proof that its call comes to just that; written by a program of this session, by the words of the print. -/
import Derived.Test.YteofgcmgncaojaaPEuclidRatiosx0
import Derived.Test.YteofgcmgncaojaaPEuclidRatiosx1
import Derived.Test.YteofgcmgncaojaaPEuclidRatiosx2
import Derived.Test.YteofgcmgncaojaaPEuclidRatiosx3
import Derived.Test.YteofgcmgncaojaaPEuclidRatiosx4
import Derived.Test.YteofgcmgncaojaaPEuclidRatiosx5
import Derived.Test.YteofgcmgncaojaaPEuclidRatiosx6
import Derived.Test.YteofgcmgncaojaaPEuclidRatiosx7
import Derived.Test.YteofgcmgncaojaaPEuclidRatiosx8
import Derived.Test.YteofgcmgncaojaaPEuclidRatiosx9
import Derived.Test.YteofgcmgncaojaaPEuclidRatiosx10
import Derived.Test.YteofgcmgncaojaaPEuclidRatiosx11
import Derived.Test.YteofgcmgncaojaaPEuclidRatiosx12
import Derived.Test.YteofgcmgncaojaaPEuclidRatiosx13
import Derived.Test.YteofgcmgncaojaaPEuclidRatiosx14
import Derived.Test.YteofgcmgncaojaaPEuclidRatiosx15
namespace Go.Proofs.Yteofgcmgncaojaa.PEuclidRatios
open Go.RowKit Go.Proofs.YteofgcmgncaojaaW.PrintWords Go.Proofs.YteofgcmgncaojaaW.PrintLast Go.Proofs.YteofgcmgncaojaaW.PrintMore
attribute [local go_sem] max2_int min2_int max_two min_two max_three min_three max_four min_four   -- for this text's walks alone
set_option linter.unusedVariables false
set_option linter.unusedSimpArgs false
end Go.Proofs.Yteofgcmgncaojaa.PEuclidRatios
