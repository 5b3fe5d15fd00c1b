/- The Go functions as Lean functions, each with the proof that its call comes to just that; written by a program of this session, by the words of the print. -/
import Derived.Test.YteofgcmgncaojaaPEuclidCommonx0
import Derived.Test.YteofgcmgncaojaaPEuclidCommonx1
import Derived.Test.YteofgcmgncaojaaPEuclidCommonx2
import Derived.Test.YteofgcmgncaojaaPEuclidCommonx3
import Derived.Test.YteofgcmgncaojaaPEuclidCommonx4
import Derived.Test.YteofgcmgncaojaaPEuclidCommonx5
import Derived.Test.YteofgcmgncaojaaPEuclidCommonx6
import Derived.Test.YteofgcmgncaojaaPEuclidCommonx7
import Derived.Test.YteofgcmgncaojaaPEuclidCommonx8
import Derived.Test.YteofgcmgncaojaaPEuclidCommonx9
import Derived.Test.YteofgcmgncaojaaPEuclidCommonx10
import Derived.Test.YteofgcmgncaojaaPEuclidCommonx11
import Derived.Test.YteofgcmgncaojaaPEuclidCommonx12
import Derived.Test.YteofgcmgncaojaaPEuclidCommonx13
import Derived.Test.YteofgcmgncaojaaPEuclidCommonx14
namespace Go.Proofs.Yteofgcmgncaojaa.PEuclidCommon
open Go.RowKit Go.Proofs.YteofgcmgncaojaaW.PrintWords Go.Proofs.YteofgcmgncaojaaW.PrintLast Go.Proofs.YteofgcmgncaojaaW.PrintMore
attribute [local go_sem] max2_int min2_int max_two min_two max_three min_three max_four min_four   -- for this text's walks alone
set_option linter.unusedVariables false
set_option linter.unusedSimpArgs false
end Go.Proofs.Yteofgcmgncaojaa.PEuclidCommon
