/- The Go functions as Lean functions, each with the proof that its call comes to just that; written by a program of this session, by the words of the print. -/
import Derived.Test.YteofgcmgncaojaaPEuclidInvertsx0
import Derived.Test.YteofgcmgncaojaaPEuclidInvertsx1
import Derived.Test.YteofgcmgncaojaaPEuclidInvertsx2
import Derived.Test.YteofgcmgncaojaaPEuclidInvertsx3
import Derived.Test.YteofgcmgncaojaaPEuclidInvertsx4
import Derived.Test.YteofgcmgncaojaaPEuclidInvertsx5
import Derived.Test.YteofgcmgncaojaaPEuclidInvertsx6
import Derived.Test.YteofgcmgncaojaaPEuclidInvertsx7
import Derived.Test.YteofgcmgncaojaaPEuclidInvertsx8
import Derived.Test.YteofgcmgncaojaaPEuclidInvertsx9
import Derived.Test.YteofgcmgncaojaaPEuclidInvertsx10
import Derived.Test.YteofgcmgncaojaaPEuclidInvertsx11
import Derived.Test.YteofgcmgncaojaaPEuclidInvertsx12
import Derived.Test.YteofgcmgncaojaaPEuclidInvertsx13
import Derived.Test.YteofgcmgncaojaaPEuclidInvertsx14
namespace Go.Proofs.Yteofgcmgncaojaa.PEuclidInverts
open Go.RowKit Go.Proofs.YteofgcmgncaojaaW.PrintWords Go.Proofs.YteofgcmgncaojaaW.PrintLast Go.Proofs.YteofgcmgncaojaaW.PrintMore
attribute [local go_sem] max2_int min2_int max_two min_two max_three min_three max_four min_four   -- for this text's walks alone
set_option linter.unusedVariables false
set_option linter.unusedSimpArgs false
end Go.Proofs.Yteofgcmgncaojaa.PEuclidInverts
