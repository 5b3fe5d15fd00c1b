/- The Go functions as Lean functions, each with the proof that its call comes to just that; written by a program of this session, by the words of the print. -/
import Derived.Test.YteofgcmgncaojaaPEuclidRowsx0
import Derived.Test.YteofgcmgncaojaaPEuclidRowsx1
import Derived.Test.YteofgcmgncaojaaPEuclidRowsx2
import Derived.Test.YteofgcmgncaojaaPEuclidRowsx3
import Derived.Test.YteofgcmgncaojaaPEuclidRowsx4
import Derived.Test.YteofgcmgncaojaaPEuclidRowsx5
import Derived.Test.YteofgcmgncaojaaPEuclidRowsx6
import Derived.Test.YteofgcmgncaojaaPEuclidRowsx7
import Derived.Test.YteofgcmgncaojaaPEuclidRowsx8
import Derived.Test.YteofgcmgncaojaaPEuclidRowsx9
import Derived.Test.YteofgcmgncaojaaPEuclidRowsx10
import Derived.Test.YteofgcmgncaojaaPEuclidRowsx11
import Derived.Test.YteofgcmgncaojaaPEuclidRowsx12
import Derived.Test.YteofgcmgncaojaaPEuclidRowsx13
import Derived.Test.YteofgcmgncaojaaPEuclidRowsx14
import Derived.Test.YteofgcmgncaojaaPEuclidRowsx15
import Derived.Test.YteofgcmgncaojaaPEuclidRowsx16
namespace Go.Proofs.Yteofgcmgncaojaa.PEuclidRows
open Go.RowKit Go.Proofs.YteofgcmgncaojaaW.PrintWords Go.Proofs.YteofgcmgncaojaaW.PrintLast Go.Proofs.YteofgcmgncaojaaW.PrintMore
attribute [local go_sem] max2_int min2_int max_two min_two max_three min_three max_four min_four   -- for this text's walks alone
set_option linter.unusedVariables false
set_option linter.unusedSimpArgs false
end Go.Proofs.Yteofgcmgncaojaa.PEuclidRows
