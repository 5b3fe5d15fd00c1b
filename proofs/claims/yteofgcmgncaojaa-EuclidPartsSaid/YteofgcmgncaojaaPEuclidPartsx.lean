/- The Go functions as Lean functions, each with the proof that its call comes to just that; written by a program of this session, by the words of the print. -/
import Derived.Test.YteofgcmgncaojaaPEuclidPartsx0
import Derived.Test.YteofgcmgncaojaaPEuclidPartsx1
import Derived.Test.YteofgcmgncaojaaPEuclidPartsx2
import Derived.Test.YteofgcmgncaojaaPEuclidPartsx3
import Derived.Test.YteofgcmgncaojaaPEuclidPartsx4
import Derived.Test.YteofgcmgncaojaaPEuclidPartsx5
import Derived.Test.YteofgcmgncaojaaPEuclidPartsx6
import Derived.Test.YteofgcmgncaojaaPEuclidPartsx7
import Derived.Test.YteofgcmgncaojaaPEuclidPartsx8
import Derived.Test.YteofgcmgncaojaaPEuclidPartsx9
import Derived.Test.YteofgcmgncaojaaPEuclidPartsx10
import Derived.Test.YteofgcmgncaojaaPEuclidPartsx11
import Derived.Test.YteofgcmgncaojaaPEuclidPartsx12
import Derived.Test.YteofgcmgncaojaaPEuclidPartsx13
import Derived.Test.YteofgcmgncaojaaPEuclidPartsx14
namespace Go.Proofs.Yteofgcmgncaojaa.PEuclidParts
open Go.RowKit Go.Proofs.YteofgcmgncaojaaW.PrintWords Go.Proofs.YteofgcmgncaojaaW.PrintLast Go.Proofs.YteofgcmgncaojaaW.PrintMore
attribute [local go_sem] max2_int min2_int max_two min_two max_three min_three max_four min_four   -- for this text's walks alone
set_option linter.unusedVariables false
set_option linter.unusedSimpArgs false
end Go.Proofs.Yteofgcmgncaojaa.PEuclidParts
