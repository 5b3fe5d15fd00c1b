/- The Go functions as Lean functions, each with the proof that its call comes to just that; written by a program of this session, by the words of the print. -/
import Derived.Test.YteofgcmgncaojaaPEuclidMadex0
import Derived.Test.YteofgcmgncaojaaPEuclidMadex1
import Derived.Test.YteofgcmgncaojaaPEuclidMadex2
import Derived.Test.YteofgcmgncaojaaPEuclidMadex3
import Derived.Test.YteofgcmgncaojaaPEuclidMadex4
import Derived.Test.YteofgcmgncaojaaPEuclidMadex5
import Derived.Test.YteofgcmgncaojaaPEuclidMadex6
import Derived.Test.YteofgcmgncaojaaPEuclidMadex7
import Derived.Test.YteofgcmgncaojaaPEuclidMadex8
import Derived.Test.YteofgcmgncaojaaPEuclidMadex9
import Derived.Test.YteofgcmgncaojaaPEuclidMadex10
import Derived.Test.YteofgcmgncaojaaPEuclidMadex11
import Derived.Test.YteofgcmgncaojaaPEuclidMadex12
namespace Go.Proofs.Yteofgcmgncaojaa.PEuclidMade
open Go.RowKit Go.Proofs.YteofgcmgncaojaaW.PrintWords Go.Proofs.YteofgcmgncaojaaW.PrintLast Go.Proofs.YteofgcmgncaojaaW.PrintMore
attribute [local go_sem] max2_int min2_int max_two min_two max_three min_three max_four min_four   -- for this text's walks alone
set_option linter.unusedVariables false
set_option linter.unusedSimpArgs false
end Go.Proofs.Yteofgcmgncaojaa.PEuclidMade
