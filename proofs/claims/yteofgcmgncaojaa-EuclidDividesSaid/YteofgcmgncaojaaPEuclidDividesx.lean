/- The Go functions as Lean functions, each with the proof that its call comes to just that; written by a program of this session, by the words of the print. -/
import Derived.Test.YteofgcmgncaojaaPEuclidDividesx0
import Derived.Test.YteofgcmgncaojaaPEuclidDividesx1
import Derived.Test.YteofgcmgncaojaaPEuclidDividesx2
import Derived.Test.YteofgcmgncaojaaPEuclidDividesx3
import Derived.Test.YteofgcmgncaojaaPEuclidDividesx4
import Derived.Test.YteofgcmgncaojaaPEuclidDividesx5
import Derived.Test.YteofgcmgncaojaaPEuclidDividesx6
import Derived.Test.YteofgcmgncaojaaPEuclidDividesx7
import Derived.Test.YteofgcmgncaojaaPEuclidDividesx8
import Derived.Test.YteofgcmgncaojaaPEuclidDividesx9
import Derived.Test.YteofgcmgncaojaaPEuclidDividesx10
import Derived.Test.YteofgcmgncaojaaPEuclidDividesx11
import Derived.Test.YteofgcmgncaojaaPEuclidDividesx12
import Derived.Test.YteofgcmgncaojaaPEuclidDividesx13
import Derived.Test.YteofgcmgncaojaaPEuclidDividesx14
import Derived.Test.YteofgcmgncaojaaPEuclidDividesx15
namespace Go.Proofs.Yteofgcmgncaojaa.PEuclidDivides
open Go.RowKit Go.Proofs.YteofgcmgncaojaaW.PrintWords Go.Proofs.YteofgcmgncaojaaW.PrintLast Go.Proofs.YteofgcmgncaojaaW.PrintMore
attribute [local go_sem] max2_int min2_int max_two min_two max_three min_three max_four min_four   -- for this text's walks alone
set_option linter.unusedVariables false
set_option linter.unusedSimpArgs false
end Go.Proofs.Yteofgcmgncaojaa.PEuclidDivides
