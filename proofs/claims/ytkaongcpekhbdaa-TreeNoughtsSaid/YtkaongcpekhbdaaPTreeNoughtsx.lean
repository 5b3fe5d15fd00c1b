/- The Go functions as Lean functions, each with the proof that its call comes to just that; written by a program of this session, by the words of the print. -/
import Derived.Test.YtkaongcpekhbdaaPTreeNoughtsx0
import Derived.Test.YtkaongcpekhbdaaPTreeNoughtsx1
import Derived.Test.YtkaongcpekhbdaaPTreeNoughtsx2
import Derived.Test.YtkaongcpekhbdaaPTreeNoughtsx3
import Derived.Test.YtkaongcpekhbdaaPTreeNoughtsx4
import Derived.Test.YtkaongcpekhbdaaPTreeNoughtsx5
import Derived.Test.YtkaongcpekhbdaaPTreeNoughtsx6
import Derived.Test.YtkaongcpekhbdaaPTreeNoughtsx7
import Derived.Test.YtkaongcpekhbdaaPTreeNoughtsx8
import Derived.Test.YtkaongcpekhbdaaPTreeNoughtsx9
import Derived.Test.YtkaongcpekhbdaaPTreeNoughtsx10
import Derived.Test.YtkaongcpekhbdaaPTreeNoughtsx11
import Derived.Test.YtkaongcpekhbdaaPTreeNoughtsx12
import Derived.Test.YtkaongcpekhbdaaPTreeNoughtsx13
import Derived.Test.YtkaongcpekhbdaaPTreeNoughtsx14
namespace Go.Proofs.Ytkaongcpekhbdaa.PTreeNoughts
open Go.RowKit Go.Proofs.YtkaongcpekhbdaaW.PrintWords Go.Proofs.YtkaongcpekhbdaaW.PrintLast Go.Proofs.YtkaongcpekhbdaaW.PrintMore
attribute [local go_sem] max2_int min2_int max_two min_two max_three min_three max_four min_four   -- for this text's walks alone
set_option linter.unusedVariables false
set_option linter.unusedSimpArgs false
end Go.Proofs.Ytkaongcpekhbdaa.PTreeNoughts
