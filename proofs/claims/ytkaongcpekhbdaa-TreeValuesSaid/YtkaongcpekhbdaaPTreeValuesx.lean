/- The Go functions as Lean functions, each with the proof that its call comes to just that; written by a program of this session, by the words of the print. -/
import Derived.Test.YtkaongcpekhbdaaPTreeValuesx0
import Derived.Test.YtkaongcpekhbdaaPTreeValuesx1
import Derived.Test.YtkaongcpekhbdaaPTreeValuesx2
import Derived.Test.YtkaongcpekhbdaaPTreeValuesx3
import Derived.Test.YtkaongcpekhbdaaPTreeValuesx4
import Derived.Test.YtkaongcpekhbdaaPTreeValuesx5
import Derived.Test.YtkaongcpekhbdaaPTreeValuesx6
import Derived.Test.YtkaongcpekhbdaaPTreeValuesx7
import Derived.Test.YtkaongcpekhbdaaPTreeValuesx8
import Derived.Test.YtkaongcpekhbdaaPTreeValuesx9
import Derived.Test.YtkaongcpekhbdaaPTreeValuesx10
import Derived.Test.YtkaongcpekhbdaaPTreeValuesx11
import Derived.Test.YtkaongcpekhbdaaPTreeValuesx12
namespace Go.Proofs.Ytkaongcpekhbdaa.PTreeValues
open Go.RowKit Go.Proofs.YtkaongcpekhbdaaW.PrintWords Go.Proofs.YtkaongcpekhbdaaW.PrintLast Go.Proofs.YtkaongcpekhbdaaW.PrintMore
attribute [local go_sem] max2_int min2_int max_two min_two max_three min_three max_four min_four   -- for this text's walks alone
set_option linter.unusedVariables false
set_option linter.unusedSimpArgs false
end Go.Proofs.Ytkaongcpekhbdaa.PTreeValues
