/- The Go functions as Lean functions, each with the proof that its call comes to just that; written by a program of this session, by the words of the print. -/
import Derived.Test.YtkaongcpekhbdaaPTreeRemaindersx0
import Derived.Test.YtkaongcpekhbdaaPTreeRemaindersx1
import Derived.Test.YtkaongcpekhbdaaPTreeRemaindersx2
import Derived.Test.YtkaongcpekhbdaaPTreeRemaindersx3
import Derived.Test.YtkaongcpekhbdaaPTreeRemaindersx4
import Derived.Test.YtkaongcpekhbdaaPTreeRemaindersx5
import Derived.Test.YtkaongcpekhbdaaPTreeRemaindersx6
import Derived.Test.YtkaongcpekhbdaaPTreeRemaindersx7
import Derived.Test.YtkaongcpekhbdaaPTreeRemaindersx8
import Derived.Test.YtkaongcpekhbdaaPTreeRemaindersx9
namespace Go.Proofs.Ytkaongcpekhbdaa.PTreeRemainders
open Go.RowKit Go.Proofs.YtkaongcpekhbdaaW.PrintWords Go.Proofs.YtkaongcpekhbdaaW.PrintLast Go.Proofs.YtkaongcpekhbdaaW.PrintMore
attribute [local go_sem] max2_int min2_int max_two min_two max_three min_three max_four min_four   -- for this text's walks alone
set_option linter.unusedVariables false
set_option linter.unusedSimpArgs false
end Go.Proofs.Ytkaongcpekhbdaa.PTreeRemainders
