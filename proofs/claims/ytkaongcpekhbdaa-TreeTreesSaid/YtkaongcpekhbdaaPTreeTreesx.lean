/- The Go functions as Lean functions, each with the proof that its call comes to just that; written by a program of this session, by the words of the print. -/
import Derived.Test.YtkaongcpekhbdaaPTreeTreesx0
import Derived.Test.YtkaongcpekhbdaaPTreeTreesx1
import Derived.Test.YtkaongcpekhbdaaPTreeTreesx2
import Derived.Test.YtkaongcpekhbdaaPTreeTreesx3
import Derived.Test.YtkaongcpekhbdaaPTreeTreesx4
import Derived.Test.YtkaongcpekhbdaaPTreeTreesx5
import Derived.Test.YtkaongcpekhbdaaPTreeTreesx6
import Derived.Test.YtkaongcpekhbdaaPTreeTreesx7
import Derived.Test.YtkaongcpekhbdaaPTreeTreesx8
import Derived.Test.YtkaongcpekhbdaaPTreeTreesx9
import Derived.Test.YtkaongcpekhbdaaPTreeTreesx10
import Derived.Test.YtkaongcpekhbdaaPTreeTreesx11
import Derived.Test.YtkaongcpekhbdaaPTreeTreesx12
import Derived.Test.YtkaongcpekhbdaaPTreeTreesx13
import Derived.Test.YtkaongcpekhbdaaPTreeTreesx14
namespace Go.Proofs.Ytkaongcpekhbdaa.PTreeTrees
open Go.RowKit Go.Proofs.YtkaongcpekhbdaaW.PrintWords Go.Proofs.YtkaongcpekhbdaaW.PrintLast Go.Proofs.YtkaongcpekhbdaaW.PrintMore
attribute [local go_sem] max2_int min2_int max_two min_two max_three min_three max_four min_four   -- for this text's walks alone
set_option linter.unusedVariables false
set_option linter.unusedSimpArgs false
end Go.Proofs.Ytkaongcpekhbdaa.PTreeTrees
