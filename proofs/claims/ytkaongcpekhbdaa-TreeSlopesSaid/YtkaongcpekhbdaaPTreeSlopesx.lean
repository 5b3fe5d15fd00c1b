/- The Go functions as Lean functions, each with the proof that its call comes to just that; written by a program of this session, by the words of the print. -/
import Derived.Test.YtkaongcpekhbdaaPTreeSlopesx0
import Derived.Test.YtkaongcpekhbdaaPTreeSlopesx1
import Derived.Test.YtkaongcpekhbdaaPTreeSlopesx2
import Derived.Test.YtkaongcpekhbdaaPTreeSlopesx3
import Derived.Test.YtkaongcpekhbdaaPTreeSlopesx4
import Derived.Test.YtkaongcpekhbdaaPTreeSlopesx5
import Derived.Test.YtkaongcpekhbdaaPTreeSlopesx6
import Derived.Test.YtkaongcpekhbdaaPTreeSlopesx7
import Derived.Test.YtkaongcpekhbdaaPTreeSlopesx8
import Derived.Test.YtkaongcpekhbdaaPTreeSlopesx9
import Derived.Test.YtkaongcpekhbdaaPTreeSlopesx10
import Derived.Test.YtkaongcpekhbdaaPTreeSlopesx11
import Derived.Test.YtkaongcpekhbdaaPTreeSlopesx12
import Derived.Test.YtkaongcpekhbdaaPTreeSlopesx13
import Derived.Test.YtkaongcpekhbdaaPTreeSlopesx14
namespace Go.Proofs.Ytkaongcpekhbdaa.PTreeSlopes
open Go.RowKit Go.Proofs.YtkaongcpekhbdaaW.PrintWords Go.Proofs.YtkaongcpekhbdaaW.PrintLast Go.Proofs.YtkaongcpekhbdaaW.PrintMore
attribute [local go_sem] max2_int min2_int max_two min_two max_three min_three max_four min_four   -- for this text's walks alone
set_option linter.unusedVariables false
set_option linter.unusedSimpArgs false
end Go.Proofs.Ytkaongcpekhbdaa.PTreeSlopes
