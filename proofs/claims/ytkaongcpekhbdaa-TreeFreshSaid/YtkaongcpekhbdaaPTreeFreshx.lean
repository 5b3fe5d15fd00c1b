/- The Go functions as Lean functions, each with the proof that its call comes to just that; written by a program of this session, by the words of the print. -/
import Derived.Test.YtkaongcpekhbdaaPTreeFreshx0
import Derived.Test.YtkaongcpekhbdaaPTreeFreshx1
import Derived.Test.YtkaongcpekhbdaaPTreeFreshx2
import Derived.Test.YtkaongcpekhbdaaPTreeFreshx3
import Derived.Test.YtkaongcpekhbdaaPTreeFreshx4
import Derived.Test.YtkaongcpekhbdaaPTreeFreshx5
import Derived.Test.YtkaongcpekhbdaaPTreeFreshx6
import Derived.Test.YtkaongcpekhbdaaPTreeFreshx7
import Derived.Test.YtkaongcpekhbdaaPTreeFreshx8
import Derived.Test.YtkaongcpekhbdaaPTreeFreshx9
import Derived.Test.YtkaongcpekhbdaaPTreeFreshx10
import Derived.Test.YtkaongcpekhbdaaPTreeFreshx11
import Derived.Test.YtkaongcpekhbdaaPTreeFreshx12
import Derived.Test.YtkaongcpekhbdaaPTreeFreshx13
import Derived.Test.YtkaongcpekhbdaaPTreeFreshx14
namespace Go.Proofs.Ytkaongcpekhbdaa.PTreeFresh
open Go.RowKit Go.Proofs.YtkaongcpekhbdaaW.PrintWords Go.Proofs.YtkaongcpekhbdaaW.PrintLast Go.Proofs.YtkaongcpekhbdaaW.PrintMore
attribute [local go_sem] max2_int min2_int max_two min_two max_three min_three max_four min_four   -- for this text's walks alone
set_option linter.unusedVariables false
set_option linter.unusedSimpArgs false
end Go.Proofs.Ytkaongcpekhbdaa.PTreeFresh
