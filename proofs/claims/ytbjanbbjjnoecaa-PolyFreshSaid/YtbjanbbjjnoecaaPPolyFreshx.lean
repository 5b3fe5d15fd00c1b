/- The Go functions as Lean functions, each with the proof that its call comes to just that; written by a program of this session, by the words of the print. -/
import Derived.Test.YtbjanbbjjnoecaaPPolyFreshx0
import Derived.Test.YtbjanbbjjnoecaaPPolyFreshx1
import Derived.Test.YtbjanbbjjnoecaaPPolyFreshx2
import Derived.Test.YtbjanbbjjnoecaaPPolyFreshx3
import Derived.Test.YtbjanbbjjnoecaaPPolyFreshx4
import Derived.Test.YtbjanbbjjnoecaaPPolyFreshx5
import Derived.Test.YtbjanbbjjnoecaaPPolyFreshx6
import Derived.Test.YtbjanbbjjnoecaaPPolyFreshx7
import Derived.Test.YtbjanbbjjnoecaaPPolyFreshx8
import Derived.Test.YtbjanbbjjnoecaaPPolyFreshx9
import Derived.Test.YtbjanbbjjnoecaaPPolyFreshx10
import Derived.Test.YtbjanbbjjnoecaaPPolyFreshx11
import Derived.Test.YtbjanbbjjnoecaaPPolyFreshx12
import Derived.Test.YtbjanbbjjnoecaaPPolyFreshx13
import Derived.Test.YtbjanbbjjnoecaaPPolyFreshx14
namespace Go.Proofs.Ytbjanbbjjnoecaa.PPolyFresh
open Go.RowKit Go.Proofs.YtbjanbbjjnoecaaW.PrintWords Go.Proofs.YtbjanbbjjnoecaaW.PrintLast Go.Proofs.YtbjanbbjjnoecaaW.PrintMore
attribute [local go_sem] max2_int min2_int max_two min_two max_three min_three max_four min_four   -- for this text's walks alone
set_option linter.unusedVariables false
set_option linter.unusedSimpArgs false
end Go.Proofs.Ytbjanbbjjnoecaa.PPolyFresh
