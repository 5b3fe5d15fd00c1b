/- The Go functions as Lean functions, each with the proof that its call comes to just that; written by a program of this session, by the words of the print. -/
import Derived.Test.YtbjanbbjjnoecaaPPolyBackx0
import Derived.Test.YtbjanbbjjnoecaaPPolyBackx1
import Derived.Test.YtbjanbbjjnoecaaPPolyBackx2
import Derived.Test.YtbjanbbjjnoecaaPPolyBackx3
import Derived.Test.YtbjanbbjjnoecaaPPolyBackx4
import Derived.Test.YtbjanbbjjnoecaaPPolyBackx5
import Derived.Test.YtbjanbbjjnoecaaPPolyBackx6
import Derived.Test.YtbjanbbjjnoecaaPPolyBackx7
import Derived.Test.YtbjanbbjjnoecaaPPolyBackx8
import Derived.Test.YtbjanbbjjnoecaaPPolyBackx9
import Derived.Test.YtbjanbbjjnoecaaPPolyBackx10
import Derived.Test.YtbjanbbjjnoecaaPPolyBackx11
namespace Go.Proofs.Ytbjanbbjjnoecaa.PPolyBack
open Go.RowKit Go.Proofs.YtbjanbbjjnoecaaW.PrintWords Go.Proofs.YtbjanbbjjnoecaaW.PrintLast Go.Proofs.YtbjanbbjjnoecaaW.PrintMore
attribute [local go_sem] max2_int min2_int max_two min_two max_three min_three max_four min_four   -- for this text's walks alone
set_option linter.unusedVariables false
set_option linter.unusedSimpArgs false

end Go.Proofs.Ytbjanbbjjnoecaa.PPolyBack
