/- The Go functions as Lean functions, each with the proof that its call comes to just that; written by a program of this session, by the words of the print. -/
import Derived.Test.YtbjanbbjjnoecaaPPolyValuesx0
import Derived.Test.YtbjanbbjjnoecaaPPolyValuesx1
import Derived.Test.YtbjanbbjjnoecaaPPolyValuesx2
import Derived.Test.YtbjanbbjjnoecaaPPolyValuesx3
import Derived.Test.YtbjanbbjjnoecaaPPolyValuesx4
import Derived.Test.YtbjanbbjjnoecaaPPolyValuesx5
import Derived.Test.YtbjanbbjjnoecaaPPolyValuesx6
import Derived.Test.YtbjanbbjjnoecaaPPolyValuesx7
import Derived.Test.YtbjanbbjjnoecaaPPolyValuesx8
import Derived.Test.YtbjanbbjjnoecaaPPolyValuesx9
import Derived.Test.YtbjanbbjjnoecaaPPolyValuesx10
namespace Go.Proofs.Ytbjanbbjjnoecaa.PPolyValues
open Go.RowKit Go.Proofs.YtbjanbbjjnoecaaW.PrintWords Go.Proofs.YtbjanbbjjnoecaaW.PrintLast Go.Proofs.YtbjanbbjjnoecaaW.PrintMore
attribute [local go_sem] max2_int min2_int max_two min_two max_three min_three max_four min_four   -- for this text's walks alone
set_option linter.unusedVariables false
set_option linter.unusedSimpArgs false

end Go.Proofs.Ytbjanbbjjnoecaa.PPolyValues
