/- The Go functions as Lean functions, each with the proof that its call comes to just that; written by a program of this session, by the words of the print. -/
import Derived.Test.YtbjanbbjjnoecaaPPolyGoesx0
import Derived.Test.YtbjanbbjjnoecaaPPolyGoesx1
import Derived.Test.YtbjanbbjjnoecaaPPolyGoesx2
import Derived.Test.YtbjanbbjjnoecaaPPolyGoesx3
import Derived.Test.YtbjanbbjjnoecaaPPolyGoesx4
import Derived.Test.YtbjanbbjjnoecaaPPolyGoesx5
import Derived.Test.YtbjanbbjjnoecaaPPolyGoesx6
import Derived.Test.YtbjanbbjjnoecaaPPolyGoesx7
import Derived.Test.YtbjanbbjjnoecaaPPolyGoesx8
import Derived.Test.YtbjanbbjjnoecaaPPolyGoesx9
namespace Go.Proofs.Ytbjanbbjjnoecaa.PPolyGoes
open Go.RowKit Go.Proofs.YtbjanbbjjnoecaaW.PrintWords Go.Proofs.YtbjanbbjjnoecaaW.PrintLast Go.Proofs.YtbjanbbjjnoecaaW.PrintMore
attribute [local go_sem] max2_int min2_int max_two min_two max_three min_three max_four min_four   -- for this text's walks alone
set_option linter.unusedVariables false
set_option linter.unusedSimpArgs false
end Go.Proofs.Ytbjanbbjjnoecaa.PPolyGoes
