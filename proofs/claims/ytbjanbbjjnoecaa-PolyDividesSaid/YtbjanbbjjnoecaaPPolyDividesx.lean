/- The Go functions as Lean functions, each with the proof that its call comes to just that; written by a program of this session, by the words of the print. -/
import Derived.Test.YtbjanbbjjnoecaaPPolyDividesx0
import Derived.Test.YtbjanbbjjnoecaaPPolyDividesx1
import Derived.Test.YtbjanbbjjnoecaaPPolyDividesx2
import Derived.Test.YtbjanbbjjnoecaaPPolyDividesx3
import Derived.Test.YtbjanbbjjnoecaaPPolyDividesx4
import Derived.Test.YtbjanbbjjnoecaaPPolyDividesx5
import Derived.Test.YtbjanbbjjnoecaaPPolyDividesx6
import Derived.Test.YtbjanbbjjnoecaaPPolyDividesx7
import Derived.Test.YtbjanbbjjnoecaaPPolyDividesx8
import Derived.Test.YtbjanbbjjnoecaaPPolyDividesx9
import Derived.Test.YtbjanbbjjnoecaaPPolyDividesx10
import Derived.Test.YtbjanbbjjnoecaaPPolyDividesx11
import Derived.Test.YtbjanbbjjnoecaaPPolyDividesx12
import Derived.Test.YtbjanbbjjnoecaaPPolyDividesx13
namespace Go.Proofs.Ytbjanbbjjnoecaa.PPolyDivides
open Go.RowKit Go.Proofs.YtbjanbbjjnoecaaW.PrintWords Go.Proofs.YtbjanbbjjnoecaaW.PrintLast Go.Proofs.YtbjanbbjjnoecaaW.PrintMore
attribute [local go_sem] max2_int min2_int max_two min_two max_three min_three max_four min_four   -- for this text's walks alone
set_option linter.unusedVariables false
set_option linter.unusedSimpArgs false
end Go.Proofs.Ytbjanbbjjnoecaa.PPolyDivides
