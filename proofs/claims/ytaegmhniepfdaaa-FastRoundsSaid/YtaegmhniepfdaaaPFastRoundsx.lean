/- The Go functions as Lean functions, each with the proof that its call comes to just that; written by a program of this session, by the words of the print. -/
import Derived.Test.YtaegmhniepfdaaaPFastRoundsx0
import Derived.Test.YtaegmhniepfdaaaPFastRoundsx1
import Derived.Test.YtaegmhniepfdaaaPFastRoundsx2
import Derived.Test.YtaegmhniepfdaaaPFastRoundsx3
import Derived.Test.YtaegmhniepfdaaaPFastRoundsx4
import Derived.Test.YtaegmhniepfdaaaPFastRoundsx5
import Derived.Test.YtaegmhniepfdaaaPFastRoundsx6
import Derived.Test.YtaegmhniepfdaaaPFastRoundsx7
import Derived.Test.YtaegmhniepfdaaaPFastRoundsx8
import Derived.Test.YtaegmhniepfdaaaPFastRoundsx9
import Derived.Test.YtaegmhniepfdaaaPFastRoundsx10
import Derived.Test.YtaegmhniepfdaaaPFastRoundsx11
import Derived.Test.YtaegmhniepfdaaaPFastRoundsx12
import Derived.Test.YtaegmhniepfdaaaPFastRoundsx13
import Derived.Test.YtaegmhniepfdaaaPFastRoundsx14
import Derived.Test.YtaegmhniepfdaaaPFastRoundsx15
namespace Go.Proofs.Ytaegmhniepfdaaa.PFastRounds
open Go.RowKit Go.Proofs.YtaegmhniepfdaaaW.PrintWords Go.Proofs.YtaegmhniepfdaaaW.PrintLast Go.Proofs.YtaegmhniepfdaaaW.PrintMore
attribute [local go_sem] max2_int min2_int max_two min_two max_three min_three max_four min_four   -- for this text's walks alone
set_option linter.unusedVariables false
set_option linter.unusedSimpArgs false
end Go.Proofs.Ytaegmhniepfdaaa.PFastRounds
