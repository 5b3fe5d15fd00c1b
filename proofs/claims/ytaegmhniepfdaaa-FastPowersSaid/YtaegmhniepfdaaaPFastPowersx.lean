/- The Go functions as Lean functions, each with the proof that its call comes to just that; written by a program of this session, by the words of the print. -/
import Derived.Test.YtaegmhniepfdaaaPFastPowersx0
import Derived.Test.YtaegmhniepfdaaaPFastPowersx1
import Derived.Test.YtaegmhniepfdaaaPFastPowersx2
import Derived.Test.YtaegmhniepfdaaaPFastPowersx3
import Derived.Test.YtaegmhniepfdaaaPFastPowersx4
import Derived.Test.YtaegmhniepfdaaaPFastPowersx5
import Derived.Test.YtaegmhniepfdaaaPFastPowersx6
import Derived.Test.YtaegmhniepfdaaaPFastPowersx7
import Derived.Test.YtaegmhniepfdaaaPFastPowersx8
import Derived.Test.YtaegmhniepfdaaaPFastPowersx9
import Derived.Test.YtaegmhniepfdaaaPFastPowersx10
import Derived.Test.YtaegmhniepfdaaaPFastPowersx11
import Derived.Test.YtaegmhniepfdaaaPFastPowersx12
import Derived.Test.YtaegmhniepfdaaaPFastPowersx13
import Derived.Test.YtaegmhniepfdaaaPFastPowersx14
import Derived.Test.YtaegmhniepfdaaaPFastPowersx15
import Derived.Test.YtaegmhniepfdaaaPFastPowersx16
import Derived.Test.YtaegmhniepfdaaaPFastPowersx17
namespace Go.Proofs.Ytaegmhniepfdaaa.PFastPowers
open Go.RowKit Go.Proofs.YtaegmhniepfdaaaW.PrintWords Go.Proofs.YtaegmhniepfdaaaW.PrintLast Go.Proofs.YtaegmhniepfdaaaW.PrintMore
attribute [local go_sem] max2_int min2_int max_two min_two max_three min_three max_four min_four   -- for this text's walks alone
set_option linter.unusedVariables false
set_option linter.unusedSimpArgs false
end Go.Proofs.Ytaegmhniepfdaaa.PFastPowers
