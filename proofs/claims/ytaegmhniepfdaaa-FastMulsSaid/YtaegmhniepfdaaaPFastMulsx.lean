/- The Go functions as Lean functions, each with the proof that its call comes to just that; written by a program of this session, by the words of the print. -/
import Derived.Test.YtaegmhniepfdaaaPFastMulsx0
import Derived.Test.YtaegmhniepfdaaaPFastMulsx1
import Derived.Test.YtaegmhniepfdaaaPFastMulsx2
import Derived.Test.YtaegmhniepfdaaaPFastMulsx3
import Derived.Test.YtaegmhniepfdaaaPFastMulsx4
import Derived.Test.YtaegmhniepfdaaaPFastMulsx5
import Derived.Test.YtaegmhniepfdaaaPFastMulsx6
import Derived.Test.YtaegmhniepfdaaaPFastMulsx7
import Derived.Test.YtaegmhniepfdaaaPFastMulsx8
import Derived.Test.YtaegmhniepfdaaaPFastMulsx9
import Derived.Test.YtaegmhniepfdaaaPFastMulsx10
import Derived.Test.YtaegmhniepfdaaaPFastMulsx11
import Derived.Test.YtaegmhniepfdaaaPFastMulsx12
import Derived.Test.YtaegmhniepfdaaaPFastMulsx13
import Derived.Test.YtaegmhniepfdaaaPFastMulsx14
import Derived.Test.YtaegmhniepfdaaaPFastMulsx15
import Derived.Test.YtaegmhniepfdaaaPFastMulsx16
import Derived.Test.YtaegmhniepfdaaaPFastMulsx17
namespace Go.Proofs.Ytaegmhniepfdaaa.PFastMuls
open Go.RowKit Go.Proofs.YtaegmhniepfdaaaW.PrintWords Go.Proofs.YtaegmhniepfdaaaW.PrintLast Go.Proofs.YtaegmhniepfdaaaW.PrintMore
attribute [local go_sem] max2_int min2_int max_two min_two max_three min_three max_four min_four   -- for this text's walks alone
set_option linter.unusedVariables false
set_option linter.unusedSimpArgs false
end Go.Proofs.Ytaegmhniepfdaaa.PFastMuls
