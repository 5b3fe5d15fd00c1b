/- The Go functions as Lean functions, each with the proof that its call comes to just that; written by a program of this session, by the words of the print. -/
import Derived.Test.YtaegmhniepfdaaaPFastFreshx0
import Derived.Test.YtaegmhniepfdaaaPFastFreshx1
import Derived.Test.YtaegmhniepfdaaaPFastFreshx2
import Derived.Test.YtaegmhniepfdaaaPFastFreshx3
import Derived.Test.YtaegmhniepfdaaaPFastFreshx4
import Derived.Test.YtaegmhniepfdaaaPFastFreshx5
import Derived.Test.YtaegmhniepfdaaaPFastFreshx6
import Derived.Test.YtaegmhniepfdaaaPFastFreshx7
import Derived.Test.YtaegmhniepfdaaaPFastFreshx8
import Derived.Test.YtaegmhniepfdaaaPFastFreshx9
import Derived.Test.YtaegmhniepfdaaaPFastFreshx10
import Derived.Test.YtaegmhniepfdaaaPFastFreshx11
import Derived.Test.YtaegmhniepfdaaaPFastFreshx12
import Derived.Test.YtaegmhniepfdaaaPFastFreshx13
import Derived.Test.YtaegmhniepfdaaaPFastFreshx14
import Derived.Test.YtaegmhniepfdaaaPFastFreshx15
import Derived.Test.YtaegmhniepfdaaaPFastFreshx16
import Derived.Test.YtaegmhniepfdaaaPFastFreshx17
namespace Go.Proofs.Ytaegmhniepfdaaa.PFastFresh
open Go.RowKit Go.Proofs.YtaegmhniepfdaaaW.PrintWords Go.Proofs.YtaegmhniepfdaaaW.PrintLast Go.Proofs.YtaegmhniepfdaaaW.PrintMore
attribute [local go_sem] max2_int min2_int max_two min_two max_three min_three max_four min_four   -- for this text's walks alone
set_option linter.unusedVariables false
set_option linter.unusedSimpArgs false
end Go.Proofs.Ytaegmhniepfdaaa.PFastFresh
