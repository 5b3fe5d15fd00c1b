/- The Go functions as Lean functions, each with the proof that its call comes to just that; written by a program of this session, by the words of the print. -/
import Derived.Test.YtaegmhniepfdaaaPFastBackx0
import Derived.Test.YtaegmhniepfdaaaPFastBackx1
import Derived.Test.YtaegmhniepfdaaaPFastBackx2
import Derived.Test.YtaegmhniepfdaaaPFastBackx3
import Derived.Test.YtaegmhniepfdaaaPFastBackx4
import Derived.Test.YtaegmhniepfdaaaPFastBackx5
import Derived.Test.YtaegmhniepfdaaaPFastBackx6
import Derived.Test.YtaegmhniepfdaaaPFastBackx7
import Derived.Test.YtaegmhniepfdaaaPFastBackx8
import Derived.Test.YtaegmhniepfdaaaPFastBackx9
import Derived.Test.YtaegmhniepfdaaaPFastBackx10
import Derived.Test.YtaegmhniepfdaaaPFastBackx11
import Derived.Test.YtaegmhniepfdaaaPFastBackx12
import Derived.Test.YtaegmhniepfdaaaPFastBackx13
import Derived.Test.YtaegmhniepfdaaaPFastBackx14
import Derived.Test.YtaegmhniepfdaaaPFastBackx15
namespace Go.Proofs.Ytaegmhniepfdaaa.PFastBack
open Go.RowKit Go.Proofs.YtaegmhniepfdaaaW.PrintWords Go.Proofs.YtaegmhniepfdaaaW.PrintLast Go.Proofs.YtaegmhniepfdaaaW.PrintMore
attribute [local go_sem] max2_int min2_int max_two min_two max_three min_three max_four min_four   -- for this text's walks alone
set_option linter.unusedVariables false
set_option linter.unusedSimpArgs false
end Go.Proofs.Ytaegmhniepfdaaa.PFastBack
