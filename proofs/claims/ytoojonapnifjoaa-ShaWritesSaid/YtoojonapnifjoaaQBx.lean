/- Written by a program of this session (mkprint2.py) out of the translation: what functions that the laws reach answer, in plain Lean, and that the code answers so. No condition. -/
import Derived.Test.YtoojonapnifjoaaQBx0
import Derived.Test.YtoojonapnifjoaaQBx1
import Derived.Test.YtoojonapnifjoaaQBx2
import Derived.Test.YtoojonapnifjoaaQBx3
import Derived.Test.YtoojonapnifjoaaQBx4
import Derived.Test.YtoojonapnifjoaaQBx5
import Derived.Test.YtoojonapnifjoaaQBx6
import Derived.Test.YtoojonapnifjoaaQBx7
namespace Go.Proofs.Ytoojonapnifjoaa.Own
end Go.Proofs.Ytoojonapnifjoaa.Own
namespace Go.Proofs.Ytoojonapnifjoaa.QB
open Go.RowKit Go.Proofs.Ytoojonapnifjoaa.Own Go.Proofs.YtoojonapnifjoaaW.PrintWords Go.Proofs.YtoojonapnifjoaaW.PrintLast Go.Proofs.YtoojonapnifjoaaW.PrintMore
attribute [local go_sem] max2_int min2_int max_two min_two max_three min_three max_four min_four   -- for this text's walks alone
set_option linter.unusedVariables false
set_option linter.unusedSimpArgs false

end Go.Proofs.Ytoojonapnifjoaa.QB
