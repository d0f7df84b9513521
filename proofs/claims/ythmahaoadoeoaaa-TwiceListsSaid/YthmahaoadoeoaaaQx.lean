/- Written by a program of this session (mkprint.py) out of the translation: what functions that the law reaches answer, in plain Lean, and that the code answers so. No condition. -/
import Derived.Test.YthmahaoadoeoaaaQx0
import Derived.Test.YthmahaoadoeoaaaQx1
import Derived.Test.YthmahaoadoeoaaaQx2
import Derived.Test.YthmahaoadoeoaaaQx3
import Derived.Test.YthmahaoadoeoaaaQx4
import Derived.Test.YthmahaoadoeoaaaQx5
namespace Go.Proofs.Ythmahaoadoeoaaa.Q
open Go.RowKit Go.Proofs.Ythmahaoadoeoaaa.Own Go.Proofs.YthmahaoadoeoaaaW.PrintWords Go.Proofs.YthmahaoadoeoaaaW.PrintLast Go.Proofs.YthmahaoadoeoaaaW.PrintMore
attribute [local go_sem] max2_int min2_int max_two min_two max_three min_three max_four min_four   -- for this text's walks alone
set_option linter.unusedVariables false
set_option linter.unusedSimpArgs false

end Go.Proofs.Ythmahaoadoeoaaa.Q
