/- A text printed by this session's wip/myprint.py over the kit's print: contracts of functions of the given program, each at what its Lean function says. -/
import Derived.Test.YthkjkmgbdahggaaPWx0
import Derived.Test.YthkjkmgbdahggaaPWx1
import Derived.Test.YthkjkmgbdahggaaPWx2
import Derived.Test.YthkjkmgbdahggaaPWx3
import Derived.Test.YthkjkmgbdahggaaPWx4
import Derived.Test.YthkjkmgbdahggaaPWx5
import Derived.Test.YthkjkmgbdahggaaPWx6
import Derived.Test.YthkjkmgbdahggaaPWx7
import Derived.Test.YthkjkmgbdahggaaPWx8
import Derived.Test.YthkjkmgbdahggaaPWx9
import Derived.Test.YthkjkmgbdahggaaPWx10
import Derived.Test.YthkjkmgbdahggaaPWx11
import Derived.Test.YthkjkmgbdahggaaPWx12
import Derived.Test.YthkjkmgbdahggaaPWx13
import Derived.Test.YthkjkmgbdahggaaPWx14
import Derived.Test.YthkjkmgbdahggaaPWx15
import Derived.Test.YthkjkmgbdahggaaPWx16
import Derived.Test.YthkjkmgbdahggaaPWx17
namespace Go.Proofs.Ythkjkmgbdahggaa.PW
open Go.RowKit Go.Proofs.YthkjkmgbdahggaaW.PrintWords Go.Proofs.YthkjkmgbdahggaaW.PrintLast Go.Proofs.YthkjkmgbdahggaaW.PrintMore
attribute [local go_sem] max2_int min2_int max_two min_two max_three min_three max_four min_four   -- for this text's walks alone
set_option linter.unusedVariables false
set_option linter.unusedSimpArgs false

end Go.Proofs.Ythkjkmgbdahggaa.PW
