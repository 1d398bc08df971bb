/- FnSetLess's plain law, as the row asks for it. No conditions. -/
import Derived.Test.YthkjkmgbdahggaaPureLess
namespace Go.Proofs.Ythkjkmgbdahggaa.Pure
open Go.RowKit Go.Proofs.Ythkjkmgbdahggaa.PL Go.Proofs.YthkjkmgbdahggaaW.PrintWords Go.Proofs.YthkjkmgbdahggaaW.PrintLast
theorem FnSetLess : laws_FnSetLess.Pure := Go.Proofs.Ythkjkmgbdahggaa.Sets.FnSetLess
end Go.Proofs.Ythkjkmgbdahggaa.Pure
