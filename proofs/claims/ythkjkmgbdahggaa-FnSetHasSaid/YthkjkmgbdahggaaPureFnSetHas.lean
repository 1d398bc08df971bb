/- FnSetHas's plain law, as the row asks for it. No conditions. -/
import Derived.Test.YthkjkmgbdahggaaPureHas
namespace Go.Proofs.Ythkjkmgbdahggaa.Pure
open Go.RowKit Go.Proofs.Ythkjkmgbdahggaa.PH Go.Proofs.YthkjkmgbdahggaaW.PrintWords Go.Proofs.YthkjkmgbdahggaaW.PrintLast
/-- The plain law. -/
theorem FnSetHas : laws_FnSetHas.Pure := Go.Proofs.Ythkjkmgbdahggaa.Sets.FnSetHas
end Go.Proofs.Ythkjkmgbdahggaa.Pure
