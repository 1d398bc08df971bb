/- FnSetSpan's plain law, as the row asks for it. -/
import Derived.Test.YthkjkmgbdahggaaPureSpan
namespace Go.Proofs.Ythkjkmgbdahggaa.Pure
open Go.RowKit Go.Proofs.Ythkjkmgbdahggaa.PA Go.Proofs.YthkjkmgbdahggaaW.PrintWords Go.Proofs.YthkjkmgbdahggaaW.PrintLast

/-- The plain law. -/
theorem FnSetSpan : laws_FnSetSpan.Pure := Go.Proofs.Ythkjkmgbdahggaa.Sets.FnSetSpan

end Go.Proofs.Ythkjkmgbdahggaa.Pure
