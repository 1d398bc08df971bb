/- FnSetOf's plain law, as the row asks for it. No conditions. -/
import Derived.Test.YthkjkmgbdahggaaPureOf
namespace Go.Proofs.Ythkjkmgbdahggaa.Pure
open Go.RowKit Go.Proofs.Ythkjkmgbdahggaa.PO Go.Proofs.YthkjkmgbdahggaaW.PrintWords Go.Proofs.YthkjkmgbdahggaaW.PrintLast
/-- The plain law. -/
theorem FnSetOf : laws_FnSetOf.Pure := Go.Proofs.Ythkjkmgbdahggaa.Sets.FnSetOf
end Go.Proofs.Ythkjkmgbdahggaa.Pure
