/- FnWaysTo's plain law, as the row asks for it. No conditions. -/
import Derived.Test.YthkjkmgbdahggaaGreatPureWays
namespace Go.Proofs.YthkjkmgbdahggaaGreat.Pure
open Go.RowKit Go.Proofs.YthkjkmgbdahggaaGreat.PY Go.Proofs.YthkjkmgbdahggaaGreatW.PrintWords Go.Proofs.YthkjkmgbdahggaaGreatW.PrintLast
theorem FnWaysTo : laws_FnWaysTo.Pure := Go.Proofs.YthkjkmgbdahggaaGreat.Sets.FnWaysTo
end Go.Proofs.YthkjkmgbdahggaaGreat.Pure
