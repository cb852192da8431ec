/- the law
   Proved without conditions of its own: each theorem bears its own. -/
import Derived.Test.YtjkhdpcmkcjjcaaGreatL2
import Derived.Test.YtjkhdpcmkcjjcaaGreatL1
set_option linter.all false
namespace Go.Proofs.YtjkhdpcmkcjjcaaGreat
open Go.Sky
theorem x_holds : Rows.PolyScalesSaid := over law_scales
#print axioms x_holds
end Go.Proofs.YtjkhdpcmkcjjcaaGreat
