/-
  What the helpers of the law FnSkyLegs come to.
-/
import Derived.Test.YtaeichaofhcheaaQFnSkyLegsx0
import Derived.Test.YtaeichaofhcheaaQFnSkyLegsx1
import Derived.Test.YtaeichaofhcheaaQFnSkyLegsx2
import Derived.Test.YtaeichaofhcheaaQFnSkyLegsx3
import Derived.Test.YtaeichaofhcheaaQFnSkyLegsx4
import Derived.Test.YtaeichaofhcheaaQFnSkyLegsx5
import Derived.Test.YtaeichaofhcheaaQFnSkyLegsx6
import Derived.Test.YtaeichaofhcheaaQFnSkyLegsx7
import Derived.Test.YtaeichaofhcheaaQFnSkyLegsx8
import Derived.Test.YtaeichaofhcheaaKit
namespace Go.Proofs.Ytaeichaofhcheaa.StdFnSkyLegs
open Go.RowKit Go.Proofs.Ytaeichaofhcheaa.QFnSkyLegs Go.Proofs.YtaeichaofhcheaaW.PrintWords Go.Proofs.Ytaeichaofhcheaa.Kit
set_option linter.unusedSimpArgs false
set_option linter.unusedVariables false

end Go.Proofs.Ytaeichaofhcheaa.StdFnSkyLegs
