/-
  What the helpers of the law FnSkyWords come to.
-/
import Derived.Test.YtnmjmhhkbcnccaaDoorQFnSkyWordsx0
import Derived.Test.YtnmjmhhkbcnccaaDoorQFnSkyWordsx1
import Derived.Test.YtnmjmhhkbcnccaaDoorQFnSkyWordsx2
import Derived.Test.YtnmjmhhkbcnccaaDoorQFnSkyWordsx3
import Derived.Test.YtnmjmhhkbcnccaaDoorQFnSkyWordsx4
import Derived.Test.YtnmjmhhkbcnccaaDoorQFnSkyWordsx5
import Derived.Test.YtnmjmhhkbcnccaaDoorQFnSkyWordsx6
import Derived.Test.YtnmjmhhkbcnccaaDoorKit
namespace Go.Proofs.YtnmjmhhkbcnccaaDoor.StdFnSkyWords
open Go.RowKit Go.Proofs.YtnmjmhhkbcnccaaDoor.QFnSkyWords Go.Proofs.YtnmjmhhkbcnccaaDoorW.PrintWords Go.Proofs.YtnmjmhhkbcnccaaDoor.Kit
set_option linter.unusedSimpArgs false
set_option linter.unusedVariables false

end Go.Proofs.YtnmjmhhkbcnccaaDoor.StdFnSkyWords
