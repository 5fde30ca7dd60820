/-
  The law FnExactConstants: its printed function is 'some true'.
-/
import Derived.Test.YtahfbpmaeijgaaaPFnExactConstantsx1
namespace Go.Proofs.Ytahfbpmaeijgaaa.Pure
open Go.RowKit Go.Proofs.Ytahfbpmaeijgaaa.PFnExactConstants
theorem FnExactConstants : laws_FnExactConstants.Pure := rfl
end Go.Proofs.Ytahfbpmaeijgaaa.Pure
