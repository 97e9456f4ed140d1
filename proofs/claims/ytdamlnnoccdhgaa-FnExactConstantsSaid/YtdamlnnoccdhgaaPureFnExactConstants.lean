/- The law over the program's constants answers true: each constant is the number that the document tells. No condition. -/
import Derived.Test.YtdamlnnoccdhgaaPFnExactConstantsx1
import Derived.Test.YtdamlnnoccdhgaaModel
namespace Go.Proofs.Ytdamlnnoccdhgaa.Pure
open Go.RowKit Go.Proofs.Ytdamlnnoccdhgaa.PFnExactConstants Go.Proofs.YtdamlnnoccdhgaaW.PrintWords Go.Proofs.YtdamlnnoccdhgaaW.PrintLast Go.Proofs.Ytdamlnnoccdhgaa.Math
set_option linter.unusedVariables false
set_option linter.unusedSimpArgs false
namespace FnExactConstants
end FnExactConstants
open FnExactConstants
theorem FnExactConstants : laws_FnExactConstants.Pure := by
  rfl
end Go.Proofs.Ytdamlnnoccdhgaa.Pure
