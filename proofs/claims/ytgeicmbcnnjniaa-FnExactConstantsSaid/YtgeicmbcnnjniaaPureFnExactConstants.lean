/- The printed form of FnExactConstants answers true at every input that its bounds let in; no other conditions. -/
import Derived.Test.YtgeicmbcnnjniaaPFnExactConstantsx1
import Derived.Test.YtgeicmbcnnjniaaM
namespace Go.Proofs.Ytgeicmbcnnjniaa.PFnExactConstants
open Go Go.RowKit Go.Proofs.YtgeicmbcnnjniaaW.PrintWords Go.Proofs.YtgeicmbcnnjniaaW.PrintLast Go.Proofs.YtgeicmbcnnjniaaW.PrintMore
end Go.Proofs.Ytgeicmbcnnjniaa.PFnExactConstants
namespace Go.Proofs.Ytgeicmbcnnjniaa.Pure
open Go.Proofs.Ytgeicmbcnnjniaa.PFnExactConstants
open Go Go.RowKit Go.Proofs.YtgeicmbcnnjniaaW.PrintWords Go.Proofs.YtgeicmbcnnjniaaW.PrintLast Go.Proofs.YtgeicmbcnnjniaaW.PrintMore
theorem FnExactConstants : laws_FnExactConstants.Pure := rfl
end Go.Proofs.Ytgeicmbcnnjniaa.Pure
