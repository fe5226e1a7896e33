/- The law FnExactConstants returns true (the constants of the program are those of the reference). No condition. -/
import Derived.Test.YtjcaiekalobmfaaPFnExactConstantsx1
namespace Go.Proofs.Ytjcaiekalobmfaa.Pure
open Go.RowKit Go.Proofs.Ytjcaiekalobmfaa.PFnExactConstants Go.Proofs.YtjcaiekalobmfaaW.PrintWords Go.Proofs.YtjcaiekalobmfaaW.PrintLast

theorem FnExactConstants : laws_FnExactConstants.Pure := rfl

end Go.Proofs.Ytjcaiekalobmfaa.Pure
