/- The program's code of two answers. -/
import Derived.Test.YtpbneibgngmciaaStonesKit
import Derived.Test.YtpbneibgngmciaaPAxgImpl
namespace Go.Proofs.Ytpbneibgngmciaa.StonesKit
set_option linter.unusedSimpArgs false
set_option linter.unusedVariables false
open Go.RowKit Go.Proofs.Ytpbneibgngmciaa.PA Go.Proofs.Ytpbneibgngmciaa.Base Go.Proofs.YtpbneibgngmciaaW.PrintWords Go.Proofs.YtpbneibgngmciaaW.PrintLast Go.Proofs.YtpbneibgngmciaaW.PrintMore

theorem codeOf (a b : Bool) : impl_codeOf.f a b = some (if a then (if b then 0 else 2) else 1) := by
  cases a <;> cases b <;> rfl
end Go.Proofs.Ytpbneibgngmciaa.StonesKit
