import Derived.Test.YtpgkhmdfddejfaaDoorZTPVx0
import Derived.Test.YtpgkhmdfddejfaaDoorZTPVx14
import Derived.Test.YtpgkhmdfddejfaaDoorZTT20
section
namespace Go.Proofs.YtpgkhmdfddejfaaDoor.PV
open Go.RowKit Go.Proofs.YtpgkhmdfddejfaaDoorW.PrintWords Go.Proofs.YtpgkhmdfddejfaaDoorW.PrintLast Go.Proofs.YtpgkhmdfddejfaaDoorW.PrintMore
attribute [local go_sem] qcw qcv qdb qda qcr qcq qcu qcx   -- for this text's walks alone
set_option linter.unusedVariables false
set_option linter.unusedSimpArgs false
end Go.Proofs.YtpgkhmdfddejfaaDoor.PV
end
