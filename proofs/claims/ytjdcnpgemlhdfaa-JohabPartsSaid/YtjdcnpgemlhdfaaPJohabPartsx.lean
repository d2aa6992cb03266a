-- Laid by a program of this session (mkprint.py: the print with hand-written contracts beside).
import Derived.Test.YtjdcnpgemlhdfaaPJohabPartsx0
import Derived.Test.YtjdcnpgemlhdfaaPJohabPartsx1
import Derived.Test.YtjdcnpgemlhdfaaPJohabPartsx2
import Derived.Test.YtjdcnpgemlhdfaaPJohabPartsx3
namespace Go.Proofs.Ytjdcnpgemlhdfaa.PJohabParts
open Go.RowKit Go.Proofs.YtjdcnpgemlhdfaaW.PrintWords Go.Proofs.YtjdcnpgemlhdfaaW.PrintLast Go.Proofs.YtjdcnpgemlhdfaaW.PrintMore
attribute [local go_sem] max2_int min2_int max_two min_two max_three min_three max_four min_four   -- for this text's walks alone
set_option linter.unusedVariables false
set_option linter.unusedSimpArgs false

end Go.Proofs.Ytjdcnpgemlhdfaa.PJohabParts
