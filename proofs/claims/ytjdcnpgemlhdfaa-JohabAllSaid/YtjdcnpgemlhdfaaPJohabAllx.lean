-- Laid by a program of this session (mkprint.py: the print with hand-written contracts beside).
import Derived.Test.YtjdcnpgemlhdfaaPJohabAllx0
import Derived.Test.YtjdcnpgemlhdfaaPJohabAllx1
import Derived.Test.YtjdcnpgemlhdfaaPJohabAllx2
import Derived.Test.YtjdcnpgemlhdfaaPJohabAllx3
import Derived.Test.YtjdcnpgemlhdfaaPJohabAllx4
import Derived.Test.YtjdcnpgemlhdfaaPJohabAllx5
namespace Go.Proofs.Ytjdcnpgemlhdfaa.PJohabAll
open Go.RowKit Go.Proofs.YtjdcnpgemlhdfaaW.PrintWords Go.Proofs.YtjdcnpgemlhdfaaW.PrintLast Go.Proofs.YtjdcnpgemlhdfaaW.PrintMore
attribute [local go_sem] max2_int min2_int max_two min_two max_three min_three max_four min_four   -- for this text's walks alone
set_option linter.unusedVariables false
set_option linter.unusedSimpArgs false

end Go.Proofs.Ytjdcnpgemlhdfaa.PJohabAll
