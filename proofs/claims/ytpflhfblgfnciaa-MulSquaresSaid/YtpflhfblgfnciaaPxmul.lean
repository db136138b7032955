-- Written by a program of this session (wip/tool), turned from the kit's print. Lean checks it.
import Derived.Test.YtpflhfblgfnciaaPxmuln1
import Derived.Test.YtpflhfblgfnciaaPxmuln2
namespace Go.Proofs.Ytpflhfblgfnciaa.P
open Go.RowKit Go.Proofs.YtpflhfblgfnciaaW.PrintWords Go.Proofs.YtpflhfblgfnciaaW.PrintLast Go.Proofs.YtpflhfblgfnciaaW.PrintMore
attribute [local go_sem] max2_int min2_int max_two min_two max_three min_three max_four min_four   -- for this text's walks alone
set_option linter.unusedVariables false
set_option linter.unusedSimpArgs false

end Go.Proofs.Ytpflhfblgfnciaa.P
