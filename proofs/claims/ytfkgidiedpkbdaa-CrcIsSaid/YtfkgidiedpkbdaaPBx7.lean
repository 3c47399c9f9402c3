-- Written by this session's own program wip/bin/dprint.py, over the kit's print.py, with own texts for some functions: no print of print.sh's
import Derived.Test.YtfkgidiedpkbdaaPBx0
namespace Go.Proofs.Ytfkgidiedpkbdaa.PB
open Go.RowKit Go.Proofs.YtfkgidiedpkbdaaW.PrintWords Go.Proofs.YtfkgidiedpkbdaaW.PrintLast Go.Proofs.YtfkgidiedpkbdaaW.PrintMore
attribute [local go_sem] max2_int min2_int max_two min_two max_three min_three max_four min_four   -- for this text's walks alone
set_option linter.unusedVariables false
set_option linter.unusedSimpArgs false

-- NOT PRINTED: function 4 (dowserlaw02_CrcTells)

end Go.Proofs.Ytfkgidiedpkbdaa.PB
