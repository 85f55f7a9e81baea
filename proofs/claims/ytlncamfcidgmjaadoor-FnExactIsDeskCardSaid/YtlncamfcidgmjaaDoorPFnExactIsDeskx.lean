-- Written by a program of this session (wip/tools/pp.sh) out of the translation; Lean checks it.
import Derived.Test.YtlncamfcidgmjaaDoorPFnExactIsDeskx0
import Derived.Test.YtlncamfcidgmjaaDoorPFnExactIsDeskx1
import Derived.Test.YtlncamfcidgmjaaDoorPFnExactIsDeskx2
import Derived.Test.YtlncamfcidgmjaaDoorPFnExactIsDeskx3
namespace Go.Proofs.YtlncamfcidgmjaaDoor.PFnExactIsDesk
open Go.RowKit Go.Proofs.YtlncamfcidgmjaaDoorOwn Go.Proofs.YtlncamfcidgmjaaDoorW.PrintWords Go.Proofs.YtlncamfcidgmjaaDoorW.PrintLast Go.Proofs.YtlncamfcidgmjaaDoorW.PrintMore
attribute [local go_sem] max2_int min2_int max_two min_two max_three min_three max_four min_four   -- for this text's walks alone
set_option linter.unusedVariables false
set_option linter.unusedSimpArgs false

end Go.Proofs.YtlncamfcidgmjaaDoor.PFnExactIsDesk
