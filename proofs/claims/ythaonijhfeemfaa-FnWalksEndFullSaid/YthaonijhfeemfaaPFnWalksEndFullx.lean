-- Written by a program of this session (wip/tools/pp.sh) out of the translation; Lean checks it.
import Derived.Test.YthaonijhfeemfaaPFnWalksEndFullx0
import Derived.Test.YthaonijhfeemfaaPFnWalksEndFullx1
import Derived.Test.YthaonijhfeemfaaPFnWalksEndFullx2
import Derived.Test.YthaonijhfeemfaaPFnWalksEndFullx3
import Derived.Test.YthaonijhfeemfaaPFnWalksEndFullx4
import Derived.Test.YthaonijhfeemfaaPFnWalksEndFullx5
import Derived.Test.YthaonijhfeemfaaPFnWalksEndFullx6
import Derived.Test.YthaonijhfeemfaaPFnWalksEndFullx7
import Derived.Test.YthaonijhfeemfaaPFnWalksEndFullx8
import Derived.Test.YthaonijhfeemfaaPFnWalksEndFullx9
import Derived.Test.YthaonijhfeemfaaPFnWalksEndFullx10
import Derived.Test.YthaonijhfeemfaaPFnWalksEndFullx11
import Derived.Test.YthaonijhfeemfaaPFnWalksEndFullx12
import Derived.Test.YthaonijhfeemfaaPFnWalksEndFullx13
import Derived.Test.YthaonijhfeemfaaPFnWalksEndFullx14
import Derived.Test.YthaonijhfeemfaaPFnWalksEndFullx15
import Derived.Test.YthaonijhfeemfaaPFnWalksEndFullx16
import Derived.Test.YthaonijhfeemfaaPFnWalksEndFullx17
import Derived.Test.YthaonijhfeemfaaPFnWalksEndFullx18
import Derived.Test.YthaonijhfeemfaaPFnWalksEndFullx19
import Derived.Test.YthaonijhfeemfaaPFnWalksEndFullx20
import Derived.Test.YthaonijhfeemfaaPFnWalksEndFullx21
import Derived.Test.YthaonijhfeemfaaPFnWalksEndFullx22
import Derived.Test.YthaonijhfeemfaaPFnWalksEndFullx23
import Derived.Test.YthaonijhfeemfaaPFnWalksEndFullx24
import Derived.Test.YthaonijhfeemfaaPFnWalksEndFullx25
namespace Go.Proofs.Ythaonijhfeemfaa.dL
open Go.RowKit Go.Proofs.YthaonijhfeemfaaOwn Go.Proofs.YthaonijhfeemfaaW.bU Go.Proofs.YthaonijhfeemfaaW.fB Go.Proofs.YthaonijhfeemfaaW.iw
attribute [local go_sem] nG nH nK nL nD nE nI nJ   -- for this text's walks alone
set_option linter.unusedVariables false
set_option maxHeartbeats 8000000
set_option maxRecDepth 100000
set_option linter.unusedSimpArgs false

end Go.Proofs.Ythaonijhfeemfaa.dL
