/- Walks of layer 3's laws. No conditions. -/
import Derived.Test.YtmoaddicejohgaaDoorAesP
set_option linter.unusedSimpArgs false
set_option linter.unusedVariables false
set_option maxRecDepth 100000
set_option maxHeartbeats 4000000
namespace Go.Proofs.YtmoaddicejohgaaDoor
open Go
open List (getD_cons_zero getD_cons_succ set_cons_zero set_cons_succ)



end Go.Proofs.YtmoaddicejohgaaDoor
