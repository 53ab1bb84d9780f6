/- Under: the program's and the reference's (walks). -/
import Derived.Test.YtfolfppcadjccaaGreatDoorZ23
import Derived.Test.YtfolfppcadjccaaGreatDoorZ26
namespace Go.Proofs.YtfolfppcadjccaaGreatDoor
set_option linter.unusedSimpArgs false
set_option linter.unusedVariables false
open Go.RowKit
set_option maxRecDepth 100000
set_option maxHeartbeats 4000000
theorem err_nice {c:Cond} (ht:c.Txt) (h:c.err=0):c.Nice 200:=(chk_ok c 0 0 (by omega) (by omega) ht h).2
end Go.Proofs.YtfolfppcadjccaaGreatDoor
