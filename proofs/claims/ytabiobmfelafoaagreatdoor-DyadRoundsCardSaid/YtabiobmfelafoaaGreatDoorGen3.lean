import Derived.Test.YtabiobmfelafoaaGreatDoorGen2
namespace Go.Proofs
set_option linter.unusedVariables false
set_option linter.unusedSimpArgs false
set_option maxHeartbeats 4000000
open Go.RowKit Go.Sb Go.Proofs.Sbn
end Go.Proofs

