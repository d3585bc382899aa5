import Derived.Test.YtabiobmfelafoaaGreatDoorLeaf1
namespace Go.Proofs.Lf
set_option linter.unusedVariables false
set_option linter.unusedSimpArgs false
set_option maxHeartbeats 4000000
open Go.RowKit Go.Sb Go.Proofs Go.Proofs.Sbn
end Go.Proofs.Lf

