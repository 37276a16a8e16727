/- begun, run from nothing. No conditions. -/
import Derived.Test.YtgflghhffmjojaaGreatDoorHm
set_option maxRecDepth 100000
set_option maxHeartbeats 4000000
namespace Go.Proofs.YtgflghhffmjojaaGreatDoor
open Go Go.Ab
theorem rbegun : (fP 600 57 [] (FS.none' [])).said [] = some (.bool true) := by kernel_rfl
end Go.Proofs.YtgflghhffmjojaaGreatDoor
