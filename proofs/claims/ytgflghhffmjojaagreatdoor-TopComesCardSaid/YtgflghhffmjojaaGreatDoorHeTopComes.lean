/- What is told of the code that the law TopComes reaches: no stop is missed. No conditions. -/
import Derived.Test.YtgflghhffmjojaaGreatDoorTie
import Derived.Test.YtgflghhffmjojaaGreatDoorCards
namespace Go.Proofs.YtgflghhffmjojaaGreatDoor.topComes
open Go
theorem heard : Tryz.pinned.checked.prog.stopsHeard = true := by kernel_rfl
theorem enters : Tryz.pinned.checked.prog.mayEnter = true := by kernel_rfl
theorem lifts : (Rows.topComesRow.lifted == Tryz.pinned.checked.prog.liftsFinal) = true := by kernel_rfl
end Go.Proofs.YtgflghhffmjojaaGreatDoor.topComes
