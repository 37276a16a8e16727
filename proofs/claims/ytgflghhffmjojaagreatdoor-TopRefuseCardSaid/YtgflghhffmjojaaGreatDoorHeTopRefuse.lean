/- What is told of the code that the law TopRefuse reaches: no stop is missed. No conditions. -/
import Derived.Test.YtgflghhffmjojaaGreatDoorTie
import Derived.Test.YtgflghhffmjojaaGreatDoorCards
namespace Go.Proofs.YtgflghhffmjojaaGreatDoor.topRefuse
open Go
theorem heard : Tryz.pinned.checked.prog.stopsHeard = true := by kernel_rfl
theorem enters : Tryz.pinned.checked.prog.mayEnter = true := by kernel_rfl
theorem lifts : (Rows.topRefuseRow.lifted == Tryz.pinned.checked.prog.liftsFinal) = true := by kernel_rfl
end Go.Proofs.YtgflghhffmjojaaGreatDoor.topRefuse
