/- What is told of the code that the law TurnAll reaches: no stop is missed. No conditions. -/
import Derived.Test.YtochnineebgbgaaDoorTie
import Derived.Test.YtochnineebgbgaaDoorCards
namespace Go.Proofs.YtochnineebgbgaaDoor.turnAll
open Go
theorem heard : Tryd.pinned.checked.prog.stopsHeard = true := by kernel_rfl
theorem enters : Tryd.pinned.checked.prog.mayEnter = true := by kernel_rfl
theorem lifts : (Rows.turnAllRow.lifted == Tryd.pinned.checked.prog.liftsFinal) = true := by kernel_rfl
end Go.Proofs.YtochnineebgbgaaDoor.turnAll
