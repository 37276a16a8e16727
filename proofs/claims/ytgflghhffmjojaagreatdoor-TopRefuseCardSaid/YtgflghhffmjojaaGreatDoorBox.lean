/- Boxes, type assertions, lengths of texts in the evaluator. No conditions. -/
import Derived.Test.YtgflghhffmjojaaGreatDoorPtr
set_option linter.unusedSimpArgs false
set_option linter.unusedVariables false
namespace Go.Ab
open Go
end Go.Ab
namespace Go.Ab
open Go
end Go.Ab
