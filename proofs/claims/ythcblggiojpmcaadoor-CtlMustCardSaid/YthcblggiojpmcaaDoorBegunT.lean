/- begun of layer 4 answers true. No conditions. -/
import Derived.Test.YthcblggiojpmcaaDoorTabs
set_option linter.unusedSimpArgs false
namespace Go.Proofs.YthcblggiojpmcaaDoor
open Go Go.Ab
theorem begunT0 : Ab.saysTrue (evT 999 20 [] St.nil) = true := by kernel_rfl
theorem begunT_ev : ∃ s, evT 999 20 [] St.nil = some (.bool true, s) := saysTrue_spec begunT0
end Go.Proofs.YthcblggiojpmcaaDoor
