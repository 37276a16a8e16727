/- begun of layer 8 answers true. No conditions. -/
import Derived.Test.YtbeimfhodgmjhaaDoorTabs
set_option linter.unusedSimpArgs false
namespace Go.Proofs.YtbeimfhodgmjhaaDoor
open Go Go.Ab
theorem begunT0 : Ab.saysTrue (evT 999 21 [] St.nil) = true := by kernel_rfl
theorem begunT_ev : ∃ s, evT 999 21 [] St.nil = some (.bool true, s) := saysTrue_spec begunT0
end Go.Proofs.YtbeimfhodgmjhaaDoor
