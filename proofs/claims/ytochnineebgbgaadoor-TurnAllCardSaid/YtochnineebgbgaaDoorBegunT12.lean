/- begun of layer 12 answers true. No conditions. -/
import Derived.Test.YtochnineebgbgaaDoorTabs
set_option linter.unusedSimpArgs false
namespace Go.Proofs.YtochnineebgbgaaDoor
open Go Go.Ab
theorem begunT0 : Ab.saysTrue (evT 999 21 [] St.nil) = true := by kernel_rfl
theorem begunT_ev : ∃ s, evT 999 21 [] St.nil = some (.bool true, s) := saysTrue_spec begunT0
end Go.Proofs.YtochnineebgbgaaDoor
