/- What the evaluator says of the law OutFull: true. No conditions. -/
import Derived.Test.YtochnineebgbgaaDoorFull0
import Derived.Test.YtochnineebgbgaaDoorFull2
import Derived.Test.YtochnineebgbgaaDoorFull4
import Derived.Test.YtochnineebgbgaaDoorFull6
import Derived.Test.YtochnineebgbgaaDoorArgS
namespace Go.Proofs.YtochnineebgbgaaDoor.outFull
open Go Go.Ab
set_option linter.unusedVariables false
set_option linter.unusedSimpArgs false
set_option maxRecDepth 100000 in
set_option maxHeartbeats 8000000 in
theorem says (n0 : Int) (hn0 : IntKind.has .i64 n0) (n1 : Int) (hn1 : IntKind.has .i64 n1) : Ab.saysTrue (evB 1000 7 [.int .i64 n0, .int .i64 n1] Ab.St.nil) = true := by
  have h1 := tmR n0 7 (by omega)
  have h0 : 0 ≤ (n0.tmod 7 + 7).tmod 7 := Int.tmod_nonneg _ (by omega)
  have h2 : (n0.tmod 7 + 7).tmod 7 < 7 := Int.tmod_lt_of_pos _ (by omega)
  have h : (n0.tmod 7 + 7).tmod 7 = 0 ∨ (n0.tmod 7 + 7).tmod 7 = 1 ∨ (n0.tmod 7 + 7).tmod 7 = 2 ∨ (n0.tmod 7 + 7).tmod 7 = 3 ∨ (n0.tmod 7 + 7).tmod 7 = 4 ∨ (n0.tmod 7 + 7).tmod 7 = 5 ∨ (n0.tmod 7 + 7).tmod 7 = 6 := by omega
  rcases h with h | h | h | h | h | h | h
  · exact full_0 n0 n1 h
  · exact full_1 n0 n1 h
  · exact full_2 n0 n1 h
  · exact full_3 n0 n1 h
  · exact full_4 n0 n1 h
  · exact full_5 n0 n1 h
  · exact full_6 n0 n1 h
end Go.Proofs.YtochnineebgbgaaDoor.outFull
