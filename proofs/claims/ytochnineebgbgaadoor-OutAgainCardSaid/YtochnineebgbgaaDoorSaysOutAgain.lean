/- What the evaluator says of the law OutAgain: true. No conditions. -/
import Derived.Test.YtochnineebgbgaaDoorAgain0
import Derived.Test.YtochnineebgbgaaDoorAgain2
import Derived.Test.YtochnineebgbgaaDoorAgain4
import Derived.Test.YtochnineebgbgaaDoorAgain6
import Derived.Test.YtochnineebgbgaaDoorArgS
namespace Go.Proofs.YtochnineebgbgaaDoor.outAgain
open Go Go.Ab
set_option linter.unusedVariables false
set_option linter.unusedSimpArgs false
set_option maxRecDepth 100000 in
set_option maxHeartbeats 8000000 in
theorem says (n0 : Int) (hn0 : IntKind.has .i64 n0) (n1 : Int) (hn1 : IntKind.has .i64 n1) (n2 : Int) (hn2 : IntKind.has .i64 n2) : Ab.saysTrue (evB 1000 13 [.int .i64 n0, .int .i64 n1, .int .i64 n2] Ab.St.nil) = true := by
  have h1 := tmR n0 7 (by omega)
  have h0 : 0 ≤ (n0.tmod 7 + 7).tmod 7 := Int.tmod_nonneg _ (by omega)
  have h2 : (n0.tmod 7 + 7).tmod 7 < 7 := Int.tmod_lt_of_pos _ (by omega)
  have h : (n0.tmod 7 + 7).tmod 7 = 0 ∨ (n0.tmod 7 + 7).tmod 7 = 1 ∨ (n0.tmod 7 + 7).tmod 7 = 2 ∨ (n0.tmod 7 + 7).tmod 7 = 3 ∨ (n0.tmod 7 + 7).tmod 7 = 4 ∨ (n0.tmod 7 + 7).tmod 7 = 5 ∨ (n0.tmod 7 + 7).tmod 7 = 6 := by omega
  have g1 := tmR n2 3 (by omega)
  have g0 : 0 ≤ (n2.tmod 3 + 3).tmod 3 := Int.tmod_nonneg _ (by omega)
  have g2 : (n2.tmod 3 + 3).tmod 3 < 3 := Int.tmod_lt_of_pos _ (by omega)
  have g : (n2.tmod 3 + 3).tmod 3 = 0 ∨ (n2.tmod 3 + 3).tmod 3 = 1 ∨ (n2.tmod 3 + 3).tmod 3 = 2 := by omega
  rcases h with h | h | h | h | h | h | h
  · rcases g with g | g | g
    · exact again_0_0 n0 n1 n2 h g
    · exact again_0_1 n0 n1 n2 h g
    · exact again_0_2 n0 n1 n2 h g
  · rcases g with g | g | g
    · exact again_1_0 n0 n1 n2 h g
    · exact again_1_1 n0 n1 n2 h g
    · exact again_1_2 n0 n1 n2 h g
  · rcases g with g | g | g
    · exact again_2_0 n0 n1 n2 h g
    · exact again_2_1 n0 n1 n2 h g
    · exact again_2_2 n0 n1 n2 h g
  · rcases g with g | g | g
    · exact again_3_0 n0 n1 n2 h g
    · exact again_3_1 n0 n1 n2 h g
    · exact again_3_2 n0 n1 n2 h g
  · rcases g with g | g | g
    · exact again_4_0 n0 n1 n2 h g
    · exact again_4_1 n0 n1 n2 h g
    · exact again_4_2 n0 n1 n2 h g
  · rcases g with g | g | g
    · exact again_5_0 n0 n1 n2 h g
    · exact again_5_1 n0 n1 n2 h g
    · exact again_5_2 n0 n1 n2 h g
  · rcases g with g | g | g
    · exact again_6_0 n0 n1 n2 h g
    · exact again_6_1 n0 n1 n2 h g
    · exact again_6_2 n0 n1 n2 h g
end Go.Proofs.YtochnineebgbgaaDoor.outAgain
