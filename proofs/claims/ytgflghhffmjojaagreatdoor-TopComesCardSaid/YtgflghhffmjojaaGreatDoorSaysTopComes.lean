/- What the evaluator says of the law TopComes: true. No conditions. -/
import Derived.Test.YtgflghhffmjojaaGreatDoorCm10
import Derived.Test.YtgflghhffmjojaaGreatDoorPlainT8
import Derived.Test.YtgflghhffmjojaaGreatDoorArgS
namespace Go.Proofs.YtgflghhffmjojaaGreatDoor.topComes
open Go Go.Ab
set_option linter.unusedVariables false
set_option linter.unusedSimpArgs false
set_option maxRecDepth 100000 in
set_option maxHeartbeats 8000000 in
theorem says (n0 : Int) (hn0 : IntKind.has .i64 n0) (as1 : List Ab.AV) (hs1 : Ab.ScL Tryz.prog offerTypes as1) : Ab.saysTrue (ev3 600 7 [.int .i64 n0, .agg as1] Ab.St.nil) = true := by
  obtain ⟨ob, os, ow, oz, ot, rfl⟩ := offer_of hs1
  obtain ⟨s', h⟩ := comes.says n0 ob os ow oz ot
  rw [h]
  rfl
end Go.Proofs.YtgflghhffmjojaaGreatDoor.topComes
