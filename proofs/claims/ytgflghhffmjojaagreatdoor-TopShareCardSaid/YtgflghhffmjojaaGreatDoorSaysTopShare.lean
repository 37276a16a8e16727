/- What the evaluator says of the law TopShare: true. No conditions. -/
import Derived.Test.YtgflghhffmjojaaGreatDoorSh10
import Derived.Test.YtgflghhffmjojaaGreatDoorPlainT8
import Derived.Test.YtgflghhffmjojaaGreatDoorArgS
namespace Go.Proofs.YtgflghhffmjojaaGreatDoor.topShare
open Go Go.Ab
set_option linter.unusedVariables false
set_option linter.unusedSimpArgs false
set_option maxRecDepth 100000 in
set_option maxHeartbeats 8000000 in
theorem says (n0 : Int) (hn0 : IntKind.has .u32 n0) (as1 : List Ab.AV) (hs1 : Ab.ScL Tryz.prog offerTypes as1) : Ab.saysTrue (ev3 600 8 [.int .u32 n0, .agg as1] Ab.St.nil) = true := by
  obtain ⟨ob, os, ow, oz, ot, rfl⟩ := offer_of hs1
  have h0 : 0 ≤ n0 := by
    have := hn0.1
    simpa [IntKind.min, IntKind.signed] using this
  obtain ⟨s', h⟩ := share.says n0 ob os ow oz ot h0
  rw [h]
  rfl
end Go.Proofs.YtgflghhffmjojaaGreatDoor.topShare
