/- TopRefuse, run: true. No conditions. -/
import Derived.Test.YtgflghhffmjojaaGreatDoorRf0
import Derived.Test.YtgflghhffmjojaaGreatDoorRf1
import Derived.Test.YtgflghhffmjojaaGreatDoorRf2
import Derived.Test.YtgflghhffmjojaaGreatDoorPlainT8
set_option linter.unusedVariables false
namespace Go.Proofs.YtgflghhffmjojaaGreatDoor.refuse
open Go Go.Ab
theorem says (x ob os ow oz ot : Int) : ∃ s', evM 600 10 [.agg [.int .i64 ob, .int .i64 os, .int .i64 ow, .int .i64 oz, .int .i64 ot], .int .i64 x] St.nil = some (.bool true, s') := by
  obtain ⟨nb, ns, nw, nz, nt, h, hf⟩ := sem_fine ob os ow oz ot
  obtain ⟨r, hr01, hr⟩ := sem_small x
  obtain ⟨bd, wn, sz, hb, hd⟩ := sem_deal h
  have h3 : lowB nt = 0 ∨ lowB nt = 1 ∨ lowB nt = 2 := by simpa using low_3 nt
  rcases h3 with e | e | e <;> rw [e] at hd <;> rcases hr01 with rfl | rfl
  · exact rf0.says0 h hb hr hf hd
  · exact rf0.says1 h hb hr hf hd
  · exact rf1.says0 h hb hr hf hd
  · exact rf1.says1 h hb hr hf hd
  · exact rf2.says0 h hb hr hf hd
  · exact rf2.says1 h hb hr hf hd
end Go.Proofs.YtgflghhffmjojaaGreatDoor.refuse
namespace Go.Proofs.YtgflghhffmjojaaGreatDoor.topRefuse
open Go Go.Ab
set_option linter.unusedVariables false
set_option linter.unusedSimpArgs false
set_option maxRecDepth 100000 in
set_option maxHeartbeats 8000000 in
theorem says (as0 : List Ab.AV) (hs0 : Ab.ScL Tryz.prog offerTypes as0) (n1 : Int) (hn1 : IntKind.has .i64 n1) : Ab.saysTrue (evM 600 10 [.agg as0, .int .i64 n1] Ab.St.nil) = true := by
  obtain ⟨ob, os, ow, oz, ot, rfl⟩ := offer_of hs0
  obtain ⟨s', h⟩ := refuse.says n1 ob os ow oz ot
  rw [h]
  rfl
end Go.Proofs.YtgflghhffmjojaaGreatDoor.topRefuse
