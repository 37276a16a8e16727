/- TopShare: what is ahead of the rounds. No conditions. -/
import Derived.Test.YtgflghhffmjojaaGreatDoorFz
set_option linter.unusedVariables false
set_option maxRecDepth 1000000
set_option maxHeartbeats 4000000
namespace Go.Proofs.YtgflghhffmjojaaGreatDoor.share
open Go Go.Ab
def sq1 : MC → MC
  | .seq a _ => a
  | c => c
def sq2 : MC → MC
  | .seq _ b => b
  | c => c
def c0 : MC := sq1 M8.body
def r0 : MC := sq2 M8.body
def c1 : MC := sq1 r0
def r1 : MC := sq2 r0
def c2 : MC := sq1 r1
def r2 : MC := sq2 r1
def c3 : MC := sq1 r2
def r3 : MC := sq2 r2
def c4 : MC := sq1 r3
def r4 : MC := sq2 r3
def c5 : MC := sq1 r4
def r5 : MC := sq2 r4
def c6 : MC := sq1 r5
def r6 : MC := sq2 r5
def c7 : MC := sq1 (sq1 r6)
def cE : MC := sq2 r6
def EA (x ob os ow oz ot : Int) : List AV := [.int .u32 x, .agg [.int .i64 ob,.int .i64 os,.int .i64 ow,.int .i64 oz,.int .i64 ot], .undef, .ptr 0 0, .bool false, .bool true, .undef, .undef, .undef, .undef, .undef, .undef, .bool true, .undef, .undef, .undef, .undef, .undef, .undef, .undef, .undef, .undef, .undef, .undef, .undef, .undef, .undef, .undef, .undef, .undef, .undef, .undef, .undef, .undef, .undef, .undef, .undef, .undef, .undef, .undef, .undef, .undef, .undef, .undef, .undef, .undef, .undef, .undef, .undef, .undef, .undef, .undef, .undef, .undef, .undef, .undef, .undef, .undef, .undef, .undef, .undef, .undef, .undef]
def BA (x ob os ow oz ot : Int) : List (Nat × Ab.Obj) :=
 [(0, .cells 0 [.int .i64 ob,.int .i64 os,.int .i64 ow,.int .i64 oz,.int .i64 ot])]
def EB (x ob os ow oz ot : Int) : List AV := [.int .u32 x, .agg [.int .i64 ob,.int .i64 os,.int .i64 ow,.int .i64 oz,.int .i64 ot], .undef, .ptr 0 0, .bool false, .bool true, .ptr 5012 0, .undef, .undef, .undef, .undef, .undef, .bool true, .bool true, .bool false, .agg [.int .i64 ob,.int .i64 os,.int .i64 ow,.int .i64 oz,.int .i64 ot], .ptr 5012 0, .ptr 5012 0, .bool false, .undef, .undef, .undef, .undef, .undef, .undef, .undef, .undef, .undef, .undef, .undef, .undef, .undef, .undef, .undef, .undef, .undef, .undef, .undef, .undef, .undef, .undef, .undef, .undef, .undef, .undef, .undef, .undef, .undef, .undef, .undef, .undef, .undef, .undef, .undef, .undef, .undef, .undef, .undef, .undef, .undef, .undef, .undef, .undef]
def BB (x ob os ow oz ot : Int) : List (Nat × Ab.Obj) :=
 [(0, .cells 0 [.int .i64 ob,.int .i64 os,.int .i64 ow,.int .i64 oz,.int .i64 ot]),
 (5009, .cells 1 [.nilp,.nilp,.nilp]),
 (5010, .cells 1 [.bool true,.bool true,.bool true,.bool true,.bool true,.bool true,.bool true,.bool true,.bool true]),
 (5011, .cells 0 [.int .i64 3,.hs 1 5010 0 9,.hs 1 5009 0 3]),
 (5012, .cells 0 [.sl [.ptr 5019 0,.ptr 5028 0,.ptr 5036 0] 3 (some (5021,2,1)),.ptr 5011 0,.int .i64 0]),
 (5015, .cells 0 [.int .u32 1,.str [110,48],.bool false,.int .u32 0,.int .i64 0,.int .i64 0]),
 (5017, .cells 0 [.int .u32 1,.int .i64 0,.int .i64 (or1 (andI ob 15)),.int .i64 (or1 (andI os 7)),.int .i64 (mx1 (andI ow 127)),.int .i64 (mx1 (andI oz 15)),.int .i64 (mx1 (andI ot 7)),.int .i64 0,.int .u32 0,.int .i64 0,.int .i64 0,.int .i64 0,.int .i64 0,.int .i64 0,.int .i64 0,.int .i64 0,.nilp,.int .i64 0,.int .i64 0,.int .i64 0,.int .i64 0,.int .i64 0,.int .i64 0,.int .i64 0,.bool false,.bool false,.bool false,.nils]),
 (5018, .cells 0 [.nils]),
 (5019, .cells 0 [.ptr 5015 0,.ptr 5017 0,.ptr 5018 0,.nilp,.nils,.nils,.int .i64 0]),
 (5021, .tick 1 2),
 (5024, .cells 0 [.int .u32 2,.str [110,49],.bool false,.int .u32 0,.int .i64 0,.int .i64 0]),
 (5026, .cells 0 [.int .u32 2,.int .i64 1,.int .i64 (or1 (andI ob 15)),.int .i64 (or1 (andI os 7)),.int .i64 (mx1 (andI ow 127)),.int .i64 (mx1 (andI oz 15)),.int .i64 (mx1 (andI ot 7)),.int .i64 0,.int .u32 0,.int .i64 0,.int .i64 0,.int .i64 0,.int .i64 0,.int .i64 0,.int .i64 0,.int .i64 0,.nilp,.int .i64 0,.int .i64 0,.int .i64 0,.int .i64 0,.int .i64 0,.int .i64 0,.int .i64 0,.bool false,.bool false,.bool false,.nils]),
 (5027, .cells 0 [.nils]),
 (5028, .cells 0 [.ptr 5024 0,.ptr 5026 0,.ptr 5027 0,.nilp,.nils,.nils,.int .i64 0]),
 (5032, .cells 0 [.int .u32 3,.str [110,50],.bool false,.int .u32 0,.int .i64 0,.int .i64 0]),
 (5034, .cells 0 [.int .u32 3,.int .i64 2,.int .i64 (or1 (andI ob 15)),.int .i64 (or1 (andI os 7)),.int .i64 (mx1 (andI ow 127)),.int .i64 (mx1 (andI oz 15)),.int .i64 (mx1 (andI ot 7)),.int .i64 0,.int .u32 0,.int .i64 0,.int .i64 0,.int .i64 0,.int .i64 0,.int .i64 0,.int .i64 0,.int .i64 0,.nilp,.int .i64 0,.int .i64 0,.int .i64 0,.int .i64 0,.int .i64 0,.int .i64 0,.int .i64 0,.bool false,.bool false,.bool false,.nils]),
 (5035, .cells 0 [.nils]),
 (5036, .cells 0 [.ptr 5032 0,.ptr 5034 0,.ptr 5035 0,.nilp,.nils,.nils,.int .i64 0])]
theorem pA (x ob os ow oz ot : Int) : ((cB tabGl 63 (.seq c0 c1)).c 599 (fQ 599) (envK [.int .u32 x, .agg [.int .i64 ob, .int .i64 os, .int .i64 ow, .int .i64 oz, .int .i64 ot]] 0) FS.nil).seen 63 ((BA x ob os ow oz ot).map (·.1)) = some (.nrm, EA x ob os ow oz ot, 5005, (BA x ob os ow oz ot).map (fun p => some p.2), []) := by kernel_rfl
theorem pB (x ob os ow oz ot : Int) : ((cB tabGl 63 (.seq (.seq c2 c3) c4)).c 599 (fQo 599) (envK (EA x ob os ow oz ot) 0) (mkS 5005 (BA x ob os ow oz ot))).seen 63 ((BB x ob os ow oz ot).map (·.1)) = some (.nrm, EB x ob os ow oz ot, 5038, (BB x ob os ow oz ot).map (fun p => some p.2), [[.agg [.int .i64 (or1 (andI ob 15)), .int .i64 (or1 (andI os 7)), .int .i64 (mx1 (andI ow 127)), .int .i64 (mx1 (andI oz 15)), .int .i64 (mx1 (andI ot 7))]], [.agg [.int .i64 (or1 (andI ob 15)), .int .i64 (or1 (andI os 7)), .int .i64 (mx1 (andI ow 127)), .int .i64 (mx1 (andI oz 15)), .int .i64 (mx1 (andI ot 7))]], [.agg [.int .i64 (or1 (andI ob 15)), .int .i64 (or1 (andI os 7)), .int .i64 (mx1 (andI ow 127)), .int .i64 (mx1 (andI oz 15)), .int .i64 (mx1 (andI ot 7))]]]) := by kernel_rfl
end Go.Proofs.YtgflghhffmjojaaGreatDoor.share
