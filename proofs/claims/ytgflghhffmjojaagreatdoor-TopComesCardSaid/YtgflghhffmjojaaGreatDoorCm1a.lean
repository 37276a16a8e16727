/- TopComes, 3 stations: the first round. No conditions. -/
import Derived.Test.YtgflghhffmjojaaGreatDoorCm0
set_option linter.unusedVariables false
set_option maxRecDepth 1000000
set_option maxHeartbeats 4000000
namespace Go.Proofs.YtgflghhffmjojaaGreatDoor.comes
open Go Go.Ab
def Eb0 (x ob os ow oz ot : Int) : List AV := [.int .i64 3, .agg [.int .i64 ob,.int .i64 os,.int .i64 ow,.int .i64 oz,.int .i64 ot], .undef, .ptr 0 0, .bool false, .bool true, .undef, .undef, .undef, .undef, .undef, .undef, .undef, .undef, .bool true, .bool true, .bool false, .int .i64 x, .int .i64 0, .int .i64 3, .undef, .undef, .undef, .undef, .undef, .undef, .undef, .undef, .undef, .undef, .undef, .undef, .undef, .undef, .undef, .undef, .undef, .undef, .undef, .undef, .undef, .undef, .undef, .undef, .undef, .undef, .undef, .undef, .undef, .undef, .undef, .undef, .undef, .undef, .undef, .undef, .undef, .undef, .undef, .undef, .undef, .undef, .undef, .undef, .undef, .undef, .undef, .undef, .undef, .undef, .undef, .undef, .undef, .undef, .undef, .undef, .undef, .undef, .undef, .undef, .undef, .undef, .undef, .undef, .undef, .undef, .undef, .undef, .undef]
def EB0 (x ob os ow oz ot : Int) : List AV := [.int .i64 3, .undef, .undef, .undef, .undef, .undef, .ptr 5012 0, .int .i64 2, .undef, .undef, .undef, .undef, .undef, .undef, .undef, .undef, .undef, .undef, .undef, .undef, .undef, .undef, .undef, .undef, .undef, .int .i64 2, .int .i64 3, .int .i64 3, .bool false, .undef, .undef, .undef, .undef, .undef, .undef, .undef, .undef, .undef, .undef, .undef, .undef, .undef, .undef, .undef, .undef, .undef, .undef, .undef, .undef, .undef, .undef, .undef, .undef, .undef, .undef, .undef, .undef, .undef, .undef, .undef, .undef, .undef, .undef, .undef, .undef, .undef, .undef, .undef, .undef, .undef, .undef, .undef, .undef, .undef, .undef, .undef, .undef, .undef, .undef, .undef, .undef, .undef, .undef, .undef, .undef, .undef, .undef, .undef, .undef]
def BB0 (x ob os ow oz ot : Int) : List (Nat × Ab.Obj) :=
 [(5009, .cells 1 [.nilp,.nilp,.nilp]),
 (5010, .cells 1 [.bool true,.bool true,.bool false,.bool true,.bool true,.bool false,.bool false,.bool false,.bool true]),
 (5011, .cells 0 [.int .i64 3,.hs 1 5010 0 9,.hs 1 5009 0 3]),
 (5012, .cells 0 [.sl [.ptr 5019 0,.ptr 5028 0,.ptr 5036 0] 3 (some (5021,2,1)),.ptr 5011 0,.int .i64 0]),
 (5015, .cells 0 [.int .u32 1,.str [110,48],.bool false,.int .u32 0,.int .i64 0,.int .i64 0]),
 (5017, .cells 0 [.int .u32 1,.int .i64 0,.int .i64 (or1 (andI ob 15)),.int .i64 (or1 (andI os 7)),.int .i64 (mx1 (andI ow 127)),.int .i64 (mx1 (andI oz 15)),.int .i64 (mx1 (andI ot 7)),.int .i64 0,.int .u32 0,.int .i64 0,.int .i64 0,.int .i64 0,.int .i64 0,.int .i64 0,.int .i64 0,.int .i64 0,.nilp,.int .i64 0,.int .i64 0,.int .i64 0,.int .i64 0,.int .i64 0,.int .i64 0,.int .i64 0,.bool false,.bool false,.bool false,.nils]),
 (5018, .cells 0 [.nils]),
 (5019, .cells 0 [.ptr 5015 0,.ptr 5017 0,.ptr 5018 0,.nilp,.nils,.nils,.int .i64 0]),
 (5021, .tick 1 2),
 (5024, .cells 0 [.int .u32 2,.str [110,49],.bool false,.int .u32 0,.int .i64 0,.int .i64 0]),
 (5026, .cells 0 [.int .u32 2,.int .i64 1,.int .i64 (or1 (andI ob 15)),.int .i64 (or1 (andI os 7)),.int .i64 (mx1 (andI ow 127)),.int .i64 (mx1 (andI oz 15)),.int .i64 (mx1 (andI ot 7)),.int .i64 0,.int .u32 0,.int .i64 0,.int .i64 0,.int .i64 0,.int .i64 0,.int .i64 0,.int .i64 0,.int .i64 0,.nilp,.int .i64 0,.int .i64 0,.int .i64 0,.int .i64 0,.int .i64 0,.int .i64 0,.int .i64 0,.bool false,.bool false,.bool false,.nils]),
 (5027, .cells 0 [.nils]),
 (5028, .cells 0 [.ptr 5024 0,.ptr 5026 0,.ptr 5027 0,.nilp,.nils,.nils,.int .i64 0]),
 (5032, .cells 0 [.int .u32 3,.str [110,50],.bool false,.int .u32 0,.int .i64 0,.int .i64 0]),
 (5034, .cells 0 [.int .u32 3,.int .i64 2,.int .i64 (or1 (andI ob 15)),.int .i64 (or1 (andI os 7)),.int .i64 (mx1 (andI ow 127)),.int .i64 (mx1 (andI oz 15)),.int .i64 (mx1 (andI ot 7)),.int .i64 0,.int .u32 0,.int .i64 0,.int .i64 0,.int .i64 0,.int .i64 0,.int .i64 0,.int .i64 0,.int .i64 0,.nilp,.int .i64 0,.int .i64 0,.int .i64 0,.int .i64 0,.int .i64 0,.int .i64 0,.int .i64 0,.bool false,.bool false,.bool false,.nils]),
 (5035, .cells 0 [.nils]),
 (5036, .cells 0 [.ptr 5032 0,.ptr 5034 0,.ptr 5035 0,.nilp,.nils,.nils,.int .i64 0])]
def Ek0_0 (x ob os ow oz ot : Int) : List AV := [.int .i64 3, .undef, .undef, .undef, .undef, .undef, .ptr 5012 0, .undef, .ptr 5038 0, .int .i64 0, .undef, .undef, .undef, .undef, .undef, .undef, .undef, .undef, .undef, .undef, .undef, .undef, .undef, .undef, .undef, .undef, .undef, .undef, .undef, .undef, .undef, .undef, .undef, .undef, .undef, .undef, .undef, .undef, .undef, .undef, .undef, .undef, .undef, .undef, .undef, .undef, .undef, .undef, .undef, .undef, .undef, .undef, .undef, .undef, .undef, .undef, .undef, .undef, .undef, .undef, .undef, .undef, .undef, .undef, .undef, .undef, .undef, .undef, .undef, .undef, .undef, .undef, .undef, .undef, .undef, .undef, .undef, .undef, .undef, .undef, .undef, .undef, .undef, .undef, .undef, .undef, .undef, .undef, .undef]
def Bk0_0 (x ob os ow oz ot : Int) : List (Nat × Ab.Obj) :=
 [(5009, .cells 1 [.nilp,.nilp,.nilp]),
 (5010, .cells 1 [.bool true,.bool true,.bool false,.bool true,.bool true,.bool false,.bool false,.bool false,.bool true]),
 (5011, .cells 0 [.int .i64 3,.hs 1 5010 0 9,.hs 1 5009 0 3]),
 (5012, .cells 0 [.sl [.ptr 5019 0,.ptr 5028 0,.ptr 5036 0] 3 (some (5021,2,1)),.ptr 5011 0,.int .i64 0]),
 (5015, .cells 0 [.int .u32 1,.str [110,48],.bool false,.int .u32 0,.int .i64 0,.int .i64 0]),
 (5017, .cells 0 [.int .u32 1,.int .i64 0,.int .i64 (or1 (andI ob 15)),.int .i64 (or1 (andI os 7)),.int .i64 (mx1 (andI ow 127)),.int .i64 (mx1 (andI oz 15)),.int .i64 (mx1 (andI ot 7)),.int .i64 0,.int .u32 0,.int .i64 0,.int .i64 0,.int .i64 0,.int .i64 0,.int .i64 0,.int .i64 0,.int .i64 0,.nilp,.int .i64 0,.int .i64 0,.int .i64 0,.int .i64 0,.int .i64 0,.int .i64 0,.int .i64 0,.bool false,.bool false,.bool false,.nils]),
 (5018, .cells 0 [.nils]),
 (5019, .cells 0 [.ptr 5015 0,.ptr 5017 0,.ptr 5018 0,.nilp,.nils,.nils,.int .i64 0]),
 (5021, .tick 1 2),
 (5024, .cells 0 [.int .u32 2,.str [110,49],.bool false,.int .u32 0,.int .i64 0,.int .i64 0]),
 (5026, .cells 0 [.int .u32 2,.int .i64 1,.int .i64 (or1 (andI ob 15)),.int .i64 (or1 (andI os 7)),.int .i64 (mx1 (andI ow 127)),.int .i64 (mx1 (andI oz 15)),.int .i64 (mx1 (andI ot 7)),.int .i64 0,.int .u32 0,.int .i64 0,.int .i64 0,.int .i64 0,.int .i64 0,.int .i64 0,.int .i64 0,.int .i64 0,.nilp,.int .i64 0,.int .i64 0,.int .i64 0,.int .i64 0,.int .i64 0,.int .i64 0,.int .i64 0,.bool false,.bool false,.bool false,.nils]),
 (5027, .cells 0 [.nils]),
 (5028, .cells 0 [.ptr 5024 0,.ptr 5026 0,.ptr 5027 0,.nilp,.nils,.nils,.int .i64 0]),
 (5032, .cells 0 [.int .u32 3,.str [110,50],.bool false,.int .u32 0,.int .i64 0,.int .i64 0]),
 (5034, .cells 0 [.int .u32 3,.int .i64 2,.int .i64 (or1 (andI ob 15)),.int .i64 (or1 (andI os 7)),.int .i64 (mx1 (andI ow 127)),.int .i64 (mx1 (andI oz 15)),.int .i64 (mx1 (andI ot 7)),.int .i64 0,.int .u32 0,.int .i64 0,.int .i64 0,.int .i64 0,.int .i64 0,.int .i64 0,.int .i64 0,.int .i64 0,.nilp,.int .i64 0,.int .i64 0,.int .i64 0,.int .i64 0,.int .i64 0,.int .i64 0,.int .i64 0,.bool false,.bool false,.bool false,.nils]),
 (5035, .cells 0 [.nils]),
 (5036, .cells 0 [.ptr 5032 0,.ptr 5034 0,.ptr 5035 0,.nilp,.nils,.nils,.int .i64 0]),
 (5038, .cells 0 [.int .i64 (-1),.int .i64 (-1)])]
theorem q0 (x ob os ow oz ot : Int) : (fo7 (.seq (.seq c4 c5) cX) (Eb0 x ob os ow oz ot) 5005 (BA x ob os ow oz ot)).seen 89 ((BB0 x ob os ow oz ot).map (·.1)) = some (.nrm, EB0 x ob os ow oz ot, 5038, (BB0 x ob os ow oz ot).map (fun p => some p.2), [agr ob os ow oz ot, agr ob os ow oz ot, agr ob os ow oz ot]) := by kernel_rfl
theorem q0_k (x ob os ow oz ot : Int) : (fv7 (.seq c8 c9) (EB0 x ob os ow oz ot) 5038 (BB0 x ob os ow oz ot)).seenK M7b3l 89 ((Bk0_0 x ob os ow oz ot).map (·.1)) = some (.nrm, Ek0_0 x ob os ow oz ot, 5039, (Bk0_0 x ob os ow oz ot).map (fun p => some p.2), []) := by kernel_rfl
def Ea0_0 (x ob os ow oz ot : Int) : List AV := [.int .i64 3, .undef, .undef, .undef, .undef, .undef, .ptr 5012 0, .undef, .ptr 5038 0, .int .i64 0, .undef, .undef, .undef, .undef, .undef, .undef, .undef, .undef, .undef, .undef, .undef, .undef, .undef, .undef, .undef, .undef, .undef, .undef, .undef, .undef, .undef, .undef, .undef, .undef, .undef, .undef, .undef, .undef, .int .i64 0, .bool true, .undef, .undef, .undef, .undef, .undef, .undef, .undef, .undef, .undef, .undef, .undef, .undef, .undef, .undef, .undef, .undef, .undef, .undef, .undef, .undef, .undef, .undef, .undef, .undef, .undef, .undef, .undef, .undef, .undef, .undef, .undef, .undef, .undef, .undef, .undef, .undef, .undef, .undef, .undef, .undef, .undef, .undef, .undef, .undef, .undef, .undef, .undef, .undef, .undef]
def Ef0_0 (x ob os ow oz ot : Int) : List AV := [.int .i64 3, .undef, .undef, .undef, .undef, .undef, .ptr 5012 0, .undef, .ptr 5038 0, .int .i64 0, .int .i64 0, .undef, .undef, .undef, .undef, .undef, .undef, .undef, .undef, .undef, .undef, .undef, .undef, .undef, .undef, .undef, .undef, .undef, .undef, .undef, .undef, .undef, .undef, .undef, .undef, .undef, .undef, .undef, .undef, .undef, .undef, .undef, .undef, .undef, .undef, .undef, .undef, .undef, .undef, .undef, .undef, .undef, .undef, .undef, .undef, .undef, .undef, .undef, .undef, .undef, .undef, .undef, .undef, .undef, .undef, .undef, .undef, .undef, .undef, .undef, .undef, .undef, .undef, .undef, .undef, .undef, .undef, .undef, .undef, .undef, .undef, .undef, .undef, .undef, .undef, .undef, .undef, .undef, .undef]
def Bf0_0 (x ob os ow oz ot : Int) : List (Nat × Ab.Obj) :=
 [(5009, .cells 1 [.nilp,.nilp,.nilp]),
 (5010, .cells 1 [.bool true,.bool true,.bool false,.bool true,.bool true,.bool false,.bool false,.bool false,.bool true]),
 (5011, .cells 0 [.int .i64 3,.hs 1 5010 0 9,.hs 1 5009 0 3]),
 (5012, .cells 0 [.sl [.ptr 5019 0,.ptr 5028 0,.ptr 5036 0] 3 (some (5021,2,1)),.ptr 5011 0,.int .i64 12]),
 (5015, .cells 0 [.int .u32 1,.str [110,48],.bool false,.int .u32 0,.int .i64 0,.int .i64 0]),
 (5017, .cells 0 [.int .u32 1,.int .i64 0,.int .i64 (or1 (andI ob 15)),.int .i64 (or1 (andI os 7)),.int .i64 (mx1 (andI ow 127)),.int .i64 (mx1 (andI oz 15)),.int .i64 (mx1 (andI ot 7)),.int .i64 0,.int .u32 0,.int .i64 0,.int .i64 0,.int .i64 0,.int .i64 0,.int .i64 0,.int .i64 0,.int .i64 0,.nilp,.int .i64 0,.int .i64 0,.int .i64 0,.int .i64 0,.int .i64 0,.int .i64 0,.int .i64 0,.bool false,.bool false,.bool false,.nils]),
 (5018, .cells 0 [.sl [.int .i64 1,.int .i64 8,.int .u32 0,.str []] 1 (some (5117,0,4))]),
 (5019, .cells 0 [.ptr 5015 0,.ptr 5017 0,.ptr 5018 0,.nilp,.nils,.nils,.int .i64 12]),
 (5021, .tick 1 2),
 (5024, .cells 0 [.int .u32 2,.str [110,49],.bool false,.int .u32 0,.int .i64 0,.int .i64 0]),
 (5026, .cells 0 [.int .u32 2,.int .i64 1,.int .i64 (or1 (andI ob 15)),.int .i64 (or1 (andI os 7)),.int .i64 (mx1 (andI ow 127)),.int .i64 (mx1 (andI oz 15)),.int .i64 (mx1 (andI ot 7)),.int .i64 0,.int .u32 0,.int .i64 0,.int .i64 0,.int .i64 0,.int .i64 0,.int .i64 0,.int .i64 0,.int .i64 0,.nilp,.int .i64 0,.int .i64 0,.int .i64 0,.int .i64 0,.int .i64 0,.int .i64 0,.int .i64 0,.bool false,.bool false,.bool false,.nils]),
 (5027, .cells 0 [.nils]),
 (5028, .cells 0 [.ptr 5024 0,.ptr 5026 0,.ptr 5027 0,.nilp,.nils,.nils,.int .i64 12]),
 (5032, .cells 0 [.int .u32 3,.str [110,50],.bool false,.int .u32 0,.int .i64 0,.int .i64 0]),
 (5034, .cells 0 [.int .u32 3,.int .i64 2,.int .i64 (or1 (andI ob 15)),.int .i64 (or1 (andI os 7)),.int .i64 (mx1 (andI ow 127)),.int .i64 (mx1 (andI oz 15)),.int .i64 (mx1 (andI ot 7)),.int .i64 0,.int .u32 0,.int .i64 0,.int .i64 0,.int .i64 0,.int .i64 0,.int .i64 0,.int .i64 0,.int .i64 0,.nilp,.int .i64 0,.int .i64 0,.int .i64 0,.int .i64 0,.int .i64 0,.int .i64 0,.int .i64 0,.bool false,.bool false,.bool false,.nils]),
 (5035, .cells 0 [.nils]),
 (5036, .cells 0 [.ptr 5032 0,.ptr 5034 0,.ptr 5035 0,.nilp,.nils,.nils,.int .i64 12]),
 (5038, .cells 0 [.int .i64 (-1),.int .i64 (-1)]),
 (5117, .tick 4 0)]
def Eg0_0_0 (x ob os ow oz ot : Int) : List AV := [.int .i64 3, .undef, .undef, .undef, .undef, .undef, .ptr 5012 0, .undef, .ptr 5038 0, .int .i64 0, .int .i64 45, .undef, .undef, .undef, .undef, .undef, .undef, .undef, .undef, .undef, .undef, .undef, .undef, .undef, .undef, .undef, .undef, .undef, .undef, .undef, .undef, .undef, .undef, .undef, .undef, .undef, .undef, .undef, .undef, .undef, .undef, .undef, .undef, .undef, .undef, .undef, .undef, .undef, .undef, .undef, .undef, .undef, .undef, .undef, .undef, .undef, .undef, .undef, .undef, .undef, .undef, .undef, .undef, .undef, .undef, .undef, .undef, .undef, .undef, .undef, .undef, .undef, .undef, .undef, .undef, .undef, .undef, .undef, .undef, .undef, .undef, .undef, .undef, .undef, .undef, .undef, .undef, .undef, .undef]
def Bg0_0_0 (x ob os ow oz ot : Int) : List (Nat × Ab.Obj) :=
 [(5009, .cells 1 [.nilp,.nilp,.nilp]),
 (5010, .cells 1 [.bool true,.bool true,.bool false,.bool true,.bool true,.bool false,.bool false,.bool false,.bool true]),
 (5011, .cells 0 [.int .i64 3,.hs 1 5010 0 9,.hs 1 5009 0 3]),
 (5012, .cells 0 [.sl [.ptr 5019 0,.ptr 5028 0,.ptr 5036 0] 3 (some (5021,2,1)),.ptr 5011 0,.int .i64 57]),
 (5015, .cells 0 [.int .u32 1,.str [110,48],.bool false,.int .u32 0,.int .i64 0,.int .i64 0]),
 (5017, .cells 0 [.int .u32 1,.int .i64 0,.int .i64 (or1 (andI ob 15)),.int .i64 (or1 (andI os 7)),.int .i64 (mx1 (andI ow 127)),.int .i64 (mx1 (andI oz 15)),.int .i64 (mx1 (andI ot 7)),.int .i64 0,.int .u32 0,.int .i64 0,.int .i64 0,.int .i64 0,.int .i64 0,.int .i64 0,.int .i64 0,.int .i64 0,.nilp,.int .i64 0,.int .i64 0,.int .i64 0,.int .i64 0,.int .i64 0,.int .i64 0,.int .i64 0,.bool false,.bool false,.bool false,.nils]),
 (5018, .cells 0 [.sl [] 0 (some (5117,0,4))]),
 (5019, .cells 0 [.ptr 5015 0,.ptr 5017 0,.ptr 5018 0,.ptr 5128 0,.nils,.nils,.int .i64 34]),
 (5021, .tick 1 2),
 (5024, .cells 0 [.int .u32 2,.str [110,49],.bool true,.int .u32 1,.int .i64 8,.int .i64 1]),
 (5026, .cells 0 [.int .u32 2,.int .i64 1,.int .i64 (or1 (andI ob 15)),.int .i64 (or1 (andI os 7)),.int .i64 (mx1 (andI ow 127)),.int .i64 (mx1 (andI oz 15)),.int .i64 (mx1 (andI ot 7)),.int .i64 0,.int .u32 0,.int .i64 0,.int .i64 0,.int .i64 0,.int .i64 0,.int .i64 0,.int .i64 0,.int .i64 0,.nilp,.int .i64 0,.int .i64 0,.int .i64 0,.int .i64 0,.int .i64 0,.int .i64 0,.int .i64 0,.bool false,.bool false,.bool false,.nils]),
 (5027, .cells 0 [.nils]),
 (5028, .cells 0 [.ptr 5024 0,.ptr 5026 0,.ptr 5027 0,.nilp,.nils,.nils,.int .i64 3]),
 (5032, .cells 0 [.int .u32 3,.str [110,50],.bool false,.int .u32 0,.int .i64 0,.int .i64 0]),
 (5034, .cells 0 [.int .u32 3,.int .i64 2,.int .i64 (or1 (andI ob 15)),.int .i64 (or1 (andI os 7)),.int .i64 (mx1 (andI ow 127)),.int .i64 (mx1 (andI oz 15)),.int .i64 (mx1 (andI ot 7)),.int .i64 0,.int .u32 0,.int .i64 0,.int .i64 0,.int .i64 0,.int .i64 0,.int .i64 0,.int .i64 0,.int .i64 0,.nilp,.int .i64 0,.int .i64 0,.int .i64 0,.int .i64 0,.int .i64 0,.int .i64 0,.int .i64 0,.bool false,.bool false,.bool false,.nils]),
 (5035, .cells 0 [.nils]),
 (5036, .cells 0 [.ptr 5032 0,.ptr 5034 0,.ptr 5035 0,.nilp,.nils,.nils,.int .i64 57]),
 (5038, .cells 0 [.int .i64 (-1),.int .i64 (-1)]),
 (5117, .tick 4 0),
 (5127, .cells 0 [.int .u32 1,.sl [.int .u32 2,.str [110,49]] 1 (some (5674,0,2)),.sl [.int .i64 1] 1 (some (5676,0,1)),.nils]),
 (5128, .cells 0 [.int .u32 1,.int .u32 0,.int .i64 0,.int .i64 8,.bool false,.str [110,48],.int .i64 44,.ptr 5127 0]),
 (5674, .tick 2 0),
 (5676, .tick 1 0)]
def Eg0_0_1 (x ob os ow oz ot : Int) : List AV := [.int .i64 3, .undef, .undef, .undef, .undef, .undef, .ptr 5012 0, .undef, .ptr 5038 0, .int .i64 0, .int .i64 90, .undef, .undef, .undef, .undef, .undef, .undef, .undef, .undef, .undef, .undef, .undef, .undef, .undef, .undef, .undef, .undef, .undef, .undef, .undef, .undef, .undef, .undef, .undef, .undef, .undef, .undef, .undef, .undef, .undef, .undef, .undef, .undef, .undef, .undef, .undef, .undef, .undef, .undef, .undef, .undef, .undef, .undef, .undef, .undef, .undef, .undef, .undef, .undef, .undef, .undef, .undef, .undef, .undef, .undef, .undef, .undef, .undef, .undef, .undef, .undef, .undef, .undef, .undef, .undef, .undef, .undef, .undef, .undef, .undef, .undef, .undef, .undef, .undef, .undef, .undef, .undef, .undef, .undef]
def Bg0_0_1 (x ob os ow oz ot : Int) : List (Nat × Ab.Obj) :=
 [(5009, .cells 1 [.nilp,.nilp,.nilp]),
 (5010, .cells 1 [.bool true,.bool true,.bool false,.bool true,.bool true,.bool false,.bool false,.bool false,.bool true]),
 (5011, .cells 0 [.int .i64 3,.hs 1 5010 0 9,.hs 1 5009 0 3]),
 (5012, .cells 0 [.sl [.ptr 5019 0,.ptr 5028 0,.ptr 5036 0] 3 (some (5021,2,1)),.ptr 5011 0,.int .i64 102]),
 (5015, .cells 0 [.int .u32 1,.str [110,48],.bool false,.int .u32 0,.int .i64 0,.int .i64 0]),
 (5017, .cells 0 [.int .u32 1,.int .i64 0,.int .i64 (or1 (andI ob 15)),.int .i64 (or1 (andI os 7)),.int .i64 (mx1 (andI ow 127)),.int .i64 (mx1 (andI oz 15)),.int .i64 (mx1 (andI ot 7)),.int .i64 0,.int .u32 0,.int .i64 0,.int .i64 0,.int .i64 0,.int .i64 0,.int .i64 0,.int .i64 0,.int .i64 0,.nilp,.int .i64 0,.int .i64 0,.int .i64 0,.int .i64 0,.int .i64 0,.int .i64 0,.int .i64 0,.bool false,.bool false,.bool false,.nils]),
 (5018, .cells 0 [.sl [] 0 (some (5117,0,4))]),
 (5019, .cells 0 [.ptr 5015 0,.ptr 5017 0,.ptr 5018 0,.nilp,.sl [.int .u32 2,.str [110,49]] 1 (some (7163,1,2)),.nils,.int .i64 79]),
 (5021, .tick 1 2),
 (5024, .cells 0 [.int .u32 2,.str [110,49],.bool false,.int .u32 1,.int .i64 8,.int .i64 1]),
 (5026, .cells 0 [.int .u32 2,.int .i64 1,.int .i64 (or1 (andI ob 15)),.int .i64 (or1 (andI os 7)),.int .i64 (mx1 (andI ow 127)),.int .i64 (mx1 (andI oz 15)),.int .i64 (mx1 (andI ot 7)),.int .i64 0,.int .u32 0,.int .i64 0,.int .i64 0,.int .i64 0,.int .i64 0,.int .i64 0,.int .i64 0,.int .i64 0,.nilp,.int .i64 0,.int .i64 0,.int .i64 0,.int .i64 0,.int .i64 0,.int .i64 0,.int .i64 0,.bool false,.bool false,.bool false,.nils]),
 (5027, .cells 0 [.nils]),
 (5028, .cells 0 [.ptr 5024 0,.ptr 5026 0,.ptr 5027 0,.nilp,.nils,.nils,.int .i64 24]),
 (5032, .cells 0 [.int .u32 3,.str [110,50],.bool false,.int .u32 0,.int .i64 0,.int .i64 0]),
 (5034, .cells 0 [.int .u32 3,.int .i64 2,.int .i64 (or1 (andI ob 15)),.int .i64 (or1 (andI os 7)),.int .i64 (mx1 (andI ow 127)),.int .i64 (mx1 (andI oz 15)),.int .i64 (mx1 (andI ot 7)),.int .i64 0,.int .u32 0,.int .i64 0,.int .i64 0,.int .i64 0,.int .i64 0,.int .i64 0,.int .i64 0,.int .i64 0,.nilp,.int .i64 0,.int .i64 0,.int .i64 0,.int .i64 0,.int .i64 0,.int .i64 0,.int .i64 0,.bool false,.bool false,.bool false,.nils]),
 (5035, .cells 0 [.nils]),
 (5036, .cells 0 [.ptr 5032 0,.ptr 5034 0,.ptr 5035 0,.nilp,.nils,.nils,.int .i64 100]),
 (5038, .cells 0 [.int .i64 1,.int .i64 (-1)]),
 (5117, .tick 4 0),
 (7163, .tick 2 1)]
def Ex0_0 (x ob os ow oz ot : Int) : List AV := [.int .i64 3, .undef, .undef, .undef, .undef, .undef, .ptr 5012 0, .undef, .ptr 5038 0, .int .i64 0, .int .i64 90, .undef, .undef, .undef, .undef, .undef, .undef, .undef, .undef, .undef, .undef, .undef, .undef, .undef, .undef, .undef, .undef, .undef, .undef, .undef, .undef, .undef, .undef, .undef, .undef, .undef, .undef, .undef, .undef, .undef, .undef, .undef, .undef, .undef, .undef, .undef, .undef, .undef, .int .i64 90, .bool false, .undef, .undef, .undef, .undef, .undef, .undef, .undef, .undef, .undef, .undef, .undef, .undef, .undef, .undef, .undef, .undef, .undef, .undef, .undef, .undef, .undef, .undef, .undef, .undef, .undef, .undef, .undef, .undef, .undef, .undef, .undef, .undef, .undef, .undef, .undef, .undef, .undef, .undef, .undef]
def Ey0_0 (x ob os ow oz ot : Int) : List AV := [.int .i64 3, .undef, .undef, .undef, .undef, .undef, .ptr 5012 0, .undef, .ptr 5038 0, .int .i64 0, .undef, .undef, .undef, .int .i64 2, .undef, .undef, .undef, .undef, .undef, .undef, .undef, .undef, .undef, .undef, .undef, .undef, .undef, .undef, .undef, .undef, .undef, .undef, .undef, .undef, .undef, .undef, .undef, .undef, .undef, .undef, .undef, .undef, .undef, .undef, .undef, .undef, .undef, .undef, .undef, .undef, .undef, .undef, .undef, .undef, .undef, .undef, .undef, .undef, .undef, .undef, .undef, .undef, .undef, .undef, .undef, .undef, .undef, .undef, .undef, .undef, .undef, .int .i64 2, .int .i64 3, .int .i64 3, .bool false, .undef, .undef, .undef, .undef, .undef, .undef, .undef, .undef, .undef, .undef, .undef, .undef, .undef, .undef]
def By0_0 (x ob os ow oz ot : Int) : List (Nat × Ab.Obj) :=
 [(5009, .cells 1 [.nilp,.nilp,.nilp]),
 (5010, .cells 1 [.bool true,.bool true,.bool true,.bool true,.bool true,.bool true,.bool true,.bool true,.bool true]),
 (5011, .cells 0 [.int .i64 3,.hs 1 5010 0 9,.hs 1 5009 0 3]),
 (5012, .cells 0 [.sl [.ptr 5019 0,.ptr 5028 0,.ptr 5036 0] 3 (some (5021,2,1)),.ptr 5011 0,.int .i64 102]),
 (5015, .cells 0 [.int .u32 1,.str [110,48],.bool false,.int .u32 0,.int .i64 0,.int .i64 0]),
 (5017, .cells 0 [.int .u32 1,.int .i64 0,.int .i64 (or1 (andI ob 15)),.int .i64 (or1 (andI os 7)),.int .i64 (mx1 (andI ow 127)),.int .i64 (mx1 (andI oz 15)),.int .i64 (mx1 (andI ot 7)),.int .i64 0,.int .u32 0,.int .i64 0,.int .i64 0,.int .i64 0,.int .i64 0,.int .i64 0,.int .i64 0,.int .i64 0,.nilp,.int .i64 0,.int .i64 0,.int .i64 0,.int .i64 0,.int .i64 0,.int .i64 0,.int .i64 0,.bool false,.bool false,.bool false,.nils]),
 (5018, .cells 0 [.sl [] 0 (some (5117,0,4))]),
 (5019, .cells 0 [.ptr 5015 0,.ptr 5017 0,.ptr 5018 0,.nilp,.sl [.int .u32 2,.str [110,49]] 1 (some (7163,1,2)),.nils,.int .i64 79]),
 (5021, .tick 1 2),
 (5024, .cells 0 [.int .u32 2,.str [110,49],.bool false,.int .u32 1,.int .i64 8,.int .i64 1]),
 (5026, .cells 0 [.int .u32 2,.int .i64 1,.int .i64 (or1 (andI ob 15)),.int .i64 (or1 (andI os 7)),.int .i64 (mx1 (andI ow 127)),.int .i64 (mx1 (andI oz 15)),.int .i64 (mx1 (andI ot 7)),.int .i64 0,.int .u32 0,.int .i64 0,.int .i64 0,.int .i64 0,.int .i64 0,.int .i64 0,.int .i64 0,.int .i64 0,.nilp,.int .i64 0,.int .i64 0,.int .i64 0,.int .i64 0,.int .i64 0,.int .i64 0,.int .i64 0,.bool false,.bool false,.bool false,.nils]),
 (5027, .cells 0 [.nils]),
 (5028, .cells 0 [.ptr 5024 0,.ptr 5026 0,.ptr 5027 0,.nilp,.nils,.nils,.int .i64 24]),
 (5032, .cells 0 [.int .u32 3,.str [110,50],.bool false,.int .u32 0,.int .i64 0,.int .i64 0]),
 (5034, .cells 0 [.int .u32 3,.int .i64 2,.int .i64 (or1 (andI ob 15)),.int .i64 (or1 (andI os 7)),.int .i64 (mx1 (andI ow 127)),.int .i64 (mx1 (andI oz 15)),.int .i64 (mx1 (andI ot 7)),.int .i64 0,.int .u32 0,.int .i64 0,.int .i64 0,.int .i64 0,.int .i64 0,.int .i64 0,.int .i64 0,.int .i64 0,.nilp,.int .i64 0,.int .i64 0,.int .i64 0,.int .i64 0,.int .i64 0,.int .i64 0,.int .i64 0,.bool false,.bool false,.bool false,.nils]),
 (5035, .cells 0 [.nils]),
 (5036, .cells 0 [.ptr 5032 0,.ptr 5034 0,.ptr 5035 0,.nilp,.nils,.nils,.int .i64 100]),
 (5038, .cells 0 [.int .i64 1,.int .i64 (-1)]),
 (5117, .tick 4 0),
 (7163, .tick 2 1)]
def Ek0_1 (x ob os ow oz ot : Int) : List AV := [.int .i64 3, .undef, .undef, .undef, .undef, .undef, .ptr 5012 0, .undef, .ptr 5038 0, .int .i64 1, .undef, .undef, .undef, .undef, .undef, .undef, .undef, .undef, .undef, .undef, .undef, .undef, .undef, .undef, .undef, .undef, .undef, .undef, .undef, .undef, .undef, .undef, .undef, .undef, .undef, .undef, .undef, .undef, .undef, .undef, .undef, .undef, .undef, .undef, .undef, .undef, .undef, .undef, .undef, .undef, .undef, .undef, .undef, .undef, .undef, .undef, .undef, .undef, .undef, .undef, .undef, .undef, .undef, .undef, .undef, .undef, .undef, .undef, .undef, .undef, .undef, .undef, .undef, .undef, .undef, .undef, .undef, .undef, .undef, .undef, .undef, .undef, .undef, .undef, .undef, .undef, .undef, .undef, .undef]
theorem q0_0a (x ob os ow oz ot : Int) : (fv7 dA (Ek0_0 x ob os ow oz ot) 5039 (Bk0_0 x ob os ow oz ot)).seen 89 ((Bk0_0 x ob os ow oz ot).map (·.1)) = some (.nrm, Ea0_0 x ob os ow oz ot, 5039, (Bk0_0 x ob os ow oz ot).map (fun p => some p.2), []) := by kernel_rfl
theorem q0_0f (x ob os ow oz ot : Int) : (fv7 (.seq (.seq d1 d2) d3) (Ea0_0 x ob os ow oz ot) 5039 (Bk0_0 x ob os ow oz ot)).seenK M7b2l 89 ((Bf0_0 x ob os ow oz ot).map (·.1)) = some (.nrm, Ef0_0 x ob os ow oz ot, 5118, (Bf0_0 x ob os ow oz ot).map (fun p => some p.2), []) := by kernel_rfl
theorem q0_0g (x ob os ow oz ot : Int) : (fr7 45 (Ef0_0 x ob os ow oz ot) 5118 (Bf0_0 x ob os ow oz ot)).seenK M7b2l 89 ((Bg0_0_0 x ob os ow oz ot).map (·.1)) = some (.nrm, Eg0_0_0 x ob os ow oz ot, 6542, (Bg0_0_0 x ob os ow oz ot).map (fun p => some p.2), []) := by kernel_rfl
theorem q0_0h (x ob os ow oz ot : Int) : (fr7 45 (Eg0_0_0 x ob os ow oz ot) 6542 (Bg0_0_0 x ob os ow oz ot)).seenK M7b2l 89 ((Bg0_0_1 x ob os ow oz ot).map (·.1)) = some (.nrm, Eg0_0_1 x ob os ow oz ot, 7336, (Bg0_0_1 x ob os ow oz ot).map (fun p => some p.2), []) := by kernel_rfl
theorem q0_0x (x ob os ow oz ot : Int) : (fv7 M7b2 (Eg0_0_1 x ob os ow oz ot) 7336 (Bg0_0_1 x ob os ow oz ot)).seen 89 ((Bg0_0_1 x ob os ow oz ot).map (·.1)) = some ((.exit 4), Ex0_0 x ob os ow oz ot, 7336, (Bg0_0_1 x ob os ow oz ot).map (fun p => some p.2), []) := by kernel_rfl
theorem q0_0y (x ob os ow oz ot : Int) : (fv7 M7r2 (Ex0_0 x ob os ow oz ot) 7336 (Bg0_0_1 x ob os ow oz ot)).seen 89 ((By0_0 x ob os ow oz ot).map (·.1)) = some (.nrm, Ey0_0 x ob os ow oz ot, 7336, (By0_0 x ob os ow oz ot).map (fun p => some p.2), []) := by kernel_rfl
theorem q0_0z (x ob os ow oz ot : Int) : (fv7 M7r0 (Ey0_0 x ob os ow oz ot) 7336 (By0_0 x ob os ow oz ot)).seenK M7b3l 89 ((By0_0 x ob os ow oz ot).map (·.1)) = some (.nrm, Ek0_1 x ob os ow oz ot, 7336, (By0_0 x ob os ow oz ot).map (fun p => some p.2), []) := by kernel_rfl
end Go.Proofs.YtgflghhffmjojaaGreatDoor.comes
