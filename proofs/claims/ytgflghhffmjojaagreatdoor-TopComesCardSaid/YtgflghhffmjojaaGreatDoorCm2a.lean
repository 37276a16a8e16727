/- TopComes, 4 stations: the first round. No conditions. -/
import Derived.Test.YtgflghhffmjojaaGreatDoorCm0
set_option linter.unusedVariables false
set_option maxRecDepth 1000000
set_option maxHeartbeats 4000000
namespace Go.Proofs.YtgflghhffmjojaaGreatDoor.comes
open Go Go.Ab
def Eb1 (x ob os ow oz ot : Int) : List AV := [.int .i64 4, .agg [.int .i64 ob,.int .i64 os,.int .i64 ow,.int .i64 oz,.int .i64 ot], .undef, .ptr 0 0, .bool false, .bool true, .undef, .undef, .undef, .undef, .undef, .undef, .undef, .undef, .bool true, .bool true, .bool false, .int .i64 x, .int .i64 1, .int .i64 4, .undef, .undef, .undef, .undef, .undef, .undef, .undef, .undef, .undef, .undef, .undef, .undef, .undef, .undef, .undef, .undef, .undef, .undef, .undef, .undef, .undef, .undef, .undef, .undef, .undef, .undef, .undef, .undef, .undef, .undef, .undef, .undef, .undef, .undef, .undef, .undef, .undef, .undef, .undef, .undef, .undef, .undef, .undef, .undef, .undef, .undef, .undef, .undef, .undef, .undef, .undef, .undef, .undef, .undef, .undef, .undef, .undef, .undef, .undef, .undef, .undef, .undef, .undef, .undef, .undef, .undef, .undef, .undef, .undef]
def EB1 (x ob os ow oz ot : Int) : List AV := [.int .i64 4, .undef, .undef, .undef, .undef, .undef, .ptr 5012 0, .int .i64 3, .undef, .undef, .undef, .undef, .undef, .undef, .undef, .undef, .undef, .undef, .undef, .undef, .undef, .undef, .undef, .undef, .undef, .int .i64 3, .int .i64 4, .int .i64 4, .bool false, .undef, .undef, .undef, .undef, .undef, .undef, .undef, .undef, .undef, .undef, .undef, .undef, .undef, .undef, .undef, .undef, .undef, .undef, .undef, .undef, .undef, .undef, .undef, .undef, .undef, .undef, .undef, .undef, .undef, .undef, .undef, .undef, .undef, .undef, .undef, .undef, .undef, .undef, .undef, .undef, .undef, .undef, .undef, .undef, .undef, .undef, .undef, .undef, .undef, .undef, .undef, .undef, .undef, .undef, .undef, .undef, .undef, .undef, .undef, .undef]
def BB1 (x ob os ow oz ot : Int) : List (Nat × Ab.Obj) :=
 [(5009, .cells 1 [.nilp,.nilp,.nilp,.nilp]),
 (5010, .cells 1 [.bool true,.bool true,.bool true,.bool false,.bool true,.bool true,.bool true,.bool false,.bool true,.bool true,.bool true,.bool false,.bool false,.bool false,.bool false,.bool true]),
 (5011, .cells 0 [.int .i64 4,.hs 1 5010 0 16,.hs 1 5009 0 4]),
 (5012, .cells 0 [.sl [.ptr 5019 0,.ptr 5028 0,.ptr 5036 0,.ptr 5044 0] 4 (some (5021,3,1)),.ptr 5011 0,.int .i64 0]),
 (5015, .cells 0 [.int .u32 1,.str [110,48],.bool false,.int .u32 0,.int .i64 0,.int .i64 0]),
 (5017, .cells 0 [.int .u32 1,.int .i64 0,.int .i64 (or1 (andI ob 15)),.int .i64 (or1 (andI os 7)),.int .i64 (mx1 (andI ow 127)),.int .i64 (mx1 (andI oz 15)),.int .i64 (mx1 (andI ot 7)),.int .i64 0,.int .u32 0,.int .i64 0,.int .i64 0,.int .i64 0,.int .i64 0,.int .i64 0,.int .i64 0,.int .i64 0,.nilp,.int .i64 0,.int .i64 0,.int .i64 0,.int .i64 0,.int .i64 0,.int .i64 0,.int .i64 0,.bool false,.bool false,.bool false,.nils]),
 (5018, .cells 0 [.nils]),
 (5019, .cells 0 [.ptr 5015 0,.ptr 5017 0,.ptr 5018 0,.nilp,.nils,.nils,.int .i64 0]),
 (5021, .tick 1 3),
 (5024, .cells 0 [.int .u32 2,.str [110,49],.bool false,.int .u32 0,.int .i64 0,.int .i64 0]),
 (5026, .cells 0 [.int .u32 2,.int .i64 1,.int .i64 (or1 (andI ob 15)),.int .i64 (or1 (andI os 7)),.int .i64 (mx1 (andI ow 127)),.int .i64 (mx1 (andI oz 15)),.int .i64 (mx1 (andI ot 7)),.int .i64 0,.int .u32 0,.int .i64 0,.int .i64 0,.int .i64 0,.int .i64 0,.int .i64 0,.int .i64 0,.int .i64 0,.nilp,.int .i64 0,.int .i64 0,.int .i64 0,.int .i64 0,.int .i64 0,.int .i64 0,.int .i64 0,.bool false,.bool false,.bool false,.nils]),
 (5027, .cells 0 [.nils]),
 (5028, .cells 0 [.ptr 5024 0,.ptr 5026 0,.ptr 5027 0,.nilp,.nils,.nils,.int .i64 0]),
 (5032, .cells 0 [.int .u32 3,.str [110,50],.bool false,.int .u32 0,.int .i64 0,.int .i64 0]),
 (5034, .cells 0 [.int .u32 3,.int .i64 2,.int .i64 (or1 (andI ob 15)),.int .i64 (or1 (andI os 7)),.int .i64 (mx1 (andI ow 127)),.int .i64 (mx1 (andI oz 15)),.int .i64 (mx1 (andI ot 7)),.int .i64 0,.int .u32 0,.int .i64 0,.int .i64 0,.int .i64 0,.int .i64 0,.int .i64 0,.int .i64 0,.int .i64 0,.nilp,.int .i64 0,.int .i64 0,.int .i64 0,.int .i64 0,.int .i64 0,.int .i64 0,.int .i64 0,.bool false,.bool false,.bool false,.nils]),
 (5035, .cells 0 [.nils]),
 (5036, .cells 0 [.ptr 5032 0,.ptr 5034 0,.ptr 5035 0,.nilp,.nils,.nils,.int .i64 0]),
 (5040, .cells 0 [.int .u32 4,.str [110,51],.bool false,.int .u32 0,.int .i64 0,.int .i64 0]),
 (5042, .cells 0 [.int .u32 4,.int .i64 3,.int .i64 (or1 (andI ob 15)),.int .i64 (or1 (andI os 7)),.int .i64 (mx1 (andI ow 127)),.int .i64 (mx1 (andI oz 15)),.int .i64 (mx1 (andI ot 7)),.int .i64 0,.int .u32 0,.int .i64 0,.int .i64 0,.int .i64 0,.int .i64 0,.int .i64 0,.int .i64 0,.int .i64 0,.nilp,.int .i64 0,.int .i64 0,.int .i64 0,.int .i64 0,.int .i64 0,.int .i64 0,.int .i64 0,.bool false,.bool false,.bool false,.nils]),
 (5043, .cells 0 [.nils]),
 (5044, .cells 0 [.ptr 5040 0,.ptr 5042 0,.ptr 5043 0,.nilp,.nils,.nils,.int .i64 0])]
def Ek1_0 (x ob os ow oz ot : Int) : List AV := [.int .i64 4, .undef, .undef, .undef, .undef, .undef, .ptr 5012 0, .undef, .ptr 5046 0, .int .i64 0, .undef, .undef, .undef, .undef, .undef, .undef, .undef, .undef, .undef, .undef, .undef, .undef, .undef, .undef, .undef, .undef, .undef, .undef, .undef, .undef, .undef, .undef, .undef, .undef, .undef, .undef, .undef, .undef, .undef, .undef, .undef, .undef, .undef, .undef, .undef, .undef, .undef, .undef, .undef, .undef, .undef, .undef, .undef, .undef, .undef, .undef, .undef, .undef, .undef, .undef, .undef, .undef, .undef, .undef, .undef, .undef, .undef, .undef, .undef, .undef, .undef, .undef, .undef, .undef, .undef, .undef, .undef, .undef, .undef, .undef, .undef, .undef, .undef, .undef, .undef, .undef, .undef, .undef, .undef]
def Bk1_0 (x ob os ow oz ot : Int) : List (Nat × Ab.Obj) :=
 [(5009, .cells 1 [.nilp,.nilp,.nilp,.nilp]),
 (5010, .cells 1 [.bool true,.bool true,.bool true,.bool false,.bool true,.bool true,.bool true,.bool false,.bool true,.bool true,.bool true,.bool false,.bool false,.bool false,.bool false,.bool true]),
 (5011, .cells 0 [.int .i64 4,.hs 1 5010 0 16,.hs 1 5009 0 4]),
 (5012, .cells 0 [.sl [.ptr 5019 0,.ptr 5028 0,.ptr 5036 0,.ptr 5044 0] 4 (some (5021,3,1)),.ptr 5011 0,.int .i64 0]),
 (5015, .cells 0 [.int .u32 1,.str [110,48],.bool false,.int .u32 0,.int .i64 0,.int .i64 0]),
 (5017, .cells 0 [.int .u32 1,.int .i64 0,.int .i64 (or1 (andI ob 15)),.int .i64 (or1 (andI os 7)),.int .i64 (mx1 (andI ow 127)),.int .i64 (mx1 (andI oz 15)),.int .i64 (mx1 (andI ot 7)),.int .i64 0,.int .u32 0,.int .i64 0,.int .i64 0,.int .i64 0,.int .i64 0,.int .i64 0,.int .i64 0,.int .i64 0,.nilp,.int .i64 0,.int .i64 0,.int .i64 0,.int .i64 0,.int .i64 0,.int .i64 0,.int .i64 0,.bool false,.bool false,.bool false,.nils]),
 (5018, .cells 0 [.nils]),
 (5019, .cells 0 [.ptr 5015 0,.ptr 5017 0,.ptr 5018 0,.nilp,.nils,.nils,.int .i64 0]),
 (5021, .tick 1 3),
 (5024, .cells 0 [.int .u32 2,.str [110,49],.bool false,.int .u32 0,.int .i64 0,.int .i64 0]),
 (5026, .cells 0 [.int .u32 2,.int .i64 1,.int .i64 (or1 (andI ob 15)),.int .i64 (or1 (andI os 7)),.int .i64 (mx1 (andI ow 127)),.int .i64 (mx1 (andI oz 15)),.int .i64 (mx1 (andI ot 7)),.int .i64 0,.int .u32 0,.int .i64 0,.int .i64 0,.int .i64 0,.int .i64 0,.int .i64 0,.int .i64 0,.int .i64 0,.nilp,.int .i64 0,.int .i64 0,.int .i64 0,.int .i64 0,.int .i64 0,.int .i64 0,.int .i64 0,.bool false,.bool false,.bool false,.nils]),
 (5027, .cells 0 [.nils]),
 (5028, .cells 0 [.ptr 5024 0,.ptr 5026 0,.ptr 5027 0,.nilp,.nils,.nils,.int .i64 0]),
 (5032, .cells 0 [.int .u32 3,.str [110,50],.bool false,.int .u32 0,.int .i64 0,.int .i64 0]),
 (5034, .cells 0 [.int .u32 3,.int .i64 2,.int .i64 (or1 (andI ob 15)),.int .i64 (or1 (andI os 7)),.int .i64 (mx1 (andI ow 127)),.int .i64 (mx1 (andI oz 15)),.int .i64 (mx1 (andI ot 7)),.int .i64 0,.int .u32 0,.int .i64 0,.int .i64 0,.int .i64 0,.int .i64 0,.int .i64 0,.int .i64 0,.int .i64 0,.nilp,.int .i64 0,.int .i64 0,.int .i64 0,.int .i64 0,.int .i64 0,.int .i64 0,.int .i64 0,.bool false,.bool false,.bool false,.nils]),
 (5035, .cells 0 [.nils]),
 (5036, .cells 0 [.ptr 5032 0,.ptr 5034 0,.ptr 5035 0,.nilp,.nils,.nils,.int .i64 0]),
 (5040, .cells 0 [.int .u32 4,.str [110,51],.bool false,.int .u32 0,.int .i64 0,.int .i64 0]),
 (5042, .cells 0 [.int .u32 4,.int .i64 3,.int .i64 (or1 (andI ob 15)),.int .i64 (or1 (andI os 7)),.int .i64 (mx1 (andI ow 127)),.int .i64 (mx1 (andI oz 15)),.int .i64 (mx1 (andI ot 7)),.int .i64 0,.int .u32 0,.int .i64 0,.int .i64 0,.int .i64 0,.int .i64 0,.int .i64 0,.int .i64 0,.int .i64 0,.nilp,.int .i64 0,.int .i64 0,.int .i64 0,.int .i64 0,.int .i64 0,.int .i64 0,.int .i64 0,.bool false,.bool false,.bool false,.nils]),
 (5043, .cells 0 [.nils]),
 (5044, .cells 0 [.ptr 5040 0,.ptr 5042 0,.ptr 5043 0,.nilp,.nils,.nils,.int .i64 0]),
 (5046, .cells 0 [.int .i64 (-1),.int .i64 (-1)])]
theorem q1 (x ob os ow oz ot : Int) : (fo7 (.seq (.seq c4 c5) cX) (Eb1 x ob os ow oz ot) 5005 (BA x ob os ow oz ot)).seen 89 ((BB1 x ob os ow oz ot).map (·.1)) = some (.nrm, EB1 x ob os ow oz ot, 5046, (BB1 x ob os ow oz ot).map (fun p => some p.2), [agr ob os ow oz ot, agr ob os ow oz ot, agr ob os ow oz ot, agr ob os ow oz ot]) := by kernel_rfl
theorem q1_k (x ob os ow oz ot : Int) : (fv7 (.seq c8 c9) (EB1 x ob os ow oz ot) 5046 (BB1 x ob os ow oz ot)).seenK M7b3l 89 ((Bk1_0 x ob os ow oz ot).map (·.1)) = some (.nrm, Ek1_0 x ob os ow oz ot, 5047, (Bk1_0 x ob os ow oz ot).map (fun p => some p.2), []) := by kernel_rfl
def Ea1_0 (x ob os ow oz ot : Int) : List AV := [.int .i64 4, .undef, .undef, .undef, .undef, .undef, .ptr 5012 0, .undef, .ptr 5046 0, .int .i64 0, .undef, .undef, .undef, .undef, .undef, .undef, .undef, .undef, .undef, .undef, .undef, .undef, .undef, .undef, .undef, .undef, .undef, .undef, .undef, .undef, .undef, .undef, .undef, .undef, .undef, .undef, .undef, .undef, .int .i64 0, .bool true, .undef, .undef, .undef, .undef, .undef, .undef, .undef, .undef, .undef, .undef, .undef, .undef, .undef, .undef, .undef, .undef, .undef, .undef, .undef, .undef, .undef, .undef, .undef, .undef, .undef, .undef, .undef, .undef, .undef, .undef, .undef, .undef, .undef, .undef, .undef, .undef, .undef, .undef, .undef, .undef, .undef, .undef, .undef, .undef, .undef, .undef, .undef, .undef, .undef]
def Ef1_0 (x ob os ow oz ot : Int) : List AV := [.int .i64 4, .undef, .undef, .undef, .undef, .undef, .ptr 5012 0, .undef, .ptr 5046 0, .int .i64 0, .int .i64 0, .undef, .undef, .undef, .undef, .undef, .undef, .undef, .undef, .undef, .undef, .undef, .undef, .undef, .undef, .undef, .undef, .undef, .undef, .undef, .undef, .undef, .undef, .undef, .undef, .undef, .undef, .undef, .undef, .undef, .undef, .undef, .undef, .undef, .undef, .undef, .undef, .undef, .undef, .undef, .undef, .undef, .undef, .undef, .undef, .undef, .undef, .undef, .undef, .undef, .undef, .undef, .undef, .undef, .undef, .undef, .undef, .undef, .undef, .undef, .undef, .undef, .undef, .undef, .undef, .undef, .undef, .undef, .undef, .undef, .undef, .undef, .undef, .undef, .undef, .undef, .undef, .undef, .undef]
def Bf1_0 (x ob os ow oz ot : Int) : List (Nat × Ab.Obj) :=
 [(5009, .cells 1 [.nilp,.nilp,.nilp,.nilp]),
 (5010, .cells 1 [.bool true,.bool true,.bool true,.bool false,.bool true,.bool true,.bool true,.bool false,.bool true,.bool true,.bool true,.bool false,.bool false,.bool false,.bool false,.bool true]),
 (5011, .cells 0 [.int .i64 4,.hs 1 5010 0 16,.hs 1 5009 0 4]),
 (5012, .cells 0 [.sl [.ptr 5019 0,.ptr 5028 0,.ptr 5036 0,.ptr 5044 0] 4 (some (5021,3,1)),.ptr 5011 0,.int .i64 12]),
 (5015, .cells 0 [.int .u32 1,.str [110,48],.bool false,.int .u32 0,.int .i64 0,.int .i64 0]),
 (5017, .cells 0 [.int .u32 1,.int .i64 0,.int .i64 (or1 (andI ob 15)),.int .i64 (or1 (andI os 7)),.int .i64 (mx1 (andI ow 127)),.int .i64 (mx1 (andI oz 15)),.int .i64 (mx1 (andI ot 7)),.int .i64 0,.int .u32 0,.int .i64 0,.int .i64 0,.int .i64 0,.int .i64 0,.int .i64 0,.int .i64 0,.int .i64 0,.nilp,.int .i64 0,.int .i64 0,.int .i64 0,.int .i64 0,.int .i64 0,.int .i64 0,.int .i64 0,.bool false,.bool false,.bool false,.nils]),
 (5018, .cells 0 [.sl [.int .i64 1,.int .i64 8,.int .u32 0,.str []] 1 (some (5149,0,4))]),
 (5019, .cells 0 [.ptr 5015 0,.ptr 5017 0,.ptr 5018 0,.nilp,.nils,.nils,.int .i64 12]),
 (5021, .tick 1 3),
 (5024, .cells 0 [.int .u32 2,.str [110,49],.bool false,.int .u32 0,.int .i64 0,.int .i64 0]),
 (5026, .cells 0 [.int .u32 2,.int .i64 1,.int .i64 (or1 (andI ob 15)),.int .i64 (or1 (andI os 7)),.int .i64 (mx1 (andI ow 127)),.int .i64 (mx1 (andI oz 15)),.int .i64 (mx1 (andI ot 7)),.int .i64 0,.int .u32 0,.int .i64 0,.int .i64 0,.int .i64 0,.int .i64 0,.int .i64 0,.int .i64 0,.int .i64 0,.nilp,.int .i64 0,.int .i64 0,.int .i64 0,.int .i64 0,.int .i64 0,.int .i64 0,.int .i64 0,.bool false,.bool false,.bool false,.nils]),
 (5027, .cells 0 [.nils]),
 (5028, .cells 0 [.ptr 5024 0,.ptr 5026 0,.ptr 5027 0,.nilp,.nils,.nils,.int .i64 12]),
 (5032, .cells 0 [.int .u32 3,.str [110,50],.bool false,.int .u32 0,.int .i64 0,.int .i64 0]),
 (5034, .cells 0 [.int .u32 3,.int .i64 2,.int .i64 (or1 (andI ob 15)),.int .i64 (or1 (andI os 7)),.int .i64 (mx1 (andI ow 127)),.int .i64 (mx1 (andI oz 15)),.int .i64 (mx1 (andI ot 7)),.int .i64 0,.int .u32 0,.int .i64 0,.int .i64 0,.int .i64 0,.int .i64 0,.int .i64 0,.int .i64 0,.int .i64 0,.nilp,.int .i64 0,.int .i64 0,.int .i64 0,.int .i64 0,.int .i64 0,.int .i64 0,.int .i64 0,.bool false,.bool false,.bool false,.nils]),
 (5035, .cells 0 [.nils]),
 (5036, .cells 0 [.ptr 5032 0,.ptr 5034 0,.ptr 5035 0,.nilp,.nils,.nils,.int .i64 12]),
 (5040, .cells 0 [.int .u32 4,.str [110,51],.bool false,.int .u32 0,.int .i64 0,.int .i64 0]),
 (5042, .cells 0 [.int .u32 4,.int .i64 3,.int .i64 (or1 (andI ob 15)),.int .i64 (or1 (andI os 7)),.int .i64 (mx1 (andI ow 127)),.int .i64 (mx1 (andI oz 15)),.int .i64 (mx1 (andI ot 7)),.int .i64 0,.int .u32 0,.int .i64 0,.int .i64 0,.int .i64 0,.int .i64 0,.int .i64 0,.int .i64 0,.int .i64 0,.nilp,.int .i64 0,.int .i64 0,.int .i64 0,.int .i64 0,.int .i64 0,.int .i64 0,.int .i64 0,.bool false,.bool false,.bool false,.nils]),
 (5043, .cells 0 [.nils]),
 (5044, .cells 0 [.ptr 5040 0,.ptr 5042 0,.ptr 5043 0,.nilp,.nils,.nils,.int .i64 12]),
 (5046, .cells 0 [.int .i64 (-1),.int .i64 (-1)]),
 (5149, .tick 4 0)]
def Eg1_0_0 (x ob os ow oz ot : Int) : List AV := [.int .i64 4, .undef, .undef, .undef, .undef, .undef, .ptr 5012 0, .undef, .ptr 5046 0, .int .i64 0, .int .i64 45, .undef, .undef, .undef, .undef, .undef, .undef, .undef, .undef, .undef, .undef, .undef, .undef, .undef, .undef, .undef, .undef, .undef, .undef, .undef, .undef, .undef, .undef, .undef, .undef, .undef, .undef, .undef, .undef, .undef, .undef, .undef, .undef, .undef, .undef, .undef, .undef, .undef, .undef, .undef, .undef, .undef, .undef, .undef, .undef, .undef, .undef, .undef, .undef, .undef, .undef, .undef, .undef, .undef, .undef, .undef, .undef, .undef, .undef, .undef, .undef, .undef, .undef, .undef, .undef, .undef, .undef, .undef, .undef, .undef, .undef, .undef, .undef, .undef, .undef, .undef, .undef, .undef, .undef]
def Bg1_0_0 (x ob os ow oz ot : Int) : List (Nat × Ab.Obj) :=
 [(5009, .cells 1 [.nilp,.nilp,.nilp,.nilp]),
 (5010, .cells 1 [.bool true,.bool true,.bool true,.bool false,.bool true,.bool true,.bool true,.bool false,.bool true,.bool true,.bool true,.bool false,.bool false,.bool false,.bool false,.bool true]),
 (5011, .cells 0 [.int .i64 4,.hs 1 5010 0 16,.hs 1 5009 0 4]),
 (5012, .cells 0 [.sl [.ptr 5019 0,.ptr 5028 0,.ptr 5036 0,.ptr 5044 0] 4 (some (5021,3,1)),.ptr 5011 0,.int .i64 57]),
 (5015, .cells 0 [.int .u32 1,.str [110,48],.bool false,.int .u32 0,.int .i64 0,.int .i64 0]),
 (5017, .cells 0 [.int .u32 1,.int .i64 0,.int .i64 (or1 (andI ob 15)),.int .i64 (or1 (andI os 7)),.int .i64 (mx1 (andI ow 127)),.int .i64 (mx1 (andI oz 15)),.int .i64 (mx1 (andI ot 7)),.int .i64 0,.int .u32 0,.int .i64 0,.int .i64 0,.int .i64 0,.int .i64 0,.int .i64 0,.int .i64 0,.int .i64 0,.nilp,.int .i64 0,.int .i64 0,.int .i64 0,.int .i64 0,.int .i64 0,.int .i64 0,.int .i64 0,.bool false,.bool false,.bool false,.nils]),
 (5018, .cells 0 [.sl [] 0 (some (5149,0,4))]),
 (5019, .cells 0 [.ptr 5015 0,.ptr 5017 0,.ptr 5018 0,.ptr 5160 0,.nils,.nils,.int .i64 26]),
 (5021, .tick 1 3),
 (5024, .cells 0 [.int .u32 2,.str [110,49],.bool true,.int .u32 1,.int .i64 8,.int .i64 1]),
 (5026, .cells 0 [.int .u32 2,.int .i64 1,.int .i64 (or1 (andI ob 15)),.int .i64 (or1 (andI os 7)),.int .i64 (mx1 (andI ow 127)),.int .i64 (mx1 (andI oz 15)),.int .i64 (mx1 (andI ot 7)),.int .i64 0,.int .u32 0,.int .i64 0,.int .i64 0,.int .i64 0,.int .i64 0,.int .i64 0,.int .i64 0,.int .i64 0,.nilp,.int .i64 0,.int .i64 0,.int .i64 0,.int .i64 0,.int .i64 0,.int .i64 0,.int .i64 0,.bool false,.bool false,.bool false,.nils]),
 (5027, .cells 0 [.nils]),
 (5028, .cells 0 [.ptr 5024 0,.ptr 5026 0,.ptr 5027 0,.nilp,.nils,.nils,.int .i64 3]),
 (5032, .cells 0 [.int .u32 3,.str [110,50],.bool true,.int .u32 1,.int .i64 8,.int .i64 2]),
 (5034, .cells 0 [.int .u32 3,.int .i64 2,.int .i64 (or1 (andI ob 15)),.int .i64 (or1 (andI os 7)),.int .i64 (mx1 (andI ow 127)),.int .i64 (mx1 (andI oz 15)),.int .i64 (mx1 (andI ot 7)),.int .i64 0,.int .u32 0,.int .i64 0,.int .i64 0,.int .i64 0,.int .i64 0,.int .i64 0,.int .i64 0,.int .i64 0,.nilp,.int .i64 0,.int .i64 0,.int .i64 0,.int .i64 0,.int .i64 0,.int .i64 0,.int .i64 0,.bool false,.bool false,.bool false,.nils]),
 (5035, .cells 0 [.nils]),
 (5036, .cells 0 [.ptr 5032 0,.ptr 5034 0,.ptr 5035 0,.nilp,.nils,.nils,.int .i64 3]),
 (5040, .cells 0 [.int .u32 4,.str [110,51],.bool false,.int .u32 0,.int .i64 0,.int .i64 0]),
 (5042, .cells 0 [.int .u32 4,.int .i64 3,.int .i64 (or1 (andI ob 15)),.int .i64 (or1 (andI os 7)),.int .i64 (mx1 (andI ow 127)),.int .i64 (mx1 (andI oz 15)),.int .i64 (mx1 (andI ot 7)),.int .i64 0,.int .u32 0,.int .i64 0,.int .i64 0,.int .i64 0,.int .i64 0,.int .i64 0,.int .i64 0,.int .i64 0,.nilp,.int .i64 0,.int .i64 0,.int .i64 0,.int .i64 0,.int .i64 0,.int .i64 0,.int .i64 0,.bool false,.bool false,.bool false,.nils]),
 (5043, .cells 0 [.nils]),
 (5044, .cells 0 [.ptr 5040 0,.ptr 5042 0,.ptr 5043 0,.nilp,.nils,.nils,.int .i64 57]),
 (5046, .cells 0 [.int .i64 (-1),.int .i64 (-1)]),
 (5149, .tick 4 0),
 (5159, .cells 0 [.int .u32 1,.sl [.int .u32 2,.str [110,49],.int .u32 3,.str [110,50]] 2 (some (5896,1,2)),.sl [.int .i64 1,.int .i64 2] 2 (some (5898,1,1)),.nils]),
 (5160, .cells 0 [.int .u32 1,.int .u32 0,.int .i64 0,.int .i64 8,.bool false,.str [110,48],.int .i64 44,.ptr 5159 0]),
 (5896, .tick 2 1),
 (5898, .tick 1 1)]
def Eg1_0_1 (x ob os ow oz ot : Int) : List AV := [.int .i64 4, .undef, .undef, .undef, .undef, .undef, .ptr 5012 0, .undef, .ptr 5046 0, .int .i64 0, .int .i64 90, .undef, .undef, .undef, .undef, .undef, .undef, .undef, .undef, .undef, .undef, .undef, .undef, .undef, .undef, .undef, .undef, .undef, .undef, .undef, .undef, .undef, .undef, .undef, .undef, .undef, .undef, .undef, .undef, .undef, .undef, .undef, .undef, .undef, .undef, .undef, .undef, .undef, .undef, .undef, .undef, .undef, .undef, .undef, .undef, .undef, .undef, .undef, .undef, .undef, .undef, .undef, .undef, .undef, .undef, .undef, .undef, .undef, .undef, .undef, .undef, .undef, .undef, .undef, .undef, .undef, .undef, .undef, .undef, .undef, .undef, .undef, .undef, .undef, .undef, .undef, .undef, .undef, .undef]
def Bg1_0_1 (x ob os ow oz ot : Int) : List (Nat × Ab.Obj) :=
 [(5009, .cells 1 [.nilp,.nilp,.nilp,.nilp]),
 (5010, .cells 1 [.bool true,.bool true,.bool true,.bool false,.bool true,.bool true,.bool true,.bool false,.bool true,.bool true,.bool true,.bool false,.bool false,.bool false,.bool false,.bool true]),
 (5011, .cells 0 [.int .i64 4,.hs 1 5010 0 16,.hs 1 5009 0 4]),
 (5012, .cells 0 [.sl [.ptr 5019 0,.ptr 5028 0,.ptr 5036 0,.ptr 5044 0] 4 (some (5021,3,1)),.ptr 5011 0,.int .i64 102]),
 (5015, .cells 0 [.int .u32 1,.str [110,48],.bool false,.int .u32 0,.int .i64 0,.int .i64 0]),
 (5017, .cells 0 [.int .u32 1,.int .i64 0,.int .i64 (or1 (andI ob 15)),.int .i64 (or1 (andI os 7)),.int .i64 (mx1 (andI ow 127)),.int .i64 (mx1 (andI oz 15)),.int .i64 (mx1 (andI ot 7)),.int .i64 0,.int .u32 0,.int .i64 0,.int .i64 0,.int .i64 0,.int .i64 0,.int .i64 0,.int .i64 0,.int .i64 0,.nilp,.int .i64 0,.int .i64 0,.int .i64 0,.int .i64 0,.int .i64 0,.int .i64 0,.int .i64 0,.bool false,.bool false,.bool false,.nils]),
 (5018, .cells 0 [.sl [] 0 (some (5149,0,4))]),
 (5019, .cells 0 [.ptr 5015 0,.ptr 5017 0,.ptr 5018 0,.nilp,.sl [.int .u32 2,.str [110,49],.int .u32 3,.str [110,50]] 2 (some (8375,1,2)),.nils,.int .i64 71]),
 (5021, .tick 1 3),
 (5024, .cells 0 [.int .u32 2,.str [110,49],.bool false,.int .u32 1,.int .i64 8,.int .i64 1]),
 (5026, .cells 0 [.int .u32 2,.int .i64 1,.int .i64 (or1 (andI ob 15)),.int .i64 (or1 (andI os 7)),.int .i64 (mx1 (andI ow 127)),.int .i64 (mx1 (andI oz 15)),.int .i64 (mx1 (andI ot 7)),.int .i64 0,.int .u32 0,.int .i64 0,.int .i64 0,.int .i64 0,.int .i64 0,.int .i64 0,.int .i64 0,.int .i64 0,.nilp,.int .i64 0,.int .i64 0,.int .i64 0,.int .i64 0,.int .i64 0,.int .i64 0,.int .i64 0,.bool false,.bool false,.bool false,.nils]),
 (5027, .cells 0 [.nils]),
 (5028, .cells 0 [.ptr 5024 0,.ptr 5026 0,.ptr 5027 0,.nilp,.nils,.nils,.int .i64 24]),
 (5032, .cells 0 [.int .u32 3,.str [110,50],.bool false,.int .u32 1,.int .i64 8,.int .i64 2]),
 (5034, .cells 0 [.int .u32 3,.int .i64 2,.int .i64 (or1 (andI ob 15)),.int .i64 (or1 (andI os 7)),.int .i64 (mx1 (andI ow 127)),.int .i64 (mx1 (andI oz 15)),.int .i64 (mx1 (andI ot 7)),.int .i64 0,.int .u32 0,.int .i64 0,.int .i64 0,.int .i64 0,.int .i64 0,.int .i64 0,.int .i64 0,.int .i64 0,.nilp,.int .i64 0,.int .i64 0,.int .i64 0,.int .i64 0,.int .i64 0,.int .i64 0,.int .i64 0,.bool false,.bool false,.bool false,.nils]),
 (5035, .cells 0 [.nils]),
 (5036, .cells 0 [.ptr 5032 0,.ptr 5034 0,.ptr 5035 0,.nilp,.nils,.nils,.int .i64 24]),
 (5040, .cells 0 [.int .u32 4,.str [110,51],.bool false,.int .u32 0,.int .i64 0,.int .i64 0]),
 (5042, .cells 0 [.int .u32 4,.int .i64 3,.int .i64 (or1 (andI ob 15)),.int .i64 (or1 (andI os 7)),.int .i64 (mx1 (andI ow 127)),.int .i64 (mx1 (andI oz 15)),.int .i64 (mx1 (andI ot 7)),.int .i64 0,.int .u32 0,.int .i64 0,.int .i64 0,.int .i64 0,.int .i64 0,.int .i64 0,.int .i64 0,.int .i64 0,.nilp,.int .i64 0,.int .i64 0,.int .i64 0,.int .i64 0,.int .i64 0,.int .i64 0,.int .i64 0,.bool false,.bool false,.bool false,.nils]),
 (5043, .cells 0 [.nils]),
 (5044, .cells 0 [.ptr 5040 0,.ptr 5042 0,.ptr 5043 0,.nilp,.nils,.nils,.int .i64 100]),
 (5046, .cells 0 [.int .i64 2,.int .i64 (-1)]),
 (5149, .tick 4 0),
 (8375, .tick 2 1)]
def Ex1_0 (x ob os ow oz ot : Int) : List AV := [.int .i64 4, .undef, .undef, .undef, .undef, .undef, .ptr 5012 0, .undef, .ptr 5046 0, .int .i64 0, .int .i64 90, .undef, .undef, .undef, .undef, .undef, .undef, .undef, .undef, .undef, .undef, .undef, .undef, .undef, .undef, .undef, .undef, .undef, .undef, .undef, .undef, .undef, .undef, .undef, .undef, .undef, .undef, .undef, .undef, .undef, .undef, .undef, .undef, .undef, .undef, .undef, .undef, .undef, .int .i64 90, .bool false, .undef, .undef, .undef, .undef, .undef, .undef, .undef, .undef, .undef, .undef, .undef, .undef, .undef, .undef, .undef, .undef, .undef, .undef, .undef, .undef, .undef, .undef, .undef, .undef, .undef, .undef, .undef, .undef, .undef, .undef, .undef, .undef, .undef, .undef, .undef, .undef, .undef, .undef, .undef]
def Ey1_0 (x ob os ow oz ot : Int) : List AV := [.int .i64 4, .undef, .undef, .undef, .undef, .undef, .ptr 5012 0, .undef, .ptr 5046 0, .int .i64 0, .undef, .undef, .undef, .int .i64 3, .undef, .undef, .undef, .undef, .undef, .undef, .undef, .undef, .undef, .undef, .undef, .undef, .undef, .undef, .undef, .undef, .undef, .undef, .undef, .undef, .undef, .undef, .undef, .undef, .undef, .undef, .undef, .undef, .undef, .undef, .undef, .undef, .undef, .undef, .undef, .undef, .undef, .undef, .undef, .undef, .undef, .undef, .undef, .undef, .undef, .undef, .undef, .undef, .undef, .undef, .undef, .undef, .undef, .undef, .undef, .undef, .undef, .int .i64 3, .int .i64 4, .int .i64 4, .bool false, .undef, .undef, .undef, .undef, .undef, .undef, .undef, .undef, .undef, .undef, .undef, .undef, .undef, .undef]
def By1_0 (x ob os ow oz ot : Int) : List (Nat × Ab.Obj) :=
 [(5009, .cells 1 [.nilp,.nilp,.nilp,.nilp]),
 (5010, .cells 1 [.bool true,.bool true,.bool true,.bool true,.bool true,.bool true,.bool true,.bool true,.bool true,.bool true,.bool true,.bool true,.bool true,.bool true,.bool true,.bool true]),
 (5011, .cells 0 [.int .i64 4,.hs 1 5010 0 16,.hs 1 5009 0 4]),
 (5012, .cells 0 [.sl [.ptr 5019 0,.ptr 5028 0,.ptr 5036 0,.ptr 5044 0] 4 (some (5021,3,1)),.ptr 5011 0,.int .i64 102]),
 (5015, .cells 0 [.int .u32 1,.str [110,48],.bool false,.int .u32 0,.int .i64 0,.int .i64 0]),
 (5017, .cells 0 [.int .u32 1,.int .i64 0,.int .i64 (or1 (andI ob 15)),.int .i64 (or1 (andI os 7)),.int .i64 (mx1 (andI ow 127)),.int .i64 (mx1 (andI oz 15)),.int .i64 (mx1 (andI ot 7)),.int .i64 0,.int .u32 0,.int .i64 0,.int .i64 0,.int .i64 0,.int .i64 0,.int .i64 0,.int .i64 0,.int .i64 0,.nilp,.int .i64 0,.int .i64 0,.int .i64 0,.int .i64 0,.int .i64 0,.int .i64 0,.int .i64 0,.bool false,.bool false,.bool false,.nils]),
 (5018, .cells 0 [.sl [] 0 (some (5149,0,4))]),
 (5019, .cells 0 [.ptr 5015 0,.ptr 5017 0,.ptr 5018 0,.nilp,.sl [.int .u32 2,.str [110,49],.int .u32 3,.str [110,50]] 2 (some (8375,1,2)),.nils,.int .i64 71]),
 (5021, .tick 1 3),
 (5024, .cells 0 [.int .u32 2,.str [110,49],.bool false,.int .u32 1,.int .i64 8,.int .i64 1]),
 (5026, .cells 0 [.int .u32 2,.int .i64 1,.int .i64 (or1 (andI ob 15)),.int .i64 (or1 (andI os 7)),.int .i64 (mx1 (andI ow 127)),.int .i64 (mx1 (andI oz 15)),.int .i64 (mx1 (andI ot 7)),.int .i64 0,.int .u32 0,.int .i64 0,.int .i64 0,.int .i64 0,.int .i64 0,.int .i64 0,.int .i64 0,.int .i64 0,.nilp,.int .i64 0,.int .i64 0,.int .i64 0,.int .i64 0,.int .i64 0,.int .i64 0,.int .i64 0,.bool false,.bool false,.bool false,.nils]),
 (5027, .cells 0 [.nils]),
 (5028, .cells 0 [.ptr 5024 0,.ptr 5026 0,.ptr 5027 0,.nilp,.nils,.nils,.int .i64 24]),
 (5032, .cells 0 [.int .u32 3,.str [110,50],.bool false,.int .u32 1,.int .i64 8,.int .i64 2]),
 (5034, .cells 0 [.int .u32 3,.int .i64 2,.int .i64 (or1 (andI ob 15)),.int .i64 (or1 (andI os 7)),.int .i64 (mx1 (andI ow 127)),.int .i64 (mx1 (andI oz 15)),.int .i64 (mx1 (andI ot 7)),.int .i64 0,.int .u32 0,.int .i64 0,.int .i64 0,.int .i64 0,.int .i64 0,.int .i64 0,.int .i64 0,.int .i64 0,.nilp,.int .i64 0,.int .i64 0,.int .i64 0,.int .i64 0,.int .i64 0,.int .i64 0,.int .i64 0,.bool false,.bool false,.bool false,.nils]),
 (5035, .cells 0 [.nils]),
 (5036, .cells 0 [.ptr 5032 0,.ptr 5034 0,.ptr 5035 0,.nilp,.nils,.nils,.int .i64 24]),
 (5040, .cells 0 [.int .u32 4,.str [110,51],.bool false,.int .u32 0,.int .i64 0,.int .i64 0]),
 (5042, .cells 0 [.int .u32 4,.int .i64 3,.int .i64 (or1 (andI ob 15)),.int .i64 (or1 (andI os 7)),.int .i64 (mx1 (andI ow 127)),.int .i64 (mx1 (andI oz 15)),.int .i64 (mx1 (andI ot 7)),.int .i64 0,.int .u32 0,.int .i64 0,.int .i64 0,.int .i64 0,.int .i64 0,.int .i64 0,.int .i64 0,.int .i64 0,.nilp,.int .i64 0,.int .i64 0,.int .i64 0,.int .i64 0,.int .i64 0,.int .i64 0,.int .i64 0,.bool false,.bool false,.bool false,.nils]),
 (5043, .cells 0 [.nils]),
 (5044, .cells 0 [.ptr 5040 0,.ptr 5042 0,.ptr 5043 0,.nilp,.nils,.nils,.int .i64 100]),
 (5046, .cells 0 [.int .i64 2,.int .i64 (-1)]),
 (5149, .tick 4 0),
 (8375, .tick 2 1)]
def Ek1_1 (x ob os ow oz ot : Int) : List AV := [.int .i64 4, .undef, .undef, .undef, .undef, .undef, .ptr 5012 0, .undef, .ptr 5046 0, .int .i64 1, .undef, .undef, .undef, .undef, .undef, .undef, .undef, .undef, .undef, .undef, .undef, .undef, .undef, .undef, .undef, .undef, .undef, .undef, .undef, .undef, .undef, .undef, .undef, .undef, .undef, .undef, .undef, .undef, .undef, .undef, .undef, .undef, .undef, .undef, .undef, .undef, .undef, .undef, .undef, .undef, .undef, .undef, .undef, .undef, .undef, .undef, .undef, .undef, .undef, .undef, .undef, .undef, .undef, .undef, .undef, .undef, .undef, .undef, .undef, .undef, .undef, .undef, .undef, .undef, .undef, .undef, .undef, .undef, .undef, .undef, .undef, .undef, .undef, .undef, .undef, .undef, .undef, .undef, .undef]
theorem q1_0a (x ob os ow oz ot : Int) : (fv7 dA (Ek1_0 x ob os ow oz ot) 5047 (Bk1_0 x ob os ow oz ot)).seen 89 ((Bk1_0 x ob os ow oz ot).map (·.1)) = some (.nrm, Ea1_0 x ob os ow oz ot, 5047, (Bk1_0 x ob os ow oz ot).map (fun p => some p.2), []) := by kernel_rfl
theorem q1_0f (x ob os ow oz ot : Int) : (fv7 (.seq (.seq d1 d2) d3) (Ea1_0 x ob os ow oz ot) 5047 (Bk1_0 x ob os ow oz ot)).seenK M7b2l 89 ((Bf1_0 x ob os ow oz ot).map (·.1)) = some (.nrm, Ef1_0 x ob os ow oz ot, 5150, (Bf1_0 x ob os ow oz ot).map (fun p => some p.2), []) := by kernel_rfl
theorem q1_0g (x ob os ow oz ot : Int) : (fr7 45 (Ef1_0 x ob os ow oz ot) 5150 (Bf1_0 x ob os ow oz ot)).seenK M7b2l 89 ((Bg1_0_0 x ob os ow oz ot).map (·.1)) = some (.nrm, Eg1_0_0 x ob os ow oz ot, 7466, (Bg1_0_0 x ob os ow oz ot).map (fun p => some p.2), []) := by kernel_rfl
theorem q1_0h (x ob os ow oz ot : Int) : (fr7 45 (Eg1_0_0 x ob os ow oz ot) 7466 (Bg1_0_0 x ob os ow oz ot)).seenK M7b2l 89 ((Bg1_0_1 x ob os ow oz ot).map (·.1)) = some (.nrm, Eg1_0_1 x ob os ow oz ot, 8596, (Bg1_0_1 x ob os ow oz ot).map (fun p => some p.2), []) := by kernel_rfl
theorem q1_0x (x ob os ow oz ot : Int) : (fv7 M7b2 (Eg1_0_1 x ob os ow oz ot) 8596 (Bg1_0_1 x ob os ow oz ot)).seen 89 ((Bg1_0_1 x ob os ow oz ot).map (·.1)) = some ((.exit 4), Ex1_0 x ob os ow oz ot, 8596, (Bg1_0_1 x ob os ow oz ot).map (fun p => some p.2), []) := by kernel_rfl
theorem q1_0y (x ob os ow oz ot : Int) : (fv7 M7r2 (Ex1_0 x ob os ow oz ot) 8596 (Bg1_0_1 x ob os ow oz ot)).seen 89 ((By1_0 x ob os ow oz ot).map (·.1)) = some (.nrm, Ey1_0 x ob os ow oz ot, 8596, (By1_0 x ob os ow oz ot).map (fun p => some p.2), []) := by kernel_rfl
theorem q1_0z (x ob os ow oz ot : Int) : (fv7 M7r0 (Ey1_0 x ob os ow oz ot) 8596 (By1_0 x ob os ow oz ot)).seenK M7b3l 89 ((By1_0 x ob os ow oz ot).map (·.1)) = some (.nrm, Ek1_1 x ob os ow oz ot, 8596, (By1_0 x ob os ow oz ot).map (fun p => some p.2), []) := by kernel_rfl
end Go.Proofs.YtgflghhffmjojaaGreatDoor.comes
