/- TopComes, 4 stations: the second round. No conditions. -/
import Derived.Test.YtgflghhffmjojaaGreatDoorCm2a
set_option linter.unusedVariables false
set_option maxRecDepth 1000000
set_option maxHeartbeats 4000000
namespace Go.Proofs.YtgflghhffmjojaaGreatDoor.comes
open Go Go.Ab
def Ea1_1 (x ob os ow oz ot : Int) : List AV := [.int .i64 4, .undef, .undef, .undef, .undef, .undef, .ptr 5012 0, .undef, .ptr 5046 0, .int .i64 1, .undef, .undef, .undef, .undef, .undef, .undef, .undef, .undef, .undef, .undef, .undef, .undef, .undef, .undef, .undef, .undef, .undef, .undef, .undef, .undef, .undef, .undef, .undef, .undef, .undef, .undef, .undef, .undef, .int .i64 1, .bool true, .undef, .undef, .undef, .undef, .undef, .undef, .undef, .undef, .undef, .undef, .undef, .undef, .undef, .undef, .undef, .undef, .undef, .undef, .undef, .undef, .undef, .undef, .undef, .undef, .undef, .undef, .undef, .undef, .undef, .undef, .undef, .undef, .undef, .undef, .undef, .undef, .undef, .undef, .undef, .undef, .undef, .undef, .undef, .undef, .undef, .undef, .undef, .undef, .undef]
def Ef1_1 (x ob os ow oz ot : Int) : List AV := [.int .i64 4, .undef, .undef, .undef, .undef, .undef, .ptr 5012 0, .undef, .ptr 5046 0, .int .i64 1, .int .i64 0, .undef, .undef, .undef, .undef, .undef, .undef, .undef, .undef, .undef, .undef, .undef, .undef, .undef, .undef, .undef, .undef, .undef, .undef, .undef, .undef, .undef, .undef, .undef, .undef, .undef, .undef, .undef, .undef, .undef, .undef, .undef, .undef, .undef, .undef, .undef, .undef, .undef, .undef, .undef, .undef, .undef, .undef, .undef, .undef, .undef, .undef, .undef, .undef, .undef, .undef, .undef, .undef, .undef, .undef, .undef, .undef, .undef, .undef, .undef, .undef, .undef, .undef, .undef, .undef, .undef, .undef, .undef, .undef, .undef, .undef, .undef, .undef, .undef, .undef, .undef, .undef, .undef, .undef]
def Bf1_1 (x ob os ow oz ot : Int) : List (Nat × Ab.Obj) :=
 [(5009, .cells 1 [.nilp,.nilp,.nilp,.nilp]),
 (5010, .cells 1 [.bool true,.bool true,.bool true,.bool true,.bool true,.bool true,.bool true,.bool true,.bool true,.bool true,.bool true,.bool true,.bool true,.bool true,.bool true,.bool true]),
 (5011, .cells 0 [.int .i64 4,.hs 1 5010 0 16,.hs 1 5009 0 4]),
 (5012, .cells 0 [.sl [.ptr 5019 0,.ptr 5028 0,.ptr 5036 0,.ptr 5044 0] 4 (some (5021,3,1)),.ptr 5011 0,.int .i64 114]),
 (5015, .cells 0 [.int .u32 1,.str [110,48],.bool false,.int .u32 0,.int .i64 0,.int .i64 0]),
 (5017, .cells 0 [.int .u32 1,.int .i64 0,.int .i64 (or1 (andI ob 15)),.int .i64 (or1 (andI os 7)),.int .i64 (mx1 (andI ow 127)),.int .i64 (mx1 (andI oz 15)),.int .i64 (mx1 (andI ot 7)),.int .i64 0,.int .u32 0,.int .i64 0,.int .i64 0,.int .i64 0,.int .i64 0,.int .i64 0,.int .i64 0,.int .i64 0,.nilp,.int .i64 0,.int .i64 0,.int .i64 0,.int .i64 0,.int .i64 0,.int .i64 0,.int .i64 0,.bool false,.bool false,.bool false,.nils]),
 (5018, .cells 0 [.sl [.int .i64 1,.int .i64 8,.int .u32 0,.str []] 1 (some (5149,1,4))]),
 (5019, .cells 0 [.ptr 5015 0,.ptr 5017 0,.ptr 5018 0,.nilp,.sl [.int .u32 2,.str [110,49],.int .u32 3,.str [110,50]] 2 (some (8375,1,2)),.nils,.int .i64 83]),
 (5021, .tick 1 3),
 (5024, .cells 0 [.int .u32 2,.str [110,49],.bool false,.int .u32 1,.int .i64 8,.int .i64 1]),
 (5026, .cells 0 [.int .u32 2,.int .i64 1,.int .i64 (or1 (andI ob 15)),.int .i64 (or1 (andI os 7)),.int .i64 (mx1 (andI ow 127)),.int .i64 (mx1 (andI oz 15)),.int .i64 (mx1 (andI ot 7)),.int .i64 0,.int .u32 0,.int .i64 0,.int .i64 0,.int .i64 0,.int .i64 0,.int .i64 0,.int .i64 0,.int .i64 0,.nilp,.int .i64 0,.int .i64 0,.int .i64 0,.int .i64 0,.int .i64 0,.int .i64 0,.int .i64 0,.bool false,.bool false,.bool false,.nils]),
 (5027, .cells 0 [.nils]),
 (5028, .cells 0 [.ptr 5024 0,.ptr 5026 0,.ptr 5027 0,.nilp,.nils,.nils,.int .i64 36]),
 (5032, .cells 0 [.int .u32 3,.str [110,50],.bool false,.int .u32 1,.int .i64 8,.int .i64 2]),
 (5034, .cells 0 [.int .u32 3,.int .i64 2,.int .i64 (or1 (andI ob 15)),.int .i64 (or1 (andI os 7)),.int .i64 (mx1 (andI ow 127)),.int .i64 (mx1 (andI oz 15)),.int .i64 (mx1 (andI ot 7)),.int .i64 0,.int .u32 0,.int .i64 0,.int .i64 0,.int .i64 0,.int .i64 0,.int .i64 0,.int .i64 0,.int .i64 0,.nilp,.int .i64 0,.int .i64 0,.int .i64 0,.int .i64 0,.int .i64 0,.int .i64 0,.int .i64 0,.bool false,.bool false,.bool false,.nils]),
 (5035, .cells 0 [.nils]),
 (5036, .cells 0 [.ptr 5032 0,.ptr 5034 0,.ptr 5035 0,.nilp,.nils,.nils,.int .i64 36]),
 (5040, .cells 0 [.int .u32 4,.str [110,51],.bool false,.int .u32 0,.int .i64 0,.int .i64 0]),
 (5042, .cells 0 [.int .u32 4,.int .i64 3,.int .i64 (or1 (andI ob 15)),.int .i64 (or1 (andI os 7)),.int .i64 (mx1 (andI ow 127)),.int .i64 (mx1 (andI oz 15)),.int .i64 (mx1 (andI ot 7)),.int .i64 0,.int .u32 0,.int .i64 0,.int .i64 0,.int .i64 0,.int .i64 0,.int .i64 0,.int .i64 0,.int .i64 0,.nilp,.int .i64 0,.int .i64 0,.int .i64 0,.int .i64 0,.int .i64 0,.int .i64 0,.int .i64 0,.bool false,.bool false,.bool false,.nils]),
 (5043, .cells 0 [.nils]),
 (5044, .cells 0 [.ptr 5040 0,.ptr 5042 0,.ptr 5043 0,.nilp,.nils,.nils,.int .i64 100]),
 (5046, .cells 0 [.int .i64 2,.int .i64 (-1)]),
 (5149, .tick 4 1),
 (8375, .tick 2 1)]
def Eg1_1_0 (x ob os ow oz ot : Int) : List AV := [.int .i64 4, .undef, .undef, .undef, .undef, .undef, .ptr 5012 0, .undef, .ptr 5046 0, .int .i64 1, .int .i64 45, .undef, .undef, .undef, .undef, .undef, .undef, .undef, .undef, .undef, .undef, .undef, .undef, .undef, .undef, .undef, .undef, .undef, .undef, .undef, .undef, .undef, .undef, .undef, .undef, .undef, .undef, .undef, .undef, .undef, .undef, .undef, .undef, .undef, .undef, .undef, .undef, .undef, .undef, .undef, .undef, .undef, .undef, .undef, .undef, .undef, .undef, .undef, .undef, .undef, .undef, .undef, .undef, .undef, .undef, .undef, .undef, .undef, .undef, .undef, .undef, .undef, .undef, .undef, .undef, .undef, .undef, .undef, .undef, .undef, .undef, .undef, .undef, .undef, .undef, .undef, .undef, .undef, .undef]
def Bg1_1_0 (x ob os ow oz ot : Int) : List (Nat × Ab.Obj) :=
 [(5009, .cells 1 [.nilp,.nilp,.nilp,.nilp]),
 (5010, .cells 1 [.bool true,.bool true,.bool true,.bool true,.bool true,.bool true,.bool true,.bool true,.bool true,.bool true,.bool true,.bool true,.bool true,.bool true,.bool true,.bool true]),
 (5011, .cells 0 [.int .i64 4,.hs 1 5010 0 16,.hs 1 5009 0 4]),
 (5012, .cells 0 [.sl [.ptr 5019 0,.ptr 5028 0,.ptr 5036 0,.ptr 5044 0] 4 (some (5021,3,1)),.ptr 5011 0,.int .i64 159]),
 (5015, .cells 0 [.int .u32 1,.str [110,48],.bool false,.int .u32 0,.int .i64 0,.int .i64 0]),
 (5017, .cells 0 [.int .u32 1,.int .i64 0,.int .i64 (or1 (andI ob 15)),.int .i64 (or1 (andI os 7)),.int .i64 (mx1 (andI ow 127)),.int .i64 (mx1 (andI oz 15)),.int .i64 (mx1 (andI ot 7)),.int .i64 0,.int .u32 0,.int .i64 0,.int .i64 0,.int .i64 0,.int .i64 0,.int .i64 0,.int .i64 0,.int .i64 0,.nilp,.int .i64 0,.int .i64 0,.int .i64 0,.int .i64 0,.int .i64 0,.int .i64 0,.int .i64 0,.bool false,.bool false,.bool false,.nils]),
 (5018, .cells 0 [.sl [] 0 (some (5149,1,4))]),
 (5019, .cells 0 [.ptr 5015 0,.ptr 5017 0,.ptr 5018 0,.ptr 8708 0,.sl [.int .u32 2,.str [110,49],.int .u32 3,.str [110,50]] 2 (some (8375,1,2)),.nils,.int .i64 18]),
 (5021, .tick 1 3),
 (5024, .cells 0 [.int .u32 2,.str [110,49],.bool true,.int .u32 1,.int .i64 8,.int .i64 1]),
 (5026, .cells 0 [.int .u32 2,.int .i64 1,.int .i64 (or1 (andI ob 15)),.int .i64 (or1 (andI os 7)),.int .i64 (mx1 (andI ow 127)),.int .i64 (mx1 (andI oz 15)),.int .i64 (mx1 (andI ot 7)),.int .i64 0,.int .u32 0,.int .i64 0,.int .i64 0,.int .i64 0,.int .i64 0,.int .i64 0,.int .i64 0,.int .i64 0,.nilp,.int .i64 0,.int .i64 0,.int .i64 0,.int .i64 0,.int .i64 0,.int .i64 0,.int .i64 0,.bool false,.bool false,.bool false,.nils]),
 (5027, .cells 0 [.nils]),
 (5028, .cells 0 [.ptr 5024 0,.ptr 5026 0,.ptr 5027 0,.nilp,.nils,.nils,.int .i64 3]),
 (5032, .cells 0 [.int .u32 3,.str [110,50],.bool true,.int .u32 1,.int .i64 8,.int .i64 2]),
 (5034, .cells 0 [.int .u32 3,.int .i64 2,.int .i64 (or1 (andI ob 15)),.int .i64 (or1 (andI os 7)),.int .i64 (mx1 (andI ow 127)),.int .i64 (mx1 (andI oz 15)),.int .i64 (mx1 (andI ot 7)),.int .i64 0,.int .u32 0,.int .i64 0,.int .i64 0,.int .i64 0,.int .i64 0,.int .i64 0,.int .i64 0,.int .i64 0,.nilp,.int .i64 0,.int .i64 0,.int .i64 0,.int .i64 0,.int .i64 0,.int .i64 0,.int .i64 0,.bool false,.bool false,.bool false,.nils]),
 (5035, .cells 0 [.nils]),
 (5036, .cells 0 [.ptr 5032 0,.ptr 5034 0,.ptr 5035 0,.nilp,.nils,.nils,.int .i64 3]),
 (5040, .cells 0 [.int .u32 4,.str [110,51],.bool true,.int .u32 1,.int .i64 8,.int .i64 3]),
 (5042, .cells 0 [.int .u32 4,.int .i64 3,.int .i64 (or1 (andI ob 15)),.int .i64 (or1 (andI os 7)),.int .i64 (mx1 (andI ow 127)),.int .i64 (mx1 (andI oz 15)),.int .i64 (mx1 (andI ot 7)),.int .i64 0,.int .u32 0,.int .i64 0,.int .i64 0,.int .i64 0,.int .i64 0,.int .i64 0,.int .i64 0,.int .i64 0,.nilp,.int .i64 0,.int .i64 0,.int .i64 0,.int .i64 0,.int .i64 0,.int .i64 0,.int .i64 0,.bool false,.bool false,.bool false,.nils]),
 (5043, .cells 0 [.nils]),
 (5044, .cells 0 [.ptr 5040 0,.ptr 5042 0,.ptr 5043 0,.nilp,.nils,.nils,.int .i64 3]),
 (5046, .cells 0 [.int .i64 2,.int .i64 (-1)]),
 (5149, .tick 4 1),
 (8375, .tick 2 1),
 (8707, .cells 0 [.int .u32 1,.sl [.int .u32 2,.str [110,49],.int .u32 3,.str [110,50],.int .u32 4,.str [110,51]] 3 (some (9612,2,2)),.sl [.int .i64 1,.int .i64 2,.int .i64 3] 3 (some (9614,2,1)),.nils]),
 (8708, .cells 0 [.int .u32 1,.int .u32 0,.int .i64 0,.int .i64 8,.bool false,.str [110,48],.int .i64 44,.ptr 8707 0]),
 (9612, .tick 2 2),
 (9614, .tick 1 2)]
def Eg1_1_1 (x ob os ow oz ot : Int) : List AV := [.int .i64 4, .undef, .undef, .undef, .undef, .undef, .ptr 5012 0, .undef, .ptr 5046 0, .int .i64 1, .int .i64 90, .undef, .undef, .undef, .undef, .undef, .undef, .undef, .undef, .undef, .undef, .undef, .undef, .undef, .undef, .undef, .undef, .undef, .undef, .undef, .undef, .undef, .undef, .undef, .undef, .undef, .undef, .undef, .undef, .undef, .undef, .undef, .undef, .undef, .undef, .undef, .undef, .undef, .undef, .undef, .undef, .undef, .undef, .undef, .undef, .undef, .undef, .undef, .undef, .undef, .undef, .undef, .undef, .undef, .undef, .undef, .undef, .undef, .undef, .undef, .undef, .undef, .undef, .undef, .undef, .undef, .undef, .undef, .undef, .undef, .undef, .undef, .undef, .undef, .undef, .undef, .undef, .undef, .undef]
def Bg1_1_1 (x ob os ow oz ot : Int) : List (Nat × Ab.Obj) :=
 [(5009, .cells 1 [.nilp,.nilp,.nilp,.nilp]),
 (5010, .cells 1 [.bool true,.bool true,.bool true,.bool true,.bool true,.bool true,.bool true,.bool true,.bool true,.bool true,.bool true,.bool true,.bool true,.bool true,.bool true,.bool true]),
 (5011, .cells 0 [.int .i64 4,.hs 1 5010 0 16,.hs 1 5009 0 4]),
 (5012, .cells 0 [.sl [.ptr 5019 0,.ptr 5028 0,.ptr 5036 0,.ptr 5044 0] 4 (some (5021,3,1)),.ptr 5011 0,.int .i64 204]),
 (5015, .cells 0 [.int .u32 1,.str [110,48],.bool false,.int .u32 0,.int .i64 0,.int .i64 0]),
 (5017, .cells 0 [.int .u32 1,.int .i64 0,.int .i64 (or1 (andI ob 15)),.int .i64 (or1 (andI os 7)),.int .i64 (mx1 (andI ow 127)),.int .i64 (mx1 (andI oz 15)),.int .i64 (mx1 (andI ot 7)),.int .i64 0,.int .u32 0,.int .i64 0,.int .i64 0,.int .i64 0,.int .i64 0,.int .i64 0,.int .i64 0,.int .i64 0,.nilp,.int .i64 0,.int .i64 0,.int .i64 0,.int .i64 0,.int .i64 0,.int .i64 0,.int .i64 0,.bool false,.bool false,.bool false,.nils]),
 (5018, .cells 0 [.sl [] 0 (some (5149,1,4))]),
 (5019, .cells 0 [.ptr 5015 0,.ptr 5017 0,.ptr 5018 0,.nilp,.sl [.int .u32 2,.str [110,49],.int .u32 3,.str [110,50],.int .u32 4,.str [110,51]] 3 (some (13124,1,2)),.nils,.int .i64 63]),
 (5021, .tick 1 3),
 (5024, .cells 0 [.int .u32 2,.str [110,49],.bool false,.int .u32 1,.int .i64 8,.int .i64 1]),
 (5026, .cells 0 [.int .u32 2,.int .i64 1,.int .i64 (or1 (andI ob 15)),.int .i64 (or1 (andI os 7)),.int .i64 (mx1 (andI ow 127)),.int .i64 (mx1 (andI oz 15)),.int .i64 (mx1 (andI ot 7)),.int .i64 0,.int .u32 0,.int .i64 0,.int .i64 0,.int .i64 0,.int .i64 0,.int .i64 0,.int .i64 0,.int .i64 0,.nilp,.int .i64 0,.int .i64 0,.int .i64 0,.int .i64 0,.int .i64 0,.int .i64 0,.int .i64 0,.bool false,.bool false,.bool false,.nils]),
 (5027, .cells 0 [.nils]),
 (5028, .cells 0 [.ptr 5024 0,.ptr 5026 0,.ptr 5027 0,.nilp,.nils,.nils,.int .i64 24]),
 (5032, .cells 0 [.int .u32 3,.str [110,50],.bool false,.int .u32 1,.int .i64 8,.int .i64 2]),
 (5034, .cells 0 [.int .u32 3,.int .i64 2,.int .i64 (or1 (andI ob 15)),.int .i64 (or1 (andI os 7)),.int .i64 (mx1 (andI ow 127)),.int .i64 (mx1 (andI oz 15)),.int .i64 (mx1 (andI ot 7)),.int .i64 0,.int .u32 0,.int .i64 0,.int .i64 0,.int .i64 0,.int .i64 0,.int .i64 0,.int .i64 0,.int .i64 0,.nilp,.int .i64 0,.int .i64 0,.int .i64 0,.int .i64 0,.int .i64 0,.int .i64 0,.int .i64 0,.bool false,.bool false,.bool false,.nils]),
 (5035, .cells 0 [.nils]),
 (5036, .cells 0 [.ptr 5032 0,.ptr 5034 0,.ptr 5035 0,.nilp,.nils,.nils,.int .i64 24]),
 (5040, .cells 0 [.int .u32 4,.str [110,51],.bool false,.int .u32 1,.int .i64 8,.int .i64 3]),
 (5042, .cells 0 [.int .u32 4,.int .i64 3,.int .i64 (or1 (andI ob 15)),.int .i64 (or1 (andI os 7)),.int .i64 (mx1 (andI ow 127)),.int .i64 (mx1 (andI oz 15)),.int .i64 (mx1 (andI ot 7)),.int .i64 0,.int .u32 0,.int .i64 0,.int .i64 0,.int .i64 0,.int .i64 0,.int .i64 0,.int .i64 0,.int .i64 0,.nilp,.int .i64 0,.int .i64 0,.int .i64 0,.int .i64 0,.int .i64 0,.int .i64 0,.int .i64 0,.bool false,.bool false,.bool false,.nils]),
 (5043, .cells 0 [.nils]),
 (5044, .cells 0 [.ptr 5040 0,.ptr 5042 0,.ptr 5043 0,.nilp,.nils,.nils,.int .i64 24]),
 (5046, .cells 0 [.int .i64 2,.int .i64 3]),
 (5149, .tick 4 1),
 (13124, .tick 2 1)]
def Ex1_1 (x ob os ow oz ot : Int) : List AV := [.int .i64 4, .undef, .undef, .undef, .undef, .undef, .ptr 5012 0, .undef, .ptr 5046 0, .int .i64 1, .int .i64 90, .undef, .undef, .undef, .undef, .undef, .undef, .undef, .undef, .undef, .undef, .undef, .undef, .undef, .undef, .undef, .undef, .undef, .undef, .undef, .undef, .undef, .undef, .undef, .undef, .undef, .undef, .undef, .undef, .undef, .undef, .undef, .undef, .undef, .undef, .undef, .undef, .undef, .int .i64 90, .bool false, .undef, .undef, .undef, .undef, .undef, .undef, .undef, .undef, .undef, .undef, .undef, .undef, .undef, .undef, .undef, .undef, .undef, .undef, .undef, .undef, .undef, .undef, .undef, .undef, .undef, .undef, .undef, .undef, .undef, .undef, .undef, .undef, .undef, .undef, .undef, .undef, .undef, .undef, .undef]
def Ey1_1 (x ob os ow oz ot : Int) : List AV := [.int .i64 4, .undef, .undef, .undef, .undef, .undef, .ptr 5012 0, .undef, .ptr 5046 0, .int .i64 1, .undef, .undef, .undef, .int .i64 3, .undef, .undef, .undef, .undef, .undef, .undef, .undef, .undef, .undef, .undef, .undef, .undef, .undef, .undef, .undef, .undef, .undef, .undef, .undef, .undef, .undef, .undef, .undef, .undef, .undef, .undef, .undef, .undef, .undef, .undef, .undef, .undef, .undef, .undef, .undef, .undef, .undef, .undef, .undef, .undef, .undef, .undef, .undef, .undef, .undef, .undef, .undef, .undef, .undef, .undef, .undef, .undef, .undef, .undef, .undef, .undef, .undef, .int .i64 3, .int .i64 4, .int .i64 4, .bool false, .undef, .undef, .undef, .undef, .undef, .undef, .undef, .undef, .undef, .undef, .undef, .undef, .undef, .undef]
def Ek1_2 (x ob os ow oz ot : Int) : List AV := [.int .i64 4, .undef, .undef, .undef, .undef, .undef, .ptr 5012 0, .undef, .ptr 5046 0, .int .i64 2, .undef, .undef, .undef, .undef, .undef, .undef, .undef, .undef, .undef, .undef, .undef, .undef, .undef, .undef, .undef, .undef, .undef, .undef, .undef, .undef, .undef, .undef, .undef, .undef, .undef, .undef, .undef, .undef, .undef, .undef, .undef, .undef, .undef, .undef, .undef, .undef, .undef, .undef, .undef, .undef, .undef, .undef, .undef, .undef, .undef, .undef, .undef, .undef, .undef, .undef, .undef, .undef, .undef, .undef, .undef, .undef, .undef, .undef, .undef, .undef, .undef, .undef, .undef, .undef, .undef, .undef, .undef, .undef, .undef, .undef, .undef, .undef, .undef, .undef, .undef, .undef, .undef, .undef, .undef]
theorem q1_1a (x ob os ow oz ot : Int) : (fv7 dA (Ek1_1 x ob os ow oz ot) 8596 (By1_0 x ob os ow oz ot)).seen 89 ((By1_0 x ob os ow oz ot).map (·.1)) = some (.nrm, Ea1_1 x ob os ow oz ot, 8596, (By1_0 x ob os ow oz ot).map (fun p => some p.2), []) := by kernel_rfl
theorem q1_1f (x ob os ow oz ot : Int) : (fv7 (.seq (.seq d1 d2) d3) (Ea1_1 x ob os ow oz ot) 8596 (By1_0 x ob os ow oz ot)).seenK M7b2l 89 ((Bf1_1 x ob os ow oz ot).map (·.1)) = some (.nrm, Ef1_1 x ob os ow oz ot, 8698, (Bf1_1 x ob os ow oz ot).map (fun p => some p.2), []) := by kernel_rfl
theorem q1_1g (x ob os ow oz ot : Int) : (fr7 45 (Ef1_1 x ob os ow oz ot) 8698 (Bf1_1 x ob os ow oz ot)).seenK M7b2l 89 ((Bg1_1_0 x ob os ow oz ot).map (·.1)) = some (.nrm, Eg1_1_0 x ob os ow oz ot, 11969, (Bg1_1_0 x ob os ow oz ot).map (fun p => some p.2), []) := by kernel_rfl
theorem q1_1h (x ob os ow oz ot : Int) : (fr7 45 (Eg1_1_0 x ob os ow oz ot) 11969 (Bg1_1_0 x ob os ow oz ot)).seenK M7b2l 89 ((Bg1_1_1 x ob os ow oz ot).map (·.1)) = some (.nrm, Eg1_1_1 x ob os ow oz ot, 13345, (Bg1_1_1 x ob os ow oz ot).map (fun p => some p.2), []) := by kernel_rfl
theorem q1_1x (x ob os ow oz ot : Int) : (fv7 M7b2 (Eg1_1_1 x ob os ow oz ot) 13345 (Bg1_1_1 x ob os ow oz ot)).seen 89 ((Bg1_1_1 x ob os ow oz ot).map (·.1)) = some ((.exit 4), Ex1_1 x ob os ow oz ot, 13345, (Bg1_1_1 x ob os ow oz ot).map (fun p => some p.2), []) := by kernel_rfl
theorem q1_1y (x ob os ow oz ot : Int) : (fv7 M7r2 (Ex1_1 x ob os ow oz ot) 13345 (Bg1_1_1 x ob os ow oz ot)).seen 89 ((Bg1_1_1 x ob os ow oz ot).map (·.1)) = some (.nrm, Ey1_1 x ob os ow oz ot, 13345, (Bg1_1_1 x ob os ow oz ot).map (fun p => some p.2), []) := by kernel_rfl
theorem q1_1z (x ob os ow oz ot : Int) : (fv7 M7r0 (Ey1_1 x ob os ow oz ot) 13345 (Bg1_1_1 x ob os ow oz ot)).seenK M7b3l 89 ((Bg1_1_1 x ob os ow oz ot).map (·.1)) = some (.nrm, Ek1_2 x ob os ow oz ot, 13345, (Bg1_1_1 x ob os ow oz ot).map (fun p => some p.2), []) := by kernel_rfl
def Ee1 (x ob os ow oz ot : Int) : List AV := [.int .i64 4, .undef, .undef, .undef, .undef, .undef, .ptr 5012 0, .undef, .ptr 5046 0, .int .i64 2, .undef, .undef, .undef, .undef, .undef, .undef, .undef, .undef, .undef, .undef, .undef, .undef, .undef, .undef, .undef, .undef, .undef, .undef, .undef, .undef, .undef, .undef, .undef, .undef, .undef, .undef, .undef, .undef, .int .i64 2, .bool false, .undef, .undef, .undef, .undef, .undef, .undef, .undef, .undef, .undef, .undef, .undef, .undef, .undef, .undef, .undef, .undef, .undef, .undef, .undef, .undef, .undef, .undef, .undef, .undef, .undef, .undef, .undef, .undef, .undef, .undef, .undef, .undef, .undef, .undef, .undef, .undef, .undef, .undef, .undef, .undef, .undef, .undef, .undef, .undef, .undef, .undef, .undef, .undef, .undef]
def Ed1 (x ob os ow oz ot : Int) : List AV := [.int .i64 4, .undef, .undef, .undef, .bool true, .undef, .ptr 5012 0, .undef, .ptr 5046 0, .int .i64 2, .undef, .undef, .undef, .undef, .undef, .undef, .undef, .undef, .undef, .undef, .undef, .undef, .undef, .undef, .undef, .undef, .undef, .undef, .undef, .undef, .undef, .undef, .undef, .undef, .undef, .undef, .undef, .undef, .int .i64 2, .bool false, .undef, .undef, .undef, .undef, .undef, .undef, .undef, .undef, .undef, .undef, .undef, .undef, .undef, .undef, .undef, .undef, .undef, .undef, .undef, .undef, .undef, .undef, .undef, .undef, .undef, .undef, .undef, .undef, .undef, .undef, .undef, .undef, .undef, .undef, .undef, .undef, .undef, .undef, .undef, .undef, .undef, .undef, .agg [.int .i64 2,.int .i64 3], .int .i64 4, .int .i64 2, .int .i64 4, .int .i64 3, .agg [.int .i64 2,.int .i64 3], .bool true]
theorem q1_e (x ob os ow oz ot : Int) : (fv7 M7b3 (Ek1_2 x ob os ow oz ot) 13345 (Bg1_1_1 x ob os ow oz ot)).seen 89 ((Bg1_1_1 x ob os ow oz ot).map (·.1)) = some ((.exit 2), Ee1 x ob os ow oz ot, 13345, (Bg1_1_1 x ob os ow oz ot).map (fun p => some p.2), []) := by kernel_rfl
theorem q1_d (x ob os ow oz ot : Int) : (fv7 M7r3 (Ee1 x ob os ow oz ot) 13345 (Bg1_1_1 x ob os ow oz ot)).seen 89 ((Bg1_1_1 x ob os ow oz ot).map (·.1)) = some (.ret, Ed1 x ob os ow oz ot, 13345, (Bg1_1_1 x ob os ow oz ot).map (fun p => some p.2), []) := by kernel_rfl
end Go.Proofs.YtgflghhffmjojaaGreatDoor.comes
