/- TopComes, 5 stations: the second round. No conditions. -/
import Derived.Test.YtgflghhffmjojaaGreatDoorCm3a
set_option linter.unusedVariables false
set_option maxRecDepth 1000000
set_option maxHeartbeats 4000000
namespace Go.Proofs.YtgflghhffmjojaaGreatDoor.comes
open Go Go.Ab
def Ea2_1 (x ob os ow oz ot : Int) : List AV := [.int .i64 5, .undef, .undef, .undef, .undef, .undef, .ptr 5012 0, .undef, .ptr 5054 0, .int .i64 1, .undef, .undef, .undef, .undef, .undef, .undef, .undef, .undef, .undef, .undef, .undef, .undef, .undef, .undef, .undef, .undef, .undef, .undef, .undef, .undef, .undef, .undef, .undef, .undef, .undef, .undef, .undef, .undef, .int .i64 1, .bool true, .undef, .undef, .undef, .undef, .undef, .undef, .undef, .undef, .undef, .undef, .undef, .undef, .undef, .undef, .undef, .undef, .undef, .undef, .undef, .undef, .undef, .undef, .undef, .undef, .undef, .undef, .undef, .undef, .undef, .undef, .undef, .undef, .undef, .undef, .undef, .undef, .undef, .undef, .undef, .undef, .undef, .undef, .undef, .undef, .undef, .undef, .undef, .undef, .undef]
def Ef2_1 (x ob os ow oz ot : Int) : List AV := [.int .i64 5, .undef, .undef, .undef, .undef, .undef, .ptr 5012 0, .undef, .ptr 5054 0, .int .i64 1, .int .i64 0, .undef, .undef, .undef, .undef, .undef, .undef, .undef, .undef, .undef, .undef, .undef, .undef, .undef, .undef, .undef, .undef, .undef, .undef, .undef, .undef, .undef, .undef, .undef, .undef, .undef, .undef, .undef, .undef, .undef, .undef, .undef, .undef, .undef, .undef, .undef, .undef, .undef, .undef, .undef, .undef, .undef, .undef, .undef, .undef, .undef, .undef, .undef, .undef, .undef, .undef, .undef, .undef, .undef, .undef, .undef, .undef, .undef, .undef, .undef, .undef, .undef, .undef, .undef, .undef, .undef, .undef, .undef, .undef, .undef, .undef, .undef, .undef, .undef, .undef, .undef, .undef, .undef, .undef]
def Bf2_1 (x ob os ow oz ot : Int) : List (Nat × Ab.Obj) :=
 [(5009, .cells 1 [.nilp,.nilp,.nilp,.nilp,.nilp]),
 (5010, .cells 1 [.bool true,.bool true,.bool true,.bool true,.bool true,.bool true,.bool true,.bool true,.bool true,.bool true,.bool true,.bool true,.bool true,.bool true,.bool true,.bool true,.bool true,.bool true,.bool true,.bool true,.bool true,.bool true,.bool true,.bool true,.bool true]),
 (5011, .cells 0 [.int .i64 5,.hs 1 5010 0 25,.hs 1 5009 0 5]),
 (5012, .cells 0 [.sl [.ptr 5019 0,.ptr 5028 0,.ptr 5036 0,.ptr 5044 0,.ptr 5052 0] 5 (some (5021,4,1)),.ptr 5011 0,.int .i64 114]),
 (5015, .cells 0 [.int .u32 1,.str [110,48],.bool false,.int .u32 0,.int .i64 0,.int .i64 0]),
 (5017, .cells 0 [.int .u32 1,.int .i64 0,.int .i64 (or1 (andI ob 15)),.int .i64 (or1 (andI os 7)),.int .i64 (mx1 (andI ow 127)),.int .i64 (mx1 (andI oz 15)),.int .i64 (mx1 (andI ot 7)),.int .i64 0,.int .u32 0,.int .i64 0,.int .i64 0,.int .i64 0,.int .i64 0,.int .i64 0,.int .i64 0,.int .i64 0,.nilp,.int .i64 0,.int .i64 0,.int .i64 0,.int .i64 0,.int .i64 0,.int .i64 0,.int .i64 0,.bool false,.bool false,.bool false,.nils]),
 (5018, .cells 0 [.sl [.int .i64 1,.int .i64 8,.int .u32 0,.str []] 1 (some (5181,1,4))]),
 (5019, .cells 0 [.ptr 5015 0,.ptr 5017 0,.ptr 5018 0,.nilp,.sl [.int .u32 2,.str [110,49],.int .u32 3,.str [110,50],.int .u32 4,.str [110,51]] 3 (some (9740,1,2)),.nils,.int .i64 75]),
 (5021, .tick 1 4),
 (5024, .cells 0 [.int .u32 2,.str [110,49],.bool false,.int .u32 1,.int .i64 8,.int .i64 1]),
 (5026, .cells 0 [.int .u32 2,.int .i64 1,.int .i64 (or1 (andI ob 15)),.int .i64 (or1 (andI os 7)),.int .i64 (mx1 (andI ow 127)),.int .i64 (mx1 (andI oz 15)),.int .i64 (mx1 (andI ot 7)),.int .i64 0,.int .u32 0,.int .i64 0,.int .i64 0,.int .i64 0,.int .i64 0,.int .i64 0,.int .i64 0,.int .i64 0,.nilp,.int .i64 0,.int .i64 0,.int .i64 0,.int .i64 0,.int .i64 0,.int .i64 0,.int .i64 0,.bool false,.bool false,.bool false,.nils]),
 (5027, .cells 0 [.nils]),
 (5028, .cells 0 [.ptr 5024 0,.ptr 5026 0,.ptr 5027 0,.nilp,.nils,.nils,.int .i64 36]),
 (5032, .cells 0 [.int .u32 3,.str [110,50],.bool false,.int .u32 1,.int .i64 8,.int .i64 2]),
 (5034, .cells 0 [.int .u32 3,.int .i64 2,.int .i64 (or1 (andI ob 15)),.int .i64 (or1 (andI os 7)),.int .i64 (mx1 (andI ow 127)),.int .i64 (mx1 (andI oz 15)),.int .i64 (mx1 (andI ot 7)),.int .i64 0,.int .u32 0,.int .i64 0,.int .i64 0,.int .i64 0,.int .i64 0,.int .i64 0,.int .i64 0,.int .i64 0,.nilp,.int .i64 0,.int .i64 0,.int .i64 0,.int .i64 0,.int .i64 0,.int .i64 0,.int .i64 0,.bool false,.bool false,.bool false,.nils]),
 (5035, .cells 0 [.nils]),
 (5036, .cells 0 [.ptr 5032 0,.ptr 5034 0,.ptr 5035 0,.nilp,.nils,.nils,.int .i64 36]),
 (5040, .cells 0 [.int .u32 4,.str [110,51],.bool false,.int .u32 1,.int .i64 8,.int .i64 3]),
 (5042, .cells 0 [.int .u32 4,.int .i64 3,.int .i64 (or1 (andI ob 15)),.int .i64 (or1 (andI os 7)),.int .i64 (mx1 (andI ow 127)),.int .i64 (mx1 (andI oz 15)),.int .i64 (mx1 (andI ot 7)),.int .i64 0,.int .u32 0,.int .i64 0,.int .i64 0,.int .i64 0,.int .i64 0,.int .i64 0,.int .i64 0,.int .i64 0,.nilp,.int .i64 0,.int .i64 0,.int .i64 0,.int .i64 0,.int .i64 0,.int .i64 0,.int .i64 0,.bool false,.bool false,.bool false,.nils]),
 (5043, .cells 0 [.nils]),
 (5044, .cells 0 [.ptr 5040 0,.ptr 5042 0,.ptr 5043 0,.nilp,.nils,.nils,.int .i64 36]),
 (5048, .cells 0 [.int .u32 5,.str [110,52],.bool false,.int .u32 0,.int .i64 0,.int .i64 0]),
 (5050, .cells 0 [.int .u32 5,.int .i64 4,.int .i64 (or1 (andI ob 15)),.int .i64 (or1 (andI os 7)),.int .i64 (mx1 (andI ow 127)),.int .i64 (mx1 (andI oz 15)),.int .i64 (mx1 (andI ot 7)),.int .i64 0,.int .u32 0,.int .i64 0,.int .i64 0,.int .i64 0,.int .i64 0,.int .i64 0,.int .i64 0,.int .i64 0,.nilp,.int .i64 0,.int .i64 0,.int .i64 0,.int .i64 0,.int .i64 0,.int .i64 0,.int .i64 0,.bool false,.bool false,.bool false,.nils]),
 (5051, .cells 0 [.nils]),
 (5052, .cells 0 [.ptr 5048 0,.ptr 5050 0,.ptr 5051 0,.nilp,.nils,.nils,.int .i64 100]),
 (5054, .cells 0 [.int .i64 3,.int .i64 (-1)]),
 (5181, .tick 4 1),
 (9740, .tick 2 1)]
def Eg2_1_0 (x ob os ow oz ot : Int) : List AV := [.int .i64 5, .undef, .undef, .undef, .undef, .undef, .ptr 5012 0, .undef, .ptr 5054 0, .int .i64 1, .int .i64 45, .undef, .undef, .undef, .undef, .undef, .undef, .undef, .undef, .undef, .undef, .undef, .undef, .undef, .undef, .undef, .undef, .undef, .undef, .undef, .undef, .undef, .undef, .undef, .undef, .undef, .undef, .undef, .undef, .undef, .undef, .undef, .undef, .undef, .undef, .undef, .undef, .undef, .undef, .undef, .undef, .undef, .undef, .undef, .undef, .undef, .undef, .undef, .undef, .undef, .undef, .undef, .undef, .undef, .undef, .undef, .undef, .undef, .undef, .undef, .undef, .undef, .undef, .undef, .undef, .undef, .undef, .undef, .undef, .undef, .undef, .undef, .undef, .undef, .undef, .undef, .undef, .undef, .undef]
def Bg2_1_0 (x ob os ow oz ot : Int) : List (Nat × Ab.Obj) :=
 [(5009, .cells 1 [.nilp,.nilp,.nilp,.nilp,.nilp]),
 (5010, .cells 1 [.bool true,.bool true,.bool true,.bool true,.bool true,.bool true,.bool true,.bool true,.bool true,.bool true,.bool true,.bool true,.bool true,.bool true,.bool true,.bool true,.bool true,.bool true,.bool true,.bool true,.bool true,.bool true,.bool true,.bool true,.bool true]),
 (5011, .cells 0 [.int .i64 5,.hs 1 5010 0 25,.hs 1 5009 0 5]),
 (5012, .cells 0 [.sl [.ptr 5019 0,.ptr 5028 0,.ptr 5036 0,.ptr 5044 0,.ptr 5052 0] 5 (some (5021,4,1)),.ptr 5011 0,.int .i64 159]),
 (5015, .cells 0 [.int .u32 1,.str [110,48],.bool false,.int .u32 0,.int .i64 0,.int .i64 0]),
 (5017, .cells 0 [.int .u32 1,.int .i64 0,.int .i64 (or1 (andI ob 15)),.int .i64 (or1 (andI os 7)),.int .i64 (mx1 (andI ow 127)),.int .i64 (mx1 (andI oz 15)),.int .i64 (mx1 (andI ot 7)),.int .i64 0,.int .u32 0,.int .i64 0,.int .i64 0,.int .i64 0,.int .i64 0,.int .i64 0,.int .i64 0,.int .i64 0,.nilp,.int .i64 0,.int .i64 0,.int .i64 0,.int .i64 0,.int .i64 0,.int .i64 0,.int .i64 0,.bool false,.bool false,.bool false,.nils]),
 (5018, .cells 0 [.sl [] 0 (some (5181,1,4))]),
 (5019, .cells 0 [.ptr 5015 0,.ptr 5017 0,.ptr 5018 0,.ptr 10145 0,.sl [.int .u32 2,.str [110,49],.int .u32 3,.str [110,50],.int .u32 4,.str [110,51]] 3 (some (9740,1,2)),.nils,.int .i64 10]),
 (5021, .tick 1 4),
 (5024, .cells 0 [.int .u32 2,.str [110,49],.bool true,.int .u32 1,.int .i64 8,.int .i64 1]),
 (5026, .cells 0 [.int .u32 2,.int .i64 1,.int .i64 (or1 (andI ob 15)),.int .i64 (or1 (andI os 7)),.int .i64 (mx1 (andI ow 127)),.int .i64 (mx1 (andI oz 15)),.int .i64 (mx1 (andI ot 7)),.int .i64 0,.int .u32 0,.int .i64 0,.int .i64 0,.int .i64 0,.int .i64 0,.int .i64 0,.int .i64 0,.int .i64 0,.nilp,.int .i64 0,.int .i64 0,.int .i64 0,.int .i64 0,.int .i64 0,.int .i64 0,.int .i64 0,.bool false,.bool false,.bool false,.nils]),
 (5027, .cells 0 [.nils]),
 (5028, .cells 0 [.ptr 5024 0,.ptr 5026 0,.ptr 5027 0,.nilp,.nils,.nils,.int .i64 3]),
 (5032, .cells 0 [.int .u32 3,.str [110,50],.bool true,.int .u32 1,.int .i64 8,.int .i64 2]),
 (5034, .cells 0 [.int .u32 3,.int .i64 2,.int .i64 (or1 (andI ob 15)),.int .i64 (or1 (andI os 7)),.int .i64 (mx1 (andI ow 127)),.int .i64 (mx1 (andI oz 15)),.int .i64 (mx1 (andI ot 7)),.int .i64 0,.int .u32 0,.int .i64 0,.int .i64 0,.int .i64 0,.int .i64 0,.int .i64 0,.int .i64 0,.int .i64 0,.nilp,.int .i64 0,.int .i64 0,.int .i64 0,.int .i64 0,.int .i64 0,.int .i64 0,.int .i64 0,.bool false,.bool false,.bool false,.nils]),
 (5035, .cells 0 [.nils]),
 (5036, .cells 0 [.ptr 5032 0,.ptr 5034 0,.ptr 5035 0,.nilp,.nils,.nils,.int .i64 3]),
 (5040, .cells 0 [.int .u32 4,.str [110,51],.bool true,.int .u32 1,.int .i64 8,.int .i64 3]),
 (5042, .cells 0 [.int .u32 4,.int .i64 3,.int .i64 (or1 (andI ob 15)),.int .i64 (or1 (andI os 7)),.int .i64 (mx1 (andI ow 127)),.int .i64 (mx1 (andI oz 15)),.int .i64 (mx1 (andI ot 7)),.int .i64 0,.int .u32 0,.int .i64 0,.int .i64 0,.int .i64 0,.int .i64 0,.int .i64 0,.int .i64 0,.int .i64 0,.nilp,.int .i64 0,.int .i64 0,.int .i64 0,.int .i64 0,.int .i64 0,.int .i64 0,.int .i64 0,.bool false,.bool false,.bool false,.nils]),
 (5043, .cells 0 [.nils]),
 (5044, .cells 0 [.ptr 5040 0,.ptr 5042 0,.ptr 5043 0,.nilp,.nils,.nils,.int .i64 3]),
 (5048, .cells 0 [.int .u32 5,.str [110,52],.bool true,.int .u32 1,.int .i64 8,.int .i64 4]),
 (5050, .cells 0 [.int .u32 5,.int .i64 4,.int .i64 (or1 (andI ob 15)),.int .i64 (or1 (andI os 7)),.int .i64 (mx1 (andI ow 127)),.int .i64 (mx1 (andI oz 15)),.int .i64 (mx1 (andI ot 7)),.int .i64 0,.int .u32 0,.int .i64 0,.int .i64 0,.int .i64 0,.int .i64 0,.int .i64 0,.int .i64 0,.int .i64 0,.nilp,.int .i64 0,.int .i64 0,.int .i64 0,.int .i64 0,.int .i64 0,.int .i64 0,.int .i64 0,.bool false,.bool false,.bool false,.nils]),
 (5051, .cells 0 [.nils]),
 (5052, .cells 0 [.ptr 5048 0,.ptr 5050 0,.ptr 5051 0,.nilp,.nils,.nils,.int .i64 3]),
 (5054, .cells 0 [.int .i64 3,.int .i64 (-1)]),
 (5181, .tick 4 1),
 (9740, .tick 2 1),
 (10144, .cells 0 [.int .u32 1,.sl [.int .u32 2,.str [110,49],.int .u32 3,.str [110,50],.int .u32 4,.str [110,51],.int .u32 5,.str [110,52]] 4 (some (11239,3,2)),.sl [.int .i64 1,.int .i64 2,.int .i64 3,.int .i64 4] 4 (some (11241,3,1)),.nils]),
 (10145, .cells 0 [.int .u32 1,.int .u32 0,.int .i64 0,.int .i64 8,.bool false,.str [110,48],.int .i64 44,.ptr 10144 0]),
 (11239, .tick 2 3),
 (11241, .tick 1 3)]
def Eg2_1_1 (x ob os ow oz ot : Int) : List AV := [.int .i64 5, .undef, .undef, .undef, .undef, .undef, .ptr 5012 0, .undef, .ptr 5054 0, .int .i64 1, .int .i64 90, .undef, .undef, .undef, .undef, .undef, .undef, .undef, .undef, .undef, .undef, .undef, .undef, .undef, .undef, .undef, .undef, .undef, .undef, .undef, .undef, .undef, .undef, .undef, .undef, .undef, .undef, .undef, .undef, .undef, .undef, .undef, .undef, .undef, .undef, .undef, .undef, .undef, .undef, .undef, .undef, .undef, .undef, .undef, .undef, .undef, .undef, .undef, .undef, .undef, .undef, .undef, .undef, .undef, .undef, .undef, .undef, .undef, .undef, .undef, .undef, .undef, .undef, .undef, .undef, .undef, .undef, .undef, .undef, .undef, .undef, .undef, .undef, .undef, .undef, .undef, .undef, .undef, .undef]
def Bg2_1_1 (x ob os ow oz ot : Int) : List (Nat × Ab.Obj) :=
 [(5009, .cells 1 [.nilp,.nilp,.nilp,.nilp,.nilp]),
 (5010, .cells 1 [.bool true,.bool true,.bool true,.bool true,.bool true,.bool true,.bool true,.bool true,.bool true,.bool true,.bool true,.bool true,.bool true,.bool true,.bool true,.bool true,.bool true,.bool true,.bool true,.bool true,.bool true,.bool true,.bool true,.bool true,.bool true]),
 (5011, .cells 0 [.int .i64 5,.hs 1 5010 0 25,.hs 1 5009 0 5]),
 (5012, .cells 0 [.sl [.ptr 5019 0,.ptr 5028 0,.ptr 5036 0,.ptr 5044 0,.ptr 5052 0] 5 (some (5021,4,1)),.ptr 5011 0,.int .i64 204]),
 (5015, .cells 0 [.int .u32 1,.str [110,48],.bool false,.int .u32 0,.int .i64 0,.int .i64 0]),
 (5017, .cells 0 [.int .u32 1,.int .i64 0,.int .i64 (or1 (andI ob 15)),.int .i64 (or1 (andI os 7)),.int .i64 (mx1 (andI ow 127)),.int .i64 (mx1 (andI oz 15)),.int .i64 (mx1 (andI ot 7)),.int .i64 0,.int .u32 0,.int .i64 0,.int .i64 0,.int .i64 0,.int .i64 0,.int .i64 0,.int .i64 0,.int .i64 0,.nilp,.int .i64 0,.int .i64 0,.int .i64 0,.int .i64 0,.int .i64 0,.int .i64 0,.int .i64 0,.bool false,.bool false,.bool false,.nils]),
 (5018, .cells 0 [.sl [] 0 (some (5181,1,4))]),
 (5019, .cells 0 [.ptr 5015 0,.ptr 5017 0,.ptr 5018 0,.nilp,.sl [.int .u32 2,.str [110,49],.int .u32 3,.str [110,50],.int .u32 4,.str [110,51],.int .u32 5,.str [110,52]] 4 (some (16047,1,2)),.nils,.int .i64 55]),
 (5021, .tick 1 4),
 (5024, .cells 0 [.int .u32 2,.str [110,49],.bool false,.int .u32 1,.int .i64 8,.int .i64 1]),
 (5026, .cells 0 [.int .u32 2,.int .i64 1,.int .i64 (or1 (andI ob 15)),.int .i64 (or1 (andI os 7)),.int .i64 (mx1 (andI ow 127)),.int .i64 (mx1 (andI oz 15)),.int .i64 (mx1 (andI ot 7)),.int .i64 0,.int .u32 0,.int .i64 0,.int .i64 0,.int .i64 0,.int .i64 0,.int .i64 0,.int .i64 0,.int .i64 0,.nilp,.int .i64 0,.int .i64 0,.int .i64 0,.int .i64 0,.int .i64 0,.int .i64 0,.int .i64 0,.bool false,.bool false,.bool false,.nils]),
 (5027, .cells 0 [.nils]),
 (5028, .cells 0 [.ptr 5024 0,.ptr 5026 0,.ptr 5027 0,.nilp,.nils,.nils,.int .i64 24]),
 (5032, .cells 0 [.int .u32 3,.str [110,50],.bool false,.int .u32 1,.int .i64 8,.int .i64 2]),
 (5034, .cells 0 [.int .u32 3,.int .i64 2,.int .i64 (or1 (andI ob 15)),.int .i64 (or1 (andI os 7)),.int .i64 (mx1 (andI ow 127)),.int .i64 (mx1 (andI oz 15)),.int .i64 (mx1 (andI ot 7)),.int .i64 0,.int .u32 0,.int .i64 0,.int .i64 0,.int .i64 0,.int .i64 0,.int .i64 0,.int .i64 0,.int .i64 0,.nilp,.int .i64 0,.int .i64 0,.int .i64 0,.int .i64 0,.int .i64 0,.int .i64 0,.int .i64 0,.bool false,.bool false,.bool false,.nils]),
 (5035, .cells 0 [.nils]),
 (5036, .cells 0 [.ptr 5032 0,.ptr 5034 0,.ptr 5035 0,.nilp,.nils,.nils,.int .i64 24]),
 (5040, .cells 0 [.int .u32 4,.str [110,51],.bool false,.int .u32 1,.int .i64 8,.int .i64 3]),
 (5042, .cells 0 [.int .u32 4,.int .i64 3,.int .i64 (or1 (andI ob 15)),.int .i64 (or1 (andI os 7)),.int .i64 (mx1 (andI ow 127)),.int .i64 (mx1 (andI oz 15)),.int .i64 (mx1 (andI ot 7)),.int .i64 0,.int .u32 0,.int .i64 0,.int .i64 0,.int .i64 0,.int .i64 0,.int .i64 0,.int .i64 0,.int .i64 0,.nilp,.int .i64 0,.int .i64 0,.int .i64 0,.int .i64 0,.int .i64 0,.int .i64 0,.int .i64 0,.bool false,.bool false,.bool false,.nils]),
 (5043, .cells 0 [.nils]),
 (5044, .cells 0 [.ptr 5040 0,.ptr 5042 0,.ptr 5043 0,.nilp,.nils,.nils,.int .i64 24]),
 (5048, .cells 0 [.int .u32 5,.str [110,52],.bool false,.int .u32 1,.int .i64 8,.int .i64 4]),
 (5050, .cells 0 [.int .u32 5,.int .i64 4,.int .i64 (or1 (andI ob 15)),.int .i64 (or1 (andI os 7)),.int .i64 (mx1 (andI ow 127)),.int .i64 (mx1 (andI oz 15)),.int .i64 (mx1 (andI ot 7)),.int .i64 0,.int .u32 0,.int .i64 0,.int .i64 0,.int .i64 0,.int .i64 0,.int .i64 0,.int .i64 0,.int .i64 0,.nilp,.int .i64 0,.int .i64 0,.int .i64 0,.int .i64 0,.int .i64 0,.int .i64 0,.int .i64 0,.bool false,.bool false,.bool false,.nils]),
 (5051, .cells 0 [.nils]),
 (5052, .cells 0 [.ptr 5048 0,.ptr 5050 0,.ptr 5051 0,.nilp,.nils,.nils,.int .i64 24]),
 (5054, .cells 0 [.int .i64 3,.int .i64 4]),
 (5181, .tick 4 1),
 (16047, .tick 2 1)]
def Ex2_1 (x ob os ow oz ot : Int) : List AV := [.int .i64 5, .undef, .undef, .undef, .undef, .undef, .ptr 5012 0, .undef, .ptr 5054 0, .int .i64 1, .int .i64 90, .undef, .undef, .undef, .undef, .undef, .undef, .undef, .undef, .undef, .undef, .undef, .undef, .undef, .undef, .undef, .undef, .undef, .undef, .undef, .undef, .undef, .undef, .undef, .undef, .undef, .undef, .undef, .undef, .undef, .undef, .undef, .undef, .undef, .undef, .undef, .undef, .undef, .int .i64 90, .bool false, .undef, .undef, .undef, .undef, .undef, .undef, .undef, .undef, .undef, .undef, .undef, .undef, .undef, .undef, .undef, .undef, .undef, .undef, .undef, .undef, .undef, .undef, .undef, .undef, .undef, .undef, .undef, .undef, .undef, .undef, .undef, .undef, .undef, .undef, .undef, .undef, .undef, .undef, .undef]
def Ey2_1 (x ob os ow oz ot : Int) : List AV := [.int .i64 5, .undef, .undef, .undef, .undef, .undef, .ptr 5012 0, .undef, .ptr 5054 0, .int .i64 1, .undef, .undef, .undef, .int .i64 4, .undef, .undef, .undef, .undef, .undef, .undef, .undef, .undef, .undef, .undef, .undef, .undef, .undef, .undef, .undef, .undef, .undef, .undef, .undef, .undef, .undef, .undef, .undef, .undef, .undef, .undef, .undef, .undef, .undef, .undef, .undef, .undef, .undef, .undef, .undef, .undef, .undef, .undef, .undef, .undef, .undef, .undef, .undef, .undef, .undef, .undef, .undef, .undef, .undef, .undef, .undef, .undef, .undef, .undef, .undef, .undef, .undef, .int .i64 4, .int .i64 5, .int .i64 5, .bool false, .undef, .undef, .undef, .undef, .undef, .undef, .undef, .undef, .undef, .undef, .undef, .undef, .undef, .undef]
def Ek2_2 (x ob os ow oz ot : Int) : List AV := [.int .i64 5, .undef, .undef, .undef, .undef, .undef, .ptr 5012 0, .undef, .ptr 5054 0, .int .i64 2, .undef, .undef, .undef, .undef, .undef, .undef, .undef, .undef, .undef, .undef, .undef, .undef, .undef, .undef, .undef, .undef, .undef, .undef, .undef, .undef, .undef, .undef, .undef, .undef, .undef, .undef, .undef, .undef, .undef, .undef, .undef, .undef, .undef, .undef, .undef, .undef, .undef, .undef, .undef, .undef, .undef, .undef, .undef, .undef, .undef, .undef, .undef, .undef, .undef, .undef, .undef, .undef, .undef, .undef, .undef, .undef, .undef, .undef, .undef, .undef, .undef, .undef, .undef, .undef, .undef, .undef, .undef, .undef, .undef, .undef, .undef, .undef, .undef, .undef, .undef, .undef, .undef, .undef, .undef]
theorem q2_1a (x ob os ow oz ot : Int) : (fv7 dA (Ek2_1 x ob os ow oz ot) 10009 (By2_0 x ob os ow oz ot)).seen 89 ((By2_0 x ob os ow oz ot).map (·.1)) = some (.nrm, Ea2_1 x ob os ow oz ot, 10009, (By2_0 x ob os ow oz ot).map (fun p => some p.2), []) := by kernel_rfl
theorem q2_1f (x ob os ow oz ot : Int) : (fv7 (.seq (.seq d1 d2) d3) (Ea2_1 x ob os ow oz ot) 10009 (By2_0 x ob os ow oz ot)).seenK M7b2l 89 ((Bf2_1 x ob os ow oz ot).map (·.1)) = some (.nrm, Ef2_1 x ob os ow oz ot, 10135, (Bf2_1 x ob os ow oz ot).map (fun p => some p.2), []) := by kernel_rfl
theorem q2_1g (x ob os ow oz ot : Int) : (fr7 45 (Ef2_1 x ob os ow oz ot) 10135 (Bf2_1 x ob os ow oz ot)).seenK M7b2l 89 ((Bg2_1_0 x ob os ow oz ot).map (·.1)) = some (.nrm, Eg2_1_0 x ob os ow oz ot, 14604, (Bg2_1_0 x ob os ow oz ot).map (fun p => some p.2), []) := by kernel_rfl
theorem q2_1h (x ob os ow oz ot : Int) : (fr7 45 (Eg2_1_0 x ob os ow oz ot) 14604 (Bg2_1_0 x ob os ow oz ot)).seenK M7b2l 89 ((Bg2_1_1 x ob os ow oz ot).map (·.1)) = some (.nrm, Eg2_1_1 x ob os ow oz ot, 16316, (Bg2_1_1 x ob os ow oz ot).map (fun p => some p.2), []) := by kernel_rfl
theorem q2_1x (x ob os ow oz ot : Int) : (fv7 M7b2 (Eg2_1_1 x ob os ow oz ot) 16316 (Bg2_1_1 x ob os ow oz ot)).seen 89 ((Bg2_1_1 x ob os ow oz ot).map (·.1)) = some ((.exit 4), Ex2_1 x ob os ow oz ot, 16316, (Bg2_1_1 x ob os ow oz ot).map (fun p => some p.2), []) := by kernel_rfl
theorem q2_1y (x ob os ow oz ot : Int) : (fv7 M7r2 (Ex2_1 x ob os ow oz ot) 16316 (Bg2_1_1 x ob os ow oz ot)).seen 89 ((Bg2_1_1 x ob os ow oz ot).map (·.1)) = some (.nrm, Ey2_1 x ob os ow oz ot, 16316, (Bg2_1_1 x ob os ow oz ot).map (fun p => some p.2), []) := by kernel_rfl
theorem q2_1z (x ob os ow oz ot : Int) : (fv7 M7r0 (Ey2_1 x ob os ow oz ot) 16316 (Bg2_1_1 x ob os ow oz ot)).seenK M7b3l 89 ((Bg2_1_1 x ob os ow oz ot).map (·.1)) = some (.nrm, Ek2_2 x ob os ow oz ot, 16316, (Bg2_1_1 x ob os ow oz ot).map (fun p => some p.2), []) := by kernel_rfl
def Ee2 (x ob os ow oz ot : Int) : List AV := [.int .i64 5, .undef, .undef, .undef, .undef, .undef, .ptr 5012 0, .undef, .ptr 5054 0, .int .i64 2, .undef, .undef, .undef, .undef, .undef, .undef, .undef, .undef, .undef, .undef, .undef, .undef, .undef, .undef, .undef, .undef, .undef, .undef, .undef, .undef, .undef, .undef, .undef, .undef, .undef, .undef, .undef, .undef, .int .i64 2, .bool false, .undef, .undef, .undef, .undef, .undef, .undef, .undef, .undef, .undef, .undef, .undef, .undef, .undef, .undef, .undef, .undef, .undef, .undef, .undef, .undef, .undef, .undef, .undef, .undef, .undef, .undef, .undef, .undef, .undef, .undef, .undef, .undef, .undef, .undef, .undef, .undef, .undef, .undef, .undef, .undef, .undef, .undef, .undef, .undef, .undef, .undef, .undef, .undef, .undef]
def Ed2 (x ob os ow oz ot : Int) : List AV := [.int .i64 5, .undef, .undef, .undef, .bool true, .undef, .ptr 5012 0, .undef, .ptr 5054 0, .int .i64 2, .undef, .undef, .undef, .undef, .undef, .undef, .undef, .undef, .undef, .undef, .undef, .undef, .undef, .undef, .undef, .undef, .undef, .undef, .undef, .undef, .undef, .undef, .undef, .undef, .undef, .undef, .undef, .undef, .int .i64 2, .bool false, .undef, .undef, .undef, .undef, .undef, .undef, .undef, .undef, .undef, .undef, .undef, .undef, .undef, .undef, .undef, .undef, .undef, .undef, .undef, .undef, .undef, .undef, .undef, .undef, .undef, .undef, .undef, .undef, .undef, .undef, .undef, .undef, .undef, .undef, .undef, .undef, .undef, .undef, .undef, .undef, .undef, .undef, .agg [.int .i64 3,.int .i64 4], .int .i64 5, .int .i64 3, .int .i64 5, .int .i64 4, .agg [.int .i64 3,.int .i64 4], .bool true]
theorem q2_e (x ob os ow oz ot : Int) : (fv7 M7b3 (Ek2_2 x ob os ow oz ot) 16316 (Bg2_1_1 x ob os ow oz ot)).seen 89 ((Bg2_1_1 x ob os ow oz ot).map (·.1)) = some ((.exit 2), Ee2 x ob os ow oz ot, 16316, (Bg2_1_1 x ob os ow oz ot).map (fun p => some p.2), []) := by kernel_rfl
theorem q2_d (x ob os ow oz ot : Int) : (fv7 M7r3 (Ee2 x ob os ow oz ot) 16316 (Bg2_1_1 x ob os ow oz ot)).seen 89 ((Bg2_1_1 x ob os ow oz ot).map (·.1)) = some (.ret, Ed2 x ob os ow oz ot, 16316, (Bg2_1_1 x ob os ow oz ot).map (fun p => some p.2), []) := by kernel_rfl
end Go.Proofs.YtgflghhffmjojaaGreatDoor.comes
