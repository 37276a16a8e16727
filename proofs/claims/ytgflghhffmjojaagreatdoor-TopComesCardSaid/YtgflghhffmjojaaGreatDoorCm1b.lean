/- TopComes, 3 stations: the second round. No conditions. -/
import Derived.Test.YtgflghhffmjojaaGreatDoorCm1a
set_option linter.unusedVariables false
set_option maxRecDepth 1000000
set_option maxHeartbeats 4000000
namespace Go.Proofs.YtgflghhffmjojaaGreatDoor.comes
open Go Go.Ab
def Ea0_1 (x ob os ow oz ot : Int) : List AV := [.int .i64 3, .undef, .undef, .undef, .undef, .undef, .ptr 5012 0, .undef, .ptr 5038 0, .int .i64 1, .undef, .undef, .undef, .undef, .undef, .undef, .undef, .undef, .undef, .undef, .undef, .undef, .undef, .undef, .undef, .undef, .undef, .undef, .undef, .undef, .undef, .undef, .undef, .undef, .undef, .undef, .undef, .undef, .int .i64 1, .bool true, .undef, .undef, .undef, .undef, .undef, .undef, .undef, .undef, .undef, .undef, .undef, .undef, .undef, .undef, .undef, .undef, .undef, .undef, .undef, .undef, .undef, .undef, .undef, .undef, .undef, .undef, .undef, .undef, .undef, .undef, .undef, .undef, .undef, .undef, .undef, .undef, .undef, .undef, .undef, .undef, .undef, .undef, .undef, .undef, .undef, .undef, .undef, .undef, .undef]
def Ef0_1 (x ob os ow oz ot : Int) : List AV := [.int .i64 3, .undef, .undef, .undef, .undef, .undef, .ptr 5012 0, .undef, .ptr 5038 0, .int .i64 1, .int .i64 0, .undef, .undef, .undef, .undef, .undef, .undef, .undef, .undef, .undef, .undef, .undef, .undef, .undef, .undef, .undef, .undef, .undef, .undef, .undef, .undef, .undef, .undef, .undef, .undef, .undef, .undef, .undef, .undef, .undef, .undef, .undef, .undef, .undef, .undef, .undef, .undef, .undef, .undef, .undef, .undef, .undef, .undef, .undef, .undef, .undef, .undef, .undef, .undef, .undef, .undef, .undef, .undef, .undef, .undef, .undef, .undef, .undef, .undef, .undef, .undef, .undef, .undef, .undef, .undef, .undef, .undef, .undef, .undef, .undef, .undef, .undef, .undef, .undef, .undef, .undef, .undef, .undef, .undef]
def Bf0_1 (x ob os ow oz ot : Int) : List (Nat × Ab.Obj) :=
 [(5009, .cells 1 [.nilp,.nilp,.nilp]),
 (5010, .cells 1 [.bool true,.bool true,.bool true,.bool true,.bool true,.bool true,.bool true,.bool true,.bool true]),
 (5011, .cells 0 [.int .i64 3,.hs 1 5010 0 9,.hs 1 5009 0 3]),
 (5012, .cells 0 [.sl [.ptr 5019 0,.ptr 5028 0,.ptr 5036 0] 3 (some (5021,2,1)),.ptr 5011 0,.int .i64 114]),
 (5015, .cells 0 [.int .u32 1,.str [110,48],.bool false,.int .u32 0,.int .i64 0,.int .i64 0]),
 (5017, .cells 0 [.int .u32 1,.int .i64 0,.int .i64 (or1 (andI ob 15)),.int .i64 (or1 (andI os 7)),.int .i64 (mx1 (andI ow 127)),.int .i64 (mx1 (andI oz 15)),.int .i64 (mx1 (andI ot 7)),.int .i64 0,.int .u32 0,.int .i64 0,.int .i64 0,.int .i64 0,.int .i64 0,.int .i64 0,.int .i64 0,.int .i64 0,.nilp,.int .i64 0,.int .i64 0,.int .i64 0,.int .i64 0,.int .i64 0,.int .i64 0,.int .i64 0,.bool false,.bool false,.bool false,.nils]),
 (5018, .cells 0 [.sl [.int .i64 1,.int .i64 8,.int .u32 0,.str []] 1 (some (5117,1,4))]),
 (5019, .cells 0 [.ptr 5015 0,.ptr 5017 0,.ptr 5018 0,.nilp,.sl [.int .u32 2,.str [110,49]] 1 (some (7163,1,2)),.nils,.int .i64 91]),
 (5021, .tick 1 2),
 (5024, .cells 0 [.int .u32 2,.str [110,49],.bool false,.int .u32 1,.int .i64 8,.int .i64 1]),
 (5026, .cells 0 [.int .u32 2,.int .i64 1,.int .i64 (or1 (andI ob 15)),.int .i64 (or1 (andI os 7)),.int .i64 (mx1 (andI ow 127)),.int .i64 (mx1 (andI oz 15)),.int .i64 (mx1 (andI ot 7)),.int .i64 0,.int .u32 0,.int .i64 0,.int .i64 0,.int .i64 0,.int .i64 0,.int .i64 0,.int .i64 0,.int .i64 0,.nilp,.int .i64 0,.int .i64 0,.int .i64 0,.int .i64 0,.int .i64 0,.int .i64 0,.int .i64 0,.bool false,.bool false,.bool false,.nils]),
 (5027, .cells 0 [.nils]),
 (5028, .cells 0 [.ptr 5024 0,.ptr 5026 0,.ptr 5027 0,.nilp,.nils,.nils,.int .i64 36]),
 (5032, .cells 0 [.int .u32 3,.str [110,50],.bool false,.int .u32 0,.int .i64 0,.int .i64 0]),
 (5034, .cells 0 [.int .u32 3,.int .i64 2,.int .i64 (or1 (andI ob 15)),.int .i64 (or1 (andI os 7)),.int .i64 (mx1 (andI ow 127)),.int .i64 (mx1 (andI oz 15)),.int .i64 (mx1 (andI ot 7)),.int .i64 0,.int .u32 0,.int .i64 0,.int .i64 0,.int .i64 0,.int .i64 0,.int .i64 0,.int .i64 0,.int .i64 0,.nilp,.int .i64 0,.int .i64 0,.int .i64 0,.int .i64 0,.int .i64 0,.int .i64 0,.int .i64 0,.bool false,.bool false,.bool false,.nils]),
 (5035, .cells 0 [.nils]),
 (5036, .cells 0 [.ptr 5032 0,.ptr 5034 0,.ptr 5035 0,.nilp,.nils,.nils,.int .i64 100]),
 (5038, .cells 0 [.int .i64 1,.int .i64 (-1)]),
 (5117, .tick 4 1),
 (7163, .tick 2 1)]
def Eg0_1_0 (x ob os ow oz ot : Int) : List AV := [.int .i64 3, .undef, .undef, .undef, .undef, .undef, .ptr 5012 0, .undef, .ptr 5038 0, .int .i64 1, .int .i64 45, .undef, .undef, .undef, .undef, .undef, .undef, .undef, .undef, .undef, .undef, .undef, .undef, .undef, .undef, .undef, .undef, .undef, .undef, .undef, .undef, .undef, .undef, .undef, .undef, .undef, .undef, .undef, .undef, .undef, .undef, .undef, .undef, .undef, .undef, .undef, .undef, .undef, .undef, .undef, .undef, .undef, .undef, .undef, .undef, .undef, .undef, .undef, .undef, .undef, .undef, .undef, .undef, .undef, .undef, .undef, .undef, .undef, .undef, .undef, .undef, .undef, .undef, .undef, .undef, .undef, .undef, .undef, .undef, .undef, .undef, .undef, .undef, .undef, .undef, .undef, .undef, .undef, .undef]
def Bg0_1_0 (x ob os ow oz ot : Int) : List (Nat × Ab.Obj) :=
 [(5009, .cells 1 [.nilp,.nilp,.nilp]),
 (5010, .cells 1 [.bool true,.bool true,.bool true,.bool true,.bool true,.bool true,.bool true,.bool true,.bool true]),
 (5011, .cells 0 [.int .i64 3,.hs 1 5010 0 9,.hs 1 5009 0 3]),
 (5012, .cells 0 [.sl [.ptr 5019 0,.ptr 5028 0,.ptr 5036 0] 3 (some (5021,2,1)),.ptr 5011 0,.int .i64 159]),
 (5015, .cells 0 [.int .u32 1,.str [110,48],.bool false,.int .u32 0,.int .i64 0,.int .i64 0]),
 (5017, .cells 0 [.int .u32 1,.int .i64 0,.int .i64 (or1 (andI ob 15)),.int .i64 (or1 (andI os 7)),.int .i64 (mx1 (andI ow 127)),.int .i64 (mx1 (andI oz 15)),.int .i64 (mx1 (andI ot 7)),.int .i64 0,.int .u32 0,.int .i64 0,.int .i64 0,.int .i64 0,.int .i64 0,.int .i64 0,.int .i64 0,.int .i64 0,.nilp,.int .i64 0,.int .i64 0,.int .i64 0,.int .i64 0,.int .i64 0,.int .i64 0,.int .i64 0,.bool false,.bool false,.bool false,.nils]),
 (5018, .cells 0 [.sl [] 0 (some (5117,1,4))]),
 (5019, .cells 0 [.ptr 5015 0,.ptr 5017 0,.ptr 5018 0,.ptr 7424 0,.sl [.int .u32 2,.str [110,49]] 1 (some (7163,1,2)),.nils,.int .i64 26]),
 (5021, .tick 1 2),
 (5024, .cells 0 [.int .u32 2,.str [110,49],.bool true,.int .u32 1,.int .i64 8,.int .i64 1]),
 (5026, .cells 0 [.int .u32 2,.int .i64 1,.int .i64 (or1 (andI ob 15)),.int .i64 (or1 (andI os 7)),.int .i64 (mx1 (andI ow 127)),.int .i64 (mx1 (andI oz 15)),.int .i64 (mx1 (andI ot 7)),.int .i64 0,.int .u32 0,.int .i64 0,.int .i64 0,.int .i64 0,.int .i64 0,.int .i64 0,.int .i64 0,.int .i64 0,.nilp,.int .i64 0,.int .i64 0,.int .i64 0,.int .i64 0,.int .i64 0,.int .i64 0,.int .i64 0,.bool false,.bool false,.bool false,.nils]),
 (5027, .cells 0 [.nils]),
 (5028, .cells 0 [.ptr 5024 0,.ptr 5026 0,.ptr 5027 0,.nilp,.nils,.nils,.int .i64 3]),
 (5032, .cells 0 [.int .u32 3,.str [110,50],.bool true,.int .u32 1,.int .i64 8,.int .i64 2]),
 (5034, .cells 0 [.int .u32 3,.int .i64 2,.int .i64 (or1 (andI ob 15)),.int .i64 (or1 (andI os 7)),.int .i64 (mx1 (andI ow 127)),.int .i64 (mx1 (andI oz 15)),.int .i64 (mx1 (andI ot 7)),.int .i64 0,.int .u32 0,.int .i64 0,.int .i64 0,.int .i64 0,.int .i64 0,.int .i64 0,.int .i64 0,.int .i64 0,.nilp,.int .i64 0,.int .i64 0,.int .i64 0,.int .i64 0,.int .i64 0,.int .i64 0,.int .i64 0,.bool false,.bool false,.bool false,.nils]),
 (5035, .cells 0 [.nils]),
 (5036, .cells 0 [.ptr 5032 0,.ptr 5034 0,.ptr 5035 0,.nilp,.nils,.nils,.int .i64 3]),
 (5038, .cells 0 [.int .i64 1,.int .i64 (-1)]),
 (5117, .tick 4 1),
 (7163, .tick 2 1),
 (7423, .cells 0 [.int .u32 1,.sl [.int .u32 2,.str [110,49],.int .u32 3,.str [110,50]] 2 (some (8138,1,2)),.sl [.int .i64 1,.int .i64 2] 2 (some (8140,1,1)),.nils]),
 (7424, .cells 0 [.int .u32 1,.int .u32 0,.int .i64 0,.int .i64 8,.bool false,.str [110,48],.int .i64 44,.ptr 7423 0]),
 (8138, .tick 2 1),
 (8140, .tick 1 1)]
def Eg0_1_1 (x ob os ow oz ot : Int) : List AV := [.int .i64 3, .undef, .undef, .undef, .undef, .undef, .ptr 5012 0, .undef, .ptr 5038 0, .int .i64 1, .int .i64 90, .undef, .undef, .undef, .undef, .undef, .undef, .undef, .undef, .undef, .undef, .undef, .undef, .undef, .undef, .undef, .undef, .undef, .undef, .undef, .undef, .undef, .undef, .undef, .undef, .undef, .undef, .undef, .undef, .undef, .undef, .undef, .undef, .undef, .undef, .undef, .undef, .undef, .undef, .undef, .undef, .undef, .undef, .undef, .undef, .undef, .undef, .undef, .undef, .undef, .undef, .undef, .undef, .undef, .undef, .undef, .undef, .undef, .undef, .undef, .undef, .undef, .undef, .undef, .undef, .undef, .undef, .undef, .undef, .undef, .undef, .undef, .undef, .undef, .undef, .undef, .undef, .undef, .undef]
def Bg0_1_1 (x ob os ow oz ot : Int) : List (Nat × Ab.Obj) :=
 [(5009, .cells 1 [.nilp,.nilp,.nilp]),
 (5010, .cells 1 [.bool true,.bool true,.bool true,.bool true,.bool true,.bool true,.bool true,.bool true,.bool true]),
 (5011, .cells 0 [.int .i64 3,.hs 1 5010 0 9,.hs 1 5009 0 3]),
 (5012, .cells 0 [.sl [.ptr 5019 0,.ptr 5028 0,.ptr 5036 0] 3 (some (5021,2,1)),.ptr 5011 0,.int .i64 204]),
 (5015, .cells 0 [.int .u32 1,.str [110,48],.bool false,.int .u32 0,.int .i64 0,.int .i64 0]),
 (5017, .cells 0 [.int .u32 1,.int .i64 0,.int .i64 (or1 (andI ob 15)),.int .i64 (or1 (andI os 7)),.int .i64 (mx1 (andI ow 127)),.int .i64 (mx1 (andI oz 15)),.int .i64 (mx1 (andI ot 7)),.int .i64 0,.int .u32 0,.int .i64 0,.int .i64 0,.int .i64 0,.int .i64 0,.int .i64 0,.int .i64 0,.int .i64 0,.nilp,.int .i64 0,.int .i64 0,.int .i64 0,.int .i64 0,.int .i64 0,.int .i64 0,.int .i64 0,.bool false,.bool false,.bool false,.nils]),
 (5018, .cells 0 [.sl [] 0 (some (5117,1,4))]),
 (5019, .cells 0 [.ptr 5015 0,.ptr 5017 0,.ptr 5018 0,.nilp,.sl [.int .u32 2,.str [110,49],.int .u32 3,.str [110,50]] 2 (some (10507,1,2)),.nils,.int .i64 71]),
 (5021, .tick 1 2),
 (5024, .cells 0 [.int .u32 2,.str [110,49],.bool false,.int .u32 1,.int .i64 8,.int .i64 1]),
 (5026, .cells 0 [.int .u32 2,.int .i64 1,.int .i64 (or1 (andI ob 15)),.int .i64 (or1 (andI os 7)),.int .i64 (mx1 (andI ow 127)),.int .i64 (mx1 (andI oz 15)),.int .i64 (mx1 (andI ot 7)),.int .i64 0,.int .u32 0,.int .i64 0,.int .i64 0,.int .i64 0,.int .i64 0,.int .i64 0,.int .i64 0,.int .i64 0,.nilp,.int .i64 0,.int .i64 0,.int .i64 0,.int .i64 0,.int .i64 0,.int .i64 0,.int .i64 0,.bool false,.bool false,.bool false,.nils]),
 (5027, .cells 0 [.nils]),
 (5028, .cells 0 [.ptr 5024 0,.ptr 5026 0,.ptr 5027 0,.nilp,.nils,.nils,.int .i64 24]),
 (5032, .cells 0 [.int .u32 3,.str [110,50],.bool false,.int .u32 1,.int .i64 8,.int .i64 2]),
 (5034, .cells 0 [.int .u32 3,.int .i64 2,.int .i64 (or1 (andI ob 15)),.int .i64 (or1 (andI os 7)),.int .i64 (mx1 (andI ow 127)),.int .i64 (mx1 (andI oz 15)),.int .i64 (mx1 (andI ot 7)),.int .i64 0,.int .u32 0,.int .i64 0,.int .i64 0,.int .i64 0,.int .i64 0,.int .i64 0,.int .i64 0,.int .i64 0,.nilp,.int .i64 0,.int .i64 0,.int .i64 0,.int .i64 0,.int .i64 0,.int .i64 0,.int .i64 0,.bool false,.bool false,.bool false,.nils]),
 (5035, .cells 0 [.nils]),
 (5036, .cells 0 [.ptr 5032 0,.ptr 5034 0,.ptr 5035 0,.nilp,.nils,.nils,.int .i64 24]),
 (5038, .cells 0 [.int .i64 1,.int .i64 2]),
 (5117, .tick 4 1),
 (10507, .tick 2 1)]
def Ex0_1 (x ob os ow oz ot : Int) : List AV := [.int .i64 3, .undef, .undef, .undef, .undef, .undef, .ptr 5012 0, .undef, .ptr 5038 0, .int .i64 1, .int .i64 90, .undef, .undef, .undef, .undef, .undef, .undef, .undef, .undef, .undef, .undef, .undef, .undef, .undef, .undef, .undef, .undef, .undef, .undef, .undef, .undef, .undef, .undef, .undef, .undef, .undef, .undef, .undef, .undef, .undef, .undef, .undef, .undef, .undef, .undef, .undef, .undef, .undef, .int .i64 90, .bool false, .undef, .undef, .undef, .undef, .undef, .undef, .undef, .undef, .undef, .undef, .undef, .undef, .undef, .undef, .undef, .undef, .undef, .undef, .undef, .undef, .undef, .undef, .undef, .undef, .undef, .undef, .undef, .undef, .undef, .undef, .undef, .undef, .undef, .undef, .undef, .undef, .undef, .undef, .undef]
def Ey0_1 (x ob os ow oz ot : Int) : List AV := [.int .i64 3, .undef, .undef, .undef, .undef, .undef, .ptr 5012 0, .undef, .ptr 5038 0, .int .i64 1, .undef, .undef, .undef, .int .i64 2, .undef, .undef, .undef, .undef, .undef, .undef, .undef, .undef, .undef, .undef, .undef, .undef, .undef, .undef, .undef, .undef, .undef, .undef, .undef, .undef, .undef, .undef, .undef, .undef, .undef, .undef, .undef, .undef, .undef, .undef, .undef, .undef, .undef, .undef, .undef, .undef, .undef, .undef, .undef, .undef, .undef, .undef, .undef, .undef, .undef, .undef, .undef, .undef, .undef, .undef, .undef, .undef, .undef, .undef, .undef, .undef, .undef, .int .i64 2, .int .i64 3, .int .i64 3, .bool false, .undef, .undef, .undef, .undef, .undef, .undef, .undef, .undef, .undef, .undef, .undef, .undef, .undef, .undef]
def Ek0_2 (x ob os ow oz ot : Int) : List AV := [.int .i64 3, .undef, .undef, .undef, .undef, .undef, .ptr 5012 0, .undef, .ptr 5038 0, .int .i64 2, .undef, .undef, .undef, .undef, .undef, .undef, .undef, .undef, .undef, .undef, .undef, .undef, .undef, .undef, .undef, .undef, .undef, .undef, .undef, .undef, .undef, .undef, .undef, .undef, .undef, .undef, .undef, .undef, .undef, .undef, .undef, .undef, .undef, .undef, .undef, .undef, .undef, .undef, .undef, .undef, .undef, .undef, .undef, .undef, .undef, .undef, .undef, .undef, .undef, .undef, .undef, .undef, .undef, .undef, .undef, .undef, .undef, .undef, .undef, .undef, .undef, .undef, .undef, .undef, .undef, .undef, .undef, .undef, .undef, .undef, .undef, .undef, .undef, .undef, .undef, .undef, .undef, .undef, .undef]
theorem q0_1a (x ob os ow oz ot : Int) : (fv7 dA (Ek0_1 x ob os ow oz ot) 7336 (By0_0 x ob os ow oz ot)).seen 89 ((By0_0 x ob os ow oz ot).map (·.1)) = some (.nrm, Ea0_1 x ob os ow oz ot, 7336, (By0_0 x ob os ow oz ot).map (fun p => some p.2), []) := by kernel_rfl
theorem q0_1f (x ob os ow oz ot : Int) : (fv7 (.seq (.seq d1 d2) d3) (Ea0_1 x ob os ow oz ot) 7336 (By0_0 x ob os ow oz ot)).seenK M7b2l 89 ((Bf0_1 x ob os ow oz ot).map (·.1)) = some (.nrm, Ef0_1 x ob os ow oz ot, 7414, (Bf0_1 x ob os ow oz ot).map (fun p => some p.2), []) := by kernel_rfl
theorem q0_1g (x ob os ow oz ot : Int) : (fr7 45 (Ef0_1 x ob os ow oz ot) 7414 (Bf0_1 x ob os ow oz ot)).seenK M7b2l 89 ((Bg0_1_0 x ob os ow oz ot).map (·.1)) = some (.nrm, Eg0_1_0 x ob os ow oz ot, 9640, (Bg0_1_0 x ob os ow oz ot).map (fun p => some p.2), []) := by kernel_rfl
theorem q0_1h (x ob os ow oz ot : Int) : (fr7 45 (Eg0_1_0 x ob os ow oz ot) 9640 (Bg0_1_0 x ob os ow oz ot)).seenK M7b2l 89 ((Bg0_1_1 x ob os ow oz ot).map (·.1)) = some (.nrm, Eg0_1_1 x ob os ow oz ot, 10680, (Bg0_1_1 x ob os ow oz ot).map (fun p => some p.2), []) := by kernel_rfl
theorem q0_1x (x ob os ow oz ot : Int) : (fv7 M7b2 (Eg0_1_1 x ob os ow oz ot) 10680 (Bg0_1_1 x ob os ow oz ot)).seen 89 ((Bg0_1_1 x ob os ow oz ot).map (·.1)) = some ((.exit 4), Ex0_1 x ob os ow oz ot, 10680, (Bg0_1_1 x ob os ow oz ot).map (fun p => some p.2), []) := by kernel_rfl
theorem q0_1y (x ob os ow oz ot : Int) : (fv7 M7r2 (Ex0_1 x ob os ow oz ot) 10680 (Bg0_1_1 x ob os ow oz ot)).seen 89 ((Bg0_1_1 x ob os ow oz ot).map (·.1)) = some (.nrm, Ey0_1 x ob os ow oz ot, 10680, (Bg0_1_1 x ob os ow oz ot).map (fun p => some p.2), []) := by kernel_rfl
theorem q0_1z (x ob os ow oz ot : Int) : (fv7 M7r0 (Ey0_1 x ob os ow oz ot) 10680 (Bg0_1_1 x ob os ow oz ot)).seenK M7b3l 89 ((Bg0_1_1 x ob os ow oz ot).map (·.1)) = some (.nrm, Ek0_2 x ob os ow oz ot, 10680, (Bg0_1_1 x ob os ow oz ot).map (fun p => some p.2), []) := by kernel_rfl
def Ee0 (x ob os ow oz ot : Int) : List AV := [.int .i64 3, .undef, .undef, .undef, .undef, .undef, .ptr 5012 0, .undef, .ptr 5038 0, .int .i64 2, .undef, .undef, .undef, .undef, .undef, .undef, .undef, .undef, .undef, .undef, .undef, .undef, .undef, .undef, .undef, .undef, .undef, .undef, .undef, .undef, .undef, .undef, .undef, .undef, .undef, .undef, .undef, .undef, .int .i64 2, .bool false, .undef, .undef, .undef, .undef, .undef, .undef, .undef, .undef, .undef, .undef, .undef, .undef, .undef, .undef, .undef, .undef, .undef, .undef, .undef, .undef, .undef, .undef, .undef, .undef, .undef, .undef, .undef, .undef, .undef, .undef, .undef, .undef, .undef, .undef, .undef, .undef, .undef, .undef, .undef, .undef, .undef, .undef, .undef, .undef, .undef, .undef, .undef, .undef, .undef]
def Ed0 (x ob os ow oz ot : Int) : List AV := [.int .i64 3, .undef, .undef, .undef, .bool true, .undef, .ptr 5012 0, .undef, .ptr 5038 0, .int .i64 2, .undef, .undef, .undef, .undef, .undef, .undef, .undef, .undef, .undef, .undef, .undef, .undef, .undef, .undef, .undef, .undef, .undef, .undef, .undef, .undef, .undef, .undef, .undef, .undef, .undef, .undef, .undef, .undef, .int .i64 2, .bool false, .undef, .undef, .undef, .undef, .undef, .undef, .undef, .undef, .undef, .undef, .undef, .undef, .undef, .undef, .undef, .undef, .undef, .undef, .undef, .undef, .undef, .undef, .undef, .undef, .undef, .undef, .undef, .undef, .undef, .undef, .undef, .undef, .undef, .undef, .undef, .undef, .undef, .undef, .undef, .undef, .undef, .undef, .agg [.int .i64 1,.int .i64 2], .int .i64 3, .int .i64 1, .int .i64 3, .int .i64 2, .agg [.int .i64 1,.int .i64 2], .bool true]
theorem q0_e (x ob os ow oz ot : Int) : (fv7 M7b3 (Ek0_2 x ob os ow oz ot) 10680 (Bg0_1_1 x ob os ow oz ot)).seen 89 ((Bg0_1_1 x ob os ow oz ot).map (·.1)) = some ((.exit 2), Ee0 x ob os ow oz ot, 10680, (Bg0_1_1 x ob os ow oz ot).map (fun p => some p.2), []) := by kernel_rfl
theorem q0_d (x ob os ow oz ot : Int) : (fv7 M7r3 (Ee0 x ob os ow oz ot) 10680 (Bg0_1_1 x ob os ow oz ot)).seen 89 ((Bg0_1_1 x ob os ow oz ot).map (·.1)) = some (.ret, Ed0 x ob os ow oz ot, 10680, (Bg0_1_1 x ob os ow oz ot).map (fun p => some p.2), []) := by kernel_rfl
end Go.Proofs.YtgflghhffmjojaaGreatDoor.comes
