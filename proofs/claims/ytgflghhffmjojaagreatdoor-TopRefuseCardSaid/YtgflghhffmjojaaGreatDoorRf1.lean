/- TopRefuse where one waits 1 ticks: runs on unknown offers. No conditions. -/
import Derived.Test.YtgflghhffmjojaaGreatDoorRg
set_option linter.unusedVariables false
set_option maxRecDepth 100000
set_option maxHeartbeats 4000000
namespace Go.Proofs.YtgflghhffmjojaaGreatDoor.rf1
open Go Go.Ab
open wr rf
def l0_0 : List (Nat × Ab.Obj) := [(6, .cells 1 [.nilp, .nilp, .nilp]),
 (7, .cells 1 [.bool true, .bool true, .bool true, .bool true, .bool true, .bool true, .bool true, .bool true, .bool true]),
 (8, .cells 0 [.int .i64 3, .hs 1 7 0 9, .hs 1 6 0 3]),
 (9, .cells 0 [.sl [.ptr 16 0, .ptr 25 0, .ptr 33 0] 3 (some (18, 2, 1)), .ptr 8 0, .int .i64 40]),
 (12, .cells 0 [.int .u32 1, .str [110, 48], .bool false, .int .u32 0, .int .i64 0, .int .i64 0]),
 (14, .cells 0 [.int .u32 1, .int .i64 0, lf 5, lf 6, lf 7, lf 8, lf 9, .int .i64 2, .int .u32 2, .int .i64 0, .int .i64 1, lf 11, .int .i64 200, lf 12, lf 13, .int .i64 1, .ptr 177 0, .int .i64 1, .int .i64 0, .int .i64 0, .int .i64 0, .int .i64 69, .int .i64 0, .int .i64 3, .bool false, .bool false, .bool false, .nils]),
 (15, .cells 0 [.sl [] 0 (some (41, 0, 4))]),
 (16, .cells 0 [.ptr 12 0, .ptr 14 0, .ptr 15 0, .nilp, .nils, .nils, .int .i64 3]),
 (18, .tick 1 2),
 (21, .cells 0 [.int .u32 2, .str [110, 49], .bool false, .int .u32 0, .int .i64 0, .int .i64 0]),
 (23, .cells 0 [.int .u32 2, .int .i64 1, lf 5, lf 6, lf 7, lf 8, lf 9, .int .i64 2, .int .u32 1, .int .i64 0, .int .i64 1, lf 11, .int .i64 200, lf 12, lf 13, .int .i64 1, .ptr 100 0, .int .i64 0, .int .i64 0, .int .i64 0, .int .i64 0, .int .i64 0, .int .i64 0, .int .i64 1, .bool false, .bool false, .bool false, .nils]),
 (24, .cells 0 [.nils]),
 (25, .cells 0 [.ptr 21 0, .ptr 23 0, .ptr 24 0, .nilp, .nils, .nils, .int .i64 1]),
 (29, .cells 0 [.int .u32 3, .str [110, 50], .bool false, .int .u32 0, .int .i64 0, .int .i64 0]),
 (31, .cells 0 [.int .u32 3, .int .i64 2, lf 5, lf 6, lf 7, lf 8, lf 9, .int .i64 0, .int .u32 0, .int .i64 0, .int .i64 0, .int .i64 0, .int .i64 0, .int .i64 0, .int .i64 0, .int .i64 0, .nilp, .int .i64 0, .int .i64 0, .int .i64 0, .int .i64 0, .int .i64 0, .int .i64 0, .int .i64 0, .bool false, .bool false, .bool false, .nils]),
 (32, .cells 0 [.sl [.int .i64 2, .int .i64 0, .int .u32 1, .str []] 1 (some (1063, 0, 4))]),
 (33, .cells 0 [.ptr 29 0, .ptr 31 0, .ptr 32 0, .nilp, .nils, .nils, .int .i64 1]),
 (41, .tick 4 0),
 (98, .cells 0 [lf 12, .nils, .int .i64 0, .int .i64 0]),
 (99, .cells 0 [.int .i64 0, .bool false]),
 (100, .cells 0 [.int .i64 2, lf 13, .ptr 98 0, .ptr 99 0, .bool true]),
 (175, .cells 0 [lf 12, .nils, .int .i64 0, .int .i64 0]),
 (176, .cells 0 [.int .i64 0, .bool false]),
 (177, .cells 0 [.int .i64 1, lf 13, .ptr 175 0, .ptr 176 0, .bool false]),
 (1063, .tick 4 0)]
def l0_1 : List (Nat × Ab.Obj) := [(6, .cells 1 [.nilp, .nilp, .nilp]),
 (7, .cells 1 [.bool true, .bool true, .bool true, .bool true, .bool true, .bool true, .bool true, .bool true, .bool true]),
 (8, .cells 0 [.int .i64 3, .hs 1 7 0 9, .hs 1 6 0 3]),
 (9, .cells 0 [.sl [.ptr 16 0, .ptr 25 0, .ptr 33 0] 3 (some (18, 2, 1)), .ptr 8 0, .int .i64 240]),
 (12, .cells 0 [.int .u32 1, .str [110, 48], .bool false, .int .u32 0, .int .i64 0, .int .i64 0]),
 (14, .cells 0 [.int .u32 1, .int .i64 0, lf 5, lf 6, lf 7, lf 8, lf 9, .int .i64 0, .int .u32 0, .int .i64 0, .int .i64 0, .int .i64 0, .int .i64 0, .int .i64 0, .int .i64 0, .int .i64 0, .nilp, .int .i64 1, .int .i64 0, .int .i64 0, .int .i64 0, .int .i64 0, .int .i64 0, .int .i64 0, .bool false, .bool false, .bool false, .nils]),
 (15, .cells 0 [.sl [] 0 (some (41, 0, 4))]),
 (16, .cells 0 [.ptr 12 0, .ptr 14 0, .ptr 15 0, .nilp, .nils, .nils, .int .i64 58]),
 (18, .tick 1 2),
 (21, .cells 0 [.int .u32 2, .str [110, 49], .bool false, .int .u32 0, .int .i64 0, .int .i64 0]),
 (23, .cells 0 [.int .u32 2, .int .i64 1, lf 5, lf 6, lf 7, lf 8, lf 9, .int .i64 2, .int .u32 1, .int .i64 0, .int .i64 1, lf 11, .int .i64 200, lf 12, lf 13, .int .i64 1, .ptr 100 0, .int .i64 0, .int .i64 0, .int .i64 0, .int .i64 0, .int .i64 0, .int .i64 0, .int .i64 61, .bool false, .bool false, .bool false, .nils]),
 (24, .cells 0 [.nils]),
 (25, .cells 0 [.ptr 21 0, .ptr 23 0, .ptr 24 0, .nilp, .nils, .nils, .int .i64 58]),
 (29, .cells 0 [.int .u32 3, .str [110, 50], .bool false, .int .u32 0, .int .i64 0, .int .i64 0]),
 (31, .cells 0 [.int .u32 3, .int .i64 2, lf 5, lf 6, lf 7, lf 8, lf 9, .int .i64 1, .int .u32 1, .int .i64 2, .int .i64 1, .int .i64 0, .int .i64 0, .int .i64 0, .int .i64 0, .int .i64 0, .nilp, .int .i64 1, .int .i64 0, .int .i64 0, .int .i64 3, .int .i64 11, .int .i64 0, .int .i64 0, .bool false, .bool false, .bool false, .nils]),
 (32, .cells 0 [.sl [] 0 (some (1063, 0, 4))]),
 (33, .cells 0 [.ptr 29 0, .ptr 31 0, .ptr 32 0, .nilp, .nils, .nils, .int .i64 59]),
 (41, .tick 4 0),
 (98, .cells 0 [lf 12, .nils, .int .i64 0, .int .i64 0]),
 (99, .cells 0 [.int .i64 0, .bool false]),
 (100, .cells 0 [.int .i64 2, lf 13, .ptr 98 0, .ptr 99 0, .bool false]),
 (1063, .tick 4 0),
 (2473, .tick 5 3)]
def v0_1 : List AV := [.ptr 9 0, .int .i64 400, .undef, .undef, .undef, .sl [.int .i64 0, .int .i64 4, .int .u32 2, .str [], .nils] 1 (some (2473, 3, 5)), .int .i64 200, .undef, .undef, .undef, .undef, .undef, .undef, .undef, .undef, .undef, .undef]
def l0_2 : List (Nat × Ab.Obj) := [(6, .cells 1 [.nilp, .nilp, .nilp]),
 (7, .cells 1 [.bool true, .bool true, .bool true, .bool true, .bool true, .bool true, .bool true, .bool true, .bool true]),
 (8, .cells 0 [.int .i64 3, .hs 1 7 0 9, .hs 1 6 0 3]),
 (9, .cells 0 [.sl [.ptr 16 0, .ptr 25 0, .ptr 33 0] 3 (some (18, 2, 1)), .ptr 8 0, .int .i64 440]),
 (12, .cells 0 [.int .u32 1, .str [110, 48], .bool false, .int .u32 0, .int .i64 0, .int .i64 0]),
 (14, .cells 0 [.int .u32 1, .int .i64 0, lf 5, lf 6, lf 7, lf 8, lf 9, .int .i64 0, .int .u32 0, .int .i64 0, .int .i64 0, .int .i64 0, .int .i64 0, .int .i64 0, .int .i64 0, .int .i64 0, .nilp, .int .i64 1, .int .i64 0, .int .i64 0, .int .i64 0, .int .i64 0, .int .i64 0, .int .i64 0, .bool false, .bool false, .bool false, .nils]),
 (15, .cells 0 [.sl [] 0 (some (41, 0, 4))]),
 (16, .cells 0 [.ptr 12 0, .ptr 14 0, .ptr 15 0, .nilp, .nils, .nils, .int .i64 100]),
 (18, .tick 1 2),
 (21, .cells 0 [.int .u32 2, .str [110, 49], .bool false, .int .u32 0, .int .i64 0, .int .i64 0]),
 (23, .cells 0 [.int .u32 2, .int .i64 1, lf 5, lf 6, lf 7, lf 8, lf 9, .int .i64 0, .int .u32 0, .int .i64 0, .int .i64 0, .int .i64 0, .int .i64 0, .int .i64 0, .int .i64 0, .int .i64 0, .nilp, .int .i64 0, .int .i64 0, .int .i64 0, .int .i64 0, .int .i64 0, .int .i64 0, .int .i64 0, .bool false, .bool false, .bool false, .nils]),
 (24, .cells 0 [.nils]),
 (25, .cells 0 [.ptr 21 0, .ptr 23 0, .ptr 24 0, .nilp, .nils, .nils, .int .i64 100]),
 (29, .cells 0 [.int .u32 3, .str [110, 50], .bool false, .int .u32 0, .int .i64 0, .int .i64 0]),
 (31, .cells 0 [.int .u32 3, .int .i64 2, lf 5, lf 6, lf 7, lf 8, lf 9, .int .i64 0, .int .u32 0, .int .i64 0, .int .i64 0, .int .i64 0, .int .i64 0, .int .i64 0, .int .i64 0, .int .i64 0, .nilp, .int .i64 1, .int .i64 0, .int .i64 0, .int .i64 0, .int .i64 0, .int .i64 0, .int .i64 0, .bool false, .bool false, .bool false, .nils]),
 (32, .cells 0 [.sl [] 0 (some (1063, 0, 4))]),
 (33, .cells 0 [.ptr 29 0, .ptr 31 0, .ptr 32 0, .nilp, .nils, .nils, .int .i64 100]),
 (41, .tick 4 0),
 (1063, .tick 4 0),
 (2473, .tick 5 203)]
def v0_2 : List AV := [.ptr 9 0, .int .i64 400, .undef, .undef, .undef, .sl [.int .i64 0, .int .i64 4, .int .u32 2, .str [], .nils, .int .i64 2, .int .i64 7, .int .u32 1, .str [], .nils, .int .i64 1, .int .i64 4, .int .u32 1, .str [], .nils] 3 (some (2473, 203, 5)), .int .i64 400, .undef, .undef, .undef, .undef, .undef, .undef, .undef, .undef, .undef, .undef]
def v0_0 : List AV := [.ptr 9 0, .int .i64 400, .undef, .undef, .nils, .nils, .int .i64 0]
theorem ch0_0 : ((rndK (fR (R 0 1)) M15b0l 200 (envK v0_0 0) (mkS 1064 l0_0 [.int .i64 0, lf 24, lf 25, .bool false, lf 24, .int .i64 0, .int .i64 0, lf 24, lf 25, .bool false, lf 24, .int .i64 0, .int .i64 0, lf 24, lf 25, .bool false, lf 24])).kept M15b0l).seenT U 17 (l0_1.map (·.1)) = some (.nrm, v0_1, 2492, l0_1.map (fun p => some p.2)) := by kernel_rfl
theorem ch0_1 : ((rndK (fR (R 0 1)) M15b0l 200 (envK v0_1 0) (mkS 2492 l0_1 [])).kept M15b0l).seenT U 17 (l0_2.map (·.1)) = some (.nrm, v0_2, 3704, l0_2.map (fun p => some p.2)) := by kernel_rfl
def v0_3 : List AV := [.ptr 9 0, .int .i64 400, .undef, .undef, .undef, .sl [.int .i64 0, .int .i64 4, .int .u32 2, .str [], .nils, .int .i64 2, .int .i64 7, .int .u32 1, .str [], .nils, .int .i64 1, .int .i64 4, .int .u32 1, .str [], .nils] 3 (some (2473, 203, 5)), .int .i64 400, .int .i64 400, .int .i64 400, .bool false, .undef, .undef, .undef, .undef, .undef, .undef, .undef]
theorem ex0 : (fR (R 0 1) (keepE (envK v0_2 0) M15b0l) (mkS 3704 l0_2 [])).seenT [] 17 (l0_2.map (·.1)) = some (.exit 0, v0_3, 3704, l0_2.map (fun p => some p.2)) := by kernel_rfl
def tr0 : Tr2 := ⟨[.ptr 9 0, .int .i64 400], 1064, l0_0, (.sl [.int .i64 0, .int .i64 4, .int .u32 2, .str [], .nils, .int .i64 2, .int .i64 7, .int .u32 1, .str [], .nils, .int .i64 1, .int .i64 4, .int .u32 1, .str [], .nils] 3 (some (2473, 203, 5))), 3704, l0_2⟩
theorem top0 : (runM M10 tabGl 599 (callTr 15 [tr0] (fM (R 0 1) 599)) [.agg [lf 0, lf 1, lf 2, lf 3, lf 4], lf 10] (FS.none' [lf 16, lf 17, .bool false, lf 16, lf 13, lf 12, lf 12, lf 20, lf 21, .bool false, lf 20, lf 13, lf 12, lf 12, .int .i64 0, .int .i64 0, .int .i64 0, .int .i64 0, .int .i64 0, .int .i64 0, .int .i64 0, .int .i64 0, .int .i64 0, .int .i64 0, .int .i64 0, .int .i64 0, .int .i64 0, .int .i64 0, .int .i64 0, .int .i64 0, .int .i64 0])).said U = some (.bool true) := by kernel_rfl
def l1_0 : List (Nat × Ab.Obj) := [(6, .cells 1 [.nilp, .nilp, .nilp]),
 (7, .cells 1 [.bool true, .bool true, .bool true, .bool true, .bool true, .bool true, .bool true, .bool true, .bool true]),
 (8, .cells 0 [.int .i64 3, .hs 1 7 0 9, .hs 1 6 0 3]),
 (9, .cells 0 [.sl [.ptr 16 0, .ptr 25 0, .ptr 33 0] 3 (some (18, 2, 1)), .ptr 8 0, .int .i64 40]),
 (12, .cells 0 [.int .u32 1, .str [110, 48], .bool false, .int .u32 0, .int .i64 0, .int .i64 0]),
 (14, .cells 0 [.int .u32 1, .int .i64 0, lf 5, lf 6, lf 7, lf 8, lf 9, .int .i64 2, .int .u32 2, .int .i64 0, .int .i64 1, lf 11, .int .i64 200, lf 12, lf 13, .int .i64 1, .ptr 177 0, .int .i64 1, .int .i64 0, .int .i64 0, .int .i64 0, .int .i64 69, .int .i64 0, .int .i64 3, .bool false, .bool false, .bool false, .nils]),
 (15, .cells 0 [.sl [] 0 (some (41, 0, 4))]),
 (16, .cells 0 [.ptr 12 0, .ptr 14 0, .ptr 15 0, .nilp, .nils, .nils, .int .i64 3]),
 (18, .tick 1 2),
 (21, .cells 0 [.int .u32 2, .str [110, 49], .bool false, .int .u32 0, .int .i64 0, .int .i64 0]),
 (23, .cells 0 [.int .u32 2, .int .i64 1, lf 5, lf 6, lf 7, lf 8, lf 9, .int .i64 2, .int .u32 1, .int .i64 0, .int .i64 1, lf 11, .int .i64 200, lf 12, lf 13, .int .i64 1, .ptr 100 0, .int .i64 0, .int .i64 0, .int .i64 0, .int .i64 0, .int .i64 0, .int .i64 0, .int .i64 1, .bool false, .bool false, .bool false, .nils]),
 (24, .cells 0 [.nils]),
 (25, .cells 0 [.ptr 21 0, .ptr 23 0, .ptr 24 0, .nilp, .nils, .nils, .int .i64 1]),
 (29, .cells 0 [.int .u32 3, .str [110, 50], .bool false, .int .u32 0, .int .i64 0, .int .i64 0]),
 (31, .cells 0 [.int .u32 3, .int .i64 2, lf 5, lf 6, lf 7, lf 8, lf 9, .int .i64 0, .int .u32 0, .int .i64 0, .int .i64 0, .int .i64 0, .int .i64 0, .int .i64 0, .int .i64 0, .int .i64 0, .nilp, .int .i64 0, .int .i64 0, .int .i64 0, .int .i64 0, .int .i64 0, .int .i64 0, .int .i64 0, .bool false, .bool false, .bool false, .nils]),
 (32, .cells 0 [.sl [.int .i64 2, .int .i64 0, .int .u32 2, .str []] 1 (some (1063, 0, 4))]),
 (33, .cells 0 [.ptr 29 0, .ptr 31 0, .ptr 32 0, .nilp, .nils, .nils, .int .i64 1]),
 (41, .tick 4 0),
 (98, .cells 0 [lf 12, .nils, .int .i64 0, .int .i64 0]),
 (99, .cells 0 [.int .i64 0, .bool false]),
 (100, .cells 0 [.int .i64 2, lf 13, .ptr 98 0, .ptr 99 0, .bool true]),
 (175, .cells 0 [lf 12, .nils, .int .i64 0, .int .i64 0]),
 (176, .cells 0 [.int .i64 0, .bool false]),
 (177, .cells 0 [.int .i64 1, lf 13, .ptr 175 0, .ptr 176 0, .bool false]),
 (1063, .tick 4 0)]
def l1_1 : List (Nat × Ab.Obj) := [(6, .cells 1 [.nilp, .nilp, .nilp]),
 (7, .cells 1 [.bool true, .bool true, .bool true, .bool true, .bool true, .bool true, .bool true, .bool true, .bool true]),
 (8, .cells 0 [.int .i64 3, .hs 1 7 0 9, .hs 1 6 0 3]),
 (9, .cells 0 [.sl [.ptr 16 0, .ptr 25 0, .ptr 33 0] 3 (some (18, 2, 1)), .ptr 8 0, .int .i64 240]),
 (12, .cells 0 [.int .u32 1, .str [110, 48], .bool false, .int .u32 0, .int .i64 0, .int .i64 0]),
 (14, .cells 0 [.int .u32 1, .int .i64 0, lf 5, lf 6, lf 7, lf 8, lf 9, .int .i64 0, .int .u32 0, .int .i64 0, .int .i64 0, .int .i64 0, .int .i64 0, .int .i64 0, .int .i64 0, .int .i64 0, .nilp, .int .i64 1, .int .i64 0, .int .i64 0, .int .i64 0, .int .i64 0, .int .i64 0, .int .i64 0, .bool false, .bool false, .bool false, .nils]),
 (15, .cells 0 [.sl [] 0 (some (41, 0, 4))]),
 (16, .cells 0 [.ptr 12 0, .ptr 14 0, .ptr 15 0, .nilp, .nils, .nils, .int .i64 58]),
 (18, .tick 1 2),
 (21, .cells 0 [.int .u32 2, .str [110, 49], .bool false, .int .u32 0, .int .i64 0, .int .i64 0]),
 (23, .cells 0 [.int .u32 2, .int .i64 1, lf 5, lf 6, lf 7, lf 8, lf 9, .int .i64 2, .int .u32 1, .int .i64 0, .int .i64 1, lf 11, .int .i64 200, lf 12, lf 13, .int .i64 1, .ptr 100 0, .int .i64 0, .int .i64 0, .int .i64 0, .int .i64 0, .int .i64 0, .int .i64 0, .int .i64 61, .bool false, .bool false, .bool false, .nils]),
 (24, .cells 0 [.nils]),
 (25, .cells 0 [.ptr 21 0, .ptr 23 0, .ptr 24 0, .nilp, .nils, .nils, .int .i64 58]),
 (29, .cells 0 [.int .u32 3, .str [110, 50], .bool false, .int .u32 0, .int .i64 0, .int .i64 0]),
 (31, .cells 0 [.int .u32 3, .int .i64 2, lf 5, lf 6, lf 7, lf 8, lf 9, .int .i64 1, .int .u32 2, .int .i64 2, .int .i64 1, .int .i64 0, .int .i64 0, .int .i64 0, .int .i64 0, .int .i64 0, .nilp, .int .i64 1, .int .i64 0, .int .i64 0, .int .i64 3, .int .i64 11, .int .i64 0, .int .i64 0, .bool false, .bool false, .bool false, .nils]),
 (32, .cells 0 [.sl [] 0 (some (1063, 0, 4))]),
 (33, .cells 0 [.ptr 29 0, .ptr 31 0, .ptr 32 0, .nilp, .nils, .nils, .int .i64 59]),
 (41, .tick 4 0),
 (98, .cells 0 [lf 12, .nils, .int .i64 0, .int .i64 0]),
 (99, .cells 0 [.int .i64 0, .bool false]),
 (100, .cells 0 [.int .i64 2, lf 13, .ptr 98 0, .ptr 99 0, .bool false]),
 (1063, .tick 4 0),
 (2473, .tick 5 3)]
def v1_1 : List AV := [.ptr 9 0, .int .i64 400, .undef, .undef, .undef, .sl [.int .i64 0, .int .i64 4, .int .u32 2, .str [], .nils] 1 (some (2473, 3, 5)), .int .i64 200, .undef, .undef, .undef, .undef, .undef, .undef, .undef, .undef, .undef, .undef]
def l1_2 : List (Nat × Ab.Obj) := [(6, .cells 1 [.nilp, .nilp, .nilp]),
 (7, .cells 1 [.bool true, .bool true, .bool true, .bool true, .bool true, .bool true, .bool true, .bool true, .bool true]),
 (8, .cells 0 [.int .i64 3, .hs 1 7 0 9, .hs 1 6 0 3]),
 (9, .cells 0 [.sl [.ptr 16 0, .ptr 25 0, .ptr 33 0] 3 (some (18, 2, 1)), .ptr 8 0, .int .i64 440]),
 (12, .cells 0 [.int .u32 1, .str [110, 48], .bool false, .int .u32 0, .int .i64 0, .int .i64 0]),
 (14, .cells 0 [.int .u32 1, .int .i64 0, lf 5, lf 6, lf 7, lf 8, lf 9, .int .i64 0, .int .u32 0, .int .i64 0, .int .i64 0, .int .i64 0, .int .i64 0, .int .i64 0, .int .i64 0, .int .i64 0, .nilp, .int .i64 1, .int .i64 0, .int .i64 0, .int .i64 0, .int .i64 0, .int .i64 0, .int .i64 0, .bool false, .bool false, .bool false, .nils]),
 (15, .cells 0 [.sl [] 0 (some (41, 0, 4))]),
 (16, .cells 0 [.ptr 12 0, .ptr 14 0, .ptr 15 0, .nilp, .nils, .nils, .int .i64 100]),
 (18, .tick 1 2),
 (21, .cells 0 [.int .u32 2, .str [110, 49], .bool false, .int .u32 0, .int .i64 0, .int .i64 0]),
 (23, .cells 0 [.int .u32 2, .int .i64 1, lf 5, lf 6, lf 7, lf 8, lf 9, .int .i64 0, .int .u32 0, .int .i64 0, .int .i64 0, .int .i64 0, .int .i64 0, .int .i64 0, .int .i64 0, .int .i64 0, .nilp, .int .i64 0, .int .i64 0, .int .i64 0, .int .i64 0, .int .i64 0, .int .i64 0, .int .i64 0, .bool false, .bool false, .bool false, .nils]),
 (24, .cells 0 [.nils]),
 (25, .cells 0 [.ptr 21 0, .ptr 23 0, .ptr 24 0, .nilp, .nils, .nils, .int .i64 100]),
 (29, .cells 0 [.int .u32 3, .str [110, 50], .bool false, .int .u32 0, .int .i64 0, .int .i64 0]),
 (31, .cells 0 [.int .u32 3, .int .i64 2, lf 5, lf 6, lf 7, lf 8, lf 9, .int .i64 0, .int .u32 0, .int .i64 0, .int .i64 0, .int .i64 0, .int .i64 0, .int .i64 0, .int .i64 0, .int .i64 0, .nilp, .int .i64 1, .int .i64 0, .int .i64 0, .int .i64 0, .int .i64 0, .int .i64 0, .int .i64 0, .bool false, .bool false, .bool false, .nils]),
 (32, .cells 0 [.sl [] 0 (some (1063, 0, 4))]),
 (33, .cells 0 [.ptr 29 0, .ptr 31 0, .ptr 32 0, .nilp, .nils, .nils, .int .i64 100]),
 (41, .tick 4 0),
 (1063, .tick 4 0),
 (2473, .tick 5 203)]
def v1_2 : List AV := [.ptr 9 0, .int .i64 400, .undef, .undef, .undef, .sl [.int .i64 0, .int .i64 4, .int .u32 2, .str [], .nils, .int .i64 2, .int .i64 7, .int .u32 2, .str [], .nils, .int .i64 1, .int .i64 4, .int .u32 1, .str [], .nils] 3 (some (2473, 203, 5)), .int .i64 400, .undef, .undef, .undef, .undef, .undef, .undef, .undef, .undef, .undef, .undef]
def v1_0 : List AV := [.ptr 9 0, .int .i64 400, .undef, .undef, .nils, .nils, .int .i64 0]
theorem ch1_0 : ((rndK (fR (R 1 1)) M15b0l 200 (envK v1_0 0) (mkS 1064 l1_0 [.int .i64 0, lf 28, lf 29, .bool false, lf 28, .int .i64 0, .int .i64 0, lf 28, lf 29, .bool false, lf 28, .int .i64 0, .int .i64 0, lf 28, lf 29, .bool false, lf 28])).kept M15b0l).seenT U 17 (l1_1.map (·.1)) = some (.nrm, v1_1, 2492, l1_1.map (fun p => some p.2)) := by kernel_rfl
theorem ch1_1 : ((rndK (fR (R 1 1)) M15b0l 200 (envK v1_1 0) (mkS 2492 l1_1 [])).kept M15b0l).seenT U 17 (l1_2.map (·.1)) = some (.nrm, v1_2, 3704, l1_2.map (fun p => some p.2)) := by kernel_rfl
def v1_3 : List AV := [.ptr 9 0, .int .i64 400, .undef, .undef, .undef, .sl [.int .i64 0, .int .i64 4, .int .u32 2, .str [], .nils, .int .i64 2, .int .i64 7, .int .u32 2, .str [], .nils, .int .i64 1, .int .i64 4, .int .u32 1, .str [], .nils] 3 (some (2473, 203, 5)), .int .i64 400, .int .i64 400, .int .i64 400, .bool false, .undef, .undef, .undef, .undef, .undef, .undef, .undef]
theorem ex1 : (fR (R 1 1) (keepE (envK v1_2 0) M15b0l) (mkS 3704 l1_2 [])).seenT [] 17 (l1_2.map (·.1)) = some (.exit 0, v1_3, 3704, l1_2.map (fun p => some p.2)) := by kernel_rfl
def tr1 : Tr2 := ⟨[.ptr 9 0, .int .i64 400], 1064, l1_0, (.sl [.int .i64 0, .int .i64 4, .int .u32 2, .str [], .nils, .int .i64 2, .int .i64 7, .int .u32 2, .str [], .nils, .int .i64 1, .int .i64 4, .int .u32 1, .str [], .nils] 3 (some (2473, 203, 5))), 3704, l1_2⟩
theorem top1 : (runM M10 tabGl 599 (callTr 15 [tr1] (fM (R 1 1) 599)) [.agg [lf 0, lf 1, lf 2, lf 3, lf 4], lf 10] (FS.none' [lf 16, lf 17, .bool false, lf 16, lf 13, lf 12, lf 12, lf 20, lf 21, .bool false, lf 20, lf 13, lf 12, lf 12, .int .i64 0, .int .i64 0, .int .i64 0, .int .i64 0, .int .i64 0, .int .i64 0, .int .i64 0, .int .i64 0, .int .i64 0, .int .i64 0, .int .i64 0, .int .i64 0, .int .i64 0, .int .i64 0, .int .i64 0, .int .i64 0, .int .i64 0])).said U = some (.bool true) := by kernel_rfl
theorem tok0 {ob os ow oz ot x : Int} {nb ns nw nz nt bd wn sz : Nat} (h : Off nb ns nw nz nt) (hb : 32 ≤ bd ∧ bd ≤ 256 ∧ 1 ≤ wn ∧ wn ≤ 7 ∧ 8 ≤ sz ∧ sz ≤ 64) (hr : hSem 16 [.int .i64 x, .int .i64 2] St.nil = some (.int .i64 (0 : Nat)))
    (hf : hSem 38 [.agg [.int .i64 ob, .int .i64 os, .int .i64 ow, .int .i64 oz, .int .i64 ot]] St.nil = some (.agg [.int .i64 nb, .int .i64 ns, .int .i64 nw, .int .i64 nz, .int .i64 nt]))
    (hd : hSem 144 [.agg [.int .i64 nb, .int .i64 ns, .int .i64 nw, .int .i64 nz, .int .i64 nt], .agg [.int .i64 nb, .int .i64 ns, .int .i64 nw, .int .i64 nz, .int .i64 nt]] St.nil = some (.tup [.agg [.int .i64 bd, .int .i64 (200 : Nat), .int .i64 wn, .int .i64 sz, .int .i64 (1 : Nat)], .bool true])) : TrOk (Sg.of (Lo (V ob os ow oz ot x nb ns nw nz nt bd wn sz)) (Lo_ok vok)) (evM 599) 15 tr0 := by
  intro s hS
  have hR := good h hb hr hf hd
  have hU := uok (ob := ob) (os := os) (ow := ow) (oz := oz) (ot := ot) (x := x) (nb := nb) (ns := ns) (nw := nw) (nz := nz) (nt := nt) hb
  obtain ⟨e1, s1, i1, E1, S1⟩ := rnd_use (live := M15b0l) rfl (fR_sim (keys 0 1) hR) (e15_ok (Sg.of (Lo (V ob os ow oz ot x nb ns nw nz nt bd wn sz)) (Lo_ok vok)) (.ptr 9 0) (.int .i64 400)) ch0_0 hU (hS.orc _) []
  obtain ⟨e2, s2, i2, E2, S2⟩ := rnd_use (live := M15b0l) rfl (fR_sim (keys 0 1) hR) E1 ch0_1 hU (S1.orc _) []
  have hi : ∀ k, iter (evC tabGl (evM 598) 598 M15b0) M15b0l (400 + k) (e15 (.ptr ((Sg.of (Lo (V ob os ow oz ot x nb ns nw nz nt bd wn sz)) (Lo_ok vok)).r 9) 0) (.int .i64 400)) s = iter (evC tabGl (evM 598) 598 M15b0) M15b0l k e2 s2 := fun k => by
    rw [show 400 + k = 200 + (200 + k) by omega]
    exact (i1 _).trans (i2 _)
  exact run_tr (keys 0 1) hR (m := 400) (k := 197) rfl hi E2 (S2.orc []) ex0 rfl (fun s => rfl)
theorem says0 {ob os ow oz ot x : Int} {nb ns nw nz nt bd wn sz : Nat} (h : Off nb ns nw nz nt) (hb : 32 ≤ bd ∧ bd ≤ 256 ∧ 1 ≤ wn ∧ wn ≤ 7 ∧ 8 ≤ sz ∧ sz ≤ 64) (hr : hSem 16 [.int .i64 x, .int .i64 2] St.nil = some (.int .i64 (0 : Nat)))
    (hf : hSem 38 [.agg [.int .i64 ob, .int .i64 os, .int .i64 ow, .int .i64 oz, .int .i64 ot]] St.nil = some (.agg [.int .i64 nb, .int .i64 ns, .int .i64 nw, .int .i64 nz, .int .i64 nt]))
    (hd : hSem 144 [.agg [.int .i64 nb, .int .i64 ns, .int .i64 nw, .int .i64 nz, .int .i64 nt], .agg [.int .i64 nb, .int .i64 ns, .int .i64 nw, .int .i64 nz, .int .i64 nt]] St.nil = some (.tup [.agg [.int .i64 bd, .int .i64 (200 : Nat), .int .i64 wn, .int .i64 sz, .int .i64 (1 : Nat)], .bool true])) : ∃ s', evM 600 10 [.agg [.int .i64 ob, .int .i64 os, .int .i64 ow, .int .i64 oz, .int .i64 ot], .int .i64 x] St.nil = some (.bool true, s') := by
  have hR := good h hb hr hf hd
  have hU := uok (ob := ob) (os := os) (ow := ow) (oz := oz) (ot := ot) (x := x) (nb := nb) (ns := ns) (nw := nw) (nz := nz) (nt := nt) hb
  obtain ⟨S', k, h1, h2⟩ := said_run top0
  have hc : CallT (Sg.of (Lo (V ob os ow oz ot x nb ns nw nz nt bd wn sz)) (Lo_ok vok)) cxM (callTr 15 [tr0] (fM (R 0 1) 599)) (evM 599) := callTr_T (fM_T (keys 0 1) hR 599) (fun t ht => by rw [List.mem_singleton.1 ht]; exact tok0 h hb hr hf hd)
  obtain ⟨_, h3⟩ := run_sim tab_plain hc M10 599 h1
  obtain ⟨s', h4, _⟩ := h3 St.nil (said_ok h2 hU) (rt_nil _ _ _)
  exact ⟨s', (evM_in rfl tab10 _ _).trans h4⟩
theorem tok1 {ob os ow oz ot x : Int} {nb ns nw nz nt bd wn sz : Nat} (h : Off nb ns nw nz nt) (hb : 32 ≤ bd ∧ bd ≤ 256 ∧ 1 ≤ wn ∧ wn ≤ 7 ∧ 8 ≤ sz ∧ sz ≤ 64) (hr : hSem 16 [.int .i64 x, .int .i64 2] St.nil = some (.int .i64 (1 : Nat)))
    (hf : hSem 38 [.agg [.int .i64 ob, .int .i64 os, .int .i64 ow, .int .i64 oz, .int .i64 ot]] St.nil = some (.agg [.int .i64 nb, .int .i64 ns, .int .i64 nw, .int .i64 nz, .int .i64 nt]))
    (hd : hSem 144 [.agg [.int .i64 nb, .int .i64 ns, .int .i64 nw, .int .i64 nz, .int .i64 nt], .agg [.int .i64 nb, .int .i64 ns, .int .i64 nw, .int .i64 nz, .int .i64 nt]] St.nil = some (.tup [.agg [.int .i64 bd, .int .i64 (200 : Nat), .int .i64 wn, .int .i64 sz, .int .i64 (1 : Nat)], .bool true])) : TrOk (Sg.of (Lo (V ob os ow oz ot x nb ns nw nz nt bd wn sz)) (Lo_ok vok)) (evM 599) 15 tr1 := by
  intro s hS
  have hR := good h hb hr hf hd
  have hU := uok (ob := ob) (os := os) (ow := ow) (oz := oz) (ot := ot) (x := x) (nb := nb) (ns := ns) (nw := nw) (nz := nz) (nt := nt) hb
  obtain ⟨e1, s1, i1, E1, S1⟩ := rnd_use (live := M15b0l) rfl (fR_sim (keys 1 1) hR) (e15_ok (Sg.of (Lo (V ob os ow oz ot x nb ns nw nz nt bd wn sz)) (Lo_ok vok)) (.ptr 9 0) (.int .i64 400)) ch1_0 hU (hS.orc _) []
  obtain ⟨e2, s2, i2, E2, S2⟩ := rnd_use (live := M15b0l) rfl (fR_sim (keys 1 1) hR) E1 ch1_1 hU (S1.orc _) []
  have hi : ∀ k, iter (evC tabGl (evM 598) 598 M15b0) M15b0l (400 + k) (e15 (.ptr ((Sg.of (Lo (V ob os ow oz ot x nb ns nw nz nt bd wn sz)) (Lo_ok vok)).r 9) 0) (.int .i64 400)) s = iter (evC tabGl (evM 598) 598 M15b0) M15b0l k e2 s2 := fun k => by
    rw [show 400 + k = 200 + (200 + k) by omega]
    exact (i1 _).trans (i2 _)
  exact run_tr (keys 1 1) hR (m := 400) (k := 197) rfl hi E2 (S2.orc []) ex1 rfl (fun s => rfl)
theorem says1 {ob os ow oz ot x : Int} {nb ns nw nz nt bd wn sz : Nat} (h : Off nb ns nw nz nt) (hb : 32 ≤ bd ∧ bd ≤ 256 ∧ 1 ≤ wn ∧ wn ≤ 7 ∧ 8 ≤ sz ∧ sz ≤ 64) (hr : hSem 16 [.int .i64 x, .int .i64 2] St.nil = some (.int .i64 (1 : Nat)))
    (hf : hSem 38 [.agg [.int .i64 ob, .int .i64 os, .int .i64 ow, .int .i64 oz, .int .i64 ot]] St.nil = some (.agg [.int .i64 nb, .int .i64 ns, .int .i64 nw, .int .i64 nz, .int .i64 nt]))
    (hd : hSem 144 [.agg [.int .i64 nb, .int .i64 ns, .int .i64 nw, .int .i64 nz, .int .i64 nt], .agg [.int .i64 nb, .int .i64 ns, .int .i64 nw, .int .i64 nz, .int .i64 nt]] St.nil = some (.tup [.agg [.int .i64 bd, .int .i64 (200 : Nat), .int .i64 wn, .int .i64 sz, .int .i64 (1 : Nat)], .bool true])) : ∃ s', evM 600 10 [.agg [.int .i64 ob, .int .i64 os, .int .i64 ow, .int .i64 oz, .int .i64 ot], .int .i64 x] St.nil = some (.bool true, s') := by
  have hR := good h hb hr hf hd
  have hU := uok (ob := ob) (os := os) (ow := ow) (oz := oz) (ot := ot) (x := x) (nb := nb) (ns := ns) (nw := nw) (nz := nz) (nt := nt) hb
  obtain ⟨S', k, h1, h2⟩ := said_run top1
  have hc : CallT (Sg.of (Lo (V ob os ow oz ot x nb ns nw nz nt bd wn sz)) (Lo_ok vok)) cxM (callTr 15 [tr1] (fM (R 1 1) 599)) (evM 599) := callTr_T (fM_T (keys 1 1) hR 599) (fun t ht => by rw [List.mem_singleton.1 ht]; exact tok1 h hb hr hf hd)
  obtain ⟨_, h3⟩ := run_sim tab_plain hc M10 599 h1
  obtain ⟨s', h4, _⟩ := h3 St.nil (said_ok h2 hU) (rt_nil _ _ _)
  exact ⟨s', (evM_in rfl tab10 _ _).trans h4⟩
end Go.Proofs.YtgflghhffmjojaaGreatDoor.rf1
