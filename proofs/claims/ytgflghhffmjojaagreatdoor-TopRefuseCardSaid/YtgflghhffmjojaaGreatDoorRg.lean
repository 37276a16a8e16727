/- TopRefuse: what functions answer on the way, of unknown offers. No conditions. -/
import Derived.Test.YtgflghhffmjojaaGreatDoorRfA
set_option linter.unusedVariables false
set_option maxRecDepth 100000
set_option maxHeartbeats 4000000
namespace Go.Proofs.YtgflghhffmjojaaGreatDoor.rf
open Go Go.Ab
open wr
def V (ob os ow oz ot x : Int) (nb ns nw nz nt bd wn sz : Nat) : List AV := [.int .i64 ob,
 .int .i64 os,
 .int .i64 ow,
 .int .i64 oz,
 .int .i64 ot,
 .int .i64 (nb : Nat),
 .int .i64 (ns : Nat),
 .int .i64 (nw : Nat),
 .int .i64 (nz : Nat),
 .int .i64 (nt : Nat),
 .int .i64 x,
 .int .i64 (bd : Nat),
 .int .i64 (wn : Nat),
 .int .i64 (sz : Nat),
 .str (ub [1, 0, 0, 0, 2, 0, 0, 0, 0, 1, 1, 1, nb, 2, 1, ns, 3, 1, nw, 4, 1, nz, 5, 1, nt]),
 slB (ub [255, 255, 147, 1, 0, 0, 0, 2, 0, 0, 0, 0, 1, 1, 1, nb, 2, 1, ns, 3, 1, nw, 4, 1, nz, 5, 1, nt]),
 slB (wrapB (ub [255, 255, 147, 1, 0, 0, 0, 2, 0, 0, 0, 0, 1, 1, 1, nb, 2, 1, ns, 3, 1, nw, 4, 1, nz, 5, 1, nt]) 1),
 .int .i64 ((wrapB (ub [255, 255, 147, 1, 0, 0, 0, 2, 0, 0, 0, 0, 1, 1, 1, nb, 2, 1, ns, 3, 1, nw, 4, 1, nz, 5, 1, nt]) 1).length : Nat),
 .str (ub [2, 0, 0, 0, 1, 0, 0, 0, 0, 1, 1, 1, nb, 2, 1, ns, 3, 1, nw, 4, 1, nz, 5, 1, nt]),
 slB (ub [254, 255, 115, 2, 0, 0, 0, 1, 0, 0, 0, 0, 1, 1, 1, nb, 2, 1, ns, 3, 1, nw, 4, 1, nz, 5, 1, nt]),
 slB (wrapB (ub [254, 255, 115, 2, 0, 0, 0, 1, 0, 0, 0, 0, 1, 1, 1, nb, 2, 1, ns, 3, 1, nw, 4, 1, nz, 5, 1, nt]) 1),
 .int .i64 ((wrapB (ub [254, 255, 115, 2, 0, 0, 0, 1, 0, 0, 0, 0, 1, 1, 1, nb, 2, 1, ns, 3, 1, nw, 4, 1, nz, 5, 1, nt]) 1).length : Nat),
 .str (ub [3, 0, 0, 0, 1, 0, 0, 0, 2, 1, 1, 1, nb, 2, 1, ns, 3, 1, nw, 4, 1, nz, 5, 1, nt]),
 slB (ub [255, 255, 147, 3, 0, 0, 0, 1, 0, 0, 0, 2, 1, 1, 1, nb, 2, 1, ns, 3, 1, nw, 4, 1, nz, 5, 1, nt]),
 slB (wrapB (ub [255, 255, 147, 3, 0, 0, 0, 1, 0, 0, 0, 2, 1, 1, 1, nb, 2, 1, ns, 3, 1, nw, 4, 1, nz, 5, 1, nt]) 1),
 .int .i64 ((wrapB (ub [255, 255, 147, 3, 0, 0, 0, 1, 0, 0, 0, 2, 1, 1, 1, nb, 2, 1, ns, 3, 1, nw, 4, 1, nz, 5, 1, nt]) 1).length : Nat),
 .str (ub [3, 0, 0, 0, 2, 0, 0, 0, 2, 1, 1, 1, nb, 2, 1, ns, 3, 1, nw, 4, 1, nz, 5, 1, nt]),
 slB (ub [255, 255, 147, 3, 0, 0, 0, 2, 0, 0, 0, 2, 1, 1, 1, nb, 2, 1, ns, 3, 1, nw, 4, 1, nz, 5, 1, nt]),
 slB (wrapB (ub [255, 255, 147, 3, 0, 0, 0, 2, 0, 0, 0, 2, 1, 1, 1, nb, 2, 1, ns, 3, 1, nw, 4, 1, nz, 5, 1, nt]) 1),
 .int .i64 ((wrapB (ub [255, 255, 147, 3, 0, 0, 0, 2, 0, 0, 0, 2, 1, 1, 1, nb, 2, 1, ns, 3, 1, nw, 4, 1, nz, 5, 1, nt]) 1).length : Nat)]
theorem vok {ob os ow oz ot x : Int} {nb ns nw nz nt bd wn sz : Nat} : (V ob os ow oz ot x nb ns nw nz nt bd wn sz).all lfOk = true := rfl
def U : List Nt := [.app 1 1 .nils (lf 16) (lf 16),
 .len (.clo 1000000016 [.hs 1 59 0 0]) (lf 17),
 .eqv false .slc (.clo 1000000016 [.hs 1 59 0 0]) .nils (.bool false),
 .app 1 1 (.sl [] 0 (some (63, 0, 1))) (.clo 1000000016 [.hs 1 59 0 0]) (lf 16),
 .mn [lf 13, .int .i64 64] (lf 13),
 .mx [lf 12, .int .i64 1] (lf 12),
 .mn [lf 12, .int .i64 7] (lf 12),
 .app 1 1 .nils (lf 20) (lf 20),
 .len (.clo 1000000020 [.hs 1 131 0 0]) (lf 21),
 .eqv false .slc (.clo 1000000020 [.hs 1 131 0 0]) .nils (.bool false),
 .app 1 1 (.sl [] 0 (some (135, 0, 1))) (.clo 1000000020 [.hs 1 131 0 0]) (lf 20),
 .mn [lf 12, .int .i64 0] (.int .i64 0),
 .app 1 1 .nils (lf 24) (lf 24),
 .len (.clo 1000000024 [.hs 1 1818 0 0]) (lf 25),
 .eqv false .slc (.clo 1000000024 [.hs 1 1818 0 0]) .nils (.bool false),
 .app 1 1 (.sl [] 0 (some (1822, 0, 1))) (.clo 1000000024 [.hs 1 1818 0 0]) (lf 24),
 .len (.clo 1000000024 [.hs 1 2284 0 0]) (lf 25),
 .eqv false .slc (.clo 1000000024 [.hs 1 2284 0 0]) .nils (.bool false),
 .app 1 1 (.sl [] 0 (some (2288, 0, 1))) (.clo 1000000024 [.hs 1 2284 0 0]) (lf 24),
 .len (.clo 1000000024 [.hs 1 2750 0 0]) (lf 25),
 .eqv false .slc (.clo 1000000024 [.hs 1 2750 0 0]) .nils (.bool false),
 .app 1 1 (.sl [] 0 (some (2754, 0, 1))) (.clo 1000000024 [.hs 1 2750 0 0]) (lf 24),
 .app 1 1 .nils (lf 28) (lf 28),
 .len (.clo 1000000028 [.hs 1 1818 0 0]) (lf 29),
 .eqv false .slc (.clo 1000000028 [.hs 1 1818 0 0]) .nils (.bool false),
 .app 1 1 (.sl [] 0 (some (1822, 0, 1))) (.clo 1000000028 [.hs 1 1818 0 0]) (lf 28),
 .len (.clo 1000000028 [.hs 1 2284 0 0]) (lf 29),
 .eqv false .slc (.clo 1000000028 [.hs 1 2284 0 0]) .nils (.bool false),
 .app 1 1 (.sl [] 0 (some (2288, 0, 1))) (.clo 1000000028 [.hs 1 2284 0 0]) (lf 28),
 .len (.clo 1000000028 [.hs 1 2750 0 0]) (lf 29),
 .eqv false .slc (.clo 1000000028 [.hs 1 2750 0 0]) .nils (.bool false),
 .app 1 1 (.sl [] 0 (some (2754, 0, 1))) (.clo 1000000028 [.hs 1 2750 0 0]) (lf 28),
 .len (.clo 1000000020 [.hs 1 138 0 0]) (lf 21),
 .eqv false .slc (.clo 1000000020 [.hs 1 138 0 0]) .nils (.bool false),
 .app 1 1 (.sl [] 0 (some (142, 0, 1))) (.clo 1000000020 [.hs 1 138 0 0]) (lf 20),
 .len (.clo 1000000024 [.hs 1 1096 0 0]) (lf 25),
 .eqv false .slc (.clo 1000000024 [.hs 1 1096 0 0]) .nils (.bool false),
 .app 1 1 (.sl [] 0 (some (1100, 0, 1))) (.clo 1000000024 [.hs 1 1096 0 0]) (lf 24),
 .len (.clo 1000000024 [.hs 1 1600 0 0]) (lf 25),
 .eqv false .slc (.clo 1000000024 [.hs 1 1600 0 0]) .nils (.bool false),
 .app 1 1 (.sl [] 0 (some (1604, 0, 1))) (.clo 1000000024 [.hs 1 1600 0 0]) (lf 24),
 .len (.clo 1000000024 [.hs 1 2104 0 0]) (lf 25),
 .eqv false .slc (.clo 1000000024 [.hs 1 2104 0 0]) .nils (.bool false),
 .app 1 1 (.sl [] 0 (some (2108, 0, 1))) (.clo 1000000024 [.hs 1 2104 0 0]) (lf 24),
 .len (.clo 1000000028 [.hs 1 1096 0 0]) (lf 29),
 .eqv false .slc (.clo 1000000028 [.hs 1 1096 0 0]) .nils (.bool false),
 .app 1 1 (.sl [] 0 (some (1100, 0, 1))) (.clo 1000000028 [.hs 1 1096 0 0]) (lf 28),
 .len (.clo 1000000028 [.hs 1 1600 0 0]) (lf 29),
 .eqv false .slc (.clo 1000000028 [.hs 1 1600 0 0]) .nils (.bool false),
 .app 1 1 (.sl [] 0 (some (1604, 0, 1))) (.clo 1000000028 [.hs 1 1600 0 0]) (lf 28),
 .len (.clo 1000000028 [.hs 1 2104 0 0]) (lf 29),
 .eqv false .slc (.clo 1000000028 [.hs 1 2104 0 0]) .nils (.bool false),
 .app 1 1 (.sl [] 0 (some (2108, 0, 1))) (.clo 1000000028 [.hs 1 2104 0 0]) (lf 28),
 .len (.clo 1000000020 [.hs 1 144 0 0]) (lf 21),
 .eqv false .slc (.clo 1000000020 [.hs 1 144 0 0]) .nils (.bool false),
 .app 1 1 (.sl [] 0 (some (148, 0, 1))) (.clo 1000000020 [.hs 1 144 0 0]) (lf 20),
 .len (.clo 1000000024 [.hs 1 857 0 0]) (lf 25),
 .eqv false .slc (.clo 1000000024 [.hs 1 857 0 0]) .nils (.bool false),
 .app 1 1 (.sl [] 0 (some (861, 0, 1))) (.clo 1000000024 [.hs 1 857 0 0]) (lf 24),
 .len (.clo 1000000024 [.hs 1 1360 0 0]) (lf 25),
 .eqv false .slc (.clo 1000000024 [.hs 1 1360 0 0]) .nils (.bool false),
 .app 1 1 (.sl [] 0 (some (1364, 0, 1))) (.clo 1000000024 [.hs 1 1360 0 0]) (lf 24),
 .len (.clo 1000000024 [.hs 1 1863 0 0]) (lf 25),
 .eqv false .slc (.clo 1000000024 [.hs 1 1863 0 0]) .nils (.bool false),
 .app 1 1 (.sl [] 0 (some (1867, 0, 1))) (.clo 1000000024 [.hs 1 1863 0 0]) (lf 24),
 .len (.clo 1000000028 [.hs 1 857 0 0]) (lf 29),
 .eqv false .slc (.clo 1000000028 [.hs 1 857 0 0]) .nils (.bool false),
 .app 1 1 (.sl [] 0 (some (861, 0, 1))) (.clo 1000000028 [.hs 1 857 0 0]) (lf 28),
 .len (.clo 1000000028 [.hs 1 1360 0 0]) (lf 29),
 .eqv false .slc (.clo 1000000028 [.hs 1 1360 0 0]) .nils (.bool false),
 .app 1 1 (.sl [] 0 (some (1364, 0, 1))) (.clo 1000000028 [.hs 1 1360 0 0]) (lf 28),
 .len (.clo 1000000028 [.hs 1 1863 0 0]) (lf 29),
 .eqv false .slc (.clo 1000000028 [.hs 1 1863 0 0]) .nils (.bool false),
 .app 1 1 (.sl [] 0 (some (1867, 0, 1))) (.clo 1000000028 [.hs 1 1863 0 0]) (lf 28)]
theorem k77_2 : (fP 600 77 [.agg [.int .i64 0, .int .i64 1, .bool true, .int .i64 2, .int .i64 0, .int .i64 0, .int .i64 0, .bool true, .str []]] (FS.none' [])).said [] = some (.tup [.agg [.int .i64 0, .int .i64 1, .bool true, .iface 191 (.agg [.int .i64 0, .int .i64 0, .bool true]), .str []], .bool true]) := by kernel_rfl
theorem k77_3 : (fP 600 77 [.agg [.int .i64 0, .int .i64 1, .bool false, .int .i64 2, .int .i64 0, .int .i64 0, .int .i64 0, .bool true, .str []]] (FS.none' [])).said [] = some (.tup [.agg [.int .i64 0, .int .i64 1, .bool false, .iface 191 (.agg [.int .i64 0, .int .i64 0, .bool true]), .str []], .bool true]) := by kernel_rfl
theorem k78_2 : (fP 600 78 [.agg [.int .i64 0, .int .i64 1, .bool true, .iface 191 (.agg [.int .i64 0, .int .i64 0, .bool true]), .str []]] (FS.none' [])).said [] = some (.tup [.sl [.int .u8 1, .int .u8 1, .int .u8 17] 3 (some (8, 1, 1)), .bool true]) := by kernel_rfl
theorem k78_3 : (fP 600 78 [.agg [.int .i64 0, .int .i64 1, .bool false, .iface 191 (.agg [.int .i64 0, .int .i64 0, .bool true]), .str []]] (FS.none' [])).said [] = some (.tup [.sl [.int .u8 0, .int .u8 1, .int .u8 17] 3 (some (8, 1, 1)), .bool true]) := by kernel_rfl
theorem k79_2 : (fP 600 79 [.sl [.int .u8 1, .int .u8 1, .int .u8 17] 3 none, .int .i64 1] (FS.none' [])).said [] = some (.sl [.int .u8 255, .int .u8 192, .int .u8 1, .int .u8 1, .int .u8 17, .int .u8 125, .int .u8 224, .int .u8 132, .int .u8 193] 9 (some (13, 4, 1))) := by kernel_rfl
theorem k79_3 : (fP 600 79 [.sl [.int .u8 0, .int .u8 1, .int .u8 17] 3 none, .int .i64 1] (FS.none' [])).said [] = some (.sl [.int .u8 255, .int .u8 192, .int .u8 0, .int .u8 1, .int .u8 17, .int .u8 28, .int .u8 222, .int .u8 193] 8 (some (13, 4, 1))) := by kernel_rfl
theorem k98_2 : (fP 600 98 [.sl [.int .u8 255, .int .u8 192, .int .u8 1, .int .u8 1, .int .u8 17, .int .u8 125, .int .u8 224, .int .u8 132, .int .u8 193] 9 none] (FS.none' [])).said [] = some (.sl [.int .u8 255, .int .u8 192, .int .u8 1, .int .u8 1, .int .u8 17, .int .u8 125, .int .u8 224, .int .u8 132, .int .u8 193] 9 (some (0, 1, 1))) := by kernel_rfl
theorem k98_3 : (fP 600 98 [.sl [.int .u8 255, .int .u8 192, .int .u8 0, .int .u8 1, .int .u8 17, .int .u8 28, .int .u8 222, .int .u8 193] 8 none] (FS.none' [])).said [] = some (.sl [.int .u8 255, .int .u8 192, .int .u8 0, .int .u8 1, .int .u8 17, .int .u8 28, .int .u8 222, .int .u8 193] 8 (some (0, 1, 1))) := by kernel_rfl
theorem k69_2 : (fP 600 69 [.int .i64 80, .sl [.int .u8 255, .int .u8 192, .int .u8 1, .int .u8 1, .int .u8 17, .int .u8 125, .int .u8 224, .int .u8 132, .int .u8 193] 9 none] (FS.none' [])).said [] = some (.sl [.sl [.int .u8 1, .int .u8 1, .int .u8 17] 3 (some (9, 1, 1))] 1 (some (11, 0, 1))) := by kernel_rfl
theorem k69_3 : (fP 600 69 [.int .i64 80, .sl [.int .u8 255, .int .u8 192, .int .u8 0, .int .u8 1, .int .u8 17, .int .u8 28, .int .u8 222, .int .u8 193] 8 none] (FS.none' [])).said [] = some (.sl [.sl [.int .u8 0, .int .u8 1, .int .u8 17] 3 (some (9, 1, 1))] 1 (some (11, 0, 1))) := by kernel_rfl
theorem k69_4 : (fP 600 69 [.int .i64 80, .nils] (FS.none' [])).said [] = some .nils := by kernel_rfl
theorem k70_2 : (fP 600 70 [.sl [.int .u8 1, .int .u8 1, .int .u8 17] 3 none] (FS.none' [])).said [] = some (.tup [.agg [.int .i64 0, .int .i64 1, .bool true, .iface 191 (.agg [.int .i64 0, .int .i64 0, .bool true]), .str []], .bool true]) := by kernel_rfl
theorem k70_3 : (fP 600 70 [.sl [.int .u8 0, .int .u8 1, .int .u8 17] 3 none] (FS.none' [])).said [] = some (.tup [.agg [.int .i64 0, .int .i64 1, .bool false, .iface 191 (.agg [.int .i64 0, .int .i64 0, .bool true]), .str []], .bool true]) := by kernel_rfl
theorem k72_2 : (fP 600 72 [.agg [.int .i64 0, .int .i64 1, .bool true, .iface 191 (.agg [.int .i64 0, .int .i64 0, .bool true]), .str []]] (FS.none' [])).said [] = some (.agg [.int .i64 0, .int .i64 1, .bool true, .int .i64 2, .int .i64 0, .int .i64 0, .int .i64 0, .bool true, .str []]) := by kernel_rfl
theorem k72_3 : (fP 600 72 [.agg [.int .i64 0, .int .i64 1, .bool false, .iface 191 (.agg [.int .i64 0, .int .i64 0, .bool true]), .str []]] (FS.none' [])).said [] = some (.agg [.int .i64 0, .int .i64 1, .bool false, .int .i64 2, .int .i64 0, .int .i64 0, .int .i64 0, .bool true, .str []]) := by kernel_rfl
theorem k104_2 : (fP 600 104 [.str []] (FS.none' [])).said [] = some (.tup [.agg [.int .u32 0, .int .u32 0, .int .i64 0, .int .i64 0, .bool false, .str []], .bool false]) := by kernel_rfl
def R (r wt : Nat) : MT := [(57, [([], .bool true)]),
 (38, [([.agg [lf 0, lf 1, lf 2, lf 3, lf 4]], .agg [lf 5, lf 6, lf 7, lf 8, lf 9])]),
 (135, [([.agg [lf 5, lf 6, lf 7, lf 8, lf 9]], .bool true)]),
 (16, [([lf 10, .int .i64 2], .int .i64 (r : Nat))]),
 (156, [([.agg [.int .u32 1, .int .u32 2, .int .i64 0, .int .i64 1, lf 5, lf 6, lf 7, lf 8, lf 9]], .tup [lf 14, .bool true]),
  ([.agg [.int .u32 2, .int .u32 1, .int .i64 0, .int .i64 1, lf 5, lf 6, lf 7, lf 8, lf 9]], .tup [lf 18, .bool true]),
  ([.agg [.int .u32 3, .int .u32 1, .int .i64 2, .int .i64 1, lf 5, lf 6, lf 7, lf 8, lf 9]], .tup [lf 22, .bool true]),
  ([.agg [.int .u32 3, .int .u32 2, .int .i64 2, .int .i64 1, lf 5, lf 6, lf 7, lf 8, lf 9]], .tup [lf 26, .bool true])]),
 (77, [([.agg [.int .i64 127, .int .i64 255, .bool true, .int .i64 3, .int .i64 2, .int .i64 0, .int .i64 0, .bool true, lf 14]], .tup [.agg [.int .i64 127, .int .i64 255, .bool true, .iface 193 (.agg [.int .i64 2, .bool true]), lf 14], .bool true]),
  ([.agg [.int .i64 127, .int .i64 255, .bool false, .int .i64 3, .int .i64 3, .int .i64 0, .int .i64 0, .bool true, lf 18]], .tup [.agg [.int .i64 127, .int .i64 255, .bool false, .iface 193 (.agg [.int .i64 3, .bool true]), lf 18], .bool true]),
  ([.agg [.int .i64 0, .int .i64 1, .bool true, .int .i64 2, .int .i64 0, .int .i64 0, .int .i64 0, .bool true, .str []]], .tup [.agg [.int .i64 0, .int .i64 1, .bool true, .iface 191 (.agg [.int .i64 0, .int .i64 0, .bool true]), .str []], .bool true]),
  ([.agg [.int .i64 0, .int .i64 1, .bool false, .int .i64 2, .int .i64 0, .int .i64 0, .int .i64 0, .bool true, .str []]], .tup [.agg [.int .i64 0, .int .i64 1, .bool false, .iface 191 (.agg [.int .i64 0, .int .i64 0, .bool true]), .str []], .bool true]),
  ([.agg [.int .i64 127, .int .i64 255, .bool true, .int .i64 3, .int .i64 2, .int .i64 0, .int .i64 0, .bool true, lf 22]], .tup [.agg [.int .i64 127, .int .i64 255, .bool true, .iface 193 (.agg [.int .i64 2, .bool true]), lf 22], .bool true]),
  ([.agg [.int .i64 127, .int .i64 255, .bool true, .int .i64 3, .int .i64 2, .int .i64 0, .int .i64 0, .bool true, lf 26]], .tup [.agg [.int .i64 127, .int .i64 255, .bool true, .iface 193 (.agg [.int .i64 2, .bool true]), lf 26], .bool true])]),
 (78, [([.agg [.int .i64 127, .int .i64 255, .bool true, .iface 193 (.agg [.int .i64 2, .bool true]), lf 14]], .tup [lf 15, .bool true]),
  ([.agg [.int .i64 127, .int .i64 255, .bool false, .iface 193 (.agg [.int .i64 3, .bool true]), lf 18]], .tup [lf 19, .bool true]),
  ([.agg [.int .i64 0, .int .i64 1, .bool true, .iface 191 (.agg [.int .i64 0, .int .i64 0, .bool true]), .str []]], .tup [.sl [.int .u8 1, .int .u8 1, .int .u8 17] 3 none, .bool true]),
  ([.agg [.int .i64 0, .int .i64 1, .bool false, .iface 191 (.agg [.int .i64 0, .int .i64 0, .bool true]), .str []]], .tup [.sl [.int .u8 0, .int .u8 1, .int .u8 17] 3 none, .bool true]),
  ([.agg [.int .i64 127, .int .i64 255, .bool true, .iface 193 (.agg [.int .i64 2, .bool true]), lf 22]], .tup [lf 23, .bool true]),
  ([.agg [.int .i64 127, .int .i64 255, .bool true, .iface 193 (.agg [.int .i64 2, .bool true]), lf 26]], .tup [lf 27, .bool true])]),
 (79, [([lf 15, .int .i64 1], lf 16),
  ([lf 19, .int .i64 1], lf 20),
  ([.sl [.int .u8 1, .int .u8 1, .int .u8 17] 3 none, .int .i64 1], .sl [.int .u8 255, .int .u8 192, .int .u8 1, .int .u8 1, .int .u8 17, .int .u8 125, .int .u8 224, .int .u8 132, .int .u8 193] 9 none),
  ([.sl [.int .u8 0, .int .u8 1, .int .u8 17] 3 none, .int .i64 1], .sl [.int .u8 255, .int .u8 192, .int .u8 0, .int .u8 1, .int .u8 17, .int .u8 28, .int .u8 222, .int .u8 193] 8 none),
  ([lf 23, .int .i64 1], lf 24),
  ([lf 27, .int .i64 1], lf 28)]),
 (83, [([lf 17, .int .i64 32], .int .i64 2),
  ([lf 21, .int .i64 32], .int .i64 2),
  ([.int .i64 9, lf 11], .int .i64 1),
  ([.int .i64 8, lf 11], .int .i64 1),
  ([lf 25, .int .i64 32], .int .i64 2),
  ([lf 29, .int .i64 32], .int .i64 2)]),
 (98, [([lf 16], lf 16),
  ([lf 20], lf 20),
  ([.sl [.int .u8 255, .int .u8 192, .int .u8 1, .int .u8 1, .int .u8 17, .int .u8 125, .int .u8 224, .int .u8 132, .int .u8 193] 9 none], .sl [.int .u8 255, .int .u8 192, .int .u8 1, .int .u8 1, .int .u8 17, .int .u8 125, .int .u8 224, .int .u8 132, .int .u8 193] 9 none),
  ([.sl [.int .u8 255, .int .u8 192, .int .u8 0, .int .u8 1, .int .u8 17, .int .u8 28, .int .u8 222, .int .u8 193] 8 none], .sl [.int .u8 255, .int .u8 192, .int .u8 0, .int .u8 1, .int .u8 17, .int .u8 28, .int .u8 222, .int .u8 193] 8 none)]),
 (69, [([.int .i64 80, lf 16], .sl [lf 15] 1 none),
  ([.int .i64 80, lf 20], .sl [lf 19] 1 none),
  ([.int .i64 80, .sl [.int .u8 255, .int .u8 192, .int .u8 1, .int .u8 1, .int .u8 17, .int .u8 125, .int .u8 224, .int .u8 132, .int .u8 193] 9 none], .sl [.sl [.int .u8 1, .int .u8 1, .int .u8 17] 3 none] 1 none),
  ([.int .i64 80, .sl [.int .u8 255, .int .u8 192, .int .u8 0, .int .u8 1, .int .u8 17, .int .u8 28, .int .u8 222, .int .u8 193] 8 none], .sl [.sl [.int .u8 0, .int .u8 1, .int .u8 17] 3 none] 1 none),
  ([.int .i64 80, .nils], .nils)]),
 (70, [([lf 15], .tup [.agg [.int .i64 127, .int .i64 255, .bool true, .iface 193 (.agg [.int .i64 2, .bool true]), lf 14], .bool true]),
  ([lf 19], .tup [.agg [.int .i64 127, .int .i64 255, .bool false, .iface 193 (.agg [.int .i64 3, .bool true]), lf 18], .bool true]),
  ([.sl [.int .u8 1, .int .u8 1, .int .u8 17] 3 none], .tup [.agg [.int .i64 0, .int .i64 1, .bool true, .iface 191 (.agg [.int .i64 0, .int .i64 0, .bool true]), .str []], .bool true]),
  ([.sl [.int .u8 0, .int .u8 1, .int .u8 17] 3 none], .tup [.agg [.int .i64 0, .int .i64 1, .bool false, .iface 191 (.agg [.int .i64 0, .int .i64 0, .bool true]), .str []], .bool true])]),
 (72, [([.agg [.int .i64 127, .int .i64 255, .bool true, .iface 193 (.agg [.int .i64 2, .bool true]), lf 14]], .agg [.int .i64 127, .int .i64 255, .bool true, .int .i64 3, .int .i64 2, .int .i64 0, .int .i64 0, .bool true, lf 14]),
  ([.agg [.int .i64 127, .int .i64 255, .bool false, .iface 193 (.agg [.int .i64 3, .bool true]), lf 18]], .agg [.int .i64 127, .int .i64 255, .bool false, .int .i64 3, .int .i64 3, .int .i64 0, .int .i64 0, .bool true, lf 18]),
  ([.agg [.int .i64 0, .int .i64 1, .bool true, .iface 191 (.agg [.int .i64 0, .int .i64 0, .bool true]), .str []]], .agg [.int .i64 0, .int .i64 1, .bool true, .int .i64 2, .int .i64 0, .int .i64 0, .int .i64 0, .bool true, .str []]),
  ([.agg [.int .i64 0, .int .i64 1, .bool false, .iface 191 (.agg [.int .i64 0, .int .i64 0, .bool true]), .str []]], .agg [.int .i64 0, .int .i64 1, .bool false, .int .i64 2, .int .i64 0, .int .i64 0, .int .i64 0, .bool true, .str []])]),
 (104, [([lf 14], .tup [.agg [.int .u32 0, .int .u32 0, .int .i64 0, .int .i64 0, .bool false, .str []], .bool false]),
  ([lf 18], .tup [.agg [.int .u32 0, .int .u32 0, .int .i64 0, .int .i64 0, .bool false, .str []], .bool false]),
  ([.str []], .tup [.agg [.int .u32 0, .int .u32 0, .int .i64 0, .int .i64 0, .bool false, .str []], .bool false])]),
 (143, [([lf 14], .tup [.agg [.int .u32 1, .int .u32 2, .int .i64 0, .int .i64 1, lf 5, lf 6, lf 7, lf 8, lf 9], .bool true]),
  ([lf 18], .tup [.agg [.int .u32 2, .int .u32 1, .int .i64 0, .int .i64 1, lf 5, lf 6, lf 7, lf 8, lf 9], .bool true])]),
 (144, [([.agg [lf 5, lf 6, lf 7, lf 8, lf 9], .agg [lf 5, lf 6, lf 7, lf 8, lf 9]], .tup [.agg [lf 11, .int .i64 200, lf 12, lf 13, .int .i64 (wt : Nat)], .bool true])])]
theorem keys (r wt : Nat) : (R r wt).map Prod.fst = PF := rfl
theorem good {ob os ow oz ot x : Int} {nb ns nw nz nt bd wn sz : Nat} (h : Off nb ns nw nz nt) (hb : 32 ≤ bd ∧ bd ≤ 256 ∧ 1 ≤ wn ∧ wn ≤ 7 ∧ 8 ≤ sz ∧ sz ≤ 64) {r wt : Nat} (hr : hSem 16 [.int .i64 x, .int .i64 2] St.nil = some (.int .i64 (r : Nat)))
    (hf : hSem 38 [.agg [.int .i64 ob, .int .i64 os, .int .i64 ow, .int .i64 oz, .int .i64 ot]] St.nil = some (.agg [.int .i64 nb, .int .i64 ns, .int .i64 nw, .int .i64 nz, .int .i64 nt]))
    (hd : hSem 144 [.agg [.int .i64 nb, .int .i64 ns, .int .i64 nw, .int .i64 nz, .int .i64 nt], .agg [.int .i64 nb, .int .i64 ns, .int .i64 nw, .int .i64 nz, .int .i64 nt]] St.nil = some (.tup [.agg [.int .i64 bd, .int .i64 (200 : Nat), .int .i64 wn, .int .i64 sz, .int .i64 (wt : Nat)], .bool true])) : RGood (Sg.of (Lo (V ob os ow oz ot x nb ns nw nz nt bd wn sz)) (Lo_ok vok)) (R r wt) :=
  all_cons (all_cons (sem_lit rbegun rfl rfl rfl rfl) <|
  all_nil) <|
  all_cons (all_cons (hf) <|
  all_nil) <|
  all_cons (all_cons (s135 h) <|
  all_nil) <|
  all_cons (all_cons (hr) <|
  all_nil) <|
  all_cons (all_cons (s156_A h) <|
  all_cons (s156_B h) <|
  all_cons (s156_C h) <|
  all_cons (s156_D h) <|
  all_nil) <|
  all_cons (all_cons (s77_A h) <|
  all_cons (s77_B h) <|
  all_cons (sem_lit k77_2 rfl rfl rfl rfl) <|
  all_cons (sem_lit k77_3 rfl rfl rfl rfl) <|
  all_cons (s77_C h) <|
  all_cons (s77_D h) <|
  all_nil) <|
  all_cons (all_cons (s78_A h) <|
  all_cons (s78_B h) <|
  all_cons (sem_lit k78_2 rfl rfl rfl rfl) <|
  all_cons (sem_lit k78_3 rfl rfl rfl rfl) <|
  all_cons (s78_C h) <|
  all_cons (s78_D h) <|
  all_nil) <|
  all_cons (all_cons (sem_wrap _ (Nat.le_of_ble_eq_true rfl)) <|
  all_cons (sem_wrap _ (Nat.le_of_ble_eq_true rfl)) <|
  all_cons (sem_lit k79_2 rfl rfl rfl rfl) <|
  all_cons (sem_lit k79_3 rfl rfl rfl rfl) <|
  all_cons (sem_wrap _ (Nat.le_of_ble_eq_true rfl)) <|
  all_cons (sem_wrap _ (Nat.le_of_ble_eq_true rfl)) <|
  all_nil) <|
  all_cons (all_cons (ticks33 (ub [255, 255, 147, 1, 0, 0, 0, 2, 0, 0, 0, 0, 1, 1, 1, nb, 2, 1, ns, 3, 1, nw, 4, 1, nz, 5, 1, nt]) (Nat.le_of_ble_eq_true rfl) (Nat.le_of_ble_eq_true rfl)) <|
  all_cons (ticks33 (ub [254, 255, 115, 2, 0, 0, 0, 1, 0, 0, 0, 0, 1, 1, 1, nb, 2, 1, ns, 3, 1, nw, 4, 1, nz, 5, 1, nt]) (Nat.le_of_ble_eq_true rfl) (Nat.le_of_ble_eq_true rfl)) <|
  all_cons (sem_ticks 9 bd 0 (by decide) (by decide) (by omega) (Nat.div_eq_of_lt (by omega)) (by decide)) <|
  all_cons (sem_ticks 8 bd 0 (by decide) (by decide) (by omega) (Nat.div_eq_of_lt (by omega)) (by decide)) <|
  all_cons (ticks33 (ub [255, 255, 147, 3, 0, 0, 0, 1, 0, 0, 0, 2, 1, 1, 1, nb, 2, 1, ns, 3, 1, nw, 4, 1, nz, 5, 1, nt]) (Nat.le_of_ble_eq_true rfl) (Nat.le_of_ble_eq_true rfl)) <|
  all_cons (ticks33 (ub [255, 255, 147, 3, 0, 0, 0, 2, 0, 0, 0, 2, 1, 1, 1, nb, 2, 1, ns, 3, 1, nw, 4, 1, nz, 5, 1, nt]) (Nat.le_of_ble_eq_true rfl) (Nat.le_of_ble_eq_true rfl)) <|
  all_nil) <|
  all_cons (all_cons (clone28 (ub [255, 255, 147, 1, 0, 0, 0, 2, 0, 0, 0, 0, 1, 1, 1, nb, 2, 1, ns, 3, 1, nw, 4, 1, nz, 5, 1, nt]) rfl) <|
  all_cons (clone28 (ub [254, 255, 115, 2, 0, 0, 0, 1, 0, 0, 0, 0, 1, 1, 1, nb, 2, 1, ns, 3, 1, nw, 4, 1, nz, 5, 1, nt]) rfl) <|
  all_cons (sem_lit k98_2 rfl rfl rfl rfl) <|
  all_cons (sem_lit k98_3 rfl rfl rfl rfl) <|
  all_nil) <|
  all_cons (all_cons (sem_all _ (Nat.le_of_ble_eq_true rfl) (fun h => by cases h)) <|
  all_cons (sem_all _ (Nat.le_of_ble_eq_true rfl) (fun h => by cases h)) <|
  all_cons (sem_lit k69_2 rfl rfl rfl rfl) <|
  all_cons (sem_lit k69_3 rfl rfl rfl rfl) <|
  all_cons (sem_lit k69_4 rfl rfl rfl rfl) <|
  all_nil) <|
  all_cons (all_cons (s70_A h) <|
  all_cons (s70_B h) <|
  all_cons (sem_lit k70_2 rfl rfl rfl rfl) <|
  all_cons (sem_lit k70_3 rfl rfl rfl rfl) <|
  all_nil) <|
  all_cons (all_cons (s72_A h) <|
  all_cons (s72_B h) <|
  all_cons (sem_lit k72_2 rfl rfl rfl rfl) <|
  all_cons (sem_lit k72_3 rfl rfl rfl rfl) <|
  all_nil) <|
  all_cons (all_cons (s104_A h) <|
  all_cons (s104_B h) <|
  all_cons (sem_lit k104_2 rfl rfl rfl rfl) <|
  all_nil) <|
  all_cons (all_cons (s143_A h) <|
  all_cons (s143_B h) <|
  all_nil) <|
  all_cons (all_cons (hd) <|
  all_nil) <|
  all_nil
theorem uok {ob os ow oz ot x : Int} {nb ns nw nz nt bd wn sz : Nat} (hb : 32 ≤ bd ∧ bd ≤ 256 ∧ 1 ≤ wn ∧ wn ≤ 7 ∧ 8 ≤ sz ∧ sz ≤ 64) : ∀ a ∈ U, NtOk (Sg.of (Lo (V ob os ow oz ot x nb ns nw nz nt bd wn sz)) (Lo_ok vok)) cxM a :=
  all_cons (by unfold NtOk; exact ⟨[], 0, bytesAV (wrapB (ub [255, 255, 147, 1, 0, 0, 0, 2, 0, 0, 0, 0, 1, 1, 1, nb, 2, 1, ns, 3, 1, nw, 4, 1, nz, 5, 1, nt]) 1), (wrapB (ub [255, 255, 147, 1, 0, 0, 0, 2, 0, 0, 0, 0, 1, 1, 1, nb, 2, 1, ns, 3, 1, nw, 4, 1, nz, 5, 1, nt]) 1).length, .inl ⟨rfl, rfl, rfl⟩, .inr (.inl ⟨_, rfl, by simp [bytesAV]⟩), wrapB_pos _, rfl, fits_w _ (Nat.le_of_ble_eq_true rfl), by rw [Nat.zero_add]; rfl⟩) <|
  all_cons (by unfold NtOk; exact ⟨_, _, _, rfl, rfl⟩) <|
  all_cons (by unfold NtOk; exact ⟨false, rfl, rfl⟩) <|
  all_cons (by unfold NtOk; exact ⟨[], 0, bytesAV (wrapB (ub [255, 255, 147, 1, 0, 0, 0, 2, 0, 0, 0, 0, 1, 1, 1, nb, 2, 1, ns, 3, 1, nw, 4, 1, nz, 5, 1, nt]) 1), (wrapB (ub [255, 255, 147, 1, 0, 0, 0, 2, 0, 0, 0, 0, 1, 1, 1, nb, 2, 1, ns, 3, 1, nw, 4, 1, nz, 5, 1, nt]) 1).length, .inr ⟨_, rfl⟩, .inr (.inl ⟨_, rfl, by simp [bytesAV]⟩), wrapB_pos _, rfl, fits_w _ (Nat.le_of_ble_eq_true rfl), by rw [Nat.zero_add]; rfl⟩) <|
  all_cons (by unfold NtOk; exact ⟨_, _, rfl, rfl, mn_l (c := 64) (by omega)⟩) <|
  all_cons (by unfold NtOk; exact ⟨_, _, rfl, rfl, mx_l (c := 1) (by omega)⟩) <|
  all_cons (by unfold NtOk; exact ⟨_, _, rfl, rfl, mn_l (c := 7) (by omega)⟩) <|
  all_cons (by unfold NtOk; exact ⟨[], 0, bytesAV (wrapB (ub [254, 255, 115, 2, 0, 0, 0, 1, 0, 0, 0, 0, 1, 1, 1, nb, 2, 1, ns, 3, 1, nw, 4, 1, nz, 5, 1, nt]) 1), (wrapB (ub [254, 255, 115, 2, 0, 0, 0, 1, 0, 0, 0, 0, 1, 1, 1, nb, 2, 1, ns, 3, 1, nw, 4, 1, nz, 5, 1, nt]) 1).length, .inl ⟨rfl, rfl, rfl⟩, .inr (.inl ⟨_, rfl, by simp [bytesAV]⟩), wrapB_pos _, rfl, fits_w _ (Nat.le_of_ble_eq_true rfl), by rw [Nat.zero_add]; rfl⟩) <|
  all_cons (by unfold NtOk; exact ⟨_, _, _, rfl, rfl⟩) <|
  all_cons (by unfold NtOk; exact ⟨false, rfl, rfl⟩) <|
  all_cons (by unfold NtOk; exact ⟨[], 0, bytesAV (wrapB (ub [254, 255, 115, 2, 0, 0, 0, 1, 0, 0, 0, 0, 1, 1, 1, nb, 2, 1, ns, 3, 1, nw, 4, 1, nz, 5, 1, nt]) 1), (wrapB (ub [254, 255, 115, 2, 0, 0, 0, 1, 0, 0, 0, 0, 1, 1, 1, nb, 2, 1, ns, 3, 1, nw, 4, 1, nz, 5, 1, nt]) 1).length, .inr ⟨_, rfl⟩, .inr (.inl ⟨_, rfl, by simp [bytesAV]⟩), wrapB_pos _, rfl, fits_w _ (Nat.le_of_ble_eq_true rfl), by rw [Nat.zero_add]; rfl⟩) <|
  all_cons (by unfold NtOk; exact ⟨_, _, rfl, rfl, mn_0 (by omega)⟩) <|
  all_cons (by unfold NtOk; exact ⟨[], 0, bytesAV (wrapB (ub [255, 255, 147, 3, 0, 0, 0, 1, 0, 0, 0, 2, 1, 1, 1, nb, 2, 1, ns, 3, 1, nw, 4, 1, nz, 5, 1, nt]) 1), (wrapB (ub [255, 255, 147, 3, 0, 0, 0, 1, 0, 0, 0, 2, 1, 1, 1, nb, 2, 1, ns, 3, 1, nw, 4, 1, nz, 5, 1, nt]) 1).length, .inl ⟨rfl, rfl, rfl⟩, .inr (.inl ⟨_, rfl, by simp [bytesAV]⟩), wrapB_pos _, rfl, fits_w _ (Nat.le_of_ble_eq_true rfl), by rw [Nat.zero_add]; rfl⟩) <|
  all_cons (by unfold NtOk; exact ⟨_, _, _, rfl, rfl⟩) <|
  all_cons (by unfold NtOk; exact ⟨false, rfl, rfl⟩) <|
  all_cons (by unfold NtOk; exact ⟨[], 0, bytesAV (wrapB (ub [255, 255, 147, 3, 0, 0, 0, 1, 0, 0, 0, 2, 1, 1, 1, nb, 2, 1, ns, 3, 1, nw, 4, 1, nz, 5, 1, nt]) 1), (wrapB (ub [255, 255, 147, 3, 0, 0, 0, 1, 0, 0, 0, 2, 1, 1, 1, nb, 2, 1, ns, 3, 1, nw, 4, 1, nz, 5, 1, nt]) 1).length, .inr ⟨_, rfl⟩, .inr (.inl ⟨_, rfl, by simp [bytesAV]⟩), wrapB_pos _, rfl, fits_w _ (Nat.le_of_ble_eq_true rfl), by rw [Nat.zero_add]; rfl⟩) <|
  all_cons (by unfold NtOk; exact ⟨_, _, _, rfl, rfl⟩) <|
  all_cons (by unfold NtOk; exact ⟨false, rfl, rfl⟩) <|
  all_cons (by unfold NtOk; exact ⟨[], 0, bytesAV (wrapB (ub [255, 255, 147, 3, 0, 0, 0, 1, 0, 0, 0, 2, 1, 1, 1, nb, 2, 1, ns, 3, 1, nw, 4, 1, nz, 5, 1, nt]) 1), (wrapB (ub [255, 255, 147, 3, 0, 0, 0, 1, 0, 0, 0, 2, 1, 1, 1, nb, 2, 1, ns, 3, 1, nw, 4, 1, nz, 5, 1, nt]) 1).length, .inr ⟨_, rfl⟩, .inr (.inl ⟨_, rfl, by simp [bytesAV]⟩), wrapB_pos _, rfl, fits_w _ (Nat.le_of_ble_eq_true rfl), by rw [Nat.zero_add]; rfl⟩) <|
  all_cons (by unfold NtOk; exact ⟨_, _, _, rfl, rfl⟩) <|
  all_cons (by unfold NtOk; exact ⟨false, rfl, rfl⟩) <|
  all_cons (by unfold NtOk; exact ⟨[], 0, bytesAV (wrapB (ub [255, 255, 147, 3, 0, 0, 0, 1, 0, 0, 0, 2, 1, 1, 1, nb, 2, 1, ns, 3, 1, nw, 4, 1, nz, 5, 1, nt]) 1), (wrapB (ub [255, 255, 147, 3, 0, 0, 0, 1, 0, 0, 0, 2, 1, 1, 1, nb, 2, 1, ns, 3, 1, nw, 4, 1, nz, 5, 1, nt]) 1).length, .inr ⟨_, rfl⟩, .inr (.inl ⟨_, rfl, by simp [bytesAV]⟩), wrapB_pos _, rfl, fits_w _ (Nat.le_of_ble_eq_true rfl), by rw [Nat.zero_add]; rfl⟩) <|
  all_cons (by unfold NtOk; exact ⟨[], 0, bytesAV (wrapB (ub [255, 255, 147, 3, 0, 0, 0, 2, 0, 0, 0, 2, 1, 1, 1, nb, 2, 1, ns, 3, 1, nw, 4, 1, nz, 5, 1, nt]) 1), (wrapB (ub [255, 255, 147, 3, 0, 0, 0, 2, 0, 0, 0, 2, 1, 1, 1, nb, 2, 1, ns, 3, 1, nw, 4, 1, nz, 5, 1, nt]) 1).length, .inl ⟨rfl, rfl, rfl⟩, .inr (.inl ⟨_, rfl, by simp [bytesAV]⟩), wrapB_pos _, rfl, fits_w _ (Nat.le_of_ble_eq_true rfl), by rw [Nat.zero_add]; rfl⟩) <|
  all_cons (by unfold NtOk; exact ⟨_, _, _, rfl, rfl⟩) <|
  all_cons (by unfold NtOk; exact ⟨false, rfl, rfl⟩) <|
  all_cons (by unfold NtOk; exact ⟨[], 0, bytesAV (wrapB (ub [255, 255, 147, 3, 0, 0, 0, 2, 0, 0, 0, 2, 1, 1, 1, nb, 2, 1, ns, 3, 1, nw, 4, 1, nz, 5, 1, nt]) 1), (wrapB (ub [255, 255, 147, 3, 0, 0, 0, 2, 0, 0, 0, 2, 1, 1, 1, nb, 2, 1, ns, 3, 1, nw, 4, 1, nz, 5, 1, nt]) 1).length, .inr ⟨_, rfl⟩, .inr (.inl ⟨_, rfl, by simp [bytesAV]⟩), wrapB_pos _, rfl, fits_w _ (Nat.le_of_ble_eq_true rfl), by rw [Nat.zero_add]; rfl⟩) <|
  all_cons (by unfold NtOk; exact ⟨_, _, _, rfl, rfl⟩) <|
  all_cons (by unfold NtOk; exact ⟨false, rfl, rfl⟩) <|
  all_cons (by unfold NtOk; exact ⟨[], 0, bytesAV (wrapB (ub [255, 255, 147, 3, 0, 0, 0, 2, 0, 0, 0, 2, 1, 1, 1, nb, 2, 1, ns, 3, 1, nw, 4, 1, nz, 5, 1, nt]) 1), (wrapB (ub [255, 255, 147, 3, 0, 0, 0, 2, 0, 0, 0, 2, 1, 1, 1, nb, 2, 1, ns, 3, 1, nw, 4, 1, nz, 5, 1, nt]) 1).length, .inr ⟨_, rfl⟩, .inr (.inl ⟨_, rfl, by simp [bytesAV]⟩), wrapB_pos _, rfl, fits_w _ (Nat.le_of_ble_eq_true rfl), by rw [Nat.zero_add]; rfl⟩) <|
  all_cons (by unfold NtOk; exact ⟨_, _, _, rfl, rfl⟩) <|
  all_cons (by unfold NtOk; exact ⟨false, rfl, rfl⟩) <|
  all_cons (by unfold NtOk; exact ⟨[], 0, bytesAV (wrapB (ub [255, 255, 147, 3, 0, 0, 0, 2, 0, 0, 0, 2, 1, 1, 1, nb, 2, 1, ns, 3, 1, nw, 4, 1, nz, 5, 1, nt]) 1), (wrapB (ub [255, 255, 147, 3, 0, 0, 0, 2, 0, 0, 0, 2, 1, 1, 1, nb, 2, 1, ns, 3, 1, nw, 4, 1, nz, 5, 1, nt]) 1).length, .inr ⟨_, rfl⟩, .inr (.inl ⟨_, rfl, by simp [bytesAV]⟩), wrapB_pos _, rfl, fits_w _ (Nat.le_of_ble_eq_true rfl), by rw [Nat.zero_add]; rfl⟩) <|
  all_cons (by unfold NtOk; exact ⟨_, _, _, rfl, rfl⟩) <|
  all_cons (by unfold NtOk; exact ⟨false, rfl, rfl⟩) <|
  all_cons (by unfold NtOk; exact ⟨[], 0, bytesAV (wrapB (ub [254, 255, 115, 2, 0, 0, 0, 1, 0, 0, 0, 0, 1, 1, 1, nb, 2, 1, ns, 3, 1, nw, 4, 1, nz, 5, 1, nt]) 1), (wrapB (ub [254, 255, 115, 2, 0, 0, 0, 1, 0, 0, 0, 0, 1, 1, 1, nb, 2, 1, ns, 3, 1, nw, 4, 1, nz, 5, 1, nt]) 1).length, .inr ⟨_, rfl⟩, .inr (.inl ⟨_, rfl, by simp [bytesAV]⟩), wrapB_pos _, rfl, fits_w _ (Nat.le_of_ble_eq_true rfl), by rw [Nat.zero_add]; rfl⟩) <|
  all_cons (by unfold NtOk; exact ⟨_, _, _, rfl, rfl⟩) <|
  all_cons (by unfold NtOk; exact ⟨false, rfl, rfl⟩) <|
  all_cons (by unfold NtOk; exact ⟨[], 0, bytesAV (wrapB (ub [255, 255, 147, 3, 0, 0, 0, 1, 0, 0, 0, 2, 1, 1, 1, nb, 2, 1, ns, 3, 1, nw, 4, 1, nz, 5, 1, nt]) 1), (wrapB (ub [255, 255, 147, 3, 0, 0, 0, 1, 0, 0, 0, 2, 1, 1, 1, nb, 2, 1, ns, 3, 1, nw, 4, 1, nz, 5, 1, nt]) 1).length, .inr ⟨_, rfl⟩, .inr (.inl ⟨_, rfl, by simp [bytesAV]⟩), wrapB_pos _, rfl, fits_w _ (Nat.le_of_ble_eq_true rfl), by rw [Nat.zero_add]; rfl⟩) <|
  all_cons (by unfold NtOk; exact ⟨_, _, _, rfl, rfl⟩) <|
  all_cons (by unfold NtOk; exact ⟨false, rfl, rfl⟩) <|
  all_cons (by unfold NtOk; exact ⟨[], 0, bytesAV (wrapB (ub [255, 255, 147, 3, 0, 0, 0, 1, 0, 0, 0, 2, 1, 1, 1, nb, 2, 1, ns, 3, 1, nw, 4, 1, nz, 5, 1, nt]) 1), (wrapB (ub [255, 255, 147, 3, 0, 0, 0, 1, 0, 0, 0, 2, 1, 1, 1, nb, 2, 1, ns, 3, 1, nw, 4, 1, nz, 5, 1, nt]) 1).length, .inr ⟨_, rfl⟩, .inr (.inl ⟨_, rfl, by simp [bytesAV]⟩), wrapB_pos _, rfl, fits_w _ (Nat.le_of_ble_eq_true rfl), by rw [Nat.zero_add]; rfl⟩) <|
  all_cons (by unfold NtOk; exact ⟨_, _, _, rfl, rfl⟩) <|
  all_cons (by unfold NtOk; exact ⟨false, rfl, rfl⟩) <|
  all_cons (by unfold NtOk; exact ⟨[], 0, bytesAV (wrapB (ub [255, 255, 147, 3, 0, 0, 0, 1, 0, 0, 0, 2, 1, 1, 1, nb, 2, 1, ns, 3, 1, nw, 4, 1, nz, 5, 1, nt]) 1), (wrapB (ub [255, 255, 147, 3, 0, 0, 0, 1, 0, 0, 0, 2, 1, 1, 1, nb, 2, 1, ns, 3, 1, nw, 4, 1, nz, 5, 1, nt]) 1).length, .inr ⟨_, rfl⟩, .inr (.inl ⟨_, rfl, by simp [bytesAV]⟩), wrapB_pos _, rfl, fits_w _ (Nat.le_of_ble_eq_true rfl), by rw [Nat.zero_add]; rfl⟩) <|
  all_cons (by unfold NtOk; exact ⟨_, _, _, rfl, rfl⟩) <|
  all_cons (by unfold NtOk; exact ⟨false, rfl, rfl⟩) <|
  all_cons (by unfold NtOk; exact ⟨[], 0, bytesAV (wrapB (ub [255, 255, 147, 3, 0, 0, 0, 2, 0, 0, 0, 2, 1, 1, 1, nb, 2, 1, ns, 3, 1, nw, 4, 1, nz, 5, 1, nt]) 1), (wrapB (ub [255, 255, 147, 3, 0, 0, 0, 2, 0, 0, 0, 2, 1, 1, 1, nb, 2, 1, ns, 3, 1, nw, 4, 1, nz, 5, 1, nt]) 1).length, .inr ⟨_, rfl⟩, .inr (.inl ⟨_, rfl, by simp [bytesAV]⟩), wrapB_pos _, rfl, fits_w _ (Nat.le_of_ble_eq_true rfl), by rw [Nat.zero_add]; rfl⟩) <|
  all_cons (by unfold NtOk; exact ⟨_, _, _, rfl, rfl⟩) <|
  all_cons (by unfold NtOk; exact ⟨false, rfl, rfl⟩) <|
  all_cons (by unfold NtOk; exact ⟨[], 0, bytesAV (wrapB (ub [255, 255, 147, 3, 0, 0, 0, 2, 0, 0, 0, 2, 1, 1, 1, nb, 2, 1, ns, 3, 1, nw, 4, 1, nz, 5, 1, nt]) 1), (wrapB (ub [255, 255, 147, 3, 0, 0, 0, 2, 0, 0, 0, 2, 1, 1, 1, nb, 2, 1, ns, 3, 1, nw, 4, 1, nz, 5, 1, nt]) 1).length, .inr ⟨_, rfl⟩, .inr (.inl ⟨_, rfl, by simp [bytesAV]⟩), wrapB_pos _, rfl, fits_w _ (Nat.le_of_ble_eq_true rfl), by rw [Nat.zero_add]; rfl⟩) <|
  all_cons (by unfold NtOk; exact ⟨_, _, _, rfl, rfl⟩) <|
  all_cons (by unfold NtOk; exact ⟨false, rfl, rfl⟩) <|
  all_cons (by unfold NtOk; exact ⟨[], 0, bytesAV (wrapB (ub [255, 255, 147, 3, 0, 0, 0, 2, 0, 0, 0, 2, 1, 1, 1, nb, 2, 1, ns, 3, 1, nw, 4, 1, nz, 5, 1, nt]) 1), (wrapB (ub [255, 255, 147, 3, 0, 0, 0, 2, 0, 0, 0, 2, 1, 1, 1, nb, 2, 1, ns, 3, 1, nw, 4, 1, nz, 5, 1, nt]) 1).length, .inr ⟨_, rfl⟩, .inr (.inl ⟨_, rfl, by simp [bytesAV]⟩), wrapB_pos _, rfl, fits_w _ (Nat.le_of_ble_eq_true rfl), by rw [Nat.zero_add]; rfl⟩) <|
  all_cons (by unfold NtOk; exact ⟨_, _, _, rfl, rfl⟩) <|
  all_cons (by unfold NtOk; exact ⟨false, rfl, rfl⟩) <|
  all_cons (by unfold NtOk; exact ⟨[], 0, bytesAV (wrapB (ub [254, 255, 115, 2, 0, 0, 0, 1, 0, 0, 0, 0, 1, 1, 1, nb, 2, 1, ns, 3, 1, nw, 4, 1, nz, 5, 1, nt]) 1), (wrapB (ub [254, 255, 115, 2, 0, 0, 0, 1, 0, 0, 0, 0, 1, 1, 1, nb, 2, 1, ns, 3, 1, nw, 4, 1, nz, 5, 1, nt]) 1).length, .inr ⟨_, rfl⟩, .inr (.inl ⟨_, rfl, by simp [bytesAV]⟩), wrapB_pos _, rfl, fits_w _ (Nat.le_of_ble_eq_true rfl), by rw [Nat.zero_add]; rfl⟩) <|
  all_cons (by unfold NtOk; exact ⟨_, _, _, rfl, rfl⟩) <|
  all_cons (by unfold NtOk; exact ⟨false, rfl, rfl⟩) <|
  all_cons (by unfold NtOk; exact ⟨[], 0, bytesAV (wrapB (ub [255, 255, 147, 3, 0, 0, 0, 1, 0, 0, 0, 2, 1, 1, 1, nb, 2, 1, ns, 3, 1, nw, 4, 1, nz, 5, 1, nt]) 1), (wrapB (ub [255, 255, 147, 3, 0, 0, 0, 1, 0, 0, 0, 2, 1, 1, 1, nb, 2, 1, ns, 3, 1, nw, 4, 1, nz, 5, 1, nt]) 1).length, .inr ⟨_, rfl⟩, .inr (.inl ⟨_, rfl, by simp [bytesAV]⟩), wrapB_pos _, rfl, fits_w _ (Nat.le_of_ble_eq_true rfl), by rw [Nat.zero_add]; rfl⟩) <|
  all_cons (by unfold NtOk; exact ⟨_, _, _, rfl, rfl⟩) <|
  all_cons (by unfold NtOk; exact ⟨false, rfl, rfl⟩) <|
  all_cons (by unfold NtOk; exact ⟨[], 0, bytesAV (wrapB (ub [255, 255, 147, 3, 0, 0, 0, 1, 0, 0, 0, 2, 1, 1, 1, nb, 2, 1, ns, 3, 1, nw, 4, 1, nz, 5, 1, nt]) 1), (wrapB (ub [255, 255, 147, 3, 0, 0, 0, 1, 0, 0, 0, 2, 1, 1, 1, nb, 2, 1, ns, 3, 1, nw, 4, 1, nz, 5, 1, nt]) 1).length, .inr ⟨_, rfl⟩, .inr (.inl ⟨_, rfl, by simp [bytesAV]⟩), wrapB_pos _, rfl, fits_w _ (Nat.le_of_ble_eq_true rfl), by rw [Nat.zero_add]; rfl⟩) <|
  all_cons (by unfold NtOk; exact ⟨_, _, _, rfl, rfl⟩) <|
  all_cons (by unfold NtOk; exact ⟨false, rfl, rfl⟩) <|
  all_cons (by unfold NtOk; exact ⟨[], 0, bytesAV (wrapB (ub [255, 255, 147, 3, 0, 0, 0, 1, 0, 0, 0, 2, 1, 1, 1, nb, 2, 1, ns, 3, 1, nw, 4, 1, nz, 5, 1, nt]) 1), (wrapB (ub [255, 255, 147, 3, 0, 0, 0, 1, 0, 0, 0, 2, 1, 1, 1, nb, 2, 1, ns, 3, 1, nw, 4, 1, nz, 5, 1, nt]) 1).length, .inr ⟨_, rfl⟩, .inr (.inl ⟨_, rfl, by simp [bytesAV]⟩), wrapB_pos _, rfl, fits_w _ (Nat.le_of_ble_eq_true rfl), by rw [Nat.zero_add]; rfl⟩) <|
  all_cons (by unfold NtOk; exact ⟨_, _, _, rfl, rfl⟩) <|
  all_cons (by unfold NtOk; exact ⟨false, rfl, rfl⟩) <|
  all_cons (by unfold NtOk; exact ⟨[], 0, bytesAV (wrapB (ub [255, 255, 147, 3, 0, 0, 0, 2, 0, 0, 0, 2, 1, 1, 1, nb, 2, 1, ns, 3, 1, nw, 4, 1, nz, 5, 1, nt]) 1), (wrapB (ub [255, 255, 147, 3, 0, 0, 0, 2, 0, 0, 0, 2, 1, 1, 1, nb, 2, 1, ns, 3, 1, nw, 4, 1, nz, 5, 1, nt]) 1).length, .inr ⟨_, rfl⟩, .inr (.inl ⟨_, rfl, by simp [bytesAV]⟩), wrapB_pos _, rfl, fits_w _ (Nat.le_of_ble_eq_true rfl), by rw [Nat.zero_add]; rfl⟩) <|
  all_cons (by unfold NtOk; exact ⟨_, _, _, rfl, rfl⟩) <|
  all_cons (by unfold NtOk; exact ⟨false, rfl, rfl⟩) <|
  all_cons (by unfold NtOk; exact ⟨[], 0, bytesAV (wrapB (ub [255, 255, 147, 3, 0, 0, 0, 2, 0, 0, 0, 2, 1, 1, 1, nb, 2, 1, ns, 3, 1, nw, 4, 1, nz, 5, 1, nt]) 1), (wrapB (ub [255, 255, 147, 3, 0, 0, 0, 2, 0, 0, 0, 2, 1, 1, 1, nb, 2, 1, ns, 3, 1, nw, 4, 1, nz, 5, 1, nt]) 1).length, .inr ⟨_, rfl⟩, .inr (.inl ⟨_, rfl, by simp [bytesAV]⟩), wrapB_pos _, rfl, fits_w _ (Nat.le_of_ble_eq_true rfl), by rw [Nat.zero_add]; rfl⟩) <|
  all_cons (by unfold NtOk; exact ⟨_, _, _, rfl, rfl⟩) <|
  all_cons (by unfold NtOk; exact ⟨false, rfl, rfl⟩) <|
  all_cons (by unfold NtOk; exact ⟨[], 0, bytesAV (wrapB (ub [255, 255, 147, 3, 0, 0, 0, 2, 0, 0, 0, 2, 1, 1, 1, nb, 2, 1, ns, 3, 1, nw, 4, 1, nz, 5, 1, nt]) 1), (wrapB (ub [255, 255, 147, 3, 0, 0, 0, 2, 0, 0, 0, 2, 1, 1, 1, nb, 2, 1, ns, 3, 1, nw, 4, 1, nz, 5, 1, nt]) 1).length, .inr ⟨_, rfl⟩, .inr (.inl ⟨_, rfl, by simp [bytesAV]⟩), wrapB_pos _, rfl, fits_w _ (Nat.le_of_ble_eq_true rfl), by rw [Nat.zero_add]; rfl⟩) <|
  all_nil
end Go.Proofs.YtgflghhffmjojaaGreatDoor.rf
