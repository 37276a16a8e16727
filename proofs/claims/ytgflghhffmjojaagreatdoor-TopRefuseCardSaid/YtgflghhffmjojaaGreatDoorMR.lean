/- Functions of the program in the evaluator's form, written out by a program. No conditions. -/
import Derived.Test.YtgflghhffmjojaaGreatDoorMH1
import Derived.Test.YtgflghhffmjojaaGreatDoorMH2
import Derived.Test.YtgflghhffmjojaaGreatDoorMH3
import Derived.Test.YtgflghhffmjojaaGreatDoorRaw
set_option linter.unusedVariables false
set_option maxRecDepth 100000
namespace Go.Proofs.YtgflghhffmjojaaGreatDoor
open Go Go.Ab
def M58s : MFun :=
 ⟨19,[.tmp 0 2],
 .seq (.reg [⟨some 2,.mv (.c .nilp),none⟩]) (.seq (.seq (.reg [⟨some 3,.mv (.s 0),none⟩,⟨some 4,.bin .lss (.s 3) (.c (.int .i64 1)),none⟩,⟨some 5,.mv (.s 4),none⟩,⟨some 6,.mv (.s 0),some (5,false)⟩,⟨some 7,.bin .gtr (.s 6) (.c (.int .i64 8)),some (5,false)⟩,⟨some 8,.pick (.s 5) (.c (.bool true)) (.s 7),none⟩]) (.cond (.s 8) (.seq (.reg [⟨some 2,.mv (.c .nilp),none⟩]) .ret) .skip)) (.seq (.draw [⟨some 9,.mv (.s 0),none⟩,⟨some 10,.bsi 1 1 [.bool false] [(0,1,.c (.bool true))],none⟩,⟨some 11,.mv (.s 0),none⟩,⟨some 12,.mv (.s 0),none⟩,⟨some 13,.bin .mul (.s 11) (.s 12),none⟩,⟨some 14,.call 91 [(1,.s 10),(0,.s 13)],none⟩,⟨some 15,.mv (.s 0),none⟩,⟨some 16,.mks 1 8 [.nilp] (.s 15) (.s 15),none⟩,⟨some 17,.build [.int .i64 0,.nils,.nils] [(0,1,.s 9),(1,1,.s 14),(2,1,.s 16)],none⟩,⟨some 18,.box (.s 17),none⟩,⟨some 2,.mv (.s 18),none⟩] [0,0,0,0,12,30,0,64,255,511,1023]) .ret))⟩
def M82s : MFun :=
 ⟨43,[.tmp 0 8],
 .seq (.reg [⟨some 8,.mv (.c (.bool false)),none⟩]) (.seq (.seq (.reg [⟨some 9,.mv (.s 0),none⟩,⟨some 10,.mv (.s 1),none⟩,⟨some 11,.call 66 [(0,.s 9),(0,.s 10)],none⟩,⟨some 12,.un .not (.s 11),none⟩,⟨some 13,.mv (.s 12),none⟩,⟨some 14,.mv (.s 0),some (13,false)⟩,⟨some 15,.mv (.s 1),some (13,false)⟩,⟨some 16,.call 51 [(0,.s 14),(0,.s 15)],some (13,false)⟩,⟨some 17,.pick (.s 13) (.c (.bool true)) (.s 16),none⟩,⟨some 18,.mv (.s 17),none⟩,⟨some 19,.mv (.s 3),some (18,false)⟩,⟨some 20,.bin .lss (.s 19) (.c (.int .i64 1)),some (18,false)⟩,⟨some 21,.pick (.s 18) (.c (.bool true)) (.s 20),none⟩,⟨some 22,.mv (.s 21),none⟩,⟨some 23,.mv (.s 3),some (22,false)⟩,⟨some 24,.bin .gtr (.s 23) (.c (.int .i64 200)),some (22,false)⟩,⟨some 25,.pick (.s 22) (.c (.bool true)) (.s 24),none⟩]) (.cond (.s 25) (.seq (.reg [⟨some 8,.mv (.c (.bool false)),none⟩]) .ret) .skip)) (.seq (.draw [⟨some 26,.mv (.s 0),none⟩,⟨some 27,.nchk (.s 26),none⟩,⟨some 28,.fa 2 (.s 27),none⟩,⟨some 29,.load none (.s 28),none⟩,⟨some 30,.mv (.s 1),none⟩,⟨some 31,.mv (.s 2),none⟩,⟨some 32,.call 98 [(1,.s 31)],none⟩,⟨some 33,.mv (.s 3),none⟩,⟨some 34,.bsi 1 1 [.bool false] [(0,1,.c (.bool true))],none⟩,⟨some 35,.mv (.s 0),none⟩,⟨some 36,.nchk (.s 35),none⟩,⟨some 37,.fa 0 (.s 36),none⟩,⟨some 38,.load none (.s 37),none⟩,⟨some 39,.call 91 [(1,.s 34),(0,.s 38)],none⟩,⟨some 40,.build [.nils,.int .i64 0,.nils] [(0,1,.s 32),(1,1,.s 33),(2,1,.s 39)],none⟩,⟨some 41,.box (.s 40),none⟩,⟨some 42,.ixa 1 (.s 29) (.s 30),none⟩,⟨none,.store 1 (.s 42) (.s 41),none⟩] [0,1,3,7,0,0,32,0,0,0,512,1536,3584,8032,16352,32736,65535,131071]) (.seq (.reg [⟨some 8,.mv (.c (.bool true)),none⟩]) .ret)))⟩
theorem tab58s : cFunH Tryz.prog [126 + 1000000] Tryz.f58 = some M58s := by kernel_rfl
theorem tab82s : cFunH Tryz.prog [127, 126 + 1000000] Tryz.f82 = some M82s := by kernel_rfl
theorem tab91s : cFunH Tryz.prog ((heapTypes Tryz.prog (Tryz.f91.body.getD .skip)).eraseDups ++ softTypes Tryz.prog (Tryz.f91.body.getD .skip)) Tryz.f91 = some M91 := by kernel_rfl
theorem tab158s : cFunH Tryz.prog ((heapTypes Tryz.prog (Tryz.f158.body.getD .skip)).eraseDups ++ softTypes Tryz.prog (Tryz.f158.body.getD .skip)) Tryz.f158 = some M158 := by kernel_rfl
end Go.Proofs.YtgflghhffmjojaaGreatDoor
